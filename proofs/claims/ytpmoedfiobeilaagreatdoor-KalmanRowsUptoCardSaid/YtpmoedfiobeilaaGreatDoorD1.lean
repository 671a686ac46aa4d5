/- Laws in plain Lean. Conditions: none. -/
import Derived.Test.YtpmoedfiobeilaaGreatDoorC2
set_option linter.defProp false
set_option linter.unusedVariables false
section
namespace Go.Proofs.YtpmoedfiobeilaaGreatDoor
open Go Go.Mach
def mc:∀(i V:Nat),(aj V).getD i 0=((V / 4294967296 ^ i%4294967296:Nat):Int)
 | i,V=>by
  by_cases h:V=0
  ·subst h; rw[aU]; simp
  ·rw[b_ h];cases i with
   | zero=>simp
   | succ i=>
    show(aj (V / 4294967296)).getD i 0=_;rw[mc i (V / 4294967296),ady,ado,<- adt]
def GV {V w:Nat} (h:V / 4294967296 ^ w ≠ 0):w<(aj V).length:=by
 rcases aen w (aj V).length with h1 | h1
 ·exact h1
 ·exfalso;have h2:=eS (aY V);rw[aI]at h2;exact h (adS (adF h2 (adB (by decide) h1)))
def rW {n:Nat} (h0:n ≠ 0) (h:n<4294967296):aj n=[(n:Int)]:=by rw[b_ h0,adS h,aU,adv h]
def DZ (Q n m:Nat) (h:m<n):(List.replicate (m+1) (0:Int)++(dl Q n).drop (m+1)).set m ((Q / 4294967296 ^ m%4294967296:Nat):Int)=List.replicate m 0++(dl Q n).drop m:=by rw[aeY,adD,List.singleton_append,aX _ _ _ _ _ (by simp),db (n:=m) (by rw[al]; exact h),rY Q h]
def zC {A d:Nat} (hd:0<d):(A / 4294967296%d*4294967296+A%4294967296)%d=A%d/\(A / 4294967296%d*4294967296+A%4294967296) / d=A / d%4294967296:=by
 have h1:=aeh A 4294967296;have h2:=aeh (A / 4294967296) d;have h3:=adA (A / 4294967296) hd;have h4:A%4294967296<4294967296:=adA _ (by decide);obtain⟨a,ha⟩:∃ a,a=A / 4294967296:=⟨_,rfl⟩
 obtain⟨e,he⟩:∃ e,e=A%4294967296:=⟨_,rfl⟩
 rw[<- ha]at h1 h2 h3 ⊢;rw[<- he]at h1 h4 ⊢;obtain⟨c,hc⟩:∃ c,c=a / d:=⟨_,rfl⟩
 obtain⟨r,hr⟩:∃ r,r=a%d:=⟨_,rfl⟩
 rw[<- hc,<- hr]at h2;rw[<- hr]at h3 ⊢;have h5:A=d*(c*4294967296)+(r*4294967296+e):=by rw[<- h1,<- h2,<- adw,adC,ado 4294967296,ado 4294967296]; omega
 constructor
 ·rw[h5,afy]
 ·rw[h5,agm hd,ado c,afy];refine(adv ?_).symm;rw[adu hd];have:=adp 4294967296 h3;rw[aeV]at this;rw[ado _ d,ado d];rw[ado d]at this;omega
def iD (x:Nat):x<4294967296 ^ (aj x).length:=by have:=eS (aY x); rwa [aI]at this
def TI (c:List Int) (m:Nat):aC (c.take (m+3))=aC (c.take m)+4294967296 ^ m*((c.getD m 0).toNat+4294967296*((c.getD (m+2) 0).toNat*4294967296+(c.getD (m+1) 0).toNat)):=by rw[show m+3=m+2+1 by omega,aN,show m+2=m+1+1 by omega,aN,aN];simp only[ady];generalize 4294967296 ^ m=P;grind
def TH (c:List Int) (m:Nat):aC (c.take (m+2))=aC (c.take m)+4294967296 ^ m*((c.getD m 0).toNat+4294967296*(c.getD (m+1) 0).toNat):=by rw[show m+2=m+1+1 by omega,aN,aN];simp only[ady];generalize 4294967296 ^ m=P;grind
def EF {b:List Int} {o i:Nat} (D:Nat) (h:o+i<=b.length):(b.take o++(dl D i++b.drop (o+i))).length=b.length:=by simp[al]; omega
def EE {b:List Int} {o i:Nat} (D:Nat) (h:o+i<b.length):(b.take o++(dl D i++b.drop (o+i))).getD (o+i) 0=b.getD (o+i) 0:=by rw[<- adD,db h,bR (by simp[al]; omega)]
def zS {b:List Int} {o i:Nat} (D:Nat) (h:o+i<b.length):(b.take o++(dl D i++b.drop (o+i))).set (o+i) ((D / 4294967296 ^ i%4294967296:Nat):Int)=b.take o++(dl D (i+1)++b.drop (o+(i+1))):=by rw[<- adD,db h,aX _ _ _ _ _ (by simp[al]; omega),dl];simp[ad5]
def EC {b:List Int} {o i n:Nat} (D E:Nat) (hi:i<=n) (h:o+n<=b.length):(b.take o++(dl E i++((dl D n).drop i++b.drop (o+n)))).length=b.length:=by simp[al]; omega
def EB {b:List Int} {o i n:Nat} (D E:Nat) (hi:i<n) (h:o+n<=b.length):(b.take o++(dl E i++((dl D n).drop i++b.drop (o+n)))).getD (o+i) 0=((D / 4294967296 ^ i%4294967296:Nat):Int):=by rw[<- adD,db (n:=i) (by rw[al]; exact hi),ae8,bR (by simp[al]; omega),rY D hi]
def ED {b:List Int} {o i n:Nat} (D E:Nat) (hi:i<n) (h:o+n<=b.length):(b.take o++(dl E i++((dl D n).drop i++b.drop (o+n)))).set (o+i) ((E / 4294967296 ^ i%4294967296:Nat):Int)=b.take o++(dl E (i+1)++((dl D n).drop (i+1)++b.drop (o+n))):=by rw[<- adD,db (n:=i) (by rw[al]; exact hi),ae8,aX _ _ _ _ _ (by simp[al]; omega),dl];simp
def GI {m:Nat} (S X:Nat):∀ n,n<=m->dl (S+4294967296 ^ m*X) n=dl S n
 | 0,_=>rfl
 | n+1,h=>by rw[dl,dl,GI S X n (by omega)];congr 3;refine lf (R:=4294967296 ^ (m - (n+1))*X) ?_;rw[<- adw,<- adE,show n+1+(m - (n+1))=m by omega]
def zL {w:List Int} {n i U Q:Nat} (hw:InW w) (hl:w.length=n+1) (hU:U=aC w) (hi:i<=n) (hQ:Q<4294967296 ^ (n+1)) :
  (((w.getD i 0).toNat+4294967296 - Q / 4294967296 ^ i%4294967296 - (if aC (w.take i)<Q%4294967296 ^ i then 1 else 0))%4294967296=(U+4294967296 ^ (n+1) - Q) / 4294967296 ^ i%4294967296)
  /\ (if (w.getD i 0).toNat<Q / 4294967296 ^ i%4294967296+(if aC (w.take i)<Q%4294967296 ^ i then 1 else 0)then 1 else 0)=(if aC (w.take (i+1))<Q%4294967296 ^ (i+1)then 1 else(0:Nat)):=by
 have hx:=hw.at (i:=i);have hA:=aN (m:=w) i;have hAl:=be hw i;have hp:=aR i;have hBl:=adA Q hp;have hPs:4294967296 ^ (i+1)=4294967296 ^ i*4294967296:=ady ..;have hmm:Q%4294967296 ^ (i+1)=Q%4294967296 ^ i+4294967296 ^ i*(Q / 4294967296 ^ i%4294967296):=by rw[hPs,agf]
 have hyl:Q / 4294967296 ^ i%4294967296<4294967296:=adA _ (by decide);constructor
 ·obtain⟨R1,h1⟩:=bT w (i+1);have hW:4294967296 ^ (n+1)=4294967296 ^ i*4294967296*4294967296 ^ (n - i):=by rw[<- hPs,<- adE,show i+1+(n - i)=n+1 by omega]
  have hq:=C0 (D:=U+4294967296 ^ (n+1) - Q) (a:=U+4294967296 ^ (n+1)) (b:=Q) (x:=(w.getD i 0).toNat) (y:=Q / 4294967296 ^ i%4294967296) (R1:=R1+4294967296 ^ (n - i)) (R2:=Q / (4294967296 ^ i*4294967296)) hAl hBl rfl
   (by rw[hU,h1,hA,hW,hPs,adC]; omega)
   (by rw[<- hmm,hPs]; exact(afx _ _).symm)
   (by omega)
  generalize (U+4294967296 ^ (n+1) - Q) / 4294967296 ^ i=Z at *;generalize Q / 4294967296 ^ i%4294967296=y at *;generalize (w.getD i 0).toNat=x at *;generalize ((R1+4294967296 ^ (n - i):Nat):Int) - ((Q / (4294967296 ^ i*4294967296):Nat):Int)=RR at *;split at hq <;> rename_i hh <;> simp only[hh,ae0,adV] <;> omega
 ·rw[hA,hmm];exact(ne _ _ _ _ _ hAl hBl).symm
def xZ {D V c v i:Nat} (hc:c=(D%4294967296 ^ i+V) / 4294967296 ^ i) :
  (D%4294967296 ^ (i+1)+(V+4294967296 ^ i*v)) / 4294967296 ^ (i+1)=(D / 4294967296 ^ i%4294967296+v+c) / 4294967296 /\
  ∀ R,(D+(V+4294967296 ^ i*v+4294967296 ^ (i+1)*R)) / 4294967296 ^ i%4294967296=(D / 4294967296 ^ i%4294967296+v+c)%4294967296:=by
 have hp:=aR i;have hPs:4294967296 ^ (i+1)=4294967296 ^ i*4294967296:=ady ..;have hmm:D%4294967296 ^ (i+1)=D%4294967296 ^ i+4294967296 ^ i*(D / 4294967296 ^ i%4294967296):=by rw[hPs,agf]
 have e:D%4294967296 ^ (i+1)+(V+4294967296 ^ i*v)=(D%4294967296 ^ i+V)+4294967296 ^ i*(D / 4294967296 ^ i%4294967296+v):=by rw[hmm,adC]; omega
 have e2:(D%4294967296 ^ (i+1)+(V+4294967296 ^ i*v)) / 4294967296 ^ i=D / 4294967296 ^ i%4294967296+v+c:=by rw[e,dY,<- hc]; omega
 constructor
 ·rw[hPs,<- adt,<- hPs,e2]
 ·intro R;have e3:D+(V+4294967296 ^ i*v+4294967296 ^ (i+1)*R)=(D%4294967296 ^ (i+1)+(V+4294967296 ^ i*v))+4294967296 ^ (i+1)*(D / 4294967296 ^ (i+1)+R):=by have:=afx D (4294967296 ^ (i+1));rw[adC]; omega
  rw[lf e3,e2]
def Cw {D V c i:Nat} (hc:c=(D%4294967296 ^ i+V) / 4294967296 ^ i) :
  (D%4294967296 ^ (i+1)+V) / 4294967296 ^ (i+1)=(D / 4294967296 ^ i%4294967296+0+c) / 4294967296 /\
  (D+V) / 4294967296 ^ i%4294967296=(D / 4294967296 ^ i%4294967296+0+c)%4294967296:=by
 obtain⟨a1,a2⟩:=xZ (v:=0) hc;have a3:=a2 0;rw[aeK,adU V]at a1;rw[aeK,aeK,adU V]at a3;exact⟨a1,a3⟩
def Nq (n:Nat):dl n (aj n).length=aj n:=by refine List.ext_getElem (al n _) (λi h1 h2=>?_);have e1:=rY n h2;have e2:=mc i n;rw[List.getD_eq_getElem?_getD,List.getElem?_eq_getElem h1,ad_]at e1;rw[List.getD_eq_getElem?_getD,List.getElem?_eq_getElem h2,ad_]at e2;rw[e1,e2]
def C4 {X L:Nat} (hX:X<4294967296 ^ L):∀ k,dl X (L+k)=dl X L++List.replicate k 0
 | 0=>by simp
 | k+1=>by rw[<- ad5,dl,C4 hX k,adS (adF hX (adB (by decide) (afH _ _))),aeY,adD];rfl
def nY (S:Nat):∀{m n:Nat},n<=m->(dl S m).take n=dl S n
 | 0,n,h=>by
  have:n=0:=by omega
  subst this; rfl
 | m+1,n,h=>by
  by_cases e:n=m+1
  ·subst e; rw[adI (by rw[al]; omega)]
  ·rw[dl,aeq (by rw[al]; omega),nY S (by omega)]
def Az (S a:Nat):∀ c,dl S (a+c)=dl S a++dl (S / 4294967296 ^ a) c
 | 0=>by simp[dl]
 | c+1=>by rw[<- ad5,dl,Az S a c,dl,adt,<- adE,adD]
def yj {V m:Nat} (h:V<4294967296 ^ m):bM (dl V m) m=(aj V).length:=by have h1:=rH (iN V m);rw[al,pp,adv h]at h1;rw[<- h1,ad3,al];have:=js (dl V m) m;omega
def NX {V m:Nat} (h1:4294967296 ^ m<=V) (h2:V<4294967296 ^ (m+1)):(aj V).length=m+1:=by have a:=ct (m+1) V h2;have b:=GV (V:=V) (w:=m) (by have:=afL h1 (aR m); omega);omega
def N7 {r x:Nat} (hr:r<4294967296) (hx:x<4294967296):aA .or .u64 (IntKind.wrap .u64 ((r:Int)*2 ^ 32)) (IntKind.wrap .u64 (x:Int))=((r*4294967296+x:Nat):Int):=by
 have p32:(2:Nat) ^ 32=4294967296:=by decide
 have q32:(2:Int) ^ 32=4294967296:=by decide
 have e1:IntKind.wrap .u64 ((r:Int)*2 ^ 32)=((2 ^ 32*r:Nat):Int):=by rw[q32,p32,am]; omega
 have e2:IntKind.wrap .u64 (x:Int)=(x:Int):=by rw[am]; omega
 rw[e1,e2,sW,cl _ _ 32 (by omega) (by omega),p32];congr 1; omega
def FI {N:Nat} {x d:Nat} (hd0:0<d) (hd:d<4294967296) (hs:fB N (aj x)) (k:List Int->Int->Bool):nE N (aj x) (d:Int) k=k (aj (x / d)) ((x%d:Nat):Int):=by
 (unfold nE; rw[ac]; unfold qs)
 obtain⟨s1,s2⟩:=hs;have hx:=iD x;generalize hn:(aj x).length=n at *;rw[aa (cb (by omega) (by omega) (by omega) (by omega)),aa adi,adr];have wd:IntKind.wrap .u64 (d:Int)=(d:Int):=by rw[am]; omega
 have d1:(!decide ((d:Int)=0))=true:=by simp; omega
 refine aE (λi=>(((x / 4294967296 ^ (n - i)%d:Nat):Int),((n:Int) - 1 - (i:Int)),List.replicate (n - i) (0:Int)++(dl (x / d) n).drop (n - i))) n ?_ (by omega) (λi hi K=>?_) (λK=>?_)
 ·rw[aft,adS hx,Nat.zero_mod,ad9 (by rw[al]; omega),adW];simp
 ·obtain⟨m,hm⟩:∃ m,n - i=m+1:=⟨n - i - 1,by omega⟩
  have hm2:n - (i+1)=m:=by omega
  have ei:(n:Int) - 1 - (i:Int)=(m:Int):=by omega
  have ei2:(n:Int) - 1 - ((i+1:Nat):Int)=(m:Int) - 1:=by omega
  have hp:x / 4294967296 ^ (m+1)=x / 4294967296 ^ m / 4294967296:=by rw[ady,adt]
  have hdg:x / d / 4294967296 ^ m%4294967296=x / 4294967296 ^ m / d%4294967296:=by rw[adt,adt,ado d]
  obtain⟨n1,n2⟩:=zC (A:=x / 4294967296 ^ m) hd0;rw[hm,hm2,ei,ei2,hp];simp only[kj,adr,wd];have hl:(List.replicate (m+1) (0:Int)++(dl (x / d) n).drop (m+1)).length=n:=by simp[al]; omega
  have hr:=adA (x / 4294967296 ^ m / 4294967296) hd0;have hq:(x / 4294967296 ^ m / 4294967296%d*4294967296+x / 4294967296 ^ m%4294967296) / d<4294967296:=by rw[n2]; exact adA _ (by decide)
  rw[adk (by omega:(m:Int)>=0),adn,hn,aa adj,mc,aa d1,hl,aa adj,aa (adk (by omega)),aa d1,aa adi,N7 (by omega) (adA _ (by decide))];have e1:∀ A:Nat,Int.tdiv (A:Int) (d:Int)=((A / d:Nat):Int):=λ_=>rfl
  have e2:∀ A:Nat,Int.tmod (A:Int) (d:Int)=((A%d:Nat):Int):=λ_=>rfl
  rw[e1,e2,n1,n2,<- hdg];have e3:IntKind.wrap .u32 (IntKind.wrap .u64 ((x / d / 4294967296 ^ m%4294967296:Nat):Int))=((x / d / 4294967296 ^ m%4294967296:Nat):Int):=by have:=adA (x / d / 4294967296 ^ m) (by decide:4294967296>0);generalize x / d / 4294967296 ^ m%4294967296=y at *;rw[am,dm]; omega
  rw[e3,DZ _ _ _ (by omega)]
 ·simp only[kj];have e0:(n:Int) - 1 - (n:Int) = -1:=by omega
  rw[e0,adl (by omega),adm,adX,afh,afd];rw[ad0,aeb,aeU];have hq:x / d<4294967296 ^ n:=aeW (aeX _ _) hx;have hr:=adA x hd0;have e3:IntKind.wrap .u32 ((x%d:Nat):Int)=((x%d:Nat):Int):=by rw[dm]; omega
  rw[e3,du _ (iN _ _) (by rw[al]; omega) (by rw[al]; omega) (λz=>k z ((x%d:Nat):Int)),oX hq]
def Lp (N:Nat) {x:Nat} (hx:x<4294967296) (k:Kz3):Sp N (x:Int) k=k ((32 - bl x:Nat):Int):=by unfold Sp S1;have:=uA (n:=x) (j:=32) (by rw[show(2:Nat) ^ 32=4294967296 by decide]; exact hx);rw[AJ N x hx,aa adi];congr 1; omega
def BZ:(2:Nat) ^ 32=4294967296:=by decide
def Jo {y:Nat} (h0:y ≠ 0) (hy:y<4294967296):32 - bl y<32/\2147483648<=y*2 ^ (32 - bl y)/\y*2 ^ (32 - bl y)<4294967296:=by
 have h1:=uA (n:=y) (j:=32) (by rw[BZ]; exact hy);obtain⟨h2,h3⟩:=KA h0;have h4:=wD y;have hp:0<2 ^ (32 - bl y):=adz _;refine⟨by omega,?_,?_⟩
 ·have:=adp (2 ^ (32 - bl y)) h3;rw[<- adE,show bl y - 1+(32 - bl y)=31 by omega]at this;exact this
 ·have:=aec h4 hp;rw[<- adE,show bl y+(32 - bl y)=32 by omega]at this;exact this
def FN {N:Nat} (m:List Int) (hm:InW m) (n:Nat) (hn:n<4294967296) (hN:m.length+n / 32+4<N) (hs:m.length<=1099511627776) (e0:List Int->Bool) :
  ai N (eF N m ((n / 32:Nat):Int) ((n%32:Nat):Int) e0) (0,List.replicate (n / 32+m.length+1) (0:Int))=e0 (dl (aC m*2 ^ n) (n / 32+m.length+1)):=by
 generalize hw:n / 32=w at *;generalize hsh:n%32=s at *;have hs32:s<32:=by omega
 have hp2:2 ^ n=4294967296 ^ w*2 ^ s:=by rw[u7,hw,hsh]
 have hs0:0<2 ^ s:=adz s;have hs1:2 ^ s*2 ^ (32 - s)=4294967296:=by rw[<- adE,show s+(32 - s)=32 by omega]
 have hs2:2 ^ s<=2147483648:=by have:2 ^ s<=2 ^ 31:=adB (by decide) (by omega);simpa using this
 let V:=aC m*2 ^ n
 let X:=aC m*2 ^ s
 have hVX:V=4294967296 ^ w*X:=by simp only[V,X]; rw[hp2,adN]
 let T:=λi=>aC (m.take i)*2 ^ s
 let c:=λi=>T i / 4294967296 ^ i
 refine aE (N:=N) (λi=>((i:Int),dl V (w+i)++((c i:Nat):Int)::List.replicate (m.length - i) 0)) m.length ?_ (by omega) (λi hi K=>?_) (λK=>?_)
 ·congr 1;show List.replicate (w+m.length+1) (0:Int)=dl V w++((c 0:Nat):Int)::List.replicate m.length 0;rw[hVX,tL];have hc0:c 0=0:=by simp[c,T,aC]
  rw[hc0];have:w+m.length+1=w+(m.length+1):=by omega
  rw[this,<- ae2,ad8]; rfl
 ·have hx:=hm.at (i:=i);have hT:T (i+1)=T i+4294967296 ^ i*((m.getD i 0).toNat*2 ^ s):=by simp only[T,aN,adQ,adw]
  have hq:T (i+1) / 4294967296 ^ i=c i+(m.getD i 0).toNat*2 ^ s:=by rw[hT,dY]
  have hci:c i<2 ^ s:=by simp only[c,T];rw[adu (aR i),ado];exact aex (be hm i) hs0
  have hc1:c (i+1)=(c i+(m.getD i 0).toNat*2 ^ s) / 4294967296:=by rw[<- hq]; simp only[c]; rw[ady,adt]
  have hdig:V / 4294967296 ^ (w+i)%4294967296=(c i+(m.getD i 0).toNat*2 ^ s)%4294967296:=by rw[<- hq,hVX,adE,<- adt,adY _ (aR w)];obtain⟨R,hR⟩:=bT m (i+1);refine lf (R:=R*2 ^ s) ?_;simp only[X,T];rw[hR,adQ,adw]
  have hrep:List.replicate (m.length - i) (0:Int)=0::List.replicate (m.length - (i+1)) 0:=by rw[show m.length - i=(m.length - (i+1))+1 by omega,ad8]
  have hdl:=al V (w+i);have ei:Int.toNat ((w:Int)+(i:Int))=w+i:=by omega
  have ei1:Int.toNat ((w:Int)+(i:Int)+1)=w+i+1:=by omega
  have emin:min s 64=s:=by omega
  simp only[eF,adr,ei,ei1,emin];rw[hrep,bR hdl.symm,aX _ _ _ _ _ hdl.symm];have et:IntKind.wrap .u64 (IntKind.wrap .u64 (m.getD i 0)*2 ^ s)=(((m.getD i 0).toNat*2 ^ s:Nat):Int):=by
   have hxs:(m.getD i 0).toNat*2 ^ s<4294967296*2147483648:=ad7 (by omega) hs2 (by decide);have e1:IntKind.wrap .u64 (m.getD i 0)=(((m.getD i 0).toNat:Nat):Int):=by rw[am]; omega
   have e2:(((m.getD i 0).toNat:Nat):Int)*2 ^ s=(((m.getD i 0).toNat*2 ^ s:Nat):Int):=by simp
   rw[e1,e2,am]; omega
  rw[et];generalize hxx:(m.getD i 0).toNat=x at *;have hx32:x<4294967296:=by omega
  have hlow:x*2 ^ s%4294967296=2 ^ s*(x%2 ^ (32 - s)):=by
   have e:x*2 ^ s%(2 ^ s*2 ^ (32 - s))=2 ^ s*(x%2 ^ (32 - s)):=by rw[ado x]; exact ae9 _ _ _
   rwa [hs1]at e
  have hsum:2 ^ s*(x%2 ^ (32 - s))+c i<4294967296:=by have h1:x%2 ^ (32 - s)+1<=2 ^ (32 - s):=adA _ (adz _);have h2:=ads (2 ^ s) h1;rw[hs1,adC]at h2;omega
  have eor:aA .or .u32 ((c i:Nat):Int) (IntKind.wrap .u32 ((x*2 ^ s:Nat):Int))=((V / 4294967296 ^ (w+i)%4294967296:Nat):Int):=by
   have e1:IntKind.wrap .u32 ((x*2 ^ s:Nat):Int)=((2 ^ s*(x%2 ^ (32 - s)):Nat):Int):=by rw[<- hlow,dm]; omega
   rw[e1,pW _ _ s hci hsum,hdig];omega
  have ehi:IntKind.wrap .u32 (Int.fdiv ((x*2 ^ s:Nat):Int) (2 ^ 32))=((c (i+1):Nat):Int):=by have hxs:x*2 ^ s<4294967296*2147483648:=ad7 hx32 hs2 (by decide);rw[jN,dm,hc1];omega
  rw[eor,ehi];have hl1:∀(a b:Int) (ys:List Int),(dl V (w+i)++a::b::ys).length=w+i+2+ys.length:=by intro a b ys; simp[hdl]; omega
  have hset2:(dl V (w+i)++((V / 4294967296 ^ (w+i)%4294967296:Nat):Int)::0::List.replicate (m.length - (i+1)) 0).set (w+i+1) ((c (i+1):Nat):Int)=dl V (w+(i+1))++((c (i+1):Nat):Int)::List.replicate (m.length - (i+1)) 0:=by
   have:dl V (w+i)++((V / 4294967296 ^ (w+i)%4294967296:Nat):Int)::0::List.replicate (m.length - (i+1)) 0=dl V (w+(i+1))++0::List.replicate (m.length - (i+1)) 0:=by rw[<- ad5,dl]; simp
   rw[this];exact aX _ _ _ _ _ (by rw[al]; omega)
  rw[hset2,hl1,hl1];simp only[aeJ];rw[adk (by omega:(i:Int)<m.length),adn,aa adj,aa (adk (by omega)),aa adi,aa adj,aa (adk (by omega)),aa adj,aa (adk (by omega)),
   aa adi,aa adi,aa adj,aa (adk (by omega)),aa adi]
  rfl
 ·simp only[eF];rw[adl (by omega:¬(m.length:Int)<m.length),adm,adX,ad0];have hV:V<4294967296 ^ (w+m.length+1):=by have h1:=eS hm;simp only[V];rw[hp2,ady,adE,adN,adw];refine aex ?_ (aR w);exact ad7 h1 (by omega) (by decide)
  have hT:T m.length=X:=by simp only[T,X]; rw[ad6]
  have hend:dl V (w+m.length)++[((c m.length:Nat):Int)]=dl V (w+m.length+1):=by
   rw[dl];have:c m.length=V / 4294967296 ^ (w+m.length)%4294967296:=by simp only[c];rw[hT,hVX,adE,<- adt,adY _ (aR w)];rw[adv];rw[adu (aR _),ado];have h1:=eS hm;simp only[X];exact ad7 h1 (by omega) (by decide)
   rw[this]
  rw[hend]
def qX {N:Nat} {m s:Nat} (hm:m ≠ 0) (hs:s<32) (hN:(aj m).length+4<N) (hl:(aj m).length<=1099511627776) (k0:Bool) (k1:Nat->List Int->Bool) :
  D3 N (aj m) (s:Int) k0 k1=k1 (aj (m*2 ^ s)).length (dl (m*2 ^ s) ((aj m).length+1)):=by
 have hlp:(aj m).length ≠ 0:=by rw[b_ hm]; simp
 have hV:m*2 ^ s<4294967296 ^ ((aj m).length+1):=by
  rw[ady];have h2:2 ^ s<4294967296:=by rw[<- BZ]; exact Nat.pow_lt_pow_right (by decide) hs
  exact aes (iD m) h2
 (unfold D3; rw[ac]; unfold JE)
 have e0:((((aj m).length:Nat):Int)==0)=false:=by simp; intro h; rw[h]at hlp; simp at hlp
 have ew:IntKind.wrap .u64 (Int.tdiv (s:Int) 32)=((s / 32:Nat):Int):=by rw[am,aer (by omega)]; omega
 have es:Int.tmod (s:Int) 32=((s%32:Nat):Int):=by rw[aeg (by omega)]; rfl
 have elen:Int.toNat (((s / 32:Nat):Int)+(((aj m).length:Nat):Int)+1)=s / 32+(aj m).length+1:=by omega
 rw[e0,adm,ew,es,aa adi,aa adi,aa adi,aa (cb (by omega) (by omega) (by omega) (by omega)),elen];have:=FN (N:=N) (aj m) (aY m) s (by omega) (by omega) hl (λVY=>ox N VY λmr=>k1 mr VY);rw[aI,show s / 32=0 by omega,adR]at this;rw[show s / 32=0 by omega,adR];refine Eq.trans this ?_;rw[kF _ (by rw[al]; omega) (by rw[al]; omega),al,yj hV]
def Iu {N:Nat} (b:List Int) (m:Nat) (hm:m<=b.length) (hN:m<N) (hs:m<9223372036854775807) (k:Kz4):rk N 0 m b k=k (bM b m):=by
 (unfold rk; rw[ac]; unfold qq)
 have key:∀ n,n<=m -> ∀ M,n<M->ai M (uo N 0 b λX3=>k X3) n=k (bM b n):=by
  intro n;induction n with
  | zero=>
   intro _ M hM;obtain⟨M,rfl⟩:∃ m,M=m+1:=⟨M - 1,by omega⟩
   show uo N 0 b _ 0 _=_;simp only[uo,bM];rw[adl (by omega:¬((0:Nat):Int)>0),show(false==true)=false from rfl,adm]
  | succ n ih=>
   intro hn M hM;obtain⟨M,rfl⟩:∃ m,M=m+1:=⟨M - 1,by omega⟩
   show uo N 0 b _ (n+1) (ai M _)=_;have e:0+Int.toNat (((n+1:Nat):Int) - 1)=n:=by omega
   have e2:Int.toNat (((n+1:Nat):Int) - 1) - 0=n:=by omega
   simp only[uo,e,e2];rw[adk (by omega:((n+1:Nat):Int)>0),show(true==true)=true from rfl,adn,aa adi,aa adj,aa (adk (by omega)),aa adi,aa (adk (by omega)),ih (by omega) M (by omega),nj];by_cases h0:b.getD n 0=0
   ·have:(b.getD n 0==0)=true:=by simpa using h0
    rw[this,if_pos h0]; rfl
   ·have:(b.getD n 0==0)=false:=by simpa using h0
    rw[this,if_neg h0]; rfl
 exact key m (adx _) N hN
def BO {N:Nat} (b:List Int) (hb:InW b) (m s:Nat) (hm:m<=b.length) (hs:s<32) (hN:m+3<N) (hms:m<=1099511627780) (k:Kz7):MB N 0 m (s:Int) b k=k (aj (aC (b.take m) / 2 ^ s)):=by
 have ew:IntKind.wrap .u64 (Int.tdiv (s:Int) 32)=0:=by rw[am,aer (by omega)]; omega
 have es:Int.tmod (s:Int) 32=(s:Int):=by rw[aeg (by omega)]; omega
 have hs0:0<2 ^ s:=adz _
 (unfold MB; rw[ac]; unfold Kf)
 by_cases h0:m=0
 ·subst h0;rw[ew,afF,show aC []=0 from rfl,Nat.zero_div,aU];rfl
 ·have emin:min s 64=s:=by omega
  rw[ew,es,aa adi,adl (by omega:¬(0:Int)>=(m:Int)),adm];have hw:InW (b.take m):=hb.take m;have hwl:(b.take m).length=m:=by rw[ad3]; omega
  have hwg:∀ i,i<m->(b.take m).getD i 0=b.getD i 0:=λi hi=>sa hi
  obtain⟨X,hX⟩:∃ X,X=aC (b.take m) / 2 ^ s:=⟨_,rfl⟩
  have elen2:(m:Int) - 0=(m:Int):=by omega
  rw[elen2,aa adi,aa (cb (by omega) (by omega) (by omega) (by omega)),adr,<- hX];refine aE (λi=>((i:Int),dl X i++List.replicate (m - i) 0)) m (by simp[dl]) (by omega) (λi hi K=>?_) (λK=>?_)
  ·have hx:=hw.at (i:=i);have hy:=hw.at (i:=i+1);have hset:=yq X i m (by omega);have hl:(dl X i++List.replicate (m - i) (0:Int)).length=m:=by simp[al]; omega
   obtain⟨R,hR⟩:=Ax hw i;have hdig:X / 4294967296 ^ i%4294967296=(((b.take m).getD i 0).toNat+4294967296*((b.take m).getD (i+1) 0).toNat) / 2 ^ s%4294967296:=by
    rw[hX,adt,ado (2 ^ s),<- adt,hR];have e2:4294967296*4294967296*R=2 ^ s*(4294967296*(2 ^ (32 - s)*R)):=by
     have hs1:2 ^ s*2 ^ (32 - s)=4294967296:=by rw[<- adE,show s+(32 - s)=32 by omega]
     rw[adN (2 ^ s),<- adw (2 ^ s),hs1,adw]
    rw[e2,aej _ _ hs0,aeF]
   have hfin:∀ z:Int,z=((((b.take m).getD i 0).toNat+4294967296*((b.take m).getD (i+1) 0).toNat:Nat):Int)->IntKind.wrap .u32 (Int.fdiv z (2 ^ s))=((X / 4294967296 ^ i%4294967296:Nat):Int):=by
    intro z hz;have e:(2:Int) ^ s=((2 ^ s:Nat):Int):=by simp
    rw[hdig,hz,e,aeR _ (by omega),dm];rfl
   have ea:(0:Int)+(i:Int)=(i:Int):=by omega
   have ei:0+Int.toNat (i:Int)=i:=by omega
   have ei1:Int.toNat ((i:Int)+1)=i+1:=by omega
   simp only[iB,ea,ei1,adr,adR,emin,hl];rw[adk (by omega:(i:Int)<m),adn,aa adi,aa adj,aa (adk (by omega)),aa adi,aa adi];rw[<- hwg i hi];by_cases hlast:i+1<m
   ·rw[<- hwg (i+1) hlast];rw[adk (by omega:(i:Int)+1<m),adn,aa adi,aa adi,aa adj,aa (adk (by omega)),aa (adk (by omega)),aa adj,aa (adk (by omega)),aa adi];have e1:IntKind.wrap .u64 ((b.take m).getD i 0)=((((b.take m).getD i 0).toNat:Nat):Int):=by rw[am]; omega
    have e2:IntKind.wrap .u64 (IntKind.wrap .u64 ((b.take m).getD (i+1) 0)*2 ^ 32)=((2 ^ 32*((b.take m).getD (i+1) 0).toNat:Nat):Int):=by
     have:(2:Int) ^ 32=4294967296:=by decide
     have:(2:Nat) ^ 32=4294967296:=by decide
     rw[am,am]; omega
    have p32:(2:Nat) ^ 32=4294967296:=by decide
    rw[e1,e2,cl _ _ 32 (by omega) (by omega),hfin _ (by omega),hset,j7]
   ·rw[adl (by omega:¬(i:Int)+1<m),adm,aa (adk (by omega)),aa adj,aa (adk (by omega)),aa adi];have hz:(b.take m).getD (i+1) 0=0:=d8 (by omega);have e1:IntKind.wrap .u64 ((b.take m).getD i 0)=((((b.take m).getD i 0).toNat:Nat):Int):=by rw[am]; omega
    rw[e1,hfin _ (by rw[hz]; simp),hset,j7]
  ·simp only[iB];have hl:(dl X m++List.replicate (m - m) (0:Int)).length=m:=by simp[al]
   rw[adl (by omega:¬(m:Int)<(((dl X m++List.replicate (m - m) (0:Int)).length:Nat):Int)),adm,adX,ad0,adW];have hXl:X<4294967296 ^ m:=by have h1:=eS hw;rw[hwl]at h1;rw[hX];exact aeW (aeX _ _) h1
   rw[du _ (iN X m) (by rw[al]; omega) (by rw[al]; omega),oX hXl]
def R5 {A B r u0:Nat} (h:r*4294967296+u0<A):B+r*4294967296+u0<B+A:=by omega
def BD {N:Nat} {s5:Int} {ul j n u0 v0 v1 T d:Nat} {b c ql:List Int} (hn:2<=n) (hc1:c.getD (n - 2) 0=(v0:Int)) (hb:b.getD (j+n - 2) 0=(u0:Int)) (hcl:n<=c.length) (hul:j+n<ul) (hbl:ul<=b.length) (hbs:b.length<=1099511627780)
  (hv0:v0<4294967296) (hv1:v1<4294967296) (hu0:u0<4294967296) (hTl:T<4294967296*v1+4294967296) (hd:∀ g,T*4294967296+u0<g*(v1*4294967296+v0)->d<g) (hdW:d<4294967296) :
  ∀ g r M,g<M->g<=4294967299->g*v1+r=T->r<4294967296->d<=g ->
   ∃ q,d<=q/\q<4294967296/\q*(v1*4294967296+v0)<=T*4294967296+u0 /\ ∀ e0,ai M (nQ N s5 n ul (n:Int) (v1:Int) (j:Int) c b ql e0) ((g:Int),(r:Int))=e0 (q:Int):=by
 intro g;induction g using Nat.strongRecOn with
 | ind g ih=>
 intro r M hM hgb hT hr hdg;obtain⟨M,rfl⟩:∃ m,M=m+1:=⟨M - 1,by omega⟩
 have i2:0+Int.toNat ((n:Int) - 2)=n - 2:=by omega
 have j2:0+Int.toNat ((j:Int)+(n:Int) - 2)=j+n - 2:=by omega
 have dec:∀ p,g=p+1->d<=p -> ∃ q,d<=q/\q<4294967296/\q*(v1*4294967296+v0)<=T*4294967296+u0 /\ ∀ e0,cond (decide ((IntKind.wrap .u64 ((r:Int)+(v1:Int)))>=4294967296)) (e0 (IntKind.wrap .u64 ((g:Int) - 1))) (ai M (nQ N s5 n ul (n:Int) (v1:Int) (j:Int) c b ql e0) ((IntKind.wrap .u64 ((g:Int) - 1)),(IntKind.wrap .u64 ((r:Int)+(v1:Int)))))=e0 (q:Int):=by
  intro p hp hdp;subst hp;have w1:IntKind.wrap .u64 (((p+1:Nat):Int) - 1)=(p:Int):=EG p (by omega);have w2:IntKind.wrap .u64 ((r:Int)+(v1:Int))=((r+v1:Nat):Int):=by rw[am]; omega
  rw[w1,w2];by_cases hb2:4294967296<=r+v1
  ·have hpl:p<4294967296:=by
    rcases aen p 4294967296 with h | h
    ·exact h
    ·exfalso;have:=adp v1 h;rw[aeV]at hT;omega
   refine⟨p,hdp,hpl,yD hv0 (by omega) hT hb2,λe0=>?_⟩;rw[adk (by omega),adn]
  ·obtain⟨q,q1,q2,q3,q4⟩:=ih p (by omega) (r+v1) M (by omega) (by omega) (by rw[<- hT,aeV]; omega) (by omega) hdp;exact⟨q,q1,q2,q3,λe0=>by rw[adl (by omega),adm]; exact q4 e0⟩
 by_cases hg:4294967296<=g
 ·obtain⟨q,q1,q2,q3,q4⟩:=dec (g - 1) (by omega) (by omega);refine⟨q,q1,q2,q3,λe0=>?_⟩;show nQ N s5 n ul (n:Int) (v1:Int) (j:Int) c b ql e0 (_,_) (ai M _)=_;simp only[nQ];rw[adk (by omega:(g:Int)>=4294967296),show(true==false)=false from rfl,adm];exact q4 e0
 ·have hgv:g*v0<=4294967295*4294967295:=aee (by omega) (by omega);have wv0:IntKind.wrap .u64 (v0:Int)=(v0:Int):=by rw[am]; omega
  have wgv:IntKind.wrap .u64 ((g:Int)*(v0:Int))=((g*v0:Nat):Int):=by rw[<- adH,am]; omega
  have e1:T*4294967296+u0=g*v1*4294967296+r*4294967296+u0:=by rw[<- hT,adQ]
  have e2:g*(v1*4294967296+v0)=g*v1*4294967296+g*v0:=by rw[adC,adw]
  have body:∀ e0:Int->Bool,ai (M+1) (nQ N s5 n ul (n:Int) (v1:Int) (j:Int) c b ql e0) ((g:Int),(r:Int))=cond (decide (((g*v0:Nat):Int)>((r*4294967296+u0:Nat):Int))) (cond (decide ((IntKind.wrap .u64 ((r:Int)+(v1:Int)))>=4294967296)) (e0 (IntKind.wrap .u64 ((g:Int) - 1))) (ai M (nQ N s5 n ul (n:Int) (v1:Int) (j:Int) c b ql e0) ((IntKind.wrap .u64 ((g:Int) - 1)),(IntKind.wrap .u64 ((r:Int)+(v1:Int)))))) (e0 (g:Int)):=by intro e0;show nQ N s5 n ul (n:Int) (v1:Int) (j:Int) c b ql e0 (_,_) (ai M _)=_;simp only[nQ,i2,j2,hc1,hb,wv0,wgv];rw[adl (by omega:¬(g:Int)>=4294967296),show(false==false)=true from rfl,adn,aa adi,aa adj,aa (adk (by omega)),aa adi,aa adi,aa adj,aa (adk (by omega)),N7 hr hu0]
  by_cases ht:r*4294967296+u0<g*v0
  ·have hlt1:g*v1*4294967296+r*4294967296+u0<g*v1*4294967296+g*v0:=R5 ht;have hlt:d<g:=hd g (aeW (afv e1) (adF hlt1 (afv e2.symm)));obtain⟨q,q1,q2,q3,q4⟩:=dec (g - 1) (by omega) (by omega);exact⟨q,q1,q2,q3,λe0=>by rw[body,adk (by omega),adn]; exact q4 e0⟩
  ·exact⟨g,hdg,by omega,adL (afv e2) (adL (by omega) (afv e1.symm)),λe0=>by rw[body,adl (by omega),adm]⟩
def Iy {N:Nat} {j n ul g U V:Nat} {b c:List Int} (hN:n<N) (hb:InW b) (hc:InW c) (hcl:n<=c.length) (hul:j+n<ul) (hbl:ul<=b.length) (hbs:b.length<=1099511627780) (hg:g<4294967296) (hU:U=aC ((b.drop j).take (n+1))) (hV:V=aC (c.take n)) (k:Ky5) :
  Mx N 0 ul 0 n (j:Int) (g:Int) b c k=k (decide (U<g*V)) (b.take j++(dl (U+4294967296 ^ (n+1) - g*V) (n+1)++b.drop (j+(n+1)))):=by
 (unfold Mx; rw[ac]; unfold J8)
 have hw:InW ((b.drop j).take (n+1)):=(hb.drop j).take _;have hwl:((b.drop j).take (n+1)).length=n+1:=by rw[ad3,aeZ]; omega
 have hwg:∀ i,i<=n->((b.drop j).take (n+1)).getD i 0=b.getD (j+i) 0:=λi hi=>by rw[sa (by omega),jt]
 generalize (b.drop j).take (n+1)=w at *;have hVl:V<4294967296 ^ n:=by rw[hV]; exact be hc n
 have hgV:g*V<4294967296 ^ (n+1):=by rw[ady,ado];exact aes hVl hg
 obtain⟨D,hD⟩:∃ D,D=U+4294967296 ^ (n+1) - g*V:=⟨_,rfl⟩
 obtain⟨Q,hQ⟩:∃ Q,Q=g*V:=⟨_,rfl⟩
 have hQW:Q<4294967296 ^ (n+1):=by rw[hQ]; exact hgV
 rw[<- hD];refine aE (λi=>(((g*aC (c.take i) / 4294967296 ^ i:Nat):Int),((if aC (w.take i)<Q%4294967296 ^ i then 1 else 0:Nat):Int),(i:Int),b.take j++(dl D i++b.drop (j+i)))) n ?_ (by omega) (λi hi K=>?_) (λK=>?_)
 ·simp[dl,aC,age]
 ·have hx:=hb.at (i:=j+i);have hy:=hc.at (i:=i);have hcv:=aN (m:=c) i;have hp:=aR i;have hVi:=be hc i;obtain⟨s1,s2⟩:=zL hw hwl hU (by omega:i<=n) hQW;rw[hwg i (by omega)]at s1 s2;rw[hQ,<- hD,<- hQ]at s1;obtain⟨cy,hcy⟩:∃ cy,cy=g*aC (c.take i) / 4294967296 ^ i:=⟨_,rfl⟩
  have hcyl:cy<4294967296:=by rw[hcy,adu hp];exact aes hg hVi
  have e1:g*aC (c.take (i+1))=g*aC (c.take i)+4294967296 ^ i*(g*(c.getD i 0).toNat):=by rw[hcv,adC,adN g]
  have ecy:g*aC (c.take (i+1)) / 4294967296 ^ (i+1)=(g*(c.getD i 0).toNat+cy) / 4294967296:=by rw[ady,<- adt,e1,dY,<- hcy];congr 1; omega
  obtain⟨R,hR⟩:=bT (c.take n) (i+1);rw[agt,aeO (by omega),<- hV]at hR;have elo:Q / 4294967296 ^ i%4294967296=(g*(c.getD i 0).toNat+cy)%4294967296:=by
   have:Q=g*aC (c.take (i+1))+4294967296 ^ (i+1)*(g*R):=by rw[hQ,hR,adC,adN g]
   rw[lf this,e1,dY,<- hcy];congr 1; omega
  rw[elo]at s1 s2;have ei:0+Int.toNat ((j:Int)+(i:Int))=j+i:=by omega
  have hgy:g*(c.getD i 0).toNat<=4294967295*4294967295:=aee (by omega) (by omega);have wy:IntKind.wrap .u64 (c.getD i 0)=(((c.getD i 0).toNat:Nat):Int):=by rw[am]; omega
  have wp:IntKind.wrap .u64 ((g:Int)*(((c.getD i 0).toNat:Nat):Int))=((g*(c.getD i 0).toNat:Nat):Int):=by rw[<- adH,am]; omega
  have wpc:IntKind.wrap .u64 (((g*(c.getD i 0).toNat:Nat):Int)+(cy:Int))=((g*(c.getD i 0).toNat+cy:Nat):Int):=by rw[am]; omega
  have wx:IntKind.wrap .u64 (b.getD (j+i) 0)=(((b.getD (j+i) 0).toNat:Nat):Int):=by rw[am]; omega
  have hcf:Int.fdiv ((g*(c.getD i 0).toNat+cy:Nat):Int) (2 ^ 32)=((g*aC (c.take (i+1)) / 4294967296 ^ (i+1):Nat):Int):=by rw[jN,ecy]; rfl
  simp only[gQ,adr,adR];have ei':Int.toNat ((j:Int)+(i:Int))=j+i:=by omega
  rw[ei',EF D (by omega),EE D (by omega),adk (by omega:(i:Int)<(n:Int)),adn,aa adj,aa (adk (by omega)),aa adi,aa adj,aa (adk (by omega)),<- hcy,wy,wp,wpc,wx,CB,hcf];generalize (g*(c.getD i 0).toNat+cy)%4294967296=lo at *;have hlo:lo<4294967296:=by rw[<- elo]; exact adA _ (by decide)
  obtain⟨bo,hbo⟩:∃ bo:Nat,bo=if aC (w.take i)<Q%4294967296 ^ i then 1 else 0:=⟨_,rfl⟩
  have hbo1:bo<=1:=by rw[hbo]; split <;> omega
  rw[<- hbo]at s1 s2 ⊢;obtain⟨x,hxe⟩:∃ x,x=(b.getD (j+i) 0).toNat:=⟨_,rfl⟩
  rw[<- hxe]at s1 s2 ⊢;have hxl:x<4294967296:=by omega
  have wlb:IntKind.wrap .u64 ((lo:Int)+(bo:Int))=((lo+bo:Nat):Int):=by rw[am]; omega
  rw[wlb];by_cases hlt:x<lo+bo
  ·rw[if_pos hlt]at s2;have wv:IntKind.wrap .u32 (IntKind.wrap .u64 (IntKind.wrap .u64 ((x:Int)+4294967296) - ((lo+bo:Nat):Int)))=((D / 4294967296 ^ i%4294967296:Nat):Int):=by rw[<- s1,am,am,dm]; omega
   rw[adk (by omega),adn,wv,aa adi,aa adj,aa (adk (by omega)),aa adi,zS D (by omega),<- s2,j7];rfl
  ·rw[if_neg hlt]at s2;have wv:IntKind.wrap .u32 (IntKind.wrap .u64 ((x:Int) - ((lo+bo:Nat):Int)))=((D / 4294967296 ^ i%4294967296:Nat):Int):=by rw[<- s1,am,dm]; omega
   rw[adl (by omega),adm,wv,aa adi,aa adj,aa (adk (by omega)),aa adi,zS D (by omega),<- s2,j7];rfl
 ·have hx:=hb.at (i:=j+n);obtain⟨s1,s2⟩:=zL hw hwl hU (adx n) hQW;rw[hwg n (by omega)]at s1 s2;rw[hQ,<- hD,<- hQ]at s1;have hql:Q / 4294967296 ^ n<4294967296:=by rw[adu (aR n),ado,<- ady]; exact hQW
  rw[adv hql]at s1 s2;have hwt:w.take (n+1)=w:=adI (by omega);rw[hwt,<- hU,adv hQW]at s2;simp only[gQ];have ei':0+Int.toNat ((j:Int)+(n:Int))=j+n:=by omega
  rw[adl (by omega:¬(n:Int)<(n:Int)),adm,<- hV,<- hQ];rw[ei',EF D (by omega),EE D (by omega),aa adi,aa adj,aa (adk (by omega)),aa adi,aa adj,aa (adk (by omega))];obtain⟨y,hy⟩:∃ y,y=Q / 4294967296 ^ n:=⟨_,rfl⟩
  rw[<- hy]at s1 s2 hql ⊢;obtain⟨bo,hbo⟩:∃ bo:Nat,bo=if aC (w.take n)<Q%4294967296 ^ n then 1 else 0:=⟨_,rfl⟩
  have hbo1:bo<=1:=by rw[hbo]; split <;> omega
  rw[<- hbo]at s1 s2 ⊢;have wx:IntKind.wrap .u64 (b.getD (j+n) 0)=(((b.getD (j+n) 0).toNat:Nat):Int):=by rw[am]; omega
  rw[wx];obtain⟨x,hxe⟩:∃ x,x=(b.getD (j+n) 0).toNat:=⟨_,rfl⟩
  rw[<- hxe]at s1 s2 ⊢;have hxl:x<4294967296:=by omega
  have wlb:IntKind.wrap .u64 ((y:Int)+(bo:Int))=((y+bo:Nat):Int):=by rw[am]; omega
  have wv:IntKind.wrap .u32 (IntKind.wrap .u64 ((x:Int) - ((y+bo:Nat):Int)))=((D / 4294967296 ^ n%4294967296:Nat):Int):=by rw[<- s1,am,dm]; omega
  rw[wlb,wv,zS D (by omega)];have hdec:decide ((x:Int)<((y+bo:Nat):Int))=decide (U<Q):=by
   by_cases h1:U<Q
   ·rw[if_pos h1]at s2;rw[adk h1];refine adk ?_;split at s2 <;> omega
   ·rw[if_neg h1]at s2;rw[adl h1];refine adl ?_;split at s2 <;> omega
  rw[hdec]
def IB {N:Nat} {j n ul D V:Nat} {b c:List Int} (hN:n<N) (hc:InW c) (hcl:n<=c.length) (hul:j+n<ul) (hbl:ul<=b.length) (hbs:b.length<=1099511627780) (hV:V=aC (c.take n)) (k:Kz7) :
  My N 0 ul 0 n (j:Int) (b.take j++(dl D (n+1)++b.drop (j+(n+1)))) c k=k (b.take j++(dl (D+V) (n+1)++b.drop (j+(n+1)))):=by
 (unfold My; rw[ac]; unfold J9)
 obtain⟨E,hE⟩:∃ E,E=D+V:=⟨_,rfl⟩
 rw[<- hE];refine aE (λi=>((((D%4294967296 ^ i+aC (c.take i)) / 4294967296 ^ i:Nat):Int),(i:Int),b.take j++(dl E i++((dl D (n+1)).drop i++b.drop (j+(n+1)))))) n ?_ (by omega) (λi hi K=>?_) (λK=>?_)
 ·simp[dl,aC,age]
 ·have hx:=hc.at (i:=i);have hcv:=aN (m:=c) i;have hVl:=be hc i;have hp:=aR i;have hml:=adA D hp;obtain⟨cy,hcy⟩:∃ cy,cy=(D%4294967296 ^ i+aC (c.take i)) / 4294967296 ^ i:=⟨_,rfl⟩
  have hcl1:cy<=1:=by
   have:cy<2:=by rw[hcy,adu hp]; omega
   omega
  obtain⟨a1,a2⟩:=xZ (D:=D) (V:=aC (c.take i)) (v:=(c.getD i 0).toNat) hcy;obtain⟨R,hR⟩:=bT (c.take n) (i+1);rw[agt,aeO (by omega),<- hV,hcv]at hR;have a3:=a2 R;rw[<- hR,<- hE]at a3;have hdl:D / 4294967296 ^ i%4294967296<4294967296:=adA _ (by decide);have ei':Int.toNat ((j:Int)+(i:Int))=j+i:=by omega
  simp only[gR,adr,adR,ei'];rw[EC D E (by omega) (by omega),EB D E (by omega) (by omega)];have wy:IntKind.wrap .u64 (c.getD i 0)=(((c.getD i 0).toNat:Nat):Int):=by rw[am]; omega
  obtain⟨dg,hdg⟩:∃ dg,dg=D / 4294967296 ^ i%4294967296:=⟨_,rfl⟩
  rw[<- hdg]at a1 a3 hdl ⊢;have ws:IntKind.wrap .u64 (IntKind.wrap .u64 (IntKind.wrap .u64 (dg:Int)+(((c.getD i 0).toNat:Nat):Int))+(cy:Int))=((dg+(c.getD i 0).toNat+cy:Nat):Int):=by rw[am,am,am]; omega
  have wf:Int.fdiv ((dg+(c.getD i 0).toNat+cy:Nat):Int) (2 ^ 32)=(((D%4294967296 ^ (i+1)+aC (c.take (i+1))) / 4294967296 ^ (i+1):Nat):Int):=by rw[hcv,a1,jN]; rfl
  have w3:IntKind.wrap .u32 ((dg+(c.getD i 0).toNat+cy:Nat):Int)=((E / 4294967296 ^ i%4294967296:Nat):Int):=by rw[a3,dm]; rfl
  rw[adk (by omega:(i:Int)<(n:Int)),adn,aa adi,aa adj,aa (adk (by omega)),aa adj,aa (adk (by omega)),aa adi,aa adj,aa (adk (by omega)),aa adi,<- hcy,wy,ws,wf,w3,ED D E (by omega) (by omega),j7]
 ·have hp:=aR n;have hml:=adA D hp;have hVl:V<4294967296 ^ n:=by rw[hV]; exact be hc n
  obtain⟨cy,hcy⟩:∃ cy,cy=(D%4294967296 ^ n+V) / 4294967296 ^ n:=⟨_,rfl⟩
  have hcl1:cy<=1:=by
   have:cy<2:=by rw[hcy,adu hp]; omega
   omega
  obtain⟨a1,a3⟩:=Cw (D:=D) (V:=V) (i:=n) hcy;rw[<- hE]at a3;have hdl:D / 4294967296 ^ n%4294967296<4294967296:=adA _ (by decide);have ei':0+Int.toNat ((j:Int)+(n:Int))=j+n:=by omega
  simp only[gR];rw[adl (by omega:¬(n:Int)<(n:Int)),adm,ei',EC D E (by omega) (by omega),EB D E (by omega) (by omega),<- hV,<- hcy];obtain⟨dg,hdg⟩:∃ dg,dg=D / 4294967296 ^ n%4294967296:=⟨_,rfl⟩
  rw[<- hdg]at a3 hdl ⊢;have w3:IntKind.wrap .u32 ((dg:Int)+IntKind.wrap .u32 (cy:Int))=((E / 4294967296 ^ n%4294967296:Nat):Int):=by rw[a3,dm,dm]; omega
  rw[aa adi,aa adj,aa (adk (by omega)),aa adj,aa (adk (by omega)),w3,ED D E (by omega) (by omega)];rw[ad9 (by rw[al]; omega),aeb]
def NK {P A B U3 V2 U V g:Nat} (hB:B<P) (hg:g*P<=V) (hU:U=A+P*U3) (hV:V=B+P*V2) (h:g*V2<=U3) (hV0:0<V):g<=U / V+1:=by
 have h1:g*B<=g*P:=ads _ (by omega);have h2:P*(g*V2)<=P*U3:=ads _ h;have h3:g*V=g*B+P*(g*V2):=by rw[hV,adC,adN g P]
 have h4:g*V<=U+V:=by omega
 have h5:=afM U hV0;have h6:g*V<(U / V+2)*V:=by rw[show U / V+2=U / V+1+1 by omega,aeV,ado (U / V+1)];omega
 have:=Nat.lt_of_mul_lt_mul_right h6;omega
def Td {V Y Z X U Q:Nat} (h1:V<Y) (h2:Y<=Z) (h3:X<=U) (h4:X=Q*4294967296) (h5:U<V*4294967296):Q<Z:=by omega
def Nk {P A B U V T u0 v0 v1:Nat} (hA:A<P) (hB:B<P) (hU:U=A+P*(u0+4294967296*T)) (hV:V=B+P*(v0+4294967296*v1)) (hv0:v0<4294967296) (hUV:U<V*4294967296):T<4294967296*v1+4294967296:=by
 have h1:V<P*(v0+4294967296*v1+1):=by rw[hV,agH]; omega
 have h2:P*(v0+4294967296*v1+1)<=P*(4294967296*v1+4294967296):=ads _ (by omega);have h3:P*(4294967296*T)<=U:=by rw[hU,adC P u0]; omega
 have h4:P*(4294967296*T)=P*T*4294967296:=by rw[ado 4294967296,adw]
 have h5:P*T<P*(4294967296*v1+4294967296):=Td h1 h2 h3 h4 hUV;exact afG h5
def Ia {N:Nat} (hN:5<N) {a:List Int} {s:Int} {d:Nat} {dl':List Int} {X la:Nat} (hla:a.length=la) (hX:X<4294967296 ^ (la+1)) (h1:la<=(aj X).length) (hs:la<=1099511627000) (e0:Nat->List Int->Bool) :
  ai N (rF N a s d dl' e0) ((aj X).length,dl X (la+1))=e0 (la+1) (dl X (la+1)):=by
 have h2:(aj X).length<=la+1:=ct _ _ hX;have last:∀ K,rF N a s d dl' e0 (la+1,dl X (la+1)) K=e0 (la+1) (dl X (la+1)):=by intro K;simp only[rF];rw[hla,aa adi,adl (by omega),adm]
 by_cases h:(aj X).length=la+1
 ·rw[h];exact aE (λi=>(la+1,dl X (la+1))) 0 rfl (by omega) (λi hi K=>by omega) last
 ·have hl:(aj X).length=la:=by omega
  rw[hl];refine aE (λi=>(la+i,dl X (la+1))) 1 rfl (by omega) (λi hi K=>?_) last;have:i=0:=by omega
  subst this;have e1:(dl X (la+1)).take la++[0]=dl X (la+1):=by
   rw[nY X (by omega),dl];have:X / 4294967296 ^ la%4294967296=0:=by have:=iD X;rw[hl]at this;rw[adS this]
   rw[this]; rfl
  show rF N a s d dl' e0 (la,dl X (la+1)) K=K (la+1,dl X (la+1));simp only[rF];rw[hla,aa adi,adk (by omega),adn,aa (adk (by rw[al]; omega)),aeU,e1,al,aa (adk (by omega))]
def SH {N:Nat} (hN:1180591620717411303424<=N) {n j ul V v1:Nat} {s:Int} {b ql:List Int} (hVlt:V<4294967296 ^ (n+2)) (hVge:4294967296 ^ (n+1)<=V) (hv1:v1=V / 4294967296 ^ (n+1)) (hv1lo:2147483648<=v1) (hv1hi:v1<4294967296) (hbw:InW b) (hblen:b.length=ul) (hjl:j+(n+2)<ul) (hls:ul<=1099511627700) (hjq:j<ql.length)
  (hUlt:aC ((b.drop j).take (n+2+1))<V*4294967296) (e0:List Int->List Int->Bool) (K:Int × List Int × List Int->Bool) :
  i8 N s (n+2) ul ((n+2:Nat):Int) (v1:Int) (dl V (n+2+1)) e0 ((j:Int),b,ql) K
   = K ((j:Int) - 1,b.take j++(dl (aC ((b.drop j).take (n+2+1))%V) (n+2+1)++b.drop (j+(n+2+1))),ql.set j ((aC ((b.drop j).take (n+2+1)) / V:Nat):Int)):=by
 have hV0:0<V:=adF (aR _) hVge;have hcv:aC ((dl V (n+2+1)).take (n+2))=V:=by rw[nY V (by omega),pp,adv hVlt]
 have hU3:=TI (b.drop j) n;have hV2:=TH (dl V (n+2+1)) n;rw[show n+3=n+2+1 by omega,jt,jt,jt]at hU3;rw[hcv]at hV2;have a0:=hbw.at (i:=j+n);have a1:=hbw.at (i:=j+(n+1));have a2:=hbw.at (i:=j+(n+2));have c0:=(iN V (n+2+1)).at (i:=n);obtain⟨u0,hu0⟩:∃ u,u=(b.getD (j+n) 0).toNat:=⟨_,rfl⟩
 obtain⟨u1,hu1⟩:∃ u,u=(b.getD (j+(n+1)) 0).toNat:=⟨_,rfl⟩
 obtain⟨u2,hu2⟩:∃ u,u=(b.getD (j+(n+2)) 0).toNat:=⟨_,rfl⟩
 obtain⟨v0,hv0⟩:∃ u,u=((dl V (n+2+1)).getD n 0).toNat:=⟨_,rfl⟩
 have q0:b.getD (j+n) 0=(u0:Int):=by omega
 have q1:b.getD (j+(n+1)) 0=(u1:Int):=by omega
 have q2:b.getD (j+(n+2)) 0=(u2:Int):=by omega
 have k0:(dl V (n+2+1)).getD n 0=(v0:Int):=by omega
 have k1:((dl V (n+2+1)).getD (n+1) 0).toNat=v1:=by rw[rY V (by omega),adr,<- hv1,adv hv1hi]
 rw[<- hu0,<- hu1,<- hu2]at hU3;rw[<- hv0,k1]at hV2;have hAb:=be (hbw.drop j) n;have hBb:=be (iN V (n+2+1)) n;have hwv:∃ U,U=aC ((b.drop j).take (n+2+1)):=⟨_,rfl⟩
 obtain⟨U,hwv⟩:=hwv;rw[<- hwv]at hU3 hUlt ⊢;have hT:=Nk hAb hBb hU3 hV2 (by omega) hUlt;have hdW:U / V<4294967296:=by rw[adu hV0,ado]; exact hUlt
 have hv1p:0<v1:=by omega
 obtain⟨T,hTe⟩:∃ T,T=u2*4294967296+u1:=⟨_,rfl⟩
 rw[<- hTe]at hU3 hT;have hg0:T / v1<=4294967298:=by
  have:T / v1<4294967299:=by rw[adu hv1p]; omega
  omega
 have hkb:U / V<=T / v1:=by rw[hTe]; rw[hTe]at hU3; exact GP hAb hU3 hV2 hV0 hv1p (by omega)
 obtain⟨g,p1,p2,p3,p4⟩:=BD (N:=N) (s5:=s) (ul:=ul) (j:=j) (n:=n+2) (u0:=u0) (v0:=v0) (v1:=v1) (T:=T) (d:=U / V) (b:=b) (c:=dl V (n+2+1)) (ql:=ql) (by omega) (by rw[show n+2 - 2=n by omega]; exact k0) (by rw[show j+(n+2) - 2=j+n by omega]; exact q0) (by rw[al]; omega) (by omega) (by omega) (by omega) (by omega) hv1hi (by omega) hT
  (λg hg=>BH hAb hU3 hV2 hV0 (by rw[afg v0,ado 4294967296 v1]; omega)) hdW
  (T / v1) (T%v1) N (by omega) (by omega) (aek _ _) (ae_ (adA _ hv1p) hv1hi) hkb
 have hgd:g<=U / V+1:=NK hBb (by have:g*4294967296 ^ n<=4294967296*4294967296 ^ n:=adp _ (Nat.le_of_lt p2);rw[<- Nat.pow_succ']at this;exact adL this hVge) hU3 hV2 (by rw[afg v0,ado 4294967296 v1]; omega) hV0
 have hless:=λkk=>Iy (N:=N) (j:=j) (n:=n+2) (ul:=ul) (g:=g) (U:=U) (V:=V) (b:=b) (c:=dl V (n+2+1)) (by omega) hbw (iN _ _) (by rw[al]; omega) (by omega) (by omega) (by omega) p2 hwv hcv.symm kk
 have jn:0+Int.toNat ((j:Int)+((n+2:Nat):Int))=j+(n+2):=by omega
 have jn1:0+Int.toNat ((j:Int)+((n+2:Nat):Int) - 1)=j+(n+1):=by omega
 have top0:(!decide ((v1:Int)=0))=true:=by simp; omega
 have wu2:IntKind.wrap .u64 (u2:Int)=(u2:Int):=by rw[am]; omega
 have hor:aA .or .u64 (IntKind.wrap .u64 ((u2:Int)*2 ^ 32)) (IntKind.wrap .u64 (u1:Int))=(T:Int):=by rw[N7 (by omega) (by omega),hTe]
 have etd:IntKind.wrap .u64 (Int.tdiv (T:Int) (v1:Int))=((T / v1:Nat):Int):=by have:Int.tdiv (T:Int) (v1:Int)=((T / v1:Nat):Int):=rfl;rw[this,am];generalize T / v1=z at *;omega
 have etm:Int.tmod (T:Int) (v1:Int)=((T%v1:Nat):Int):=rfl;have hfin:dl (U+4294967296 ^ (n+2+1) - U / V*V) (n+2+1)=dl (U%V) (n+2+1):=by
  have e:U+4294967296 ^ (n+2+1) - (U / V)*V=U%V+4294967296 ^ (n+2+1)*1:=by have:=aek U V;omega
  rw[e,GI _ _ _ (adx _)]
 have hgV:g*V<4294967296 ^ (n+2+1):=by rw[ady,ado];exact aes hVlt p2
 simp only[i8,jn,jn1,q1,q2,wu2,hor,etd,etm];rw[adk (by omega:(j:Int)>=0),adn,aa adi,aa adj,aa (adk (by omega)),aa adi,aa adi,aa adj,aa (adk (by omega)),aa top0,aa top0,p4,hless];by_cases hlt:U<g*V
 ·have hge:g=U / V+1:=by
   have:U / V<g:=by
    rcases aen (U / V) g with h | h
    ·exact h
    ·have:=(ae5 hV0).1 h; omega
   omega
  have hmore:=λkk=>IB (N:=N) (j:=j) (n:=n+2) (ul:=ul) (D:=U+4294967296 ^ (n+2+1) - g*V) (V:=V) (b:=b) (c:=dl V (n+2+1)) (by omega) (iN _ _) (by rw[al]; omega) (by omega) (by omega) (by omega) hcv.symm kk
  have hD:U+4294967296 ^ (n+2+1) - g*V+V=U+4294967296 ^ (n+2+1) - U / V*V:=by
   have:g*V=U / V*V+V:=by rw[hge,aeV]
   omega
  have wg:IntKind.wrap .u32 (IntKind.wrap .u64 ((g:Int) - 1))=((U / V:Nat):Int):=by rw[hge];generalize U / V=z at *;rw[am,dm]; omega
  rw[adk hlt,adn,hmore,hD,hfin,aa adj,aa (adk (by omega)),aa adi,adr,wg]
 ·have hge:g=U / V:=by have:=(ae5 hV0).2 (Nat.le_of_not_lt hlt);omega
  have wg:IntKind.wrap .u32 (g:Int)=((U / V:Nat):Int):=by rw[hge];generalize U / V=z at *;rw[dm]; omega
  rw[adl hlt,adm,wg,hge,hfin,aa adj,aa (adk (by omega)),aa adi,adr]
def y_ {N:Nat} (hN:1180591620717411303424<=N) {x y:Nat} (hxy:y<=x) (hy2:2<=(aj y).length) (hxl:(aj x).length<=1099511627000) (k:Kz1) :
  ow N (aj x) (aj y) k=k (aj (x / y)) (aj (x%y)):=by
 have hy0:y ≠ 0:=by intro h; rw[h,aU]at hy2; simp at hy2
 have hyx:=bQ hxy;have hylt:=iD y;have hxlt:=iD x;have hylo:4294967296 ^ ((aj y).length - 1)<=y:=by
  rcases aen y (4294967296 ^ ((aj y).length - 1))with h | h
  ·have:=ct _ _ h; omega
  ·exact h
 (unfold ow; rw[ac]; unfold Cq)
 rw[jy x y ⟨by omega,by omega⟩ ⟨by omega,by omega⟩];have hc:decide (dD x y<0)=false:=by unfold dD; rw[if_neg (by omega)]; split <;> rfl
 obtain⟨n,hn⟩:∃ n,(aj y).length=n+2:=⟨(aj y).length - 2,by omega⟩
 obtain⟨lx,hlx⟩:∃ lx,(aj x).length=lx:=⟨_,rfl⟩
 have htd:(aj y).getD (n+1) 0=((y / 4294967296 ^ (n+1):Nat):Int):=by rw[mc,adv];rw[adu (aR _),ado,<- ady];rw[hn]at hylt; exact hylt
 rw[hn]at hylt hylo;rw[hlx]at hxlt;rw[show n+2 - 1=n+1 by omega]at hylo;obtain⟨t,ht⟩:∃ t,t=y / 4294967296 ^ (n+1):=⟨_,rfl⟩
 rw[<- ht]at htd;have htl:t<4294967296:=by rw[ht,adu (aR _),ado,<- ady]; exact hylt
 have ht0:t ≠ 0:=by have:=afL hylo (aR (n+1)); omega
 obtain⟨g1,g2,g3⟩:=Jo ht0 htl;have ein:Int.toNat (((n+2:Nat):Int) - 1)=n+1:=by omega
 have e1':(((n+2:Nat):Int)==1)=false:=by simp; omega
 rw[hc,adm,hn,e1',adm,aa adi,aa adj,ein,htd,Lp N htl];obtain⟨s,hs⟩:∃ s,s=32 - bl t:=⟨_,rfl⟩
 rw[<- hs]at g1 g2 g3 ⊢;have hs0:0<2 ^ s:=adz s;have ews:IntKind.wrap .u64 ((s:Nat):Int)=(s:Int):=by rw[am]; omega
 rw[ews];obtain⟨V,hV⟩:∃ V,V=y*2 ^ s:=⟨_,rfl⟩
 obtain⟨X,hX⟩:∃ X,X=x*2 ^ s:=⟨_,rfl⟩
 have hVlt:V<4294967296 ^ (n+2):=by
  have h1:=afM y (aR (n+1));rw[<- ht]at h1;have h2:y*2 ^ s<4294967296 ^ (n+1)*(t+1)*2 ^ s:=aec h1 hs0;have h3:(t+1)*2 ^ s<=4294967296:=by
   have hd:2 ^ s*2 ^ (32 - s)=4294967296:=by rw[<- adE,show s+(32 - s)=32 by omega]
   have h4:t<2 ^ (32 - s):=by rw[ado]at g3;rw[<- hd]at g3;exact afG g3
   rw[<- hd,ado];exact ads _ h4
  have h5:=ads (4294967296 ^ (n+1)) h3;rw[hV,show n+2=n+1+1 by omega,ady];rw[adw]at h2;omega
 have hVge:4294967296 ^ (n+1)<=V:=by rw[hV]; exact adL hylo (ael _ hs0)
 have hVlen:(aj V).length=n+2:=NX hVge hVlt;have hV0:0<V:=adF (aR _) hVge;have hx0:x ≠ 0:=by omega
 have hvt:V / 4294967296 ^ (n+1)=t*2 ^ s+y%4294967296 ^ (n+1)*2 ^ s / 4294967296 ^ (n+1):=by
  have h1:=aeh y (4294967296 ^ (n+1));rw[<- ht]at h1;have h2:V=y%4294967296 ^ (n+1)*2 ^ s+4294967296 ^ (n+1)*(t*2 ^ s):=by rw[hV,<- adw,<- adQ]; congr 1; omega
  rw[h2,dY]; omega
 have hv1lo:2147483648<=V / 4294967296 ^ (n+1):=by rw[hvt]; exact adL g2 (afH _ _)
 have hv1hi:V / 4294967296 ^ (n+1)<4294967296:=by rw[adu (aR _),ado,<- ady]; exact hVlt
 rw[qX hy0 g1 (by omega) (by omega),hn,<- hV,hVlen,qX hx0 g1 (by omega) (by omega),hlx,<- hX];have hs2:2 ^ s<=4294967296:=by rw[<- BZ]; exact adB (by decide) (by omega)
 have hXlt:X<4294967296 ^ (lx+1):=by rw[hX,ady]; exact ad7 hxlt hs2 (by decide)
 have hXlen2:lx<=(aj X).length:=by rw[<- hlx,hX]; exact bQ (ael _ hs0)
 rw[Ia (by omega) hlx hXlt hXlen2 (by omega)];unfold oO;obtain⟨M,hM⟩:∃ M,lx+1=M+(n+2):=⟨lx+1 - (n+2),by omega⟩
 have eM:(((lx+1:Nat):Int) - ((n+2:Nat):Int))=(M:Int):=by omega
 have ein2:0+Int.toNat (((n+2:Nat):Int) - 1)=n+1:=by omega
 rw[eM,adr,aeJ,ein2,rY V (by omega),adv hv1hi];obtain⟨v1,hv1⟩:∃ v1,v1=V / 4294967296 ^ (n+1):=⟨_,rfl⟩
 rw[<- hv1]at hv1lo hv1hi ⊢;have wv1:IntKind.wrap .u64 (v1:Int)=(v1:Int):=by rw[am]; omega
 rw[wv1,aa adi,aa (cb (by omega) (by omega) (by omega) (by omega)),aa adi,aa adj,aa (adk (by rw[al]; omega)),aa adi];have hstart:dl X (lx+1)=dl X M++(dl (X / 4294967296 ^ M%V) (n+2)++List.replicate 0 0):=by
  have hXM:X / 4294967296 ^ M<V:=by
   rw[adu (aR M),hX,hV];have h1:x*2 ^ s<4294967296 ^ lx*2 ^ s:=aec hxlt hs0;have h2:4294967296 ^ lx=4294967296 ^ (n+1)*4294967296 ^ M:=by rw[<- adE]; congr 1; omega
   have h3:=adp (4294967296 ^ M*2 ^ s) hylo;rw[h2,adw]at h1;have e:y*2 ^ s*4294967296 ^ M=y*(4294967296 ^ M*2 ^ s):=by rw[adw,ado (2 ^ s)]
   rw[e]; omega
  rw[adv hXM,ad0,adW,<- Az,<- hM]
 rw[hstart];have hQlt:X / V<4294967296 ^ M:=by
  rw[adu hV0];have h1:x*2 ^ s<4294967296 ^ lx*2 ^ s:=aec hxlt hs0;have h2:4294967296 ^ lx=4294967296 ^ M*4294967296 ^ (n+1):=by rw[<- adE]; congr 1; omega
  have h3:=ads (4294967296 ^ M) (adp (2 ^ s) hylo);rw[hX,hV];rw[h2,adw]at h1;omega
 have hmk:M<=1099511627001:=by omega
 refine aE (λi=>((M:Int) - 1 - (i:Int),dl X (M - i)++(dl (X / 4294967296 ^ (M - i)%V) (n+2)++List.replicate i 0),List.replicate (M - i) (0:Int)++(dl (X / V) M).drop (M - i))) M ?_ (by omega) (λi hi K=>?_) (λK=>?_)
 ·rw[aft,ad9 (by rw[al]; omega),adW];congr 1;omega
 ·obtain⟨j,hj⟩:∃ j,M - i=j+1:=⟨M - i - 1,by omega⟩
  have hj2:M - (i+1)=j:=by omega
  have ei:(M:Int) - 1 - (i:Int)=(j:Int):=by omega
  have ei2:(M:Int) - 1 - ((i+1:Nat):Int)=(j:Int) - 1:=by omega
  rw[hj,hj2,ei,ei2];obtain⟨A,hA⟩:∃ A,A=X / 4294967296 ^ j:=⟨_,rfl⟩
  have hA1:X / 4294967296 ^ (j+1)=A / 4294967296:=by rw[hA,ady,adt]
  obtain⟨n1,n2⟩:=zC (A:=A) hV0;obtain⟨R,hR⟩:∃ R,R=A / 4294967296%V:=⟨_,rfl⟩
  have hRV:R<V:=by rw[hR]; exact adA _ hV0
  rw[hA1,<- hR];rw[<- hR]at n1 n2;obtain⟨b,hb⟩:∃ b,b=dl X (j+1)++(dl R (n+2)++List.replicate i 0):=⟨_,rfl⟩
  have hblen:b.length=lx+1:=by rw[hb]; simp[al]; omega
  have hbw:InW b:=by
   rw[hb];intro z hz;rcases List.mem_append.1 hz with h | h
   ·exact iN _ _ z h
   ·rcases List.mem_append.1 h with h | h
    ·exact iN _ _ z h
    ·have:=(List.mem_replicate.1 h).2; subst this; omega
  have hbt:b.take j=dl X j:=by rw[hb,aeq (by rw[al]; omega),nY X (by omega)]
  have hbd:b.drop j=((A%4294967296:Nat):Int)::(dl R (n+2)++List.replicate i 0):=by rw[hb,dl,adD,aep (by rw[al]; omega),ad9 (by rw[al]; omega),aeb,hA];rfl
  have hwv:aC ((b.drop j).take (n+2+1))=R*4294967296+A%4294967296:=by rw[hbd,agc,aeq (by rw[al]; omega),adI (by rw[al]; omega),aC,pp,adv (ae_ hRV hVlt),adr];omega
  have hbd2:b.drop (j+(n+2+1))=List.replicate i 0:=by rw[<- List.drop_drop,hbd,List.drop_succ_cons,aep (by rw[al]; omega),ad9 (by rw[al]; omega),aeb]
  have hcv:aC ((dl V (n+2+1)).take (n+2))=V:=by rw[nY V (by omega),pp,adv hVlt]
  have hAm:A%4294967296<4294967296:=adA _ (by decide);have hUlt:R*4294967296+A%4294967296<V*4294967296:=by have:=adp 4294967296 hRV;rw[aeV]at this;omega
  have hnext:dl X j++(dl (A%V) (n+2+1)++List.replicate i 0)=dl X j++(dl (A%V) (n+2)++List.replicate (i+1) 0):=by rw[C4 (ae_ (adA A hV0) hVlt) 1,adD,ad8];rfl
  have hdg:X / V / 4294967296 ^ j%4294967296=A / V%4294967296:=by rw[hA,adt,adt,ado V]
  have hql:(List.replicate (j+1) (0:Int)++(dl (X / V) M).drop (j+1)).length=M:=by simp[al]; omega
  have hstep:=SH (s:=(s:Int)) (j:=j) (b:=b) (ul:=lx+1) (ql:=List.replicate (j+1) (0:Int)++(dl (X / V) M).drop (j+1)) hN hVlt hVge hv1 hv1lo hv1hi hbw hblen (by omega) (by omega) (by omega) (by rw[hwv]; exact hUlt);rw[<- hb,hstep,hwv,n1,n2,hbt,hbd2,hnext,<- hdg,DZ _ _ _ (by omega),<- hA]
 ·simp only[i8];have e0:(M:Int) - 1 - (M:Int) = -1:=by omega
  rw[e0,adl (by omega),adm,adX,afh,afd,ad0,aeb,aeU];obtain⟨L,hL⟩:∃ L,L=dl X 0++(dl (X%V) (n+2)++List.replicate M 0):=⟨_,rfl⟩
  have hRlt:X%V<4294967296 ^ (n+2):=ae_ (adA _ hV0) hVlt;have hLt:L.take (n+2)=dl (X%V) (n+2):=by rw[hL,show dl X 0=[] from rfl,aeb,aeq (by rw[al]; omega),adI (by rw[al]; omega)]
  have hLw:InW L:=by
   rw[hL];intro z hz;rcases List.mem_append.1 hz with h | h
   ·cases h
   ·rcases List.mem_append.1 h with h | h
    ·exact iN _ _ z h
    ·have:=(List.mem_replicate.1 h).2; subst this; omega
  have hLlen:n+2<=L.length:=by rw[hL]; simp[al]
  have en:Int.toNat ((n+2:Nat):Int) - 0=n+2:=by omega
  rw[<- hL,kF _ (by rw[al]; omega) (by rw[al]; omega),en,aa (adk (by omega)),Iu L (n+2) hLlen (by omega) (by omega)];have hcl:=js L (n+2);rw[BO L hLw (bM L (n+2)) s (by omega) g1 (by omega) (by omega),qK,hLt,pp,adv hRlt,al,yj hQlt];have hQlen:=ct _ _ hQlt;rw[aa (adk (by omega)),aeU,nY _ hQlen,Nq,hX,hV,af1 _ _ hs0,af2,ae6 _ hs0]
def su {N:Nat} (hN:1180591620717411303424<=N) {x y:Nat} (hy:0<y) (hxl:(aj x).length<=1099511627000) (hyl:(aj y).length<=1099511627000) (k:Kz1) :
  ow N (aj x) (aj y) k=k (aj (x / y)) (aj (x%y)):=by
 by_cases hxy:y<=x
 ·by_cases h2:2<=(aj y).length
  ·exact y_ hN hxy h2 hxl k
  ·have hylt:=iD y;have hl1:(aj y).length=1:=by rw[b_ (by omega)]at h2 ⊢; simp at h2 ⊢; exact h2
   rw[hl1,agn]at hylt;have hd:=rW (by omega:y ≠ 0) hylt;have hc:decide (dD x y<0)=false:=by unfold dD; rw[if_neg (by omega)]; split <;> rfl
   (unfold ow; rw[ac]; unfold Cq)
   rw[jy x y ⟨by omega,by omega⟩ ⟨by omega,by omega⟩,hc,adm,hd];show cond (((1:Nat):Int)==1) _ _=_;rw[show(((1:Nat):Int)==1)=true from rfl,adn,aa (af (by omega) (by simp))];show nE N (aj x) (y:Int) _=_;have hm:x%y<4294967296:=ae_ (adA _ hy) hylt;have hw:InW [((x%y:Nat):Int)]:=by intro z hz;simp only[aeL,afp,or_false]at hz;subst hz; omega
   have hv:aC [((x%y:Nat):Int)]=x%y:=by simp only[aC]; omega
   have hct:=du (N:=N) [((x%y:Nat):Int)] hw (by simp; omega) (by simp) (λz=>k (aj (x / y)) z);rw[hv]at hct;rw[FI hy hylt ⟨by omega,by omega⟩];exact hct
 ·have hc:decide (dD x y<0)=true:=by unfold dD; rw[if_pos (by omega)]; rfl
  (unfold ow; rw[ac]; unfold Cq)
  rw[jy x y ⟨by omega,by omega⟩ ⟨by omega,by omega⟩,hc,adn,aeb,aa (adk (by omega)),adS (by omega),adv (by omega),aU]
def Dy {N V f:Nat} (hf:f<4294967296000) (hN:20<N) (hs:fB N (aj V)) (hf2:f<4294967296\/True) (hlt:V / 2 ^ f<18446744073709551616) (hr:∀ kk,Ag N (aj V) (f:Int) kk=kk (aj (V / 2 ^ f))) (k:Kz3):pD N (aj V) (f:Int) k=k ((V / 2 ^ f:Nat):Int):=by
 (unfold pD; rw[ac]; unfold tx)
 have wf:IntKind.wrap .u64 (f:Int)=(f:Int):=by rw[am]; omega
 rw[wf,hr];obtain⟨Y,hY⟩:∃ Y,Y=V / 2 ^ f:=⟨_,rfl⟩
 rw[<- hY]at hlt ⊢;have hl2:(aj Y).length<=2:=ct 2 Y (by
  have:(4294967296:Nat) ^ 2=18446744073709551616:=by decide
  omega)
 have hYl:=iD Y;obtain⟨L,hL⟩:∃ L,(aj Y).length=L:=⟨_,rfl⟩
 rw[hL]at hl2 hYl ⊢;rw[aa adi];refine aE (λi=>(((Y / 4294967296 ^ (L - i):Nat):Int),(L:Int) - 1 - (i:Int))) L ?_ (by omega) (λi hi K=>?_) (λK=>?_)
 ·rw[aft,adS hYl]; simp
 ·obtain⟨m,hm⟩:∃ m,L - i=m+1:=⟨L - i - 1,by omega⟩
  have hm2:L - (i+1)=m:=by omega
  have ei:(L:Int) - 1 - (i:Int)=(m:Int):=by omega
  have ei2:(L:Int) - 1 - ((i+1:Nat):Int)=(m:Int) - 1:=by omega
  rw[hm,hm2,ei,ei2];have hp:Y / 4294967296 ^ (m+1)=Y / 4294967296 ^ m / 4294967296:=by rw[ady,adt]
  have hle:=aeX Y (4294967296 ^ m);simp only[k6,adr];rw[adk (by omega:(m:Int)>=0),adn,hL,aa adj,aa adi,mc,hp];generalize Y / 4294967296 ^ m=Z at *;rw[N7 (by omega) (by omega)];congr 2;omega
 ·simp only[k6];have e0:(L:Int) - 1 - (L:Int) = -1:=by omega
  rw[e0,adl (by omega),adm,adX,afh,afd]
def sgn (neg:Bool) (n:Nat):Int:=cond neg (-(n:Int)) (n:Int)
def cL (n:Nat):sgn true n = -(n:Int):=rfl
def dd (n:Nat):sgn false n=(n:Int):=rfl
def An (x0 y0 a b c d:Nat) (odd:Bool):Prop:=
 ∃ p q,x0=d*p+b*q/\y0=c*p+a*q/\(cond odd (b*c=a*d+1) (a*d=b*c+1))/\(cond odd (d<=q/\q+a+c<=p) (c<=q/\q+b+d<=p))/\1<=b/\1<=c/\1<=d/\a<=1073741824/\b<=1073741824/\c<=1073741824/\d<=1073741824
def Ev {N:Nat} {x0 y0:Nat} (hx0:x0<4611686018427387904) (hy0:y0<4611686018427387904) :
  ∀ q p a b c d odd M,q<M->x0=d*p+b*q->y0=c*p+a*q->(cond odd (b*c=a*d+1) (a*d=b*c+1)) ->
   a<=1073741824->b<=1073741824->c<=1073741824->d<=1073741824->1<=d->p<=x0 ->
   ((odd=false/\a=1/\b=0/\c=0/\d=1/\q<=p)\/(1<=b/\1<=c/\(cond odd (d<=q/\q+a+c<p) (c<=q/\q+b+d<p)))) ->
   ∃ a' b' c' d':Nat,∃ odd',(b'=0/\odd'=false\/An x0 y0 a' b' c' d' odd') /\ ∀ e0,ai M (oA N e0) (sgn odd a,sgn (!odd) b,sgn (!odd) c,sgn odd d,(p:Int),(q:Int))=e0 (sgn odd' a') (sgn (!odd') b') (sgn (!odd') c') (sgn odd' d'):=by
 intro q;induction q using Nat.strongRecOn with
 | ind q ih=>
 intro p a b c d odd M hM h1 h2 hdet ha hb hc hd hd1 hp hor;obtain⟨M,rfl⟩:∃ m,M=m+1:=⟨M - 1,by omega⟩
 have hgood:b=0/\odd=false\/An x0 y0 a b c d odd:=by
  rcases hor with h | ⟨k1,k2,k3⟩
  ·exact .inl ⟨h.2.2.1,h.1⟩
  ·refine .inr ⟨p,q,h1,h2,hdet,?_,k1,k2,hd1,ha,hb,hc,hd⟩;cases odd
   ·simp only[adm]at k3 ⊢; omega
   ·simp only[adn]at k3 ⊢; omega
 have stop:∀(P:(Int->Int->Int->Int->Bool)->Bool),(∀ e0,P e0=e0 (sgn odd a) (sgn (!odd) b) (sgn (!odd) c) (sgn odd d)) -> ∃ a' b' c' d':Nat,∃ odd',(b'=0/\odd'=false\/An x0 y0 a' b' c' d' odd') /\ ∀ e0,P e0=e0 (sgn odd' a') (sgn (!odd') b') (sgn (!odd') c') (sgn odd' d'):=
  λP hP=>⟨a,b,c,d,odd,hgood,hP⟩
 have hpq:p*1<=d*p:=by rw[ado d]; exact ads _ hd1
 have hcp:c*p<=y0:=by omega
 have hdp:d*p<=x0:=by omega
 have hql:q<=p:=by
  rcases hor with h | ⟨k1,k2,k3⟩
  ·exact h.2.2.2.2.2
  ·cases odd
   ·simp only[adm]at k3; omega
   ·simp only[adn]at k3; omega
 obtain⟨u1,hu1⟩:∃ u1:Nat,(q:Int)+sgn (!odd) c=(u1:Int):=by
  rcases hor with h | ⟨k1,k2,k3⟩
  ·obtain⟨e1,e2,e3,e4,e5,e6⟩:=h;subst e1 e4; exact⟨q,by simp[sgn]⟩
  ·cases odd
   ·simp only[adm]at k3;exact⟨q - c,by simp only[ad4,cL]; omega⟩
   ·exact⟨q+c,by simp only[aef,dd]; omega⟩
 obtain⟨u2,hu2⟩:∃ u2:Nat,(q:Int)+sgn odd d=(u2:Int):=by
  rcases hor with h | ⟨k1,k2,k3⟩
  ·obtain⟨e1,e2,e3,e4,e5,e6⟩:=h;subst e1; exact⟨q+d,by simp only[dd]; omega⟩
  ·cases odd
   ·exact⟨q+d,by simp only[dd]; omega⟩
   ·simp only[adn]at k3;exact⟨q - d,by simp only[cL]; omega⟩
 obtain⟨t1,ht1⟩:∃ t1:Nat,(p:Int)+sgn odd a=(t1:Int):=by
  rcases hor with h | ⟨k1,k2,k3⟩
  ·obtain⟨e1,e2,e3,e4,e5,e6⟩:=h;subst e1; exact⟨p+a,by simp only[dd]; omega⟩
  ·cases odd
   ·exact⟨p+a,by simp only[dd]; omega⟩
   ·simp only[adn]at k3;exact⟨p - a,by simp only[cL]; omega⟩
 obtain⟨t2,ht2⟩:∃ t2:Nat,(p:Int)+sgn (!odd) b=(t2:Int):=by
  rcases hor with h | ⟨k1,k2,k3⟩
  ·obtain⟨e1,e2,e3,e4,e5,e6⟩:=h;subst e1 e3; exact⟨p,by simp[sgn]⟩
  ·cases odd
   ·simp only[adm]at k3;exact⟨p - b,by simp only[ad4,cL]; omega⟩
   ·exact⟨p+b,by simp only[aef,dd]; omega⟩
 have t1b:t1<=p+a:=by cases odd <;> simp only[cL,dd]at ht1 <;> omega
 have t2b:t2<=p+b:=by cases odd <;> simp only[aef,ad4,cL,dd]at ht2 <;> omega
 have u1b:u1<=q+c:=by cases odd <;> simp only[aef,ad4,cL,dd]at hu1 <;> omega
 have u2b:u2<=q+d:=by cases odd <;> simp only[cL,dd]at hu2 <;> omega
 by_cases c1:u1=0
 ·refine stop _ λe0=>?_
  show oA N e0 _ (ai M _)=_;simp only[oA,hu1];have:(((u1:Nat):Int) != 0)=false:=by simp; omega
  rw[aa adi,this,show(false==true)=false from rfl,adm]
 have n1:(((u1:Nat):Int) != 0)=true:=by simp; omega
 have m1:(!decide ((u1:Int)=0))=true:=by simp; omega
 by_cases c2:u2=0
 ·refine stop _ λe0=>?_
  show oA N e0 _ (ai M _)=_;simp only[oA,hu1,hu2];have:(((u2:Nat):Int) != 0)=false:=by simp; omega
  rw[aa adi,n1,show(true==true)=true from rfl,adn,aa adi,this,adm]
 have n2:(((u2:Nat):Int) != 0)=true:=by simp; omega
 have m2:(!decide ((u2:Int)=0))=true:=by simp; omega
 obtain⟨k1,hk1⟩:∃ k1,k1=t1 / u1:=⟨_,rfl⟩
 obtain⟨k2,hk2⟩:∃ k2,k2=t2 / u2:=⟨_,rfl⟩
 have k1b:k1<=t1:=by rw[hk1]; exact aeX _ _
 have k2b:k2<=t2:=by rw[hk2]; exact aeX _ _
 have d1:Int.tdiv (t1:Int) (u1:Int)=(k1:Int):=by rw[hk1]; rfl
 have d2:Int.tdiv (t2:Int) (u2:Int)=(k2:Int):=by rw[hk2]; rfl
 by_cases c3:k1=k2
 ·obtain⟨n,hn⟩:∃ n,n=k1:=⟨_,rfl⟩
  have hn2:n=k2:=by omega
  obtain⟨r1,hr1⟩:∃ r1,r1=t1%u1:=⟨_,rfl⟩
  obtain⟨r2,hr2⟩:∃ r2,r2=t2%u2:=⟨_,rfl⟩
  have E1:t1=n*u1+r1:=by rw[hn,hk1,hr1]; exact(aek t1 u1).symm
  have E2:t2=n*u2+r2:=by rw[hn2,hk2,hr2]; exact(aek t2 u2).symm
  have hr1l:r1<u1:=by rw[hr1]; exact adA _ (by omega)
  have hr2l:r2<u2:=by rw[hr2]; exact adA _ (by omega)
  have bnc:n*c<=4611686018427387904+1152921504606846976:=by
   have s1:n*c<=(p+a)*c:=adp _ (by omega);have s2:(p+a)*c=c*p+a*c:=by rw[adQ,ado p]
   have s3:a*c<=1073741824*1073741824:=aee ha hc;omega
  have bnd:n*d<=4611686018427387904+1152921504606846976:=by
   have s1:n*d<=(p+b)*d:=adp _ (by omega);have s2:(p+b)*d=d*p+b*d:=by rw[adQ,ado p]
   have s3:b*d<=1073741824*1073741824:=aee hb hd;omega
  have icn:(n:Int)*sgn (!odd) c=sgn (!odd) (n*c):=by cases odd <;> simp only[aef,ad4,cL,dd,adH,agj]
  have idn:(n:Int)*sgn odd d=sgn odd (n*d):=by cases odd <;> simp only[cL,dd,adH,agj]
  have e2:sgn odd a - sgn (!odd) (n*c)=sgn odd (a+n*c):=by cases odd <;> simp only[aef,ad4,cL,dd] <;> omega
  have f2:sgn (!odd) b - sgn odd (n*d)=sgn (!odd) (b+n*d):=by cases odd <;> simp only[aef,ad4,cL,dd] <;> omega
  have hnq:n*q<=p/\(cond odd (p - n*q+b+n*d=r2/\p - n*q=r1+a+n*c) (p - n*q+a+n*c=r1/\p - n*q=r2+b+n*d)):=by
   cases odd with
   | false=>
    simp only[ad4,cL,dd]at hu1 hu2 ht1 ht2;simp only[adm];have w2:u2=q+d:=by omega
    have w3:t2+b=p:=by omega
    have w1:u1+c=q:=by omega
    have w4:t1=p+a:=by omega
    have z1:n*u2=n*q+n*d:=by rw[w2,adC]
    have z2:n*q=n*u1+n*c:=by rw[<- w1,adC]
    omega
   | true=>
    simp only[aef,cL,dd]at hu1 hu2 ht1 ht2;simp only[adn];have w2:u2+d=q:=by omega
    have w3:t2=p+b:=by omega
    have w1:u1=q+c:=by omega
    have w4:t1+a=p:=by omega
    have z1:n*q=n*u2+n*d:=by rw[<- w2,adC]
    have z2:n*u1=n*q+n*c:=by rw[w1,adC]
    omega
  obtain⟨hnq,hnext⟩:=hnq;have inq:(n:Int)*(q:Int)=((n*q:Nat):Int):=(adH _ _).symm;have ipq:(p:Int) - ((n*q:Nat):Int)=((p - n*q:Nat):Int):=by omega
  have fbd1 : -9223372036854775808<=sgn (!odd) (n*c)/\sgn (!odd) (n*c)<=9223372036854775807:=by cases odd <;> simp only[aef,ad4,cL,dd] <;> omega
  have fbd2 : -9223372036854775808<=sgn odd (a+n*c)/\sgn odd (a+n*c)<=9223372036854775807:=by cases odd <;> simp only[cL,dd] <;> omega
  have fbd3 : -9223372036854775808<=sgn odd (n*d)/\sgn odd (n*d)<=9223372036854775807:=by cases odd <;> simp only[cL,dd] <;> omega
  have fbd4 : -9223372036854775808<=sgn (!odd) (b+n*d)/\sgn (!odd) (b+n*d)<=9223372036854775807:=by cases odd <;> simp only[aef,ad4,cL,dd] <;> omega
  have ne3:(((k1:Nat):Int) != ((k2:Nat):Int))=false:=by simp[c3]
  have body:∀ e0,ai (M+1) (oA N e0) (sgn odd a,sgn (!odd) b,sgn (!odd) c,sgn odd d,(p:Int),(q:Int)) =
    cond ((decide (sgn odd (a+n*c)>1073741824))==false) (cond ((decide (sgn odd (a+n*c)<(-1073741824)))==false) (cond ((decide (sgn (!odd) (b+n*d)>1073741824))==false) (cond (decide (sgn (!odd) (b+n*d)<(-1073741824))) (e0 (sgn odd a) (sgn (!odd) b) (sgn (!odd) c) (sgn odd d)) (ai M (oA N e0) (sgn (!odd) c,sgn odd d,sgn odd (a+n*c),sgn (!odd) (b+n*d),(q:Int),((p - n*q:Nat):Int)))) (e0 (sgn odd a) (sgn (!odd) b) (sgn (!odd) c) (sgn odd d))) (e0 (sgn odd a) (sgn (!odd) b) (sgn (!odd) c) (sgn odd d))) (e0 (sgn odd a) (sgn (!odd) b) (sgn (!odd) c) (sgn odd d)):=by
   intro e0;show oA N e0 _ (ai M _)=_;simp only[oA,hu1,hu2,ht1,ht2,d1,d2,ne3,adm];rw[<- hn];simp only[icn,idn,e2,f2,inq,ipq];rw[aa adi,n1,show(true==true)=true from rfl,adn,aa adi,n2,adn,aa adi,aa adi,aa m1,aa adi,aa adi,aa adi,aa m2,aa adi,aa (ab fbd1.1 fbd1.2),aa (ab fbd2.1 fbd2.2),aa (ab fbd3.1 fbd3.2),aa (ab fbd4.1 fbd4.2),aa adi,aa adi]
  by_cases c4:a+n*c<=1073741824
  ·by_cases c5:b+n*d<=1073741824
   ·have q1:decide (sgn odd (a+n*c)>1073741824)=false:=adl (by cases odd <;> simp only[cL,dd] <;> omega);have q2:decide (sgn odd (a+n*c)<(-1073741824))=false:=adl (by cases odd <;> simp only[cL,dd] <;> omega);have q3:decide (sgn (!odd) (b+n*d)>1073741824)=false:=adl (by cases odd <;> simp only[aef,ad4,cL,dd] <;> omega);have q4:decide (sgn (!odd) (b+n*d)<(-1073741824))=false:=adl (by cases odd <;> simp only[aef,ad4,cL,dd] <;> omega);have hn1:1<=n:=by
     rw[hn,hk1];refine afL ?_ (by omega);rcases hor with h | ⟨g1,g2,g3⟩
     ·obtain⟨z1,z2,z3,z4,z5,z6⟩:=h;subst z1 z2 z4;simp only[ad4,cL,dd]at hu1 ht1;omega
     ·cases odd
      ·simp only[adm]at g3;simp only[ad4,cL,dd]at hu1 ht1;omega
      ·simp only[adn]at g3;simp only[aef,cL,dd]at hu1 ht1;omega
    have hq0:1<=q\/q=0:=by omega
    have hlt:p - n*q<q:=by
     have s1:1*d<=n*d:=adp _ hn1;have s2:1*c<=n*c:=adp _ hn1;cases odd with
     | false=>
      simp only[adm]at hnext;simp only[ad4,cL]at hu1;omega
     | true=>
      simp only[adn]at hnext;simp only[cL]at hu2;omega
    obtain⟨a',b',c',d',odd',g1,g2⟩:=ih (p - n*q) hlt q c d (a+n*c) (b+n*d) (!odd) M (by omega)
     (by
      have s1:(b+n*d)*q=b*q+d*(n*q):=by grind
      have s2:d*(p - n*q)+d*(n*q)=d*p:=by rw[<- adC]; congr 1; omega
      omega)
     (by
      have s1:(a+n*c)*q=a*q+c*(n*q):=by grind
      have s2:c*(p - n*q)+c*(n*q)=c*p:=by rw[<- adC]; congr 1; omega
      omega)
     (by
      have s1:d*(a+n*c)=a*d+n*(c*d):=by grind
      have s2:c*(b+n*d)=b*c+n*(c*d):=by grind
      cases odd with
      | false=>simp only[ad4,adn,adm]at hdet ⊢; omega
      | true=>simp only[aef,adn,adm]at hdet ⊢; omega)
     hc hd c4 c5 (by have s1:1*d<=n*d:=adp _ hn1;omega) (by omega)
     (.inr ⟨hd1,(by
      rcases hor with h | ⟨z1,z2,z3⟩
      ·omega
      ·have s2:1*c<=n*c:=adp _ hn1;omega),by
      cases odd with
      | false=>
       simp only[adm]at hnext;simp only[ad4,cL,dd,adn]at hu1 hu2 ⊢;omega
      | true=>
       simp only[adn]at hnext;simp only[aef,cL,dd,adm]at hu1 hu2 ⊢;omega⟩)
    refine⟨a',b',c',d',odd',g1,λe0=>?_⟩;have:=g2 e0;rw[Bool.not_not]at this;rw[body,q1,q2,q3,q4];exact this
   ·refine stop _ λe0=>?_
    rw[body];cases odd with
    | false=>
     have q1:decide (sgn false (a+n*c)>1073741824)=false:=adl (by simp only[dd]; omega);have q2:decide (sgn false (a+n*c)<(-1073741824))=false:=adl (by simp only[dd]; omega);have q3:decide (sgn (!false) (b+n*d)>1073741824)=false:=adl (by simp only[ad4,cL]; omega);have q4:decide (sgn (!false) (b+n*d)<(-1073741824))=true:=adk (by simp only[ad4,cL]; omega);rw[q1,q2,q3,q4];rfl
    | true=>
     have q1:decide (sgn true (a+n*c)>1073741824)=false:=adl (by simp only[cL]; omega);have q2:decide (sgn true (a+n*c)<(-1073741824))=false:=adl (by simp only[cL]; omega);have q3:decide (sgn (!true) (b+n*d)>1073741824)=true:=adk (by simp only[aef,dd]; omega);rw[q1,q2,q3];rfl
  ·refine stop _ λe0=>?_
   rw[body];cases odd with
   | false=>
    have q1:decide (sgn false (a+n*c)>1073741824)=true:=adk (by simp only[dd]; omega);rw[q1];rfl
   | true=>
    have q1:decide (sgn true (a+n*c)>1073741824)=false:=adl (by simp only[cL]; omega);have q2:decide (sgn true (a+n*c)<(-1073741824))=true:=adk (by simp only[cL]; omega);rw[q1,q2];rfl
 ·refine stop _ λe0=>?_
  show oA N e0 _ (ai M _)=_;simp only[oA,hu1,hu2,ht1,ht2,d1,d2];have:(((k1:Nat):Int) != ((k2:Nat):Int))=true:=by simp; omega
  rw[aa adi,n1,show(true==true)=true from rfl,adn,aa adi,n2,adn,aa adi,aa adi,aa m1,aa adi,aa adi,aa adi,aa m2,aa adi,this,adn]
def FJ {N:Nat} (hN:1180591620717411303424<=N) {x0 y0:Nat} (hx0:x0<4611686018427387904) (hyx:y0<=x0):∃ a b c d:Nat,∃ odd,(b=0/\odd=false\/An x0 y0 a b c d odd) /\ ∀ k,rm N (x0:Int) (y0:Int) k=k (sgn odd a) (sgn (!odd) b) (sgn (!odd) c) (sgn odd d):=by
 obtain⟨a,b,c,d,odd,h1,h2⟩:=Ev (N:=N) (x0:=x0) (y0:=y0) hx0 (by omega) y0 x0 1 0 0 1 false N (by omega) (by omega) (by omega) rfl (by omega) (by omega) (by omega) (by omega) (by omega) (by omega) (.inl ⟨rfl,rfl,rfl,rfl,rfl,hyx⟩);refine⟨a,b,c,d,odd,h1,λk=>?_⟩
 (unfold rm; rw[ac]; unfold qt)
 rw[aa adi,aa adi];exact h2 _
def NG {a b c d X Y:Nat} (hdet:b*c=a*d+1) (g1:a*X<=b*Y) (g2:d*Y<=c*X):X=d*(b*Y - a*X)+b*(c*X - d*Y)/\Y=c*(b*Y - a*X)+a*(c*X - d*Y):=by
 obtain⟨U,hU⟩:=ae3 g1;obtain⟨V,hV⟩:=ae3 g2;rw[<- hU,<- hV,ad2,ad2];constructor
 ·have t1:d*(b*Y)=d*(a*X)+d*U:=by rw[<- hU,adC]
  have t2:b*(c*X)=b*(d*Y)+b*V:=by rw[<- hV,adC]
  have t3:b*(c*X)=(a*d+1)*X:=by rw[<- hdet,adw]
  have t4:(a*d+1)*X=d*(a*X)+X:=by grind
  have t5:d*(b*Y)=b*(d*Y):=by grind
  omega
 ·have t1:c*(b*Y)=c*(a*X)+c*U:=by rw[<- hU,adC]
  have t2:a*(c*X)=a*(d*Y)+a*V:=by rw[<- hV,adC]
  have t3:c*(b*Y)=(a*d+1)*Y:=by rw[<- hdet]; grind
  have t4:(a*d+1)*Y=a*(d*Y)+Y:=by grind
  have t5:c*(a*X)=a*(c*X):=by grind
  omega
def EP {x0 y0 a b c d F rx ry X Y:Nat} (h:An x0 y0 a b c d true) (hrx:rx<F) (hry:ry<F) (hX:X=x0*F+rx) (hY:Y=y0*F+ry) :
  a*X<=b*Y/\d*Y<=c*X/\c*X - d*Y<=b*Y - a*X/\X=d*(b*Y - a*X)+b*(c*X - d*Y)/\Y=c*(b*Y - a*X)+a*(c*X - d*Y):=by
 obtain⟨p,q,h1,h2,hdet,hin,hb1,hc1,hd1,hal,hbl,hcl,hdl⟩:=h;simp only[adn]at hdet hin;obtain⟨hdq,hpq⟩:=hin;have e1:b*Y+a*rx=a*X+(p*F+b*ry):=by
  subst h1 h2 hX hY;have:b*(c*p*F)=(a*d+1)*(p*F):=by rw[<- hdet]; grind
  grind
 have e2:c*X+d*ry=d*Y+(q*F+c*rx):=by
  subst h1 h2 hX hY;have:b*c*(q*F)=(a*d+1)*(q*F):=by rw[<- hdet]
  grind
 have m1:a*rx<=a*F:=ads _ (by omega);have m3:d*ry<=d*F:=ads _ (by omega);have m4:d*F<=q*F:=adp _ hdq;have m5:(q+a+c)*F<=p*F:=adp _ hpq;rw[adQ,adQ]at m5;have m6:c*rx<=c*F:=ads _ (by omega);have g1:a*X<=b*Y:=by omega
 have g2:d*Y<=c*X:=by omega
 obtain⟨i1,i2⟩:=NG hdet g1 g2;exact⟨g1,g2,by omega,i1,i2⟩
def Cz {x0 y0 a b c d F rx ry X Y:Nat} (h:An x0 y0 a b c d false) (hrx:rx<F) (hry:ry<F) (hX:X=x0*F+rx) (hY:Y=y0*F+ry) :
  b*Y<=a*X/\c*X<=d*Y/\d*Y - c*X<=a*X - b*Y/\X=d*(a*X - b*Y)+b*(d*Y - c*X)/\Y=c*(a*X - b*Y)+a*(d*Y - c*X):=by
 obtain⟨p,q,h1,h2,hdet,hin,hb1,hc1,hd1,hal,hbl,hcl,hdl⟩:=h;simp only[adm]at hdet hin;obtain⟨hdq,hpq⟩:=hin;have e1:a*X+b*ry=b*Y+(p*F+a*rx):=by
  subst h1 h2 hX hY;have:a*d*(p*F)=(b*c+1)*(p*F):=by rw[<- hdet]
  grind
 have e2:d*Y+c*rx=c*X+(q*F+d*ry):=by
  subst h1 h2 hX hY;have:a*d*(q*F)=(b*c+1)*(q*F):=by rw[<- hdet]
  grind
 have m1:b*ry<=b*F:=ads _ (by omega);have m3:c*rx<=c*F:=ads _ (by omega);have m4:c*F<=q*F:=adp _ hdq;have m5:(q+b+d)*F<=p*F:=adp _ hpq;rw[adQ,adQ]at m5;have m6:d*ry<=d*F:=ads _ (by omega);have g1:b*Y<=a*X:=by omega
 have g2:c*X<=d*Y:=by omega
 refine⟨g1,g2,by omega,?_,?_⟩
 ·obtain⟨U,hU⟩:=ae3 g1;obtain⟨V,hV⟩:=ae3 g2;rw[<- hU,<- hV,ad2,ad2];have t1:d*(a*X)=d*(b*Y)+d*U:=by rw[<- hU,adC]
  have t2:b*(d*Y)=b*(c*X)+b*V:=by rw[<- hV,adC]
  have t3:d*(a*X)=(b*c+1)*X:=by rw[<- hdet]; grind
  have t4:(b*c+1)*X=b*(c*X)+X:=by grind
  have t5:d*(b*Y)=b*(d*Y):=by grind
  omega
 ·obtain⟨U,hU⟩:=ae3 g1;obtain⟨V,hV⟩:=ae3 g2;rw[<- hU,<- hV,ad2,ad2];have t1:c*(a*X)=c*(b*Y)+c*U:=by rw[<- hU,adC]
  have t2:a*(d*Y)=a*(c*X)+a*V:=by rw[<- hV,adC]
  have t3:a*(d*Y)=(b*c+1)*Y:=by rw[<- hdet]; grind
  have t4:(b*c+1)*Y=c*(b*Y)+Y:=by grind
  have t5:c*(a*X)=a*(c*X):=by grind
  omega
def zc {N X Y u v:Nat} (hN:1180591620717411303424<=N) (sX:(aj X).length<=1099511627000) (sY:(aj Y).length<=1099511627000) (hu:u<=1073741824) (hv:v<=1073741824) (hle:v*Y<=u*X) (k:Kz7) :
  Hr N (aj X) (u:Int) (aj Y) (v:Int) k=k (aj (u*X - v*Y)):=by
 (unfold Hr; rw[ac]; unfold Kh)
 have lu:=ct 1 u (by rw[agn]; omega);have lv:=ct 1 v (by rw[agn]; omega);have lX:=ct ((aj X).length+1) (X*u) (by rw[ady]; exact aes (iD X) (by omega))
 rw[sA u (by omega) (by omega),vS _ _ (aY _) (aY _) (by omega) (by omega),sA v (by omega) (by omega),vS _ _ (aY _) (aY _) (by omega) (by omega),aI,aI,aI,aI,
  vQ _ _ (aY _) (aY _) (by rw[aI,aI,ado X,ado Y]; exact hle) ⟨by omega,by omega⟩,aI,aI,ado X,ado Y]
def wW {N X Y u v:Nat} (hN:1180591620717411303424<=N) (sX:(aj X).length<=1099511627000) (sY:(aj Y).length<=1099511627000) (hu:u<=1073741824) (hv:v<=1073741824) (hle:v*Y<=u*X) (k:Kz7) :
  mm N (aj X) (u:Int) (aj Y) (-(v:Int)) k=k (aj (u*X - v*Y)):=by
 (unfold mm; rw[ac]; unfold rM)
 have w1:IntKind.wrap .u64 (u:Int)=(u:Int):=by rw[am]; omega
 have w2:IntKind.wrap .u64 (0 - -(v:Int))=(v:Int):=by rw[am]; omega
 rw[adk (by omega : -(v:Int)<=0),adn,aa adi,w1,w2,zc hN sX sY hu hv hle]
def wV {N X Y u v:Nat} (hN:1180591620717411303424<=N) (sX:(aj X).length<=1099511627000) (sY:(aj Y).length<=1099511627000) (hu:u<=1073741824) (hv:v<=1073741824) (hv1:1<=v) (hle:u*X<=v*Y) (k:Kz7) :
  mm N (aj X) (-(u:Int)) (aj Y) (v:Int) k=k (aj (v*Y - u*X)):=by
 (unfold mm; rw[ac]; unfold rM)
 have w1:IntKind.wrap .u64 (v:Int)=(v:Int):=by rw[am]; omega
 have w2:IntKind.wrap .u64 (0 - -(u:Int))=(u:Int):=by rw[am]; omega
 rw[adl (by omega:¬(v:Int)<=0),adm,aa adi,w1,w2,zc hN sY sX hv hu hle]
def CS {N:Nat} (hN:1180591620717411303424<=N) (e0:List Int->Bool):∀(b a M:Nat),b<M->(aj a).length<=1099511627000->(aj b).length<=1099511627000->ai M (wj N e0) (aj a,aj b)=e0 (aj (Nat.gcd a b)):=by
 intro b;induction b using Nat.strongRecOn with
 | ind b ih=>
 intro a M hM ha hb;obtain⟨M,rfl⟩:∃ m,M=m+1:=⟨M - 1,by omega⟩
 show wj N e0 (aj a,aj b) (ai M _)=_;simp only[wj];by_cases h:b=0
 ·subst h;have:(((aj 0).length:Nat):Int)=0:=by rw[aU]; rfl
  rw[this,adl (by omega),adm,afS]
 ·have hp:0<(aj b).length:=by rw[b_ h]; simp
  have hm:=adA a (by omega:b>0);have hml:=bQ (Nat.le_of_lt hm);rw[adk (by omega),adn,su hN (by omega) ha hb,ih (a%b) hm b M (by omega) hb (by omega),aeE b,<- ago,aeE]
def ph {N V f:Nat} (hf:f<140737488355328) (hs:(aj V).length+3<N/\(aj V).length<=1099511627000) (k:Kz7):Ag N (aj V) (f:Int) k=k (aj (V / 2 ^ f)):=by
 have hm:=aY V;have hmv:=aI V
 (unfold Ag; rw[ac]; unfold Qe)
 obtain⟨hN1,hN2⟩:=hs;have ew:IntKind.wrap .u64 (Int.tdiv (f:Int) 32)=((f / 32:Nat):Int):=by rw[am,aer (by omega)]; omega
 have es:Int.tmod (f:Int) 32=((f%32:Nat):Int):=by rw[aeg (by omega)]; rfl
 rw[ew,es,aa adi];have hp2:2 ^ f=4294967296 ^ (f / 32)*2 ^ (f%32):=u7 f;obtain⟨w,hw⟩:∃ w,w=f / 32:=⟨_,rfl⟩
 obtain⟨s,hsh⟩:∃ s,s=f%32:=⟨_,rfl⟩
 rw[<- hw,<- hsh]at hp2 ⊢;have hs32:s<32:=by omega
 have hs0:0<2 ^ s:=adz s;obtain⟨m,hme⟩:∃ m,m=aj V:=⟨_,rfl⟩
 rw[<- hme]at hm hmv hN1 hN2 ⊢;by_cases h0:m.length<=w
 ·rw[adk (by omega:((w:Nat):Int)>=m.length),adn];have h1:=eS hm;rw[hmv]at h1;have h2:4294967296 ^ m.length<=4294967296 ^ w:=adB (by decide) h0;have h3:V / 2 ^ f=0:=by rw[hp2];refine adS ?_;have:4294967296 ^ w*1<=4294967296 ^ w*2 ^ s:=ads _ hs0;omega
  rw[h3,aU]
 ·rw[adl (by omega:¬((w:Nat):Int)>=m.length),adm];obtain⟨Z,hZ⟩:∃ Z,Z=V / 2 ^ f:=⟨_,rfl⟩
  have elen:Int.toNat ((m.length:Int) - ((w:Nat):Int))=m.length - w:=by omega
  rw[elen,aa adi,aa (cb (by omega) (by omega) (by omega) (by omega)),<- hZ];obtain⟨L,hL⟩:∃ L,L=m.length - w:=⟨_,rfl⟩
  rw[<- hL];refine aE (λi=>((i:Int),dl Z i++List.replicate (L - i) 0)) L (by simp[dl]) (by omega) (λi hi K=>?_) (λK=>?_)
  ·have hx:=hm.at (i:=w+i);have hy:=hm.at (i:=w+i+1);have hset:=yq Z i L (by omega);have hl:(dl Z i++List.replicate (L - i) 0).length=L:=by simp[al]; omega
   have ei:Int.toNat ((w:Int)+(i:Int))=w+i:=by omega
   have ei1:Int.toNat ((w:Int)+(i:Int)+1)=w+i+1:=by omega
   have emin:min s 64=s:=by omega
   obtain⟨R,hR⟩:=Ax hm (w+i);rw[hmv]at hR;have hdig:Z / 4294967296 ^ i%4294967296=((m.getD (w+i) 0).toNat+4294967296*(m.getD (w+i+1) 0).toNat) / 2 ^ s%4294967296:=by
    rw[hZ,hp2,adt];have e1:4294967296 ^ w*2 ^ s*4294967296 ^ i=4294967296 ^ (w+i)*2 ^ s:=by rw[adE,adw,ado (2 ^ s),<- adw]
    rw[e1,<- adt,hR];have e2:4294967296*4294967296*R=2 ^ s*(4294967296*(2 ^ (32 - s)*R)):=by
     have hs1:2 ^ s*2 ^ (32 - s)=4294967296:=by rw[<- adE,show s+(32 - s)=32 by omega]
     rw[adN (2 ^ s),<- adw (2 ^ s),hs1,adw]
    rw[e2,aej _ _ hs0,aeF]
   have hfin:∀ z:Int,z=(((m.getD (w+i) 0).toNat+4294967296*(m.getD (w+i+1) 0).toNat:Nat):Int)->IntKind.wrap .u32 (Int.fdiv z (2 ^ s))=((Z / 4294967296 ^ i%4294967296:Nat):Int):=by
    intro z hz;have e:(2:Int) ^ s=((2 ^ s:Nat):Int):=by simp
    rw[hdig,hz,e,aeR _ (by omega),dm];rfl
   simp only[ki,adr,ei,ei1,emin,hl];rw[adk (by omega:(i:Int)<L),adn,aa adi,aa adj,aa adi,aa adi];by_cases hlast:w+i+1<m.length
   ·rw[adk (by omega:(w:Int)+(i:Int)+1<m.length),adn,aa adi,aa adi,aa adj,aa (adk (by omega)),aa adj,aa (adk (by omega)),aa adi];have e1:IntKind.wrap .u64 (m.getD (w+i) 0)=(((m.getD (w+i) 0).toNat:Nat):Int):=by rw[am]; omega
    have e2:IntKind.wrap .u64 (IntKind.wrap .u64 (m.getD (w+i+1) 0)*2 ^ 32)=((2 ^ 32*(m.getD (w+i+1) 0).toNat:Nat):Int):=by
     have:(2:Int) ^ 32=4294967296:=by decide
     have:(2:Nat) ^ 32=4294967296:=by decide
     rw[am,am]; omega
    have p32:(2:Nat) ^ 32=4294967296:=by decide
    rw[e1,e2,cl _ _ 32 (by omega) (by omega),hfin _ (by omega),hset,j7]
   ·rw[adl (by omega:¬(w:Int)+(i:Int)+1<m.length),adm,aa (adk (by omega)),aa adj,aa (adk (by omega)),aa adi];have hz:m.getD (w+i+1) 0=0:=d8 (by omega);have e1:IntKind.wrap .u64 (m.getD (w+i) 0)=(((m.getD (w+i) 0).toNat:Nat):Int):=by rw[am]; omega
    rw[e1,hfin _ (by rw[hz]; simp),hset,j7]
  ·simp only[ki];have hl:(dl Z L++List.replicate (L - L) 0).length=L:=by simp[al]
   rw[adl (by omega:¬((L:Nat):Int)<(((dl Z L++List.replicate (L - L) (0:Int)).length:Nat):Int)),adm,adX,ad0,adW];have hVl:Z<4294967296 ^ L:=by have h1:=eS hm;rw[hmv]at h1;rw[hZ,adu (adz f),hp2,<- adw,<- adE,show L+w=m.length by omega];have:4294967296 ^ m.length*1<=4294967296 ^ m.length*2 ^ s:=ads _ hs0;omega
   rw[du _ (iN Z _) (by rw[al]; omega) (by rw[al]; omega),oX hVl]
def wI {N:Nat} (hN:1180591620717411303424<=N) {u v:List Int} (k:Kz7) :
  ∀ s x y,x+y=s->s<N->y<=x->(aj x).length<=134217728000 ->
   Gt N u v (aj x) (aj y) k=k (aj (Nat.gcd x y)):=by
 intro s x y hs hsN hyx hxl;unfold Gt;have main:∀ s x y M,x+y=s->s<M->M<=N->y<=x->(aj x).length<=134217728000 ->
   ai M (zH N (λ(Xx:List Int) (Vu:List Int)=>(ai N (wj N (λ(X7:List Int)=>((decide ((List.length ([]++X7))*4<=140737488355328))&&(k ([]++X7))))) (Xx,Vu)))) (aj x,aj y)=k (aj (Nat.gcd x y)):=by
  intro s;induction s using Nat.strongRecOn with
  | ind s ih=>
  intro x y M hs hsM hMN hyx hxl;obtain⟨M,rfl⟩:∃ m,M=m+1:=⟨M - 1,by omega⟩
  have hyl:=bQ hyx;show zH N _ (aj x,aj y) (ai M _)=_;simp only[zH];by_cases h2:3<=(aj y).length
  ·have hyge:18446744073709551616<=y:=by
    rcases aen y 18446744073709551616 with h | h
    ·have:=ct 2 y (by
      have:(4294967296:Nat) ^ 2=18446744073709551616:=by decide
      omega)
     omega
    ·exact h
   have hblx:64<bl x:=by
    rcases aen 64 (bl x)with h | h
    ·exact h
    ·have h1:=wD x;have h3:2 ^ bl x<=2 ^ 64:=adB (by decide) h;rw[mT]at h3;omega
   have hblu:bl x<=32*(aj x).length:=by refine uA ?_;rw[agi,BZ]; exact iD x
   obtain⟨f,hf⟩:∃ f,bl x=f+62:=⟨bl x - 62,by omega⟩
   have ef:(bl x:Int) - 62=(f:Int):=by omega
   have hF0:0<2 ^ f:=adz f;have p62:(2:Nat) ^ 62=4611686018427387904:=by decide
   have hx0l:x / 2 ^ f<4611686018427387904:=by rw[adu hF0,<- p62,<- adE,afg,<- hf]; exact wD x
   have hy0l:y / 2 ^ f<=x / 2 ^ f:=afD hyx;rw[adk (by omega),adn,yP false x ⟨by omega,by omega⟩,ef,aa adi,
    Dy (by omega) (by omega) ⟨by omega,by omega⟩ (.inr trivial) (by omega) (λkk=>ph (by omega) ⟨by omega,by omega⟩ kk),
    Dy (by omega) (by omega) ⟨by omega,by omega⟩ (.inr trivial) (by omega) (λkk=>ph (by omega) ⟨by omega,by omega⟩ kk)]
   obtain⟨a,b,c,d,odd,g1,g2⟩:=FJ hN hx0l hy0l;rw[g2];rcases g1 with⟨hb0,ho⟩ | hgood
   ·subst hb0 ho;have e0:(sgn (!false) 0==0)=true:=rfl;have hm:=adA x (by omega:y>0);rw[e0,adn,su hN (by omega) (by omega) (by omega),ih (y+x%y) (by omega) y (x%y) M rfl (by omega) (by omega) (by omega) (by omega),aeE y,<- ago,aeE]
   ·obtain⟨p,q,z1,z2,z3,z4,hb1,hc1,hd1,hal,hbl,hcl,hdl⟩:=id hgood;have fin:∀ U V:Nat,x=d*U+b*V->y=c*U+a*V->V<=U->U+V<x+y/\U<=x:=by
     intro U V hx hy hvu;have k1:1*U<=d*U:=adp _ hd1;have k2:1*V<=b*V:=adp _ hb1;have k3:1*U<=c*U:=adp _ hc1;have hU0:0<U:=by
      rcases aeI U with hu | hu
      ·exfalso;have hv:V=0:=by omega
       rw[hu,hv,aeK,aeK]at hy;omega
      ·exact hu
     exact⟨by omega,by omega⟩
    cases odd with
    | true=>
     obtain⟨f1,f2,f3,f4,f5⟩:=EP hgood (adA x hF0) (adA y hF0) (aek x (2 ^ f)).symm (aek y (2 ^ f)).symm;obtain⟨w1,w2⟩:=fin _ _ f4 f5 f3;have hgc:=uH f4 f5 (afN (adK (aeA _ _) _) (adK (aed _ _) _)) (afN (adK (aed _ _) _) (adK (aeA _ _) _));have hUl:=bQ w2;have e0:(sgn (!true) b==0)=false:=by simp only[aef,dd]; simp; omega
     have s1:sgn true a = -(a:Int):=rfl;have s2:sgn (!true) b=(b:Int):=rfl;have s3:sgn (!true) c=(c:Int):=rfl;have s4:sgn true d = -(d:Int):=rfl;rw[e0,adm,s1,s2,s3,s4,wV hN (by omega) (by omega) hal hbl hb1 f1,wW hN (by omega) (by omega) hcl hdl f2,ih _ (by omega) _ _ M rfl (by omega) (by omega) f3 (by omega),hgc]
    | false=>
     obtain⟨f1,f2,f3,f4,f5⟩:=Cz hgood (adA x hF0) (adA y hF0) (aek x (2 ^ f)).symm (aek y (2 ^ f)).symm;obtain⟨w1,w2⟩:=fin _ _ f4 f5 f3;have hgc:=uH f4 f5 (afN (adK (aed _ _) _) (adK (aeA _ _) _)) (afN (adK (aeA _ _) _) (adK (aed _ _) _));have hUl:=bQ w2;have e0:(sgn (!false) b==0)=false:=by simp only[ad4,cL]; simp; omega
     have s1:sgn false a=(a:Int):=rfl;have s2:sgn (!false) b = -(b:Int):=rfl;have s3:sgn (!false) c = -(c:Int):=rfl;have s4:sgn false d=(d:Int):=rfl;rw[e0,adm,s1,s2,s3,s4,wW hN (by omega) (by omega) hal hbl f1,wV hN (by omega) (by omega) hcl hdl hd1 f2,ih _ (by omega) _ _ M rfl (by omega) (by omega) f3 (by omega),hgc]
  ·rw[adl (by omega),adm,CS hN _ y x N (by omega) (by omega) (by omega),aeb];have hgl:(aj (Nat.gcd x y)).length<=134217728000:=by
    by_cases h0:x=0
    ·have hy0:y=0:=by omega
     rw[h0,hy0,afS,aU]; simp
    ·have:=bQ (Nat.gcd_le_left y (afT h0));omega
   rw[aa (adk (by omega))]
 exact main s x y N hs hsN (adx _) hyx hxl
def Fx {N:Nat} (hN:1180591620717411303424<=N) {x y:Nat} (hf:x+y<N) (hxl:(aj x).length<=134217728000) (hyl:(aj y).length<=134217728000) (k:Kz7):D_ N (aj x) (aj y) k=k (aj (Nat.gcd x y)):=by
 (unfold D_; rw[ac]; unfold Kc)
 rw[jy x y ⟨by omega,by omega⟩ ⟨by omega,by omega⟩];by_cases h:x<y
 ·have hc:decide (dD x y<0)=true:=by unfold dD; rw[if_pos h]; rfl
  rw[hc,adn,wI hN _ (y+x) y x rfl (by omega) (by omega) hyl,aeE]
 ·have hc:decide (dD x y<0)=false:=by unfold dD; rw[if_neg h]; split <;> rfl
  rw[hc,adm,wI hN _ (x+y) x y rfl hf (by omega) hxl]
def xm {a b:Nat} (ha:a<4294967296) (hb:b<4294967296):aA .and .u32 (a:Int) (b:Int)=((a &&& b:Nat):Int):=by
 unfold aA pV;simp only[ad_];have h32:(2:Nat) ^ 32=4294967296:=by decide
 have e:((BitVec.ofInt (IntKind.bits .u32) (a:Int)) &&& (BitVec.ofInt (IntKind.bits .u32) (b:Int))).toNat=a &&& b:=by show((BitVec.ofInt 32 (a:Int)) &&& (BitVec.ofInt 32 (b:Int))).toNat=_;rw[af4,aev,aev,aeD,aeD,adv (by omega),adv (by omega)]
 have hl:a &&& b<4294967296:=aeW Nat.and_le_left ha;rw[e,EH _ hl]
def HR {t c:Nat} (h:2 ^ t*(2*c+1)<2 ^ 32):(2 ^ t*(2*c+1)) &&& (2 ^ 32 - 2 ^ t*(2*c+1))=2 ^ t:=by
 have ht0:0<2 ^ t:=adz t;have ht:t<32:=by
  rcases aen t 32 with h1 | h1
  ·exact h1
  ·have h2:2 ^ 32<=2 ^ t:=adB (by decide) h1;have h3:2 ^ t*1<=2 ^ t*(2*c+1):=ads _ (by omega);omega
 have e1:2 ^ t*(2*c+1)=(2 ^ t*(2*c)+(2 ^ t - 1))+1:=by rw[adC]; omega
 refine afC λj=>?_
 rw[agk];have e2:(2 ^ 32 - 2 ^ t*(2*c+1)).testBit j=(decide (j<32) && !(2 ^ t*(2*c)+(2 ^ t - 1)).testBit j):=by
  conv=>lhs; rw[e1]
  exact af9 (by rw[e1]at h; omega) j
 rw[e2,Nat.testBit_two_pow_mul,agl _ (by omega),afc];rcases afV j t with hj | hj | hj
 ·rw[adl (by omega:¬ j>=t),adl (by omega:¬ t=j)]; rfl
 ·subst hj;rw[if_neg (by omega),adX,adk (adx _),adk ht,adk rfl];have a1:(2*c+1).testBit 0=true:=by rw[af5]; simp
  have a2:(2*c).testBit 0=false:=by rw[af5]; simp
  rw[a1,a2]; rfl
 ·obtain⟨k,hk⟩:∃ k,j - t=k+1:=⟨j - t - 1,by omega⟩
  rw[if_neg (by omega),hk,adk (by omega:j>=t),adl (by omega:¬ t=j),af6,af6];have a1:(2*c+1) / 2=c:=by omega
  have a2:2*c / 2=c:=by omega
  rw[a1,a2];cases c.testBit k <;> simp
def M6:∀ t:Fin 32,(inR (Int.fdiv (IntKind.wrap .u32 (((2 ^ t.val:Nat):Int)*125613361)) (2 ^ 27)) 32=true)/\(List.getD xj (Int.toNat (Int.fdiv (IntKind.wrap .u32 (((2 ^ t.val:Nat):Int)*125613361)) (2 ^ 27))) 0=(t.val:Int)):=by decide +kernel
def Lu (N:Nat) {t c:Nat} (h:2 ^ t*(2*c+1)<4294967296) (k:Kz3):Se N ((2 ^ t*(2*c+1):Nat):Int) k=k (t:Int):=by
 have h32:(2:Nat) ^ 32=4294967296:=by decide
 have ht0:0<2 ^ t:=adz t;have hx0:0<2 ^ t*(2*c+1):=afo ht0 (by omega);have ht:t<32:=by
  rcases aen t 32 with h1 | h1
  ·exact h1
  ·have h2:2 ^ 32<=2 ^ t:=adB (by decide) h1;have h3:2 ^ t*1<=2 ^ t*(2*c+1):=ads _ (by omega);omega
 (unfold Se; rw[ac]; unfold Nb)
 have ha:=HR (t:=t) (c:=c) (by omega);rw[h32]at ha;generalize 2 ^ t*(2*c+1)=x at *;have e0:((x:Int)==0)=false:=by simp; omega
 have ew:IntKind.wrap .u32 (0 - (x:Int))=((4294967296 - x:Nat):Int):=by rw[dm]; omega
 obtain⟨t1,t2⟩:=M6 ⟨t,ht⟩;rw[e0,adm,ew,xm h (by omega),ha,aa t1,t2,aa adi]
def KT {t c:Nat}:2 ^ t*(2*c+1) / 4294967296 ^ (t / 32)%4294967296=2 ^ (t%32)*(2*(c%2 ^ (31 - t%32))+1):=by
 have hs1:2 ^ (t%32)*2 ^ (32 - t%32)=4294967296:=by rw[<- adE,show t%32+(32 - t%32)=32 by omega]
 rw[u7 t,adw,adY _ (aR _),<- hs1,ae9];congr 1;have e1:2 ^ (32 - t%32)=2*2 ^ (31 - t%32):=by rw[show 32 - t%32=(31 - t%32)+1 by omega,ady,ado]
 rw[e1];have e2:=afx c (2 ^ (31 - t%32));generalize 2 ^ (31 - t%32)=P at *;generalize c / P=q at *;have hP:c%P<P\/P=0:=by
  rcases aeI P with h | h
  ·exact .inr h
  ·exact .inl (adA _ h)
 generalize c%P=r at *;have e3:2*c+1=(2*r+1)+2*P*q:=by rw[<- e2]; grind
 rw[e3,aeF];rcases hP with h | h
 ·exact adv (by omega)
 ·subst h; simp
def E5 {t c i:Nat} (hi:i<t / 32):2 ^ t*(2*c+1) / 4294967296 ^ i%4294967296=0:=by
 have e:2 ^ t*(2*c+1)=4294967296 ^ (i+1)*(4294967296 ^ (t / 32 - (i+1))*(2 ^ (t%32)*(2*c+1))):=by rw[u7 t,<- adw,<- adE,show i+1+(t / 32 - (i+1))=t / 32 by omega,adw]
 rw[e,ady,adw,adY _ (aR i),agv]
def yV {N:Nat} {t c:Nat} (g:Bool) (hN:fB N (aj (2 ^ t*(2*c+1)))) (ht:t<140737488355328) (k:Kz3):sQ0 N g (aj (2 ^ t*(2*c+1))) k=k (t:Int):=by
 (unfold sQ0; rw[ac]; unfold GQ0)
 obtain⟨n1,n2⟩:=hN;have hd:=KT (t:=t) (c:=c);have hgd:=λi=>mc i (2 ^ t*(2*c+1))
 have hlt:2 ^ t*(2*c+1) / 4294967296 ^ (t / 32)%4294967296<4294967296:=adA _ (by decide);have hwl:t / 32<(aj (2 ^ t*(2*c+1))).length:=by
  refine GV λh=>?_
  rw[h,Nat.zero_mod]at hd;have:=afo (adz (t%32)) (show 0<2*(c%2 ^ (31 - t%32))+1 by omega);omega
 have hbel:=λi=>E5 (t:=t) (c:=c) (i:=i)
 generalize aj (2 ^ t*(2*c+1))=l at *;refine aE (λi=>(i:Int)) (t / 32) rfl (by omega) (λi hi K=>?_) (λK=>?_)
 ·simp only[Hx,adr];have hz:(l.getD i 0 != 0)=false:=by rw[hgd,hbel i hi]; rfl
  rw[adk (by omega:(i:Int)<((l.length:Nat):Int)),adn,aa adj,hz,adm,aa adi];rfl
 ·simp only[Hx,adr];have hp:=afo (adz (t%32)) (show 0<2*(c%2 ^ (31 - t%32))+1 by omega);have hz:(l.getD (t / 32) 0 != 0)=true:=by rw[hgd,hd]; simp only[bne_iff_ne,ne_eq]; omega
  rw[adk (by omega:((t / 32:Nat):Int)<((l.length:Nat):Int)),adn,aa adj,hz,adn,aa adi,aa adj,hgd,hd,Lu N (by rw[<- hd]; exact hlt),aa adi];congr 1;rw[am]; omega
def krR (z:Int) (d:Nat) (k:Kx8):Bool:=k (decide (z<0)) (aj z.natAbs) false (aj d)
def kqR (x:Rat) (k:Kx8):Bool:=krR x.num x.den k
def Lk (g:Bool) (n d:Nat) (k:Kx8):k (sg g n) (aj n) false (aj d)=krR (aT g n) d k:=sF g n (λa b=>k a b false (aj d))
def p9 {B n:Nat} (hB:B<=2000000000100) (h:aQ B n):(aj n).length<=62500000006:=by have:=yc h; omega
def pK {N B n:Nat} (hF:Fuel N) (hB:B<=2000000000100) (h:aQ B n):fB N (aj n):=by have h1:=p9 hB h;have:=hF.lt;exact⟨by omega,by omega⟩
def FR (g:Bool) (n d:Nat) (h0:0<d):(mkRat (aT g n) d).num=aT g (n / Nat.gcd n d)/\(mkRat (aT g n) d).den=d / Nat.gcd n d:=by
 have e:(aT g n).natAbs=n:=by unfold aT; cases g <;> simp
 have hg:0<Nat.gcd n d:=aeu _ h0;constructor
 ·rw[agA,if_neg (by omega),e,aeE];have hh:((Nat.gcd n d:Nat):Int) ≠ 0:=by omega
  have e2:aT g n=((Nat.gcd n d:Nat):Int)*aT g (n / Nat.gcd n d):=by
   have hnn:n=Nat.gcd n d*(n / Nat.gcd n d):=(Nat.mul_div_cancel' (aed n d)).symm;have hc:(n:Int)=((Nat.gcd n d:Nat):Int)*((n / Nat.gcd n d:Nat):Int):=by rw[<- adH,<- hnn]
   unfold aT;cases g
   ·simpa using hc
   ·simp only[ae0]; rw[hc,agj]
  rw[e2,afm _ hh]
 ·rw[agB,if_neg (by omega),e,aeE]
def Fq (g:Bool) (n m:Nat):aT g (n*m)=aT g n*(m:Int):=by
 unfold aT; cases g
 ·simp
 ·simp[agz]
def SJ {t c u e:Nat} (h:2 ^ (u - min t u)*(2*e+1)<2 ^ (u - min t u+1)):Nat.gcd (2 ^ (t - min t u)*(2*c+1)) (2 ^ (u - min t u)*(2*e+1))=1:=by
 have he:e=0:=by
  rcases aeI e with h1 | h1
  ·exact h1
  ·have:2 ^ (u - min t u)*2<=2 ^ (u - min t u)*(2*e+1):=ads _ (by omega);rw[ady]at h; omega
 subst he;rw[aeK,adR,afb];rcases Nat.le_total t u with h1 | h1
 ·rw[aeO h1,adX,afh,afn];refine Nat.Coprime.pow_right _ ?_;show Nat.gcd (2*c+1) 2=1;rw[aeE,ago];have:(2*c+1)%2=1:=by omega
  rw[this]; rfl
 ·rw[Nat.min_eq_right h1,adX,afh,Nat.gcd_one_right]
def Ez {t m c:Nat} (h:m<=t):2 ^ t*(2*c+1) / 2 ^ m=2 ^ (t - m)*(2*c+1):=by
 have:2 ^ t=2 ^ m*2 ^ (t - m):=by rw[<- adE]; congr 1; omega
 rw[this,adw,adY _ (adz m)]
def Hz {B t c:Nat} (h:aQ B (2 ^ t*(2*c+1))):t<B:=by
 unfold aQ at h;have h1:2 ^ t*1<=2 ^ t*(2*c+1):=ads _ (by omega);have h2:2 ^ t<2 ^ B:=by omega
 exact(Nat.pow_lt_pow_iff_right (by decide)).1 h2
def RL {t c:Nat}:bl (2 ^ t*(2*c+1))=t+1↔2 ^ t*(2*c+1)<2 ^ (t+1):=by
 have hp:=adz t;have h0:2 ^ t*(2*c+1) ≠ 0:=by have:=afo hp (show 0<2*c+1 by omega); omega
 constructor
 ·intro h; have:=wD (2 ^ t*(2*c+1)); rwa [h]at this
 ·intro h;have h1:=uA h;have h2:=wD (2 ^ t*(2*c+1));have h3:2 ^ t*1<=2 ^ t*(2*c+1):=ads _ (by omega);have h4:2 ^ t<2 ^ bl (2 ^ t*(2*c+1)):=by omega
  have:=(Nat.pow_lt_pow_iff_right (by decide:1<2)).1 h4;omega
def gc {N B n:Nat} (hF:Fuel N) (hB:B<=2000000000100) (h:aQ B n) (k:Kz7):kL N (aj n) k=k (aj n):=by have h1:=p9 hB h;have:=hF.lt;rw[GQ _ (aY n) (by omega) (by omega),aI]
def AW {N B:Nat} (hF:Fuel N) (hB:B<=2000000000100) (g:Bool) {n d:Nat} (hn:aQ B n) (hd:aQ B d) (hn0:n ≠ 0) (hd0:d ≠ 0) (J:List Int->List Int->Bool) (k:Kx8)
  (hJ:∀ a b:Nat,aQ B a->aQ B b->J (aj a) (aj b)=k (sg g a) (aj a) false (aj b)) :
  (sQ0 N false (aj n) (λ(nr:Int)=>(sQ0 N false (aj d) (λ(Vs:Int)=>
   (Ag N (aj n) (cond (decide (Vs<nr)) Vs nr) (λ(VA:List Int)=>(Ag N (aj d) (cond (decide (Vs<nr)) Vs nr) (λ(Vz:List Int)=>(sQ0 N false Vz (λ(Vy:Int)=>((ah .i64 Vy)&&(Jd N false Vz (λ(VR:Int)=>((ah .i64 (VR - 1))&&(cond (Vy != (VR - 1)) (D_ N VA Vz (λ(s6:List Int)=>(qg N (λ(s7:List Int)=>(w_ N s6 s7 (λ(VX:Int)=>(cond (VX != 0) (ow N VA s6 (λ(s8:List Int) (s9:List Int)=>(ow N Vz s6 (λ(s10:List Int) (s11:List Int)=>(J s8 s10))))) (J VA Vz)))))))) (J VA Vz))))))))))))))))
   = kqR (mkRat (aT g n) d) k:=by
 have hl:=hF.lt;have hbig:=hF.big;obtain⟨t,c,hnt⟩:=zk n hn0;obtain⟨u,e,hdu⟩:=zk d hd0;have htB:t<B:=Hz (by rw[<- hnt]; exact hn);have huB:u<B:=Hz (by rw[<- hdu]; exact hd);have sn:=pK hF hB hn;have sd:=pK hF hB hd;have ln:=p9 hB hn;have ld:=p9 hB hd;have z1:=λkk=>yV (N:=N) (t:=t) (c:=c) false (by rw[<- hnt]; exact sn) (by omega) kk
 have z2:=λkk=>yV (N:=N) (t:=u) (c:=e) false (by rw[<- hdu]; exact sd) (by omega) kk
 rw[<- hnt]at z1;rw[<- hdu]at z2;rw[z1,z2];obtain⟨m,hm⟩:∃ m,m=min t u:=⟨_,rfl⟩
 have em:cond (decide ((u:Int)<(t:Int))) (u:Int) (t:Int)=(m:Int):=by
  by_cases h:u<t
  ·rw[adk (by omega),adn,hm,Nat.min_eq_right (by omega)]
  ·rw[adl (by omega),adm,hm,aeO (by omega)]
 rw[em,ph (by omega) ⟨by omega,by omega⟩,ph (by omega) ⟨by omega,by omega⟩];have ha:n / 2 ^ m=2 ^ (t - m)*(2*c+1):=by rw[hnt]; exact Ez (by rw[hm]; exact Nat.min_le_left _ _)
 have hb:d / 2 ^ m=2 ^ (u - m)*(2*e+1):=by rw[hdu]; exact Ez (by rw[hm]; exact agE _ _)
 have hbn:aQ B (n / 2 ^ m):=bP hn;have hbd:aQ B (d / 2 ^ m):=bP hd;have hmk:mkRat (aT g n) d=mkRat (aT g (n / 2 ^ m)) (d / 2 ^ m):=by
  have e1:n=n / 2 ^ m*2 ^ m:=by
   rw[ha,hnt,agr,<- adE];congr 2; have:m<=t:=by rw[hm]; exact Nat.min_le_left _ _
   omega
  have e2:d=d / 2 ^ m*2 ^ m:=by
   rw[hb,hdu,agr,<- adE];congr 2; have:m<=u:=by rw[hm]; exact agE _ _
   omega
  conv=>lhs; rw[e1,e2,Fq]
  rw[Rat.mkRat_mul_right (by have:=adz m; omega)]
 rw[hmk];obtain⟨a,hae⟩:∃ a,a=n / 2 ^ m:=⟨_,rfl⟩
 obtain⟨b,hbe⟩:∃ b,b=d / 2 ^ m:=⟨_,rfl⟩
 rw[<- hae]at ha hbn ⊢;rw[<- hbe]at hb hbd ⊢;have hb0:0<b:=by rw[hb]; exact afo (adz _) (by omega)
 have z3:=λkk=>yV (N:=N) (t:=u - m) (c:=e) false (by rw[<- hb]; exact pK hF hB hbd) (by omega) kk
 rw[<- hb]at z3;have hblb:bl b<=B:=uA hbd;have hbl0:0<bl b:=(KA (by omega)).1;rw[z3,aa adi,yP false b (pK hF hB hbd),aa adi];obtain⟨i1,i2⟩:=FR g a b hb0;unfold kqR;rw[i1,i2];have fin1:Nat.gcd a b=1->J (aj a) (aj b)=krR (aT g (a / Nat.gcd a b)) (b / Nat.gcd a b) k:=by intro h;rw[hJ a b hbn hbd,Lk _ _ _ k,h,afd,afd]
 by_cases hp:bl b=u - m+1
 ·have:(((u - m:Nat):Int) != (bl b:Int) - 1)=false:=by simp; omega
  rw[this,adm];refine fin1 ?_;rw[ha,hb,hm];refine SJ ?_;rw[<- hm];rw[hb]at hp;exact RL.1 hp
 ·have:(((u - m:Nat):Int) != (bl b:Int) - 1)=true:=by simp; omega
  have la:=p9 hB hbn;have lb:=p9 hB hbd;have hgp:0<Nat.gcd a b:=aeu _ hb0;have hgb:aQ B (Nat.gcd a b):=kT hbd (afq _ hb0);have lg:=p9 hB hgb;have e1:aj 1=[1]:=rW (by decide) (by decide);rw[this,adn,Fx hbig (hF.sum (by omega) hbn hbd) (by omega) (by omega)];unfold qg Gs;dsimp only;rw[<- e1,jy _ 1 ⟨by omega,by omega⟩ ⟨by rw[e1]; simp; omega,by rw[e1]; simp⟩];by_cases hc:Nat.gcd a b=1
  ·have:(dD (Nat.gcd a b) 1 != 0)=false:=by rw[hc]; rfl
   rw[this,adm];exact fin1 hc
  ·have:(dD (Nat.gcd a b) 1 != 0)=true:=by unfold dD; rw[if_neg (by omega),if_neg hc]; rfl
   rw[this,adn,su hbig hgp (by omega) (by omega),su hbig hgp (by omega) (by omega),hJ _ _ (bP hbn) (bP hbd),Lk _ _ _ k]
def CT {α:Type} (c:Bool) (f:α->Bool) (a b:α):cond c (f a) (f b)=f (cond c a b):=by cases c <;> rfl
def sq {N B:Nat} (hF:Fuel N) (hB:B<=2000000000100) (g:Bool) {n d:Nat} (hn:aQ B n) (hd:aQ B d) (hd0:d ≠ 0) (b1 b2:Bool) (k:Kx8) :
  I9 N g (aj n) (aj d) b1 b2 k=kqR (mkRat (aT g n) d) k:=by
 have hl:=hF.lt;have hJ:∀ a b:Nat,aQ B a->aQ B b -> ∀ x y,HL N g x y b1 b2 (aj a) (aj b) k=k (sg g a) (aj a) false (aj b):=by
  intro a b ha hb x y;unfold HL D9 J1;rw[gc hF hB ha];unfold Ec Kk;dsimp only;rw[gc hF hB hb,gc hF hB hb];cases g
  ·rfl
  ·simp only[l5,sg,aet]; rfl
 (unfold I9; rw[ac]; unfold PJ)
 by_cases h0:n=0
 ·subst h0;rw[aU];show D9 N false [] b1 b2 _=_;have e0:aT g 0=0:=by unfold aT; cases g <;> rfl
  unfold D9 J1;rw[<- aU,gc hF (B:=10) (by decide) (by unfold aQ; decide)];unfold qg Gs Ec Kk;have e1:aj 1=[1]:=rW (by decide) (by decide);dsimp only;rw[<- e1,gc hF (B:=10) (by decide) (by unfold aQ; decide),gc hF (B:=10) (by decide) (by unfold aQ; decide),e0,Rat.zero_mkRat];rfl
 ·have e0:((((aj n).length:Nat):Int)==0)=false:=by rw[b_ h0]; simp; omega
  rw[e0,adm];have:=AW hF hB g hn hd h0 hd0 (λx y=>HL N g (aj n) (aj d) b1 b2 x y k) k (λa b ha hb=>hJ a b ha hb _ _);rw[<- this];congr 1; funext nr; congr 1; funext Vs;exact CT (decide (Vs<nr)) (λz=>Kl N g (aj n) (aj d) b1 b2 z k) Vs nr
def FA {N B:Nat} (hF:Fuel N) (hB:B<=2000000000100) (g:Bool) {n d:Nat} (hn:aQ B n) (hd:aQ B d) (hd0:d ≠ 0) (b1 b2:Bool) (l1 l2:List Int) (k:Kx8) :
  Sx N g (aj n) (aj d) b1 l1 b2 l2 k=kqR (mkRat (aT g n) d) k:=by
 have hl:=hF.lt;have hJ:∀ a b:Nat,aQ B a->aQ B b -> ∀ x y,HM N g x y b1 l1 b2 l2 (aj a) (aj b) k=k (sg g a) (aj a) false (aj b):=by
  intro a b ha hb x y;unfold HM D5 JG;rw[gc hF hB ha];unfold Ec Kk;dsimp only;rw[gc hF hB hb,gc hF hB hb];cases g
  ·rfl
  ·simp only[l5,sg,aet]; rfl
 (unfold Sx; rw[ac]; unfold P_)
 by_cases h0:n=0
 ·subst h0;rw[aU];show D5 N false [] b1 l1 b2 l2 _=_;have e0:aT g 0=0:=by unfold aT; cases g <;> rfl
  unfold D5 JG;rw[<- aU,gc hF (B:=10) (by decide) (by unfold aQ; decide)];unfold qg Gs Ec Kk;have e1:aj 1=[1]:=rW (by decide) (by decide);dsimp only;rw[<- e1,gc hF (B:=10) (by decide) (by unfold aQ; decide),gc hF (B:=10) (by decide) (by unfold aQ; decide),e0,Rat.zero_mkRat];rfl
 ·have e0:((((aj n).length:Nat):Int)==0)=false:=by rw[b_ h0]; simp; omega
  rw[e0,adm];have:=AW hF hB g hn hd h0 hd0 (λx y=>HM N g (aj n) (aj d) b1 l1 b2 l2 x y k) k (λa b ha hb=>hJ a b ha hb _ _);rw[<- this];congr 1; funext nr; congr 1; funext Vs;exact CT (decide (Vs<nr)) (λz=>Km N g (aj n) (aj d) b1 l1 b2 l2 z k) Vs nr
def Fv {N:Nat} (a:Bool) (l:List Int) (b:Bool) {d:Nat} (hd:d ≠ 0) (k:Kz7):Mo N a l b (aj d) k=k (aj d):=by
 (unfold Mo; rw[ac]; unfold JR)
 have:((((aj d).length:Nat):Int)==0)=false:=by rw[b_ hd]; simp; omega
 rw[this]; rfl
def fK {N:Nat} (a:Bool) (l:List Int) (b:Bool) {d:Nat} (hd:d ≠ 0) (k:Kz7):sQ5 N a l b (aj d) k=k (aj d):=by
 (unfold sQ5; rw[ac]; unfold GQ5)
 have:((((aj d).length:Nat):Int)==0)=false:=by rw[b_ hd]; simp; omega
 rw[this]; rfl
def mK {N B:Nat} (hF:Fuel N) (hB:B<=2000000000100) {a b:Nat} (ha:aQ B a) (hb:aQ B b) (k:Kz7):qe N (aj a) (aj b) k=k (aj (a*b)):=by have h1:=p9 hB ha;have h2:=p9 hB hb;have:=hF.lt;rw[vS _ _ (aY _) (aY _) (by omega) (by omega),aI,aI]
def Lz {N B:Nat} (hF:Fuel N) (hB:B<=1000000000000) {x y:Rat} (hx:Bq B x) (hy:Bq B y) (b1 b2:Bool) (k:Kx8) :
  Sg N b1 b2 (decide (x.num<0)) (aj x.num.natAbs) false (aj x.den) (decide (y.num<0)) (aj y.num.natAbs) false (aj y.den) k=kqR (x*y) k:=by
 (unfold Sg; rw[ac]; unfold PF)
 have hB2:B<=2000000000100:=by omega
 rw[mK hF hB2 hx.1 hy.1,fK _ _ _ x.den_nz,fK _ _ _ y.den_nz,mK hF hB2 hx.2 hy.2,
  sq hF (B:=B+B) (by omega) _ (dC hx.1 hy.1) (dC hx.2 hy.2) (agI x.den_nz y.den_nz),yL,iv,iv,<- Rat.mul_def']
def LD {N B:Nat} (hF:Fuel N) (hB:B<=1000000000000) {x y:Rat} (hx:Bq B x) (hy:Bq B y) (h0:y.num ≠ 0) (b1 b2:Bool) (k:Kx8) :
  Si N b1 b2 (decide (x.num<0)) (aj x.num.natAbs) false (aj x.den) (decide (y.num<0)) (aj y.num.natAbs) false (aj y.den) k=kqR (x / y) k:=by
 (unfold Si; rw[ac]; unfold PG)
 have hB2:B<=2000000000100:=by omega
 obtain⟨i1,i2,i3⟩:=yH h0;rw[fK _ _ _ y.den_nz,mK hF hB2 hx.1 hy.2,fK _ _ _ x.den_nz,mK hF hB2 hx.2 hy.1,
  sq hF (B:=B+B) (by omega) _ (dC hx.1 hy.2) (dC hx.2 hy.1) (agI x.den_nz (by omega)),yL,iv,Rat.div_def,Rat.mul_def',i2]
 have:aT (decide (y.num<0)) y.den=(y⁻¹).num:=by rw[<- i3,<- i1,iv]
 rw[this]
def LN {N B:Nat} (hF:Fuel N) (hB:B<=1000000000000) {x y:Rat} (hx:Bq B x) (hy:Bq B y) (k:Kx8) :
  Sj N (decide (x.num<0)) (aj x.num.natAbs) false (aj x.den) (decide (y.num<0)) (aj y.num.natAbs) false (aj y.den) k=kqR (x - y) k:=by
 (unfold Sj; rw[ac]; unfold PL; unfold Tw; rw[ac]; unfold Qg)
 have hB2:B<=2000000000100:=by omega
 have ha:=dC hx.1 hy.2;have hb:=dC hy.1 hx.2;have hB3:B+B+1<=2000000000100:=by omega
 rw[fK _ _ _ y.den_nz,mK hF hB2 hx.1 hy.2,fK _ _ _ x.den_nz,mK hF hB2 hy.1 hx.2];dsimp only;rw[fK _ _ _ x.den_nz,fK _ _ _ y.den_nz,mK hF hB2 hx.2 hy.2,
  Ir false _ _ _ _ (pK hF (by omega) ha) (pK hF (by omega) hb) (pK hF hB3 (uz ha hb)),qU,qU]
 unfold sR;dsimp only;have hz:aQ (B+B+1) (x.num*(y.den:Int) - y.num*(x.den:Int)).natAbs:=by
  refine kT (uz ha hb) ?_;have e1:(x.num*(y.den:Int)).natAbs=x.num.natAbs*y.den:=by rw[afa,aei]
  have e2:(y.num*(x.den:Int)).natAbs=y.num.natAbs*x.den:=by rw[afa,aei]
  omega
 rw[FA hF hB3 _ hz (bK (dC hx.2 hy.2) (by omega)) (agI x.den_nz y.den_nz),iv,<- Rat.sub_def']
def vR {N:Nat} (x:Rat) (k:Kz3):D8 N (decide (x.num<0)) (aj x.num.natAbs) false (aj x.den) k=k (vg x.num):=by
 (unfold D8 OT; unfold Bb; rw[ac]; unfold vv vg)
 by_cases h0:x.num=0
 ·rw[h0,if_pos rfl];have:aj (0:Int).natAbs=[]:=aU;rw[this]; rfl
 ·have:((((aj x.num.natAbs).length:Nat):Int)==0)=false:=by rw[b_ (by omega)]; simp; omega
  rw[this,adm,if_neg h0];by_cases h:x.num<0
  ·rw[adk h,adn,if_pos h]
  ·rw[adl h,adm,if_neg h]
def wJ (n:Nat):bM (aj n) (aj n).length=(aj n).length:=CW n
def Lr {N B:Nat} (hF:Fuel N) (hB:B<=2000000000100) {x:Rat} (hx:Bq B x) (b1 b2:Bool) (l1 l2:List Int) (k:Kx8) :
  Mk N (decide (x.num<0)) (aj x.num.natAbs) false (aj x.den) b1 l1 b2 l2 k=kqR x k:=by
 (unfold Mk; rw[ac]; unfold Jx)
 have h1:=p9 hB hx.1;have h2:=p9 hB hx.2;have hl:=hF.lt;rw[aeb,aa (adk (by omega)),Fv _ _ _ x.den_nz,aeb,aa (adk (by omega))];unfold qi pT Pp OX;rw[kF _ (by omega) (by omega),wJ];dsimp only;rw[kF _ (by omega) (by omega),kF _ (by omega) (by omega),wJ];have e1:(List.take (aj x.num.natAbs).length (List.drop 0 (aj x.num.natAbs)))=aj x.num.natAbs:=by simp
 have e2:(List.take (aj x.den).length (List.drop 0 (aj x.den)))=aj x.den:=by simp
 have e3:decide (0+(aj x.num.natAbs).length<=(aj x.num.natAbs).length)=true:=adk (by omega);have e4:decide (0+(aj x.den).length<=(aj x.den).length)=true:=adk (by omega);rw[e1,e2,e3,e4];unfold kqR krR;by_cases h:x.num<0
 ·have:decide (((((aj x.num.natAbs).length:Nat):Nat):Int)>0)=true:=by rw[l5]; exact adk (by omega)
  rw[adk h,this]; rfl
 ·rw[adl h]; rfl
end Go.Proofs.YtpmoedfiobeilaaGreatDoor
end
