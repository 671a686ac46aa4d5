/- Laws in plain Lean. Conditions: none. -/
import Derived.Test.YtbiingchhnlcnaaGreatDoorC8
set_option linter.defProp false
set_option linter.unusedVariables false
namespace Go.Proofs.YtbiingchhnlcnaaGreatDoor
open Go Go.Mach Ieee
def C6 {A B:Nat} {x y:Rat} (hx:Bq A x) (hy:Bq B y):Bq (A+B) (x*y):=by rw[Rat.mul_def'];refine wI ?_ (dI hx.2 hy.2) (aku x.den_pos y.den_pos);rw[akf]; exact dI hx.1 hy.1
def QH {B:Nat} {y:Rat} (hy:Bq B y) (h:y.num ≠ 0):Bq B (y⁻¹):=by obtain⟨i1,i2,i3⟩:=AE h;exact⟨by rw[i1]; exact hy.2,by rw[i2]; exact hy.1⟩
def GS {A B:Nat} {x y:Rat} (hx:Bq A x) (hy:Bq B y) (h:y.num ≠ 0):Bq (A+B) (x / y):=by rw[Rat.div_def]; exact C6 hx (QH hy h)
def QI {B:Nat} {y:Rat} (hy:Bq B y):Bq B (-y):=⟨by rw[Rat.neg_num,ak4]; exact hy.1,hy.2⟩
def QG {A B:Nat} {x y:Rat} (hx:Bq A x) (hy:Bq B y):Bq (A+B+1) (x+y):=by rw[Rat.add_def'];refine wI (Cd (ut hx.1 hy.2) ?_) (bN (dI hx.2 hy.2) (by omega)) (aku x.den_pos y.den_pos);rw[akm]; exact ut hy.1 hx.2
def Li {A B:Nat} {x y:Rat} (hx:Bq A x) (hy:Bq B y):Bq (A+B+1) (x - y):=by rw[Rat.sub_eq_add_neg]; exact QG hx (QI hy)
def Iq {B:Nat}:Bq (B+1) 0:=⟨aiI _,by show 1<2 ^ (B+1); exact Nat.one_lt_two_pow (by omega)⟩
def enc (x:Rat):RY1:=((decide (x.num<0),af x.num.natAbs),(false,af x.den))
def dC (x:Rat):RY2:=((decide (x.num<0),aj x.num.natAbs),(false,aj x.den))
def mat {α:Type} (g:Rat->α) (n:Nat) (f:Nat->Nat->Rat):List α:=(List.range (n*n)).map (λt=>g (f (t / n) (t%n)))
def pu {α:Type} (g:Rat->α) (n:Nat) (f:Nat->Nat->Rat):(mat g n f).length=n*n:=by unfold mat; rw[akq,List.length_range]
def ke {n i j:Nat} (hi:i<n) (hj:j<n):i*n+j<n*n:=by have h1:(i+1)*n<=n*n:=aiy _ hi;rw[aiY]at h1; omega
def zD {n i j:Nat} (hj:j<n):(i*n+j) / n=i:=by rw[aix,alr (by omega),ai0 hj,ai1]
def zE {n i j:Nat} (hj:j<n):(i*n+j)%n=j:=by rw[aix,akE,aiE hj]
def ll {α:Type} (g:Rat->α) (n:Nat) (f:Nat->Nat->Rat) {i j:Nat} (hi:i<n) (hj:j<n) (z:α):(mat g n f).getD (i*n+j) z=g (f i j):=by have h:=ke hi hj;unfold mat;rw[List.getD_eq_getElem?_getD,List.getElem?_map,List.getElem?_range h];simp only[ajY,ajf,zD hj,zE hj]
def kC {α:Type} (g:Rat->α) (n:Nat) {f f':Nat->Nat->Rat} (h:∀ a b,a<n->b<n->f a b=f' a b):mat g n f=mat g n f':=by
 unfold mat;apply alg;intro t ht;have ht:=List.mem_range.1 ht;have hn:0<n:=by
  rcases ajM n with h0 | h0
  ·rw[h0]at ht; omega
  ·exact h0
 rw[h _ _ (ako ht) (aiJ _ hn)]
def I6 {α:Type} (g:Rat->α) (n:Nat) (f:Nat->Nat->Rat) {i j:Nat} (hi:i<n) (hj:j<n) (v:Rat):(mat g n f).set (i*n+j) (g v)=mat g n (λa b=>if a=i/\b=j then v else f a b):=by
 have h:=ke hi hj;apply List.ext_getElem?;intro t;by_cases ht:t<n*n
 ·have hn:0<n:=by omega
  rw[List.getElem?_set];unfold mat;rw[List.getElem?_map,List.getElem?_map,List.getElem?_range ht];simp only[akq,List.length_range,ajY];by_cases he:i*n+j=t
  ·rw[if_pos he,if_pos h,<- he,zD hj,zE hj,if_pos ⟨rfl,rfl⟩]
  ·rw[if_neg he];have:¬(t / n=i/\t%n=j):=by rintro ⟨h1,h2⟩;apply he;rw[<- h1,<- h2,aix];exact ajo t n
   rw[if_neg this]
 ·rw[List.getElem?_eq_none (by rw[ali,pu]; omega),List.getElem?_eq_none (by rw[pu]; omega)]
def tZ {n:Nat} (h:n<=1000):n*n<=1000000:=by have:n*n<=1000*1000:=ajl h h;omega
def eQ (i j n:Nat):(i:Int)*(n:Int)+(j:Int)=((i*n+j:Nat):Int):=by rw[Int.natCast_add,aiQ]
def eR {n i j:Nat} (hn:n<=1000) (hi:i<n) (hj:j<n):ac .i64 ((i:Int)*(n:Int))=true/\ac .i64 (((i*n+j:Nat):Int))=true:=by have h1:=tZ hn;have h2:=ke hi hj;rw[<- aiQ];exact⟨ab (by omega) (by omega),ab (by omega) (by omega)⟩
def rb {N n i j:Nat} (hn:n<=1000) (hi:i<n) (hj:j<n) (f:Nat->Nat->Rat) (k:Kx6) :
  aY N n n i j (mat enc n f) k=kq (f i j) k:=by
 obtain⟨h1,h2⟩:=eR hn hi hj;have h3:=ke hi hj
 (unfold aY; rw[ae]; unfold fv)
 rw[eQ,aa h1,aa h2,pu,aiA,aa ais,aa (ait h3),ll enc n f hi hj];rfl
def Pk {N n i j:Nat} (hn:n<=1000) (hi:i<n) (hj:j<n) (f:Nat->Nat->Rat) (v:Rat) (k:List RY1->Bool) :
  fF N n n i j (decide (v.num<0)) (af v.num.natAbs) false (af v.den) (mat enc n f) k=k (mat enc n (λa b=>if a=i/\b=j then v else f a b)):=by
 obtain⟨h1,h2⟩:=eR hn hi hj;have h3:=ke hi hj;unfold fF kw;rw[eQ,aa h1,aa h2,pu,aiA,aa ais,aa (ait h3)];exact alE k (I6 enc n f hi hj v)
def uG {N n i j:Nat} (hn:n<=1000) (hi:i<n) (hj:j<n) (f:Nat->Nat->Rat) (k:Kz6) :
  Gn N n n i j (mat dC n f) k=k (i*n+j):=by
 obtain⟨h1,h2⟩:=eR hn hi hj;have h3:=ke hi hj
 (unfold Gn; rw[ae]; unfold QP)
 rw[eQ,aa h1,aa h2,pu,aiA,aa ais,aa (ait h3)]
def D4 (l:List RY2) (i:Nat):List.set l i (((List.getD l i ((false,[]),(false,[]))).1.1,(List.getD l i ((false,[]),(false,[]))).1.2),((List.getD l i ((false,[]),(false,[]))).2.1,(List.getD l i ((false,[]),(false,[]))).2.2))=l:=by
 show List.set l i (List.getD l i ((false,[]),(false,[])))=l;apply List.ext_getElem?;intro t;rw[List.getElem?_set];by_cases h:i=t
 ·subst h;rw[if_pos rfl];by_cases hl:i<l.length
  ·rw[if_pos hl,List.getD_eq_getElem?_getD,List.getElem?_eq_getElem hl]; rfl
  ·rw[if_neg hl,List.getElem?_eq_none (by omega)]
 ·rw[if_neg h]
def v7 {σ:Type} {step:σ->(σ->Bool)->Bool} (C:Nat->σ) (m n:Nat) (hmn:m<=n) {N:Nat} (hn:n<N) {out:Bool} (hs:∀ i,m<=i->i<n -> ∀ K:σ->Bool,step (C i) K=K (C (i+1))) (hx:∀ K,step (C n) K=out):ah N step (C m)=out:=by have:=aD (step:=step) (λi=>C (m+i)) (n - m) (N:=N) (by omega) (out:=out) (λi hi K=>hs (m+i) (by omega) (by omega) K) (λK=>by show step (C (m+(n - m))) K=out; rw[show m+(n - m)=n by omega]; exact hx K);exact this
def xC (f:Nat->Nat->Rat) (i c:Nat) (x:Rat) (t:Nat):Nat->Nat->Rat:=λa b=>if a=i/\b<t then f i b+f c b*x else f a b
def fJ (f:Nat->Nat->Rat) (c m:Nat):Nat->Nat->Rat:=λa b=>if c<a/\a<m then f a b - f a c / f c c*f c b else f a b
def pY (B n:Nat) (f:Nat->Nat->Rat):Prop:=∀ a b,a<n->b<n->Bq B (f a b)
def Ns {N B n i c:Nat} (hF:Fuel N) (hB:B<=300000000000) (hn:n<=1000) (hi:i<n) (hc:c<n) (hic:c ≠ i) {f:Nat->Nat->Rat} (hf:pY B n f) {x:Rat} (hx:Bq (2*B) x) (k:List RY1->Bool) :
  fE N n n i c (decide (x.num<0)) (af x.num.natAbs) false (af x.den) (mat enc n f) k=k (mat enc n (xC f i c x n)):=by
 have hN:=hF.lt
 (unfold fE; rw[ae]; unfold fu)
 have h0:mat enc n f=mat enc n (xC f i c x 0):=kC _ _ (λa b _ _=>by unfold xC; rw[if_neg (by omega)]);rw[h0];refine aD (λt:Nat=>((t:Int),mat enc n (xC f i c x t))) n (by omega) ?_ ?_
 ·intro t ht K;unfold cH;dsimp only;rw[ait (by omega:(t:Int)<(n:Int)),aiw,rb hn hi ht];have e1:xC f i c x t i t=f i t:=by unfold xC; rw[if_neg (by omega)]
  have e2:xC f i c x t c t=f c t:=by unfold xC; rw[if_neg (by omega)]
  unfold kq kr;dsimp only;rw[rb hn hc ht,e1,e2];unfold kq kr;dsimp only;rw[Pe hF (B:=2*B) (by omega) ((hf c t hc ht).mono (by omega)) hx];unfold kq kr;dsimp only;rw[Pd hF (B:=3*B) (by omega) ((hf i t hi ht).mono (by omega)) ((C6 (hf c t hc ht) hx).mono (by omega))];unfold kq kr;dsimp only;rw[Pk hn hi ht,aa air];have e3:mat enc n (λa b=>if a=i/\b=t then f i t+f c t*x else xC f i c x t a b)=mat enc n (xC f i c x (t+1)):=kC _ _ (λa b _ _=>by
   unfold xC;by_cases h:a=i/\b=t
   ·rw[if_pos h,if_pos (by omega),h.2]
   ·rw[if_neg h];by_cases h2:a=i/\b<t
    ·rw[if_pos h2,if_pos (by omega)]
    ·rw[if_neg h2,if_neg (by omega)])
  rw[e3];rfl
 ·intro K;unfold cH;dsimp only;rw[aiu (by omega:¬(n:Int)<(n:Int)),aiv]
def pr (f:Nat->Nat->Rat) (i c:Nat) (r:Rat) (t:Nat):Nat->Nat->Rat:=λa b=>if a=i/\b<t then f i b - r*f c b else f a b
def Kq {N B n i c:Nat} (hF:Fuel N) (hB:B<=300000000000) (hn:n<=1000) (hi:i<n) (hc:c<n) (hic:c ≠ i) {f:Nat->Nat->Rat} (hf:pY B n f) {r:Rat} (hx:Bq (2*B) r) (k:List RY2->Bool) :
  TI N n n i c (mat dC n f) (decide (r.num<0)) (aj r.num.natAbs) false (aj r.den) k=k (mat dC n (pr f i c r n)):=by
 have hN:=hF.lt
 (unfold TI; rw[ae]; unfold QZ)
 have h0:mat dC n f=mat dC n (pr f i c r 0):=kC _ _ (λa b _ _=>by unfold pr; rw[if_neg (by omega)]);rw[h0];refine aD (λt:Nat=>((t:Int),mat dC n (pr f i c r t))) n (by omega) ?_ ?_
 ·intro t ht K;unfold Ec;dsimp only;rw[ait (by omega:(t:Int)<(n:Int)),aiw,uG hn hi ht,uG hn hi ht,uG hn hc ht,D4];have e1:pr f i c r t i t=f i t:=by unfold pr; rw[if_neg (by omega)]
  have e2:pr f i c r t c t=f c t:=by unfold pr; rw[if_neg (by omega)]
  rw[ll dC n _ hi ht,ll dC n _ hc ht,e1,e2];unfold dC;dsimp only;rw[Nx hF (B:=2*B) (by omega) hx ((hf c t hc ht).mono (by omega))];unfold kqR krR;dsimp only;rw[aa (ait rfl),NH hF (B:=3*B) (by omega) ((hf i t hi ht).mono (by omega)) ((C6 hx (hf c t hc ht)).mono (by omega))];unfold kqR krR;dsimp only;rw[aa air];have e4:=I6 dC n (pr f i c r t) hi ht (f i t - r*f c t);have e3:mat dC n (λa b=>if a=i/\b=t then f i t - r*f c t else pr f i c r t a b)=mat dC n (pr f i c r (t+1)):=kC _ _ (λa b _ _=>by
   unfold pr;by_cases h:a=i/\b=t
   ·rw[if_pos h,if_pos (by omega),h.2]
   ·rw[if_neg h];by_cases h2:a=i/\b<t
    ·rw[if_pos h2,if_pos (by omega)]
    ·rw[if_neg h2,if_neg (by omega)])
  rw[e3]at e4;exact alE (λl=>K ((t:Int)+1,l)) e4
 ·intro K;unfold Ec;dsimp only;rw[aiu (by omega:¬(n:Int)<(n:Int)),aiv]
end Go.Proofs.YtbiingchhnlcnaaGreatDoor
