/- Laws in plain Lean. Conditions: none. -/
import Derived.Test.YtdinakfmablagaaGreatDoorC8
set_option linter.unusedVariables false
section
namespace Go.Proofs.YtdinakfmablagaaGreatDoor
open Go Go.Mach Ieee
theorem Dn {A B:Nat} {x y:Rat} (hx:Bq A x) (hy:Bq B y):Bq (A+B) (x*y):=by rw[Rat.mul_def'];refine wo ?_ (dJ hx.2 hy.2) (ahj x.den_pos y.den_pos);rw[ahf]; exact dJ hx.1 hy.1
theorem Tb {B:Nat} {y:Rat} (hy:Bq B y) (h:y.num ≠ 0):Bq B (y⁻¹):=by obtain⟨i1,i2,i3⟩:=AL h;exact⟨by rw[i1]; exact hy.2,by rw[i2]; exact hy.1⟩
theorem Hh {A B:Nat} {x y:Rat} (hx:Bq A x) (hy:Bq B y) (h:y.num ≠ 0):Bq (A+B) (x / y):=by rw[Rat.div_def]; exact Dn hx (Tb hy h)
theorem Tc {B:Nat} {y:Rat} (hy:Bq B y):Bq B (-y):=⟨by rw[Rat.neg_num,ahZ]; exact hy.1,hy.2⟩
theorem Ta {A B:Nat} {x y:Rat} (hx:Bq A x) (hy:Bq B y):Bq (A+B+1) (x+y):=by rw[Rat.add_def'];refine wo (Cp (tW hx.1 hy.2) ?_) (bX (dJ hx.2 hy.2) (by omega)) (ahj x.den_pos y.den_pos);rw[ahi]; exact tW hy.1 hx.2
theorem MH {A B:Nat} {x y:Rat} (hx:Bq A x) (hy:Bq B y):Bq (A+B+1) (x - y):=by rw[Rat.sub_eq_add_neg]; exact Ta hx (Tc hy)
theorem I1 {B:Nat}:Bq (B+1) 0:=⟨afy _,by show 1<2 ^ (B+1); exact Nat.one_lt_two_pow (by omega)⟩
def enc (x:Rat):RY1:=((decide (x.num<0),ae x.num.natAbs),(false,ae x.den))
def dD (x:Rat):RY2:=((decide (x.num<0),aj x.num.natAbs),(false,aj x.den))
def mat {α:Type} (g:Rat->α) (n:Nat) (f:Nat->Nat->Rat):List α:=(List.range (n*n)).map (λt=>g (f (t / n) (t%n)))
theorem oU {α:Type} (g:Rat->α) (n:Nat) (f:Nat->Nat->Rat):(mat g n f).length=n*n:=by unfold mat; rw[ahm,List.length_range]
theorem iU {n i j:Nat} (hi:i<n) (hj:j<n):i*n+j<n*n:=by have h1:(i+1)*n<=n*n:=afm _ hi;rw[afM]at h1; omega
theorem ug {n i j:Nat} (hj:j<n):(i*n+j) / n=i:=by rw[afn,aij (by omega),afO hj,afR]
theorem uh {n i j:Nat} (hj:j<n):(i*n+j)%n=j:=by rw[afn,ahy,afu hj]
theorem kE {α:Type} (g:Rat->α) (n:Nat) (f:Nat->Nat->Rat) {i j:Nat} (hi:i<n) (hj:j<n) (z:α):(mat g n f).getD (i*n+j) z=g (f i j):=by have h:=iU hi hj;unfold mat;rw[List.getD_eq_getElem?_getD,List.getElem?_map,List.getElem?_range h];simp only[agL,af8,ug hj,uh hj]
theorem kb {α:Type} (g:Rat->α) (n:Nat) {f f':Nat->Nat->Rat} (h:∀ a b,a<n->b<n->f a b=f' a b):mat g n f=mat g n f':=by
 unfold mat;apply ahI;intro t ht;have ht:=List.mem_range.1 ht;have hn:0<n:=by
  rcases agH n with h0 | h0
  ·rw[h0]at ht; omega
  ·exact h0
 rw[h _ _ (ahk ht) (afA _ hn)]
theorem JK {α:Type} (g:Rat->α) (n:Nat) (f:Nat->Nat->Rat) {i j:Nat} (hi:i<n) (hj:j<n) (v:Rat):(mat g n f).set (i*n+j) (g v)=mat g n (λa b=>if a=i/\b=j then v else f a b):=by
 have h:=iU hi hj;apply List.ext_getElem?;intro t;by_cases ht:t<n*n
 ·have hn:0<n:=by omega
  rw[List.getElem?_set];unfold mat;rw[List.getElem?_map,List.getElem?_map,List.getElem?_range ht];simp only[ahm,List.length_range,agL];by_cases he:i*n+j=t
  ·rw[if_pos he,if_pos h,<- he,ug hj,uh hj,if_pos ⟨rfl,rfl⟩]
  ·rw[if_neg he];have:¬(t / n=i/\t%n=j):=by rintro ⟨h1,h2⟩;apply he;rw[<- h1,<- h2,afn];exact af_ t n
   rw[if_neg this]
 ·rw[List.getElem?_eq_none (by rw[ahP,oU]; omega),List.getElem?_eq_none (by rw[oU]; omega)]
theorem tC {n:Nat} (h:n<=1000):n*n<=1000000:=by have:n*n<=1000*1000:=af7 h h;omega
theorem bE (i j n:Nat):(i:Int)*(n:Int)+(j:Int)=((i*n+j:Nat):Int):=by rw[Int.natCast_add,afF]
theorem ct {n i j:Nat} (hn:n<=1000) (hi:i<n) (hj:j<n):af .i64 ((i:Int)*(n:Int))=true/\af .i64 (((i*n+j:Nat):Int))=true:=by have h1:=tC hn;have h2:=iU hi hj;rw[<- afF];exact⟨ab (by omega) (by omega),ab (by omega) (by omega)⟩
theorem qL {N n i j:Nat} (hn:n<=1000) (hi:i<n) (hj:j<n) (f:Nat->Nat->Rat) (k:Kx4) :
  br N n n i j (mat enc n f) k=kq (f i j) k:=by
 obtain⟨h1,h2⟩:=ct hn hi hj;have h3:=iU hi hj
 (unfold br; rw[ac]; unfold fD)
 rw[bE,aa h1,aa h2,oU,afo,aa afh,aa (afi h3),kE enc n f hi hj];rfl
theorem Rn {N n i j:Nat} (hn:n<=1000) (hi:i<n) (hj:j<n) (f:Nat->Nat->Rat) (v:Rat) (k:List RY1->Bool) :
  fS N n n i j (decide (v.num<0)) (ae v.num.natAbs) false (ae v.den) (mat enc n f) k=k (mat enc n (λa b=>if a=i/\b=j then v else f a b)):=by
 obtain⟨h1,h2⟩:=ct hn hi hj;have h3:=iU hi hj;unfold fS jW;rw[bE,aa h1,aa h2,oU,afo,aa afh,aa (afi h3)];exact aio k (JK enc n f hi hj v)
theorem uk {N n i j:Nat} (hn:n<=1000) (hi:i<n) (hj:j<n) (f:Nat->Nat->Rat) (k:Kz3) :
  GL N n n i j (mat dD n f) k=k (i*n+j):=by
 obtain⟨h1,h2⟩:=ct hn hi hj;have h3:=iU hi hj
 (unfold GL; rw[ac]; unfold Tl)
 rw[bE,aa h1,aa h2,oU,afo,aa afh,aa (afi h3)]
theorem Ei (l:List RY2) (i:Nat):List.set l i (((List.getD l i ((false,[]),(false,[]))).1.1,(List.getD l i ((false,[]),(false,[]))).1.2),((List.getD l i ((false,[]),(false,[]))).2.1,(List.getD l i ((false,[]),(false,[]))).2.2))=l:=by
 show List.set l i (List.getD l i ((false,[]),(false,[])))=l;apply List.ext_getElem?;intro t;rw[List.getElem?_set];by_cases h:i=t
 ·subst h;rw[if_pos rfl];by_cases hl:i<l.length
  ·rw[if_pos hl,List.getD_eq_getElem?_getD,List.getElem?_eq_getElem hl]; rfl
  ·rw[if_neg hl,List.getElem?_eq_none (by omega)]
 ·rw[if_neg h]
theorem vL {σ:Type} {step:σ->(σ->Bool)->Bool} (C:Nat->σ) (m n:Nat) (hmn:m<=n) {N:Nat} (hn:n<N) {out:Bool} (hs:∀ i,m<=i->i<n -> ∀ K:σ->Bool,step (C i) K=K (C (i+1))) (hx:∀ K,step (C n) K=out):ah N step (C m)=out:=by have:=aP (step:=step) (λi=>C (m+i)) (n - m) (N:=N) (by omega) (out:=out) (λi hi K=>hs (m+i) (by omega) (by omega) K) (λK=>by show step (C (m+(n - m))) K=out; rw[show m+(n - m)=n by omega]; exact hx K);exact this
def xE (f:Nat->Nat->Rat) (i c:Nat) (x:Rat) (t:Nat):Nat->Nat->Rat:=λa b=>if a=i/\b<t then f i b+f c b*x else f a b
def f9 (f:Nat->Nat->Rat) (c m:Nat):Nat->Nat->Rat:=λa b=>if c<a/\a<m then f a b - f a c / f c c*f c b else f a b
def pH (B n:Nat) (f:Nat->Nat->Rat):Prop:=∀ a b,a<n->b<n->Bq B (f a b)
theorem OW {N B n i c:Nat} (hF:Fuel N) (hB:B<=300000000000) (hn:n<=1000) (hi:i<n) (hc:c<n) (hic:c ≠ i) {f:Nat->Nat->Rat} (hf:pH B n f) {x:Rat} (hx:Bq (2*B) x) (k:List RY1->Bool) :
  fO N n n i c (decide (x.num<0)) (ae x.num.natAbs) false (ae x.den) (mat enc n f) k=k (mat enc n (xE f i c x n)):=by
 have hN:=hF.lt
 (unfold fO; rw[ac]; unfold fC)
 have h0:mat enc n f=mat enc n (xE f i c x 0):=kb _ _ (λa b _ _=>by unfold xE; rw[if_neg (by omega)]);rw[h0];refine aP (λt:Nat=>((t:Int),mat enc n (xE f i c x t))) n (by omega) ?_ ?_
 ·intro t ht K;unfold cK;dsimp only;rw[afi (by omega:(t:Int)<(n:Int)),afl,qL hn hi ht];have e1:xE f i c x t i t=f i t:=by unfold xE; rw[if_neg (by omega)]
  have e2:xE f i c x t c t=f c t:=by unfold xE; rw[if_neg (by omega)]
  unfold kq kr;dsimp only;rw[qL hn hc ht,e1,e2];unfold kq kr;dsimp only;rw[Rh hF (B:=2*B) (by omega) ((hf c t hc ht).mono (by omega)) hx];unfold kq kr;dsimp only;rw[Rd hF (B:=3*B) (by omega) ((hf i t hi ht).mono (by omega)) ((Dn (hf c t hc ht) hx).mono (by omega))];unfold kq kr;dsimp only;rw[Rn hn hi ht,aa afg];have e3:mat enc n (λa b=>if a=i/\b=t then f i t+f c t*x else xE f i c x t a b)=mat enc n (xE f i c x (t+1)):=kb _ _ (λa b _ _=>by
   unfold xE;by_cases h:a=i/\b=t
   ·rw[if_pos h,if_pos (by omega),h.2]
   ·rw[if_neg h];by_cases h2:a=i/\b<t
    ·rw[if_pos h2,if_pos (by omega)]
    ·rw[if_neg h2,if_neg (by omega)])
  rw[e3];rfl
 ·intro K;unfold cK;dsimp only;rw[afj (by omega:¬(n:Int)<(n:Int)),afk]
def oT (f:Nat->Nat->Rat) (i c:Nat) (r:Rat) (t:Nat):Nat->Nat->Rat:=λa b=>if a=i/\b<t then f i b - r*f c b else f a b
theorem Ls {N B n i c:Nat} (hF:Fuel N) (hB:B<=300000000000) (hn:n<=1000) (hi:i<n) (hc:c<n) (hic:c ≠ i) {f:Nat->Nat->Rat} (hf:pH B n f) {r:Rat} (hx:Bq (2*B) r) (k:List RY2->Bool) :
  Wa N n n i c (mat dD n f) (decide (r.num<0)) (aj r.num.natAbs) false (aj r.den) k=k (mat dD n (oT f i c r n)):=by
 have hN:=hF.lt
 (unfold Wa; rw[ac]; unfold Tu)
 have h0:mat dD n f=mat dD n (oT f i c r 0):=kb _ _ (λa b _ _=>by unfold oT; rw[if_neg (by omega)]);rw[h0];refine aP (λt:Nat=>((t:Int),mat dD n (oT f i c r t))) n (by omega) ?_ ?_
 ·intro t ht K;unfold Ep;dsimp only;rw[afi (by omega:(t:Int)<(n:Int)),afl,uk hn hi ht,uk hn hi ht,uk hn hc ht,Ei];have e1:oT f i c r t i t=f i t:=by unfold oT; rw[if_neg (by omega)]
  have e2:oT f i c r t c t=f c t:=by unfold oT; rw[if_neg (by omega)]
  rw[kE dD n _ hi ht,kE dD n _ hc ht,e1,e2];unfold dD;dsimp only;rw[O9 hF (B:=2*B) (by omega) hx ((hf c t hc ht).mono (by omega))];unfold kqR krR;dsimp only;rw[aa (afi rfl),Pi hF (B:=3*B) (by omega) ((hf i t hi ht).mono (by omega)) ((Dn hx (hf c t hc ht)).mono (by omega))];unfold kqR krR;dsimp only;rw[aa afg];have e4:=JK dD n (oT f i c r t) hi ht (f i t - r*f c t);have e3:mat dD n (λa b=>if a=i/\b=t then f i t - r*f c t else oT f i c r t a b)=mat dD n (oT f i c r (t+1)):=kb _ _ (λa b _ _=>by
   unfold oT;by_cases h:a=i/\b=t
   ·rw[if_pos h,if_pos (by omega),h.2]
   ·rw[if_neg h];by_cases h2:a=i/\b<t
    ·rw[if_pos h2,if_pos (by omega)]
    ·rw[if_neg h2,if_neg (by omega)])
  rw[e3]at e4;exact aio (λl=>K ((t:Int)+1,l)) e4
 ·intro K;unfold Ep;dsimp only;rw[afj (by omega:¬(n:Int)<(n:Int)),afk]
def vx (g:Nat->Rat):Nat->Nat->Bool
 | i,0=>true
 | i,d+1=>decide (g i=0)&&vx g (i+1) d
theorem Aa {g h:Nat->Rat}:∀ d i,(∀ j,i<=j->j<i+d->g j=h j)->vx g i d=vx h i d
 | 0,i,_=>rfl
 | d+1,i,e=>by unfold vx;rw[e i (afw _) (by omega),Aa d (i+1) (λj h1 h2=>e j (by omega) (by omega))]
def tA (n:Nat):Nat->Nat->Int->(Nat->Nat->Rat)->Int
 | 0,c,s,f=>s
 | d+1,c,s,f=>if (f c c).num<0 then 1 else if f c c=0 then(if vx (λi=>f i c) (c+1) d=true then tA n d (c+1) 2 f else 1)else tA n d (c+1) s (f9 f c n)
theorem GO (z:Int):decide (xl z<0)=decide (z<0):=by
 unfold xl;by_cases h0:z=0
 ·rw[if_pos h0,h0]
 ·rw[if_neg h0];by_cases h:z<0
  ·rw[if_pos h,afi h]; rfl
  ·rw[if_neg h,afj h]; rfl
theorem sT {x:Rat}:(x.num=0)↔x=0:=Rat.num_eq_zero
theorem tz (x:Rat):(xl x.num==0)=decide (x=0):=by
 rw[Mo];by_cases h:x=0
 ·rw[afi h,afi (sT.2 h)]
 ·rw[afj h,afj (λg=>h (sT.1 g))]
theorem R_ (x:Rat):(xl x.num != 0) = !decide (x=0):=by rw[<- tz]; rfl
theorem uc {B n c m:Nat} {f:Nat->Nat->Rat} (hf:pH B n f) (hc:c<n) (h0:f c c ≠ 0):pH (4*B+1) n (f9 f c m):=by
 intro a b ha hb;unfold f9;split
 ·exact(MH (hf a b ha hb) (Dn (Hh (hf a c ha hc) (hf c c hc hc) (λh=>h0 (sT.1 h))) (hf c b hc hb))).mono (by omega)
 ·exact(hf a b ha hb).mono (by omega)
theorem Ar (f:Nat->Nat->Rat) (c:Nat) {α:Type} (g:Rat->α) (n:Nat):mat g n (f9 f c (c+1))=mat g n f:=kb _ _ (λa b _ _=>by unfold f9; rw[if_neg (by omega)])
theorem sA {f:Nat->Nat->Rat} {c i:Nat} (b:Nat):f9 f c i i b=f i b:=by unfold f9; rw[if_neg (by omega)]
theorem As {f:Nat->Nat->Rat} {c i:Nat} (b:Nat):f9 f c i c b=f c b:=by unfold f9; rw[if_neg (by omega)]
theorem xJ {f:Nat->Nat->Rat} {c i a b:Nat} (h:c<i):f9 f c (i+1) a b=if a=i then f i b - f i c / f c c*f c b else f9 f c i a b:=by
 unfold f9;by_cases h1:a=i
 ·rw[if_pos h1,if_pos (by omega),h1]
 ·rw[if_neg h1];by_cases h2:c<a/\a<i
  ·rw[if_pos h2,if_pos (by omega)]
  ·rw[if_neg h2,if_neg (by omega)]
theorem PA (x y p q:Rat):q+y*(0 - x / p)=q - x / p*y:=by grind
theorem Pz (p q y:Rat):q - 0 / p*y=q:=by grind
theorem PB (x y p:Rat):x / p*y=y / p*x:=by grind
theorem Pe {N B n c:Nat} (hF:Fuel N) (hB:4*B+1<=300000000000) (hn:n<=1000) (hc:c<n) (s:Int) (t1 t2:Int) {f:Nat->Nat->Rat} (hf:pH B n f) (h0:f c c ≠ 0) (e0:Int->List RY1->Bool) (e1:List RY1->Bool) :
  ah N (aC N s (c:Int) t1 t2 (n:Int) (n:Int) (decide ((f c c).num<0)) (ae (f c c).num.natAbs) false (ae (f c c).den) e0 e1) (((c+1:Nat):Int),mat enc n f)=e1 (mat enc n (f9 f c n)):=by
 have hN:=hF.lt;rw[<- Ar f c enc n];refine vL (λi:Nat=>((i:Int),mat enc n (f9 f c i))) (c+1) n (by omega) (by omega) ?_ ?_
 ·intro i hi1 hi2 K;unfold aC;dsimp only;rw[afi (by omega:(i:Int)<(n:Int)),afl,qL hn hi2 hc,sA];unfold kq kr;dsimp only;rw[my,tz];by_cases hz:f i c=0
  ·rw[afi hz,afl,aa afg];have:mat enc n (f9 f c (i+1))=mat enc n (f9 f c i):=kb _ _ (λa b _ _=>by
    rw[xJ (by omega)];by_cases h1:a=i
    ·rw[if_pos h1,h1,sA,hz,Pz]
    ·rw[if_neg h1])
   rw[this];rfl
  ·rw[afj hz,afk,my,tz,afj h0,afk,Im hF];unfold kq kr;dsimp only;have hp:(f c c).num ≠ 0:=λh=>h0 (sT.1 h)
   have bx:=hf i c hi2 hc;have bp:=hf c c hc hc;have bq:=Hh bx bp hp;rw[Rm hF (B:=B) (by omega) bx bp hp];unfold kq kr;dsimp only;have bz:Bq (B+B+1) 0:=I1;rw[F9 hF (B:=B+B+1) (by omega) bz (bq.mono (by omega))];unfold kq kr;dsimp only;have bs:Bq (2*(4*B+1)) (0 - f i c / f c c):=(MH (A:=1) (I1 (B:=0)) bq).mono (by omega);rw[OW hF (B:=4*B+1) hB hn hi2 hc (by omega) (uc hf hc h0) bs,aa afg];have:mat enc n (f9 f c (i+1))=mat enc n (xE (f9 f c i) i c (0 - f i c / f c c) n):=kb _ _ (λa b _ hb=>by
    rw[xJ (by omega)];unfold xE;by_cases h1:a=i
    ·rw[if_pos h1,if_pos ⟨h1,hb⟩,sA,As,PA]
    ·rw[if_neg h1,if_neg (by omega)])
   rw[this];rfl
 ·intro K;unfold aC;dsimp only;rw[afj (by omega:¬(n:Int)<(n:Int)),afk]
theorem Lx {N n c:Nat} (hF:Fuel N) (hn:n<=1000) (hc:c<n) (s:Int) (t1 t2:Int) {f:Nat->Nat->Rat} (h0:f c c=0) (e0:Int->List RY1->Bool) (e1:List RY1->Bool):∀(d i M:Nat),i+d=n->d<M ->
  ah M (aC N s (c:Int) t1 t2 (n:Int) (n:Int) (decide ((f c c).num<0)) (ae (f c c).num.natAbs) false (ae (f c c).den) e0 e1) ((i:Int),mat enc n f)=if vx (λi=>f i c) i d=true then e1 (mat enc n f)else e0 1 (mat enc n f):=by
 intro d;induction d with
 | zero=>
  intro i M hi hM;cases M with
  | zero=>omega
  | succ M=>
   show aC _ _ _ _ _ _ _ _ _ _ _ _ _ ((i:Int),mat enc n f) (ah M _)=_;unfold aC vx;dsimp only;rw[afj (by omega:¬(i:Int)<(n:Int)),afk,if_pos rfl]
 | succ d ih=>
  intro i M hi hM;cases M with
  | zero=>omega
  | succ M=>
   have hi2:i<n:=by omega
   show aC _ _ _ _ _ _ _ _ _ _ _ _ _ ((i:Int),mat enc n f) (ah M _)=_;rw[aC];rw[afi (by omega:(i:Int)<(n:Int)),afl,qL hn hi2 hc];unfold kq kr;dsimp only;rw[my,tz,vx];by_cases hz:f i c=0
   ·rw[afi hz,afl,aa afg,agq];exact ih (i+1) M (by omega) (by omega)
   ·rw[afj hz,afk,my,tz,afi h0,afl,ahY,if_neg (by decide)]
theorem DR {N n:Nat} (hF:Fuel N) (hn:n<=1000) (k:Kz2):∀(d c B M:Nat) (s:Int) (f:Nat->Nat->Rat),c+d=n->d<M->pH B n f->(B+1)*4 ^ d<=100000000000 ->
  ah M (aR N (n:Int) (n:Int) (n:Int) (λt _=>k t) (λt _=>k t)) (s,(c:Int),mat enc n f)=k (tA n d c s f):=by
 intro d;induction d with
 | zero=>
  intro c B M s f hc hM _ _;cases M with
  | zero=>omega
  | succ M=>
   show aR _ _ _ _ _ _ (s,(c:Int),mat enc n f) (ah M _)=_;rw[aR];rw[afj (by omega:¬(c:Int)<(n:Int)),afk];rfl
 | succ d ih=>
  intro c B M s f hc hM hf hB;cases M with
  | zero=>omega
  | succ M=>
   have hN:=hF.lt;have hcn:c<n:=by omega
   have h4:(4*B+1+1)*4 ^ d<=100000000000:=by
    have h1:(4*B+1+1)*4 ^ d<=(B+1)*4*4 ^ d:=afm _ (by omega);have h2:(B+1)*4*4 ^ d=(B+1)*4 ^ (d+1):=by rw[afv,aft,afn 4 (4 ^ d)]
    omega
   have hB2:4*B+1+1<=100000000000:=by have:0<4 ^ d:=agt (by decide);have h1:(4*B+1+1)*1<=(4*B+1+1)*4 ^ d:=afq _ this;omega
   show aR _ _ _ _ _ _ (s,(c:Int),mat enc n f) (ah M _)=_;rw[aR];rw[afi (by omega:(c:Int)<(n:Int)),afl,qL hn hcn hcn];unfold kq kr;dsimp only;rw[my,GO,tA];by_cases hneg:(f c c).num<0
   ·rw[afi hneg,afl,if_pos hneg]
   ·rw[afj hneg,afk,if_neg hneg,aa afg];by_cases h0:f c c=0
    ·rw[if_pos h0];have hr:=λe0 e1=>Lx hF hn hcn s (n:Int) (c:Int) h0 e0 e1 d (c+1) N (by omega) (by omega)
     rw[afj hneg]at hr;rw[show(c:Int)+1=((c+1:Nat):Int) from rfl,hr];by_cases hz:vx (λi=>f i c) (c+1) d=true
     ·rw[if_pos hz,if_pos hz];have hs:=my (N:=N) (f c c);rw[afj hneg]at hs;rw[hs,tz,afi h0,afl,aa afg];exact ih (c+1) B M 2 f (by omega) (by omega) hf (by have:(B+1)*4 ^ d<=(4*B+1+1)*4 ^ d:=afm _ (by omega);omega)
     ·rw[if_neg hz,if_neg hz]
    ·rw[if_neg h0];have hr:=λe0 e1=>Pe hF (by omega) hn hcn s (n:Int) (c:Int) hf h0 e0 e1
     rw[afj hneg]at hr;rw[show(c:Int)+1=((c+1:Nat):Int) from rfl,hr];have hs:=my (N:=N) (f c c);rw[afj hneg]at hs;rw[hs,tz,afj h0,afk,aa afg];exact ih (c+1) (4*B+1) M s (f9 f c n) (by omega) (by omega) (uc hf hcn h0) h4
theorem Pk {N B n:Nat} (hF:Fuel N) (hB:B<=300000000000) (hn:n<=1000) {f:Nat->Nat->Rat} (hf:pH B n f) (hs:∀ a b,a<n->b<n->f a b=f b a) (k:Bool) :
  dm N n n (mat enc n f) k=k:=by
 have hN:=hF.lt
 (unfold dm; rw[ac]; unfold de)
 refine aP (λt:Nat=>(t:Int)) n (by omega) ?_ ?_
 ·intro i hi K;unfold bS;dsimp only;rw[afi (by omega:(i:Int)<(n:Int)),afl];refine aP (λt:Nat=>(t:Int)) i (by omega) ?_ ?_
  ·intro j hj K';have hj2:j<n:=by omega
   unfold bT;dsimp only;rw[afi (by omega:(j:Int)<(i:Int)),afl,qL hn hi hj2];unfold kq kr;dsimp only;rw[qL hn hj2 hi];unfold kq kr;dsimp only;rw[F9 hF (B:=B) (by omega) (hf i j hi hj2) (hf j i hj2 hi)];unfold kq kr;dsimp only;have e:xl (f i j - f j i).num=0:=by
    have:f i j - f j i=0:=by rw[hs i j hi hj2]; grind
    rw[this]; rfl
   rw[my,e,qK,aa afg];rfl
  ·intro K';unfold bT;dsimp only;rw[afj (by omega:¬(i:Int)<(i:Int)),afk,aa afg];rfl
 ·intro K;unfold bS;dsimp only;rw[afj (by omega:¬(n:Int)<(n:Int)),afk]
theorem Lp {N B n:Nat} (hF:Fuel N) (hn:n<=1000) {f:Nat->Nat->Rat} (hf:pH B n f) (hs:∀ a b,a<n->b<n->f a b=f b a) (hB:(B+1)*4 ^ n<=100000000000) (k:Kz2) :
  fh N n n (mat enc n f) (λt _=>k t)=k (tA n n 0 3 f):=by
 have hN:=hF.lt;have hB2:B<=300000000000:=by have:0<4 ^ n:=agt (by decide);have h1:(B+1)*1<=(B+1)*4 ^ n:=afq _ this;omega
 unfold fh jo;have e:((n:Int)==(n:Int))=((0:Int)==0):=by simp
 rw[e,qK,Pk hF hB2 hn hf hs]
 (unfold gH; rw[ac]; unfold dB)
 exact DR hF hn k n 0 B N 3 f (by omega) (by omega) hf hB
theorem Ly {N B n c:Nat} (hF:Fuel N) (hB:4*B+1<=300000000000) (hn:n<=1000) (hc:c<n) (s:Int) {f:Nat->Nat->Rat} (hf:pH B n f) (h0:f c c ≠ 0) (e0:List RY2->Bool) :
  ah N (BK N s (c:Int) (c*n+c) (n:Int) (n:Int) e0) (((c+1:Nat):Int),mat dD n f)=e0 (mat dD n (f9 f c n)):=by
 have hN:=hF.lt;rw[<- Ar f c dD n];refine vL (λi:Nat=>((i:Int),mat dD n (f9 f c i))) (c+1) n (by omega) (by omega) ?_ ?_
 ·intro i hi1 hi2 K;unfold BK;dsimp only;have hne:¬(c*n+c=i*n+c):=by
   intro h;have:c*n=i*n:=by omega
   have:=agO (by omega) this;omega
  rw[afi (by omega:(i:Int)<(n:Int)),afl,uk hn hi2 hc,afj hne,aa (a:=(!false&&true)) rfl,Ei,Ei,kE dD n _ hi2 hc,kE dD n _ hc hc,sA,As];have hp:(f c c).num ≠ 0:=λh=>h0 (sT.1 h)
  have bx:=hf i c hi2 hc;have bp:=hf c c hc hc;have bq:=Hh bx bp hp;have hq:=λkk=>Pc (N:=N) (b1:=false) (b2:=false) hF (B:=B) (by omega) bx bp hp kk
  have he:∀ x:Rat,dD x=((decide (x.num<0),aj x.num.natAbs),(false,aj x.den)):=λx=>rfl
  rw[he (f i c),he (f c c)];dsimp only;rw[hq];unfold kqR krR;dsimp only;rw[Ls hF (B:=4*B+1) hB hn hi2 hc (by omega) (uc hf hc h0) (bq.mono (by omega)),aa afg];have:mat dD n (f9 f c (i+1))=mat dD n (oT (f9 f c i) i c (f i c / f c c) n):=kb _ _ (λa b _ hb=>by
   rw[xJ (by omega)];unfold oT;by_cases h1:a=i
   ·rw[if_pos h1,if_pos ⟨h1,hb⟩,sA,As]
   ·rw[if_neg h1,if_neg (by omega)])
  rw[this];rfl
 ·intro K;unfold BK;dsimp only;rw[afj (by omega:¬(n:Int)<(n:Int)),afk]
theorem Ij {N n c:Nat} (hF:Fuel N) (hn:n<=1000) (hc:c<n) {f:Nat->Nat->Rat} (e0:Int->Bool) (e1:Bool):∀(d i M:Nat),i+d=n->d<M ->
  ah M (BO N (c:Int) (n:Int) (n:Int) (mat dD n f) e0 e1) ((i:Int))=if vx (λi=>f c i) i d=true then e1 else e0 1:=by
 intro d;induction d with
 | zero=>
  intro i M hi hM;cases M with
  | zero=>omega
  | succ M=>
   show BO _ _ _ _ _ _ _ (i:Int) (ah M _)=_;unfold BO vx;dsimp only;rw[afj (by omega:¬(i:Int)<(n:Int)),afk,if_pos rfl]
 | succ d ih=>
  intro i M hi hM;cases M with
  | zero=>omega
  | succ M=>
   have hi2:i<n:=by omega
   show BO _ _ _ _ _ _ _ (i:Int) (ah M _)=_;rw[BO];have he:∀ x:Rat,dD x=((decide (x.num<0),aj x.num.natAbs),(false,aj x.den)):=λx=>rfl
   rw[afi (by omega:(i:Int)<(n:Int)),afl,uk hn hc hi2,kE dD n _ hc hi2,he (f c i)];dsimp only;rw[yb,R_,vx];by_cases hz:f c i=0
   ·rw[afi hz,agd,afk,aa afg,agq];exact ih (i+1) M (by omega) (by omega)
   ·rw[afj hz,af1,afl,ahY,if_neg (by decide)]
def Vq (n c:Nat) (f:Nat->Nat->Rat):Prop:=∀ a b,c<=a->c<=b->a<n->b<n->f a b=f b a
theorem Ob {n c:Nat} {f:Nat->Nat->Rat} (h:Vq n c f) (hc:c<n):Vq n (c+1) (f9 f c n):=by intro a b ha hb han hbn;unfold f9;rw[if_pos ⟨by omega,han⟩,if_pos ⟨by omega,hbn⟩,h a b (by omega) (by omega) han hbn,h a c (by omega) (by omega) han hc,h c b (by omega) (by omega) hc hbn,PB]
theorem Li {N n:Nat} (hF:Fuel N) (hn:n<=1000) (k:Kz2):∀(d c B M:Nat) (s:Int) (f:Nat->Nat->Rat),c+d=n->d<M->pH B n f->Vq n c f->(B+1)*4 ^ d<=100000000000 ->
  ah M (BN N (n:Int) (n:Int) (λt=>k t) (λt=>k t)) (s,(c:Int),mat dD n f)=k (tA n d c s f):=by
 intro d;induction d with
 | zero=>
  intro c B M s f hc hM _ _ _;cases M with
  | zero=>omega
  | succ M=>
   show BN _ _ _ _ _ (s,(c:Int),mat dD n f) (ah M _)=_;rw[BN];rw[afj (by omega:¬(c:Int)<(n:Int)),afk];rfl
 | succ d ih=>
  intro c B M s f hc hM hf hsy hB;cases M with
  | zero=>omega
  | succ M=>
   have hN:=hF.lt;have hcn:c<n:=by omega
   have h4:(4*B+1+1)*4 ^ d<=100000000000:=by
    have h1:(4*B+1+1)*4 ^ d<=(B+1)*4*4 ^ d:=afm _ (by omega);have h2:(B+1)*4*4 ^ d=(B+1)*4 ^ (d+1):=by rw[afv,aft,afn 4 (4 ^ d)]
    omega
   have hB2:4*B+1+1<=100000000000:=by have:0<4 ^ d:=agt (by decide);have h1:(4*B+1+1)*1<=(4*B+1+1)*4 ^ d:=afq _ this;omega
   have he:∀ x:Rat,dD x=((decide (x.num<0),aj x.num.natAbs),(false,aj x.den)):=λx=>rfl
   show BN _ _ _ _ _ (s,(c:Int),mat dD n f) (ah M _)=_;rw[BN];rw[afi (by omega:(c:Int)<(n:Int)),afl,uk hn hcn hcn,kE dD n _ hcn hcn,he (f c c)];dsimp only;rw[yb,GO,tA];by_cases hneg:(f c c).num<0
   ·rw[afi hneg,afl,if_pos hneg]
   ·rw[if_neg hneg,yb,tz];rw[afj hneg,afk];by_cases h0:f c c=0
    ·rw[if_pos h0,afi h0,afl,aa afg];rw[show(c:Int)+1=((c+1:Nat):Int) from rfl,Ij hF hn hcn _ _ d (c+1) N (by omega) (by omega)];have ez:vx (λi=>f c i) (c+1) d=vx (λi=>f i c) (c+1) d:=Aa _ _ (λj h1 h2=>hsy c j (by omega) (by omega) hcn (by omega));rw[ez];by_cases hz:vx (λi=>f i c) (c+1) d=true
     ·rw[if_pos hz,if_pos hz,aa afg];exact ih (c+1) B M 2 f (by omega) (by omega) hf (λa b ha hb=>hsy a b (by omega) (by omega)) (by have:(B+1)*4 ^ d<=(4*B+1+1)*4 ^ d:=afm _ (by omega);omega)
     ·rw[if_neg hz,if_neg hz]
    ·rw[if_neg h0,afj h0,afk,aa afg];rw[show(c:Int)+1=((c+1:Nat):Int) from rfl,Ly hF (by omega) hn hcn s hf h0,aa afg];exact ih (c+1) (4*B+1) M s (f9 f c n) (by omega) (by omega) (uc hf hcn h0) (Ob hsy hcn) h4
def fm (n:Nat) (l:List Fl):Nat->Nat->Rat:=λi j=>qV (ofE (l.getD (i*n+j) none))
theorem JI {α:Type} (g:Rat->α) {n:Nat} {l:List Fl} (h:l.length=n*n):l.map (λx=>g (qV (ofE x)))=mat g n (fm n l):=by
 apply List.ext_getElem?;intro t;by_cases ht:t<n*n
 ·unfold mat;rw[List.getElem?_map,List.getElem?_map,List.getElem?_range ht,List.getElem?_eq_getElem (by omega)];simp only[agL];unfold fm;have:t / n*n+t%n=t:=by rw[afn]; exact af_ t n
  rw[this,List.getD_eq_getElem?_getD,List.getElem?_eq_getElem (by omega)];rfl
 ·rw[List.getElem?_eq_none (by rw[ahm]; omega),List.getElem?_eq_none (by rw[oU]; omega)]
theorem io {l:List Fl} (h:aB l=true) {i:Nat} (hi:i<l.length):aE (l.getD i none)=true:=by unfold aB at h;exact bU.1 h i hi
def AllW (l:List Fl):Prop:=∀ x,x ∈ l->FW x
theorem AllW.get {l:List Fl} (h:AllW l) {i:Nat} (hi:i<l.length):FW (l.getD i none):=by rw[List.getD_eq_getElem?_getD,List.getElem?_eq_getElem hi];exact h _ (agv hi)
theorem zK {n:Nat} {l:List Fl} (h:l.length=n*n) (hf:aB l=true):pH 1200 n (fm n l):=by intro a b ha hb;have:=iU ha hb;exact RI (io hf (by omega))
theorem J8 {N:Nat} (x:Int) (k:Kz1):GN N x k=k (decide (0<=x/\x<=12)):=by
 unfold GN Qw;by_cases h:x>=0
 ·rw[afi h,show(true==true)=true from rfl,afl];congr 1;by_cases h2:x<=12
  ·rw[afi h2,afi ⟨h,h2⟩]
  ·rw[afj h2,afj (by omega)]
 ·rw[afj h,show(false==true)=false from rfl,afk,afj (by omega)]
theorem JM {a b:Int} (h1:0<=a/\a<=12) (h2:0<=b/\b<=12):0<=a*b/\a*b<=144:=by have h3:a*b<=12*b:=Int.mul_le_mul_of_nonneg_right h1.2 h2.1;have h4:0<=a*b:=Int.mul_nonneg h1.1 h2.1;omega
theorem fa {N:Nat} (hN:1000<=N) (a b:Int) (l:List Fl) (k:Kz2):v7 N a b l k=k (chk a b l):=by
 (unfold v7; rw[ac]; unfold Qt chk)
 rw[J8];by_cases h1:0<=a/\a<=12
 ·rw[afi h1,show((!true)==false)=true from rfl,afl,J8];by_cases h2:0<=b/\b<=12
  ·have h3:=JM h1 h2;rw[afi h2,if_pos ⟨h1,h2⟩,show(!true)=false from rfl,afk,aa afg];by_cases h4:(l.length:Int)=a*b
   ·have:(((l.length:Nat):Int) != a*b)=false:=by simp[h4]
    have h6:l.length<=144:=by rw[<- h4]at h3; omega
    rw[this,afk,if_pos h4,ge l ⟨by omega,by omega⟩];cases h5:aB l
    ·rfl
    ·rfl
   ·have:(((l.length:Nat):Int) != a*b)=true:=by simp[h4]
    rw[this,afl,if_neg h4]
  ·rw[afj h2,if_neg (λh=>h2 h.2),show(!false)=true from rfl,afl]
 ·rw[afj h1,if_neg (λh=>h1 h.1)]; rfl
theorem lG {n:Nat} {l:List Fl} (hn:n<=12) (h:l.length=n*n) (hf:aB l=true):chk n n l=0:=
 mg.2 ⟨⟨by omega,by omega⟩,by rw[h,afF],hf⟩
theorem vc {α:Type} (g:Fl->α) {l:List Fl} {t:Nat} (ht:t<l.length):(l.take (t+1)).map g=(l.take t).map g++[g (l.getD t none)]:=by rw[agD ht,ag6,List.getD_eq_getElem?_getD,List.getElem?_eq_getElem ht]; rfl
theorem DL {N n:Nat} (hF:Fuel N) {l:List Fl} (hn:n<=12) (h:l.length=n*n) (hf:aB l=true) (hw:AllW l) (k:List RY1->Bool) :
  jl N n n l k=k (mat enc n (fm n l)):=by
 have hN:=hF.lt;have hl:=tC (n:=n) (by omega)
 (unfold jl; rw[ac]; unfold ji)
 rw[fa (by omega),lG hn h hf,qK,<- JI enc h];refine aP (λt:Nat=>((t:Int),(l.take t).map (λx=>enc (qV (ofE x))))) l.length (by omega) ?_ ?_
 ·intro t ht K;unfold dQ;dsimp only;rw[afi (by omega:(t:Int)<(l.length:Int)),afl,aa afh,afo,F5 hF (io hf ht) (hw.get ht)];unfold kq kr;dsimp only;rw[vc _ ht,aa (afi (by rw[agy,ahm,af0]; simp only[afW,ahu]; omega)),aa afg];rfl
 ·intro K;unfold dQ;dsimp only;rw[afj (by omega:¬(l.length:Int)<(l.length:Int)),afk,af3]
theorem Lf {N n:Nat} (hF:Fuel N) {l:List Fl} (hn:n<=12) (h:l.length=n*n) (hf:aB l=true) (hw:AllW l) (a b:Int) (k:List RY2->Bool) :
  tn N a b l k=k (mat dD n (fm n l)):=by
 have hN:=hF.lt;have hl:=tC (n:=n) (by omega)
 (unfold tn; rw[ac]; unfold sa)
 rw[<- JI dD h];refine aP (λt:Nat=>((t:Int),(l.take t).map (λx=>dD (qV (ofE x))))) l.length (by omega) ?_ ?_
 ·intro t ht K;unfold lf;dsimp only;rw[afi (by omega:(t:Int)<(l.length:Int)),afl,aa afh,afo,Lh hF (io hf ht) (hw.get ht)];unfold kqR krR;dsimp only;rw[vc _ ht,aa (afi (by rw[ahm,af0]; omega)),aa afg];rfl
 ·intro K;unfold lf;dsimp only;rw[afj (by omega:¬(l.length:Int)<(l.length:Int)),afk,af3]
theorem H5 {N n:Nat} (hF:Fuel N) (hn:n<=12) (k:List RY2->Bool):rf N n n k=k (List.replicate (n*n) ((false,[]),(false,[]))):=by
 have hN:=hF.lt;have hl:=tC (n:=n) (by omega)
 (unfold rf; rw[ac]; unfold qm)
 have h0:([]:List RY2)=List.replicate 0 ((false,[]),(false,[])):=rfl;rw[h0];refine aP (λt:Nat=>((t:Int),List.replicate t ((false,[]),(false,[])))) (n*n) (by omega) ?_ ?_
 ·intro t ht K;unfold jL;dsimp only;rw[<- afF,aa afg,afi (by omega:(t:Int)<((n*n:Nat):Int)),afl,aa (afi (by rw[agI]; omega)),aa afg,agY];rfl
 ·intro K;unfold jL;dsimp only;rw[<- afF,aa afg,afj (by omega:¬((n*n:Nat):Int)<((n*n:Nat):Int)),afk]
theorem FA {α:Type} (l:List α) (z:α) {t:Nat} (ht:t<=l.length):(l.take t++List.replicate (l.length - t) z).length=l.length:=by rw[agy,af0,agI]; omega
theorem FB {α:Type} (l:List α) (z:α) {t:Nat} (ht:t<l.length):(l.take t++List.replicate (l.length - t) z).set t (l.getD t z)=l.take (t+1)++List.replicate (l.length - (t+1)) z:=by
 have h1:(l.take t).length=t:=by rw[af0]; omega
 have h2:l.length - t=(l.length - (t+1))+1:=by omega
 rw[ahw _ _ (by omega),h1,afT,h2,af5,List.set_cons_zero,agD ht,afC,List.getD_eq_getElem?_getD,List.getElem?_eq_getElem ht];rfl
theorem Rp {α:Type} (g:Rat->α) (n:Nat) (f:Nat->Nat->Rat) {t:Nat} (ht:t<n*n) (z:α):∃ a b,a<n/\b<n/\(mat g n f).getD t z=g (f a b):=by
 have hn:0<n:=by
  rcases agH n with h0 | h0
  ·rw[h0]at ht; omega
  ·exact h0
 refine⟨t / n,t%n,ahk ht,afA _ hn,?_⟩;have:=kE g n f (ahk ht) (afA t hn) z;rw[show t / n*n+t%n=t from by rw[afn]; exact af_ t n]at this;exact this
theorem Ia {N n B:Nat} (hF:Fuel N) (hB:B<=2000000000100) (hn:n<=12) {f:Nat->Nat->Rat} (hf:pH B n f) (k:List RY2->Bool) :
  Wo N n n (mat dD n f) k=k (mat dD n f):=by
 have hN:=hF.lt;have hl:=tC (n:=n) (by omega)
 (unfold Wo; rw[ac]; unfold TX)
 rw[H5 hF hn];have hlen:=oU dD n f;have h0:List.replicate (n*n) (((false,[]),(false,[])):RY2)=(mat dD n f).take 0++List.replicate ((mat dD n f).length - 0) ((false,[]),(false,[])):=by rw[hlen]; rfl
 rw[h0];refine aP (λt:Nat=>((t:Int),(mat dD n f).take t++List.replicate ((mat dD n f).length - t) ((false,[]),(false,[])))) (mat dD n f).length (by omega) ?_ ?_
 ·intro t ht K;unfold Ey;dsimp only;have hfl:=FA (mat dD n f) (((false,[]),(false,[])):RY2) (t:=t) (by omega);rw[afi (by omega:(t:Int)<((mat dD n f).length:Int)),afl,afo,hfl,aa afh,aa (afi ht),aa afh];obtain⟨a,b,ha,hb,hm⟩:=Rp dD n f (t:=t) (by omega) ((false,[]),(false,[]));have hs:=FB (mat dD n f) (((false,[]),(false,[])):RY2) ht;rw[hm]at hs ⊢;have he:∀ x:Rat,dD x=((decide (x.num<0),aj x.num.natAbs),(false,aj x.den)):=λx=>rfl
  have hset:=λb1 b2 l1 l2 kk=>OQ (N:=N) hF hB (hf a b ha hb) b1 b2 l1 l2 kk
  generalize List.take t (mat dD n f)++List.replicate ((mat dD n f).length - t) ((false,[]),false,[])=L at *;rw[he (f a b)];dsimp only;rw[hset];unfold kqR krR;dsimp only;rw[aa afg];exact aio (λl=>K ((t:Int)+1,l)) hs
 ·intro K;unfold Ey;dsimp only;rw[afj (by omega),afk,af3,afT,afX,afU]
theorem zn {n:Nat} (hn:n<=12):(1200+1)*4 ^ n<=100000000000:=by
 have h1:4 ^ n<=4 ^ 12:=afz (by decide) hn;have h2:(4:Nat) ^ 12=16777216:=by decide
 rw[h2]at h1;have h3:(1200+1)*4 ^ n<=(1200+1)*16777216:=afq _ h1;omega
def EN (n:Nat) (l:List Fl):Prop:=∀ a b,a<n->b<n->fm n l a b=fm n l b a
def xb (n:Nat) (l:List Fl):Bool:=tA n n 0 3 (fm n l)==3
theorem FX {N n:Nat} (hF:Fuel N) {l:List Fl} (hn:n<=12) (h:l.length=n*n) (hf:aB l=true) (hw:AllW l) (hs:EN n l) (k:Ky3) :
  jU N n n l k=k (tA n n 0 3 (fm n l)) 0:=by
 (unfold jU; rw[ac]; unfold jO)
 rw[DL hF hn h hf hw];exact Lp hF (by omega) (zK h hf) hs (zn hn) (λt=>k t 0)
end Go.Proofs.YtdinakfmablagaaGreatDoor
end
