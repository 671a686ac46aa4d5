/- Laws in plain Lean. Conditions: none. -/
import Derived.Test.YtbiingchhnlcnaaGreatDoorC10
set_option linter.defProp false
set_option linter.unusedVariables false
section
namespace Go.Proofs.YtbiingchhnlcnaaGreatDoor
open Go Go.Mach Ieee
def vQ (g:Nat->Rat):Nat->Nat->Bool
 | i,0=>true
 | i,d+1=>decide (g i=0)&&vQ g (i+1) d
def z9 {g h:Nat->Rat}:∀ d i,(∀ j,i<=j->j<i+d->g j=h j)->vQ g i d=vQ h i d
 | 0,i,_=>rfl
 | d+1,i,e=>by unfold vQ;rw[e i (aiH _) (by omega),z9 d (i+1) (λj h1 h2=>e j (by omega) (by omega))]
def tY (n:Nat):Nat->Nat->Int->(Nat->Nat->Rat)->Int
 | 0,c,s,f=>s
 | d+1,c,s,f=>if (f c c).num<0 then 1 else if f c c=0 then(if vQ (λi=>f i c) (c+1) d=true then tY n d (c+1) 2 f else 1)else tY n d (c+1) s (fJ f c n)
def Gs (z:Int):decide (xn z<0)=decide (z<0):=by
 unfold xn;by_cases h0:z=0
 ·rw[if_pos h0,h0]
 ·rw[if_neg h0];by_cases h:z<0
  ·rw[if_pos h,ait h]; rfl
  ·rw[if_neg h,aiu h]; rfl
def tF {x:Rat}:(x.num=0)↔x=0:=Rat.num_eq_zero
def tX (x:Rat):(xn x.num==0)=decide (x=0):=by
 rw[K2];by_cases h:x=0
 ·rw[ait h,ait (tF.2 h)]
 ·rw[aiu h,aiu (λg=>h (tF.1 g))]
def P0 (x:Rat):(xn x.num != 0) = !decide (x=0):=by rw[<- tX]; rfl
def uA {B n c m:Nat} {f:Nat->Nat->Rat} (hf:pY B n f) (hc:c<n) (h0:f c c ≠ 0):pY (4*B+1) n (fJ f c m):=by
 intro a b ha hb;unfold fJ;split
 ·exact(Li (hf a b ha hb) (C6 (GS (hf a c ha hc) (hf c c hc hc) (λh=>h0 (tF.1 h))) (hf c b hc hb))).mono (by omega)
 ·exact(hf a b ha hb).mono (by omega)
def Aq (f:Nat->Nat->Rat) (c:Nat) {α:Type} (g:Rat->α) (n:Nat):mat g n (fJ f c (c+1))=mat g n f:=kC _ _ (λa b _ _=>by unfold fJ; rw[if_neg (by omega)])
def tg {f:Nat->Nat->Rat} {c i:Nat} (b:Nat):fJ f c i i b=f i b:=by unfold fJ; rw[if_neg (by omega)]
def Ar {f:Nat->Nat->Rat} {c i:Nat} (b:Nat):fJ f c i c b=f c b:=by unfold fJ; rw[if_neg (by omega)]
def xJ {f:Nat->Nat->Rat} {c i a b:Nat} (h:c<i):fJ f c (i+1) a b=if a=i then f i b - f i c / f c c*f c b else fJ f c i a b:=by
 unfold fJ;by_cases h1:a=i
 ·rw[if_pos h1,if_pos (by omega),h1]
 ·rw[if_neg h1];by_cases h2:c<a/\a<i
  ·rw[if_pos h2,if_pos (by omega)]
  ·rw[if_neg h2,if_neg (by omega)]
def NV (x y p q:Rat):q+y*(0 - x / p)=q - x / p*y:=by grind
def NU (p q y:Rat):q - 0 / p*y=q:=by grind
def NW (x y p:Rat):x / p*y=y / p*x:=by grind
def NC {N B n c:Nat} (hF:Fuel N) (hB:4*B+1<=300000000000) (hn:n<=1000) (hc:c<n) (s:Int) (t1 t2:Int) {f:Nat->Nat->Rat} (hf:pY B n f) (h0:f c c ≠ 0) (e0:Int->List RY1->Bool) (e1:List RY1->Bool) :
  ah N (az N s (c:Int) t1 t2 (n:Int) (n:Int) (decide ((f c c).num<0)) (af (f c c).num.natAbs) false (af (f c c).den) e0 e1) (((c+1:Nat):Int),mat enc n f)=e1 (mat enc n (fJ f c n)):=by
 have hN:=hF.lt;rw[<- Aq f c enc n];refine v7 (λi:Nat=>((i:Int),mat enc n (fJ f c i))) (c+1) n (by omega) (by omega) ?_ ?_
 ·intro i hi1 hi2 K;unfold az;dsimp only;rw[ait (by omega:(i:Int)<(n:Int)),aiw,rb hn hi2 hc,tg];unfold kq kr;dsimp only;rw[nd,tX];by_cases hz:f i c=0
  ·rw[ait hz,aiw,aa air];have:mat enc n (fJ f c (i+1))=mat enc n (fJ f c i):=kC _ _ (λa b _ _=>by
    rw[xJ (by omega)];by_cases h1:a=i
    ·rw[if_pos h1,h1,tg,hz,NU]
    ·rw[if_neg h1])
   rw[this];rfl
  ·rw[aiu hz,aiv,nd,tX,aiu h0,aiv,HO hF];unfold kq kr;dsimp only;have hp:(f c c).num ≠ 0:=λh=>h0 (tF.1 h)
   have bx:=hf i c hi2 hc;have bp:=hf c c hc hc;have bq:=GS bx bp hp;rw[Pj hF (B:=B) (by omega) bx bp hp];unfold kq kr;dsimp only;have bz:Bq (B+B+1) 0:=Iq;rw[FI hF (B:=B+B+1) (by omega) bz (bq.mono (by omega))];unfold kq kr;dsimp only;have bs:Bq (2*(4*B+1)) (0 - f i c / f c c):=(Li (A:=1) (Iq (B:=0)) bq).mono (by omega);rw[Ns hF (B:=4*B+1) hB hn hi2 hc (by omega) (uA hf hc h0) bs,aa air];have:mat enc n (fJ f c (i+1))=mat enc n (xC (fJ f c i) i c (0 - f i c / f c c) n):=kC _ _ (λa b _ hb=>by
    rw[xJ (by omega)];unfold xC;by_cases h1:a=i
    ·rw[if_pos h1,if_pos ⟨h1,hb⟩,tg,Ar,NV]
    ·rw[if_neg h1,if_neg (by omega)])
   rw[this];rfl
 ·intro K;unfold az;dsimp only;rw[aiu (by omega:¬(n:Int)<(n:Int)),aiv]
def Ku {N n c:Nat} (hF:Fuel N) (hn:n<=1000) (hc:c<n) (s:Int) (t1 t2:Int) {f:Nat->Nat->Rat} (h0:f c c=0) (e0:Int->List RY1->Bool) (e1:List RY1->Bool):∀(d i M:Nat),i+d=n->d<M ->
  ah M (az N s (c:Int) t1 t2 (n:Int) (n:Int) (decide ((f c c).num<0)) (af (f c c).num.natAbs) false (af (f c c).den) e0 e1) ((i:Int),mat enc n f)=if vQ (λi=>f i c) i d=true then e1 (mat enc n f)else e0 1 (mat enc n f):=by
 intro d;induction d with
 | zero=>
  intro i M hi hM;cases M with
  | zero=>omega
  | succ M=>
   show az _ _ _ _ _ _ _ _ _ _ _ _ _ ((i:Int),mat enc n f) (ah M _)=_;unfold az vQ;dsimp only;rw[aiu (by omega:¬(i:Int)<(n:Int)),aiv,if_pos rfl]
 | succ d ih=>
  intro i M hi hM;cases M with
  | zero=>omega
  | succ M=>
   have hi2:i<n:=by omega
   show az _ _ _ _ _ _ _ _ _ _ _ _ _ ((i:Int),mat enc n f) (ah M _)=_;rw[az];rw[ait (by omega:(i:Int)<(n:Int)),aiw,rb hn hi2 hc];unfold kq kr;dsimp only;rw[nd,tX,vQ];by_cases hz:f i c=0
   ·rw[ait hz,aiw,aa air,ajy];exact ih (i+1) M (by omega) (by omega)
   ·rw[aiu hz,aiv,nd,tX,ait h0,aiw,ak3,if_neg (by decide)]
def DG {N n:Nat} (hF:Fuel N) (hn:n<=1000) (k:Kz5):∀(d c B M:Nat) (s:Int) (f:Nat->Nat->Rat),c+d=n->d<M->pY B n f->(B+1)*4 ^ d<=100000000000 ->
  ah M (aN N (n:Int) (n:Int) (n:Int) (λt _=>k t) (λt _=>k t)) (s,(c:Int),mat enc n f)=k (tY n d c s f):=by
 intro d;induction d with
 | zero=>
  intro c B M s f hc hM _ _;cases M with
  | zero=>omega
  | succ M=>
   show aN _ _ _ _ _ _ (s,(c:Int),mat enc n f) (ah M _)=_;rw[aN];rw[aiu (by omega:¬(c:Int)<(n:Int)),aiv];rfl
 | succ d ih=>
  intro c B M s f hc hM hf hB;cases M with
  | zero=>omega
  | succ M=>
   have hN:=hF.lt;have hcn:c<n:=by omega
   have h4:(4*B+1+1)*4 ^ d<=100000000000:=by
    have h1:(4*B+1+1)*4 ^ d<=(B+1)*4*4 ^ d:=aiy _ (by omega);have h2:(B+1)*4*4 ^ d=(B+1)*4 ^ (d+1):=by rw[aiG,aiF,aix 4 (4 ^ d)]
    omega
   have hB2:4*B+1+1<=100000000000:=by have:0<4 ^ d:=ajB (by decide);have h1:(4*B+1+1)*1<=(4*B+1+1)*4 ^ d:=aiB _ this;omega
   show aN _ _ _ _ _ _ (s,(c:Int),mat enc n f) (ah M _)=_;rw[aN];rw[ait (by omega:(c:Int)<(n:Int)),aiw,rb hn hcn hcn];unfold kq kr;dsimp only;rw[nd,Gs,tY];by_cases hneg:(f c c).num<0
   ·rw[ait hneg,aiw,if_pos hneg]
   ·rw[aiu hneg,aiv,if_neg hneg,aa air];by_cases h0:f c c=0
    ·rw[if_pos h0];have hr:=λe0 e1=>Ku hF hn hcn s (n:Int) (c:Int) h0 e0 e1 d (c+1) N (by omega) (by omega)
     rw[aiu hneg]at hr;rw[show(c:Int)+1=((c+1:Nat):Int) from rfl,hr];by_cases hz:vQ (λi=>f i c) (c+1) d=true
     ·rw[if_pos hz,if_pos hz];have hs:=nd (N:=N) (f c c);rw[aiu hneg]at hs;rw[hs,tX,ait h0,aiw,aa air];exact ih (c+1) B M 2 f (by omega) (by omega) hf (by have:(B+1)*4 ^ d<=(4*B+1+1)*4 ^ d:=aiy _ (by omega);omega)
     ·rw[if_neg hz,if_neg hz]
    ·rw[if_neg h0];have hr:=λe0 e1=>NC hF (by omega) hn hcn s (n:Int) (c:Int) hf h0 e0 e1
     rw[aiu hneg]at hr;rw[show(c:Int)+1=((c+1:Nat):Int) from rfl,hr];have hs:=nd (N:=N) (f c c);rw[aiu hneg]at hs;rw[hs,tX,aiu h0,aiv,aa air];exact ih (c+1) (4*B+1) M s (fJ f c n) (by omega) (by omega) (uA hf hcn h0) h4
def NJ {N B n:Nat} (hF:Fuel N) (hB:B<=300000000000) (hn:n<=1000) {f:Nat->Nat->Rat} (hf:pY B n f) (hs:∀ a b,a<n->b<n->f a b=f b a) (k:Bool) :
  dm N n n (mat enc n f) k=k:=by
 have hN:=hF.lt
 (unfold dm; rw[ae]; unfold cZ)
 refine aD (λt:Nat=>(t:Int)) n (by omega) ?_ ?_
 ·intro i hi K;unfold bD;dsimp only;rw[ait (by omega:(i:Int)<(n:Int)),aiw];refine aD (λt:Nat=>(t:Int)) i (by omega) ?_ ?_
  ·intro j hj K';have hj2:j<n:=by omega
   unfold bE;dsimp only;rw[ait (by omega:(j:Int)<(i:Int)),aiw,rb hn hi hj2];unfold kq kr;dsimp only;rw[rb hn hj2 hi];unfold kq kr;dsimp only;rw[FI hF (B:=B) (by omega) (hf i j hi hj2) (hf j i hj2 hi)];unfold kq kr;dsimp only;have e:xn (f i j - f j i).num=0:=by
    have:f i j - f j i=0:=by rw[hs i j hi hj2]; grind
    rw[this]; rfl
   rw[nd,e,ra,aa air];rfl
  ·intro K';unfold bE;dsimp only;rw[aiu (by omega:¬(i:Int)<(i:Int)),aiv,aa air];rfl
 ·intro K;unfold bD;dsimp only;rw[aiu (by omega:¬(n:Int)<(n:Int)),aiv]
def Kn {N B n:Nat} (hF:Fuel N) (hn:n<=1000) {f:Nat->Nat->Rat} (hf:pY B n f) (hs:∀ a b,a<n->b<n->f a b=f b a) (hB:(B+1)*4 ^ n<=100000000000) (k:Kz5) :
  eW N n n (mat enc n f) (λt _=>k t)=k (tY n n 0 3 f):=by
 have hN:=hF.lt;have hB2:B<=300000000000:=by have:0<4 ^ n:=ajB (by decide);have h1:(B+1)*1<=(B+1)*4 ^ n:=aiB _ this;omega
 unfold eW jC;have e:((n:Int)==(n:Int))=((0:Int)==0):=by simp
 rw[e,ra,NJ hF hB2 hn hf hs]
 (unfold ge; rw[ae]; unfold dA)
 exact DG hF hn k n 0 B N 3 f (by omega) (by omega) hf hB
def Kv {N B n c:Nat} (hF:Fuel N) (hB:4*B+1<=300000000000) (hn:n<=1000) (hc:c<n) (s:Int) {f:Nat->Nat->Rat} (hf:pY B n f) (h0:f c c ≠ 0) (e0:List RY2->Bool) :
  ah N (Bp N s (c:Int) (c*n+c) (n:Int) (n:Int) e0) (((c+1:Nat):Int),mat dC n f)=e0 (mat dC n (fJ f c n)):=by
 have hN:=hF.lt;rw[<- Aq f c dC n];refine v7 (λi:Nat=>((i:Int),mat dC n (fJ f c i))) (c+1) n (by omega) (by omega) ?_ ?_
 ·intro i hi1 hi2 K;unfold Bp;dsimp only;have hne:¬(c*n+c=i*n+c):=by
   intro h;have:c*n=i*n:=by omega
   have:=ajW (by omega) this;omega
  rw[ait (by omega:(i:Int)<(n:Int)),aiw,uG hn hi2 hc,aiu hne,aa (a:=(!false&&true)) rfl,D4,D4,ll dC n _ hi2 hc,ll dC n _ hc hc,tg,Ar];have hp:(f c c).num ≠ 0:=λh=>h0 (tF.1 h)
  have bx:=hf i c hi2 hc;have bp:=hf c c hc hc;have bq:=GS bx bp hp;have hq:=λkk=>NB (N:=N) (b1:=false) (b2:=false) hF (B:=B) (by omega) bx bp hp kk
  have he:∀ x:Rat,dC x=((decide (x.num<0),aj x.num.natAbs),(false,aj x.den)):=λx=>rfl
  rw[he (f i c),he (f c c)];dsimp only;rw[hq];unfold kqR krR;dsimp only;rw[Kq hF (B:=4*B+1) hB hn hi2 hc (by omega) (uA hf hc h0) (bq.mono (by omega)),aa air];have:mat dC n (fJ f c (i+1))=mat dC n (pr (fJ f c i) i c (f i c / f c c) n):=kC _ _ (λa b _ hb=>by
   rw[xJ (by omega)];unfold pr;by_cases h1:a=i
   ·rw[if_pos h1,if_pos ⟨h1,hb⟩,tg,Ar]
   ·rw[if_neg h1,if_neg (by omega)])
  rw[this];rfl
 ·intro K;unfold Bp;dsimp only;rw[aiu (by omega:¬(n:Int)<(n:Int)),aiv]
def HJ {N n c:Nat} (hF:Fuel N) (hn:n<=1000) (hc:c<n) {f:Nat->Nat->Rat} (e0:Int->Bool) (e1:Bool):∀(d i M:Nat),i+d=n->d<M ->
  ah M (Bt N (c:Int) (n:Int) (n:Int) (mat dC n f) e0 e1) ((i:Int))=if vQ (λi=>f c i) i d=true then e1 else e0 1:=by
 intro d;induction d with
 | zero=>
  intro i M hi hM;cases M with
  | zero=>omega
  | succ M=>
   show Bt _ _ _ _ _ _ _ (i:Int) (ah M _)=_;unfold Bt vQ;dsimp only;rw[aiu (by omega:¬(i:Int)<(n:Int)),aiv,if_pos rfl]
 | succ d ih=>
  intro i M hi hM;cases M with
  | zero=>omega
  | succ M=>
   have hi2:i<n:=by omega
   show Bt _ _ _ _ _ _ _ (i:Int) (ah M _)=_;rw[Bt];have he:∀ x:Rat,dC x=((decide (x.num<0),aj x.num.natAbs),(false,aj x.den)):=λx=>rfl
   rw[ait (by omega:(i:Int)<(n:Int)),aiw,uG hn hc hi2,ll dC n _ hc hi2,he (f c i)];dsimp only;rw[xT,P0,vQ];by_cases hz:f c i=0
   ·rw[ait hz,ajm,aiv,aa air,ajy];exact ih (i+1) M (by omega) (by omega)
   ·rw[aiu hz,ai7,aiw,ak3,if_neg (by decide)]
def S7 (n c:Nat) (f:Nat->Nat->Rat):Prop:=∀ a b,c<=a->c<=b->a<n->b<n->f a b=f b a
def MS {n c:Nat} {f:Nat->Nat->Rat} (h:S7 n c f) (hc:c<n):S7 n (c+1) (fJ f c n):=by intro a b ha hb han hbn;unfold fJ;rw[if_pos ⟨by omega,han⟩,if_pos ⟨by omega,hbn⟩,h a b (by omega) (by omega) han hbn,h a c (by omega) (by omega) han hc,h c b (by omega) (by omega) hc hbn,NW]
def Kg {N n:Nat} (hF:Fuel N) (hn:n<=1000) (k:Kz5):∀(d c B M:Nat) (s:Int) (f:Nat->Nat->Rat),c+d=n->d<M->pY B n f->S7 n c f->(B+1)*4 ^ d<=100000000000 ->
  ah M (Bs N (n:Int) (n:Int) (λt=>k t) (λt=>k t)) (s,(c:Int),mat dC n f)=k (tY n d c s f):=by
 intro d;induction d with
 | zero=>
  intro c B M s f hc hM _ _ _;cases M with
  | zero=>omega
  | succ M=>
   show Bs _ _ _ _ _ (s,(c:Int),mat dC n f) (ah M _)=_;rw[Bs];rw[aiu (by omega:¬(c:Int)<(n:Int)),aiv];rfl
 | succ d ih=>
  intro c B M s f hc hM hf hsy hB;cases M with
  | zero=>omega
  | succ M=>
   have hN:=hF.lt;have hcn:c<n:=by omega
   have h4:(4*B+1+1)*4 ^ d<=100000000000:=by
    have h1:(4*B+1+1)*4 ^ d<=(B+1)*4*4 ^ d:=aiy _ (by omega);have h2:(B+1)*4*4 ^ d=(B+1)*4 ^ (d+1):=by rw[aiG,aiF,aix 4 (4 ^ d)]
    omega
   have hB2:4*B+1+1<=100000000000:=by have:0<4 ^ d:=ajB (by decide);have h1:(4*B+1+1)*1<=(4*B+1+1)*4 ^ d:=aiB _ this;omega
   have he:∀ x:Rat,dC x=((decide (x.num<0),aj x.num.natAbs),(false,aj x.den)):=λx=>rfl
   show Bs _ _ _ _ _ (s,(c:Int),mat dC n f) (ah M _)=_;rw[Bs];rw[ait (by omega:(c:Int)<(n:Int)),aiw,uG hn hcn hcn,ll dC n _ hcn hcn,he (f c c)];dsimp only;rw[xT,Gs,tY];by_cases hneg:(f c c).num<0
   ·rw[ait hneg,aiw,if_pos hneg]
   ·rw[if_neg hneg,xT,tX];rw[aiu hneg,aiv];by_cases h0:f c c=0
    ·rw[if_pos h0,ait h0,aiw,aa air];rw[show(c:Int)+1=((c+1:Nat):Int) from rfl,HJ hF hn hcn _ _ d (c+1) N (by omega) (by omega)];have ez:vQ (λi=>f c i) (c+1) d=vQ (λi=>f i c) (c+1) d:=z9 _ _ (λj h1 h2=>hsy c j (by omega) (by omega) hcn (by omega));rw[ez];by_cases hz:vQ (λi=>f i c) (c+1) d=true
     ·rw[if_pos hz,if_pos hz,aa air];exact ih (c+1) B M 2 f (by omega) (by omega) hf (λa b ha hb=>hsy a b (by omega) (by omega)) (by have:(B+1)*4 ^ d<=(4*B+1+1)*4 ^ d:=aiy _ (by omega);omega)
     ·rw[if_neg hz,if_neg hz]
    ·rw[if_neg h0,aiu h0,aiv,aa air];rw[show(c:Int)+1=((c+1:Nat):Int) from rfl,Kv hF (by omega) hn hcn s hf h0,aa air];exact ih (c+1) (4*B+1) M s (fJ f c n) (by omega) (by omega) (uA hf hcn h0) (MS hsy hcn) h4
end Go.Proofs.YtbiingchhnlcnaaGreatDoor
end
