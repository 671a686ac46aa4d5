/- Laws in plain Lean. Conditions: none. -/
import Derived.Test.YtdinakfmablagaaGreatDoorK1
set_option linter.unusedVariables false
section
namespace Go.Proofs.YtdinakfmablagaaGreatDoor
open Go Go.Mach Ieee
theorem LH {N n:Nat} (hN:1000<=N) (hn:n<=12) (k:List Fl->Bool):wl N n k=k (mf n jX):=by
 (unfold wl; rw[ac]; unfold vD)
 rw[lG hn];have h0:((0,mf n λ_ _=>some 0):Int × List Fl)=(λt:Nat=>((t:Int),mf n λa b=>if a=b/\a<t then some 4607182418800017408 else some 0)) 0:=by show _=(((0:Nat):Int),_);rw[aZ n (f':=λa b=>if a=b/\a<0 then some 4607182418800017408 else some 0) λa b _ _=>by rw[if_neg (by omega)]];rfl
 rw[h0];refine aA (λt:Nat=>((t:Int),mf n λa b=>if a=b/\a<t then some 4607182418800017408 else some 0)) n (by omega) ?_ ?_
 ·intro t ht K;unfold l_;dsimp only;rw[decide_eq_true (by omega:(t:Int)<(n:Int)),cond_true,lV hn ht ht,aa (ab (by omega) (by omega))];rw[aZ n (f':=λa b=>if a=b/\a<t+1 then some 4607182418800017408 else some 0) λa b _ _=>by
   by_cases h:a=t/\b=t
   ·rw[if_pos h,if_pos (by omega)]
   ·rw[if_neg h];by_cases h2:a=b/\a<t
    ·rw[if_pos h2,if_pos (by omega)]
    ·rw[if_neg h2,if_neg (by omega)]]
  rfl
 ·intro K;unfold l_;dsimp only;rw[decide_eq_false (by omega:¬(n:Int)<(n:Int)),cond_false];rw[aZ n (f':=jX) λa b ha _=>by
   unfold jX;by_cases h:a=b
   ·rw[if_pos h,if_pos ⟨h,ha⟩]
   ·rw[if_neg h,if_neg (λq=>h q.1)]]
theorem LD {N n j:Nat} (hN:1000<=N) (hn:n<=12) (hj:j<n) {l:List Fl} (h:l.length=n*n) (k:List Fl->Bool):rn N n n l j k=k (vf n (λt=>elt l n t j)):=by
 (unfold rn; rw[ac]; unfold qq)
 refine aA (λt:Nat=>((t:Int),(vf n (λt=>elt l n t j)).take t)) n (by omega) ?_ ?_
 ·intro t ht K;unfold jO;dsimp only;rw[decide_eq_true (by omega:(t:Int)<(n:Int)),cond_true,ca hn ht hj h,xv n (λt=>elt l n t j) ht,aa (decide_eq_true (by rw[List.length_take,bK]; omega)),aa (ab (by omega) (by omega))];rfl
 ·intro K;unfold jO;dsimp only;rw[decide_eq_false (by omega:¬(n:Int)<(n:Int)),cond_false,List.take_of_length_le (by rw[bK]; omega)]
theorem Rb {N n:Nat} (hN:1000<=N) (hn:n<=12) (L:Nat->Nat->Fl) {B:List Fl} (hB:B.length=n*n) (t4 t5:Int) (e0:Bool->List Fl->Bool) :
  ah N (B2 N n n B t4 t5 n n (mf n L) n n e0) (0,false,mf n (λ_ _=>some 0))=e0 (smO n L (elt B n)) (mf n (smX n L (elt B n))):=by
 rw[G5 n (smX n L (elt B n))];refine aA (λj:Nat=>((j:Int),orB (λj=>slO n L (λt=>elt B n t j)) j,mf n (smS (smX n L (elt B n)) j 0))) n (by omega) ?_ ?_
 ·intro j hj K;unfold B2;dsimp only;rw[decide_eq_true (by omega:(j:Int)<(n:Int)),cond_true,LD hN hn hj hB,JS hN hn L (bK _ _)];have hb:∀ i,i<n->bt (vf n (λt=>elt B n t j)) i=elt B n i j:=λi hi=>i9 n _ hi none
  rw[yu hb,jI (g':=λi=>smX n L (elt B n) i j) (λi hi=>yv hb i hi)];refine(aA (λi:Nat=>((i:Int),mf n (smS (smX n L (elt B n)) j i))) n (N:=N) (by omega) (out:=K ((((j+1:Nat)):Int),orB (λj=>slO n L (λt=>elt B n t j)) (j+1),mf n (smS (smX n L (elt B n)) (j+1) 0))) ?_ ?_:_)
  ·intro i hi K';unfold hK;dsimp only;rw[bK,decide_eq_true (by omega:(i:Int)<(n:Int)),cond_true,aa (ai (by omega) (by omega)),Int.toNat_natCast,lV hn hi hj,aa (ab (by omega) (by omega)),i9 n _ hi,G4];rfl
  ·intro K';unfold hK;dsimp only;rw[bK,decide_eq_false (by omega:¬(n:Int)<(n:Int)),cond_false,aa (ab (by omega) (by omega)),Kq];rfl
 ·intro K;unfold B2;dsimp only;rw[decide_eq_false (by omega:¬(n:Int)<(n:Int)),cond_false,Kr];rfl
theorem Cu {N n:Nat} (hN:1000<=N) (hn:n<=12) (c:Int) (a:List Fl) {B:List Fl} (hB:B.length=n*n) (fB:az B=true) (k:KC):PP N n c a n n B k=smK n c a B k:=by
 (unfold PP; rw[ac]; unfold Np smK)
 rw[yd hN];by_cases h0:evE n c a=0
 ·obtain⟨m,hm,e1,rfl,hl,hf⟩:=ij h0;obtain rfl:n=m:=by omega
  have n2:=oe hn;rw[h0,show((0:Int) != 0)=false from rfl,cond_false,mw hN,nM hn hB fB,show((0:Int) != 0)=false from rfl,cond_false,show((n:Int) != (n:Int))=false by simp,cond_false,yc hN];unfold chK;by_cases h1:sqE n n a=0
  ·rw[ifz h1,ifz h1];by_cases h2:(cR (elt a (n:Int).toNat) (n:Int).toNat (n:Int).toNat 0 false).2=0
   ·rw[ifz h2,ifz h2];dsimp only;rw[show((0:Int) != 0)=false from rfl,cond_false,lG hn,Int.toNat_natCast,Rb hN hn _ hB];cases smO n (cL (elt a n)) (elt B n) <;> rfl
   ·rw[bT h2,bT h2];dsimp only;rw[aC _ _ h2,cond_true]
  ·rw[bT h1,bT h1];dsimp only;rw[aC _ _ h1,cond_true]
 ·have e:sqE n c a=evE n c a:=by unfold sqE; rw[if_pos h0]
  rw[e,bT h0,aC _ _ h0,cond_true]
theorem Ea {N:Nat} (hN:1000<=N) (r c:Int) (a:List Fl) (k:KC):PT N r c a k=ivK r c a k:=by
 (unfold PT; rw[ac]; unfold Nz ivK)
 rw[yd hN];by_cases h0:evE r c a=0
 ·obtain⟨n,hn,rfl,rfl,hl,hf⟩:=ij h0;rw[h0,show((0:Int) != 0)=false from rfl,cond_false,LH hN hn,Cu hN hn _ _ (bH n _) (Gz n)];unfold smK;by_cases h1:sqE n n a=0
  ·rw[ifz h1,ifz h1,Int.toNat_natCast];have hB:∀ i j,i<n->j<n->elt (mf n jX) n i j=jX i j:=λi j hi hj=>gF n _ hi hj
   by_cases h2:(cR (elt a n) n n 0 false).2=0
   ·rw[ifz h2,ifz h2,DC hB];cases h3:smO n (cL (elt a n)) jX
    ·rw[if_neg (by decide),if_neg (by decide)];dsimp only;rw[show((0:Int) != 0)=false from rfl,cond_false,w6 hN hn (smX n (cL (elt a n)) jX) (bH n _) (λi j hi hj=>by rw[gF n _ hi (by omega),uS hB i j hi (by omega)])]
    ·rfl
   ·rw[bT h2,bT h2];dsimp only;rw[aC _ _ h2,cond_true]
  ·rw[bT h1,bT h1];dsimp only;rw[aC _ _ h1,cond_true]
 ·have e:sqE r c a=evE r c a:=by unfold sqE; rw[if_pos h0]
  rw[e,bT h0,aC _ _ h0,cond_true]
theorem ye {N:Nat} (hN:1000<=N) (n:Nat) (hn:n<=12) (c:Int) (l b:List Fl) (k:Int->Bool):ov N n c l b k=k (pn n b):=by
 (unfold ov; rw[ac]; unfold vF pn)
 by_cases h:(b.length:Int)=n
 ·rw[if_neg (λq=>q h),show(((b.length:Nat):Int) != (n:Int))=false by simp[h],cond_false,lU b ⟨by omega,by omega⟩];cases az b <;> rfl
 ·rw[if_pos h,aC _ _ h,cond_true]
theorem Ix {N:Nat} (hN:1000<=N) (r c:Int) (a b:List Fl) (k:KVx):tT N r c a b k=svK r c a b k:=by
 (unfold tT; rw[ac]; unfold sy svK)
 rw[yd hN];by_cases h0:evE r c a=0
 ·obtain⟨n,hn,rfl,rfl,hl,hf⟩:=ij h0;rw[ifz h0,h0,show((0:Int) != 0)=false from rfl,cond_false,ye hN n hn];by_cases h1:pn n b=0
  ·have hb:b.length=n:=by have:=(nx h1).1; omega
   rw[ifz h1,h1,show((0:Int) != 0)=false from rfl,cond_false,yc hN];unfold chK;by_cases h2:sqE n n a=0
   ·rw[ifz h2,ifz h2,Int.toNat_natCast];by_cases h3:(cR (elt a n) n n 0 false).2=0
    ·rw[ifz h3,ifz h3];dsimp only;rw[show((0:Int) != 0)=false from rfl,cond_false,JS hN hn _ hb];cases slO n (cL (elt a n)) (bt b) <;> rfl
    ·rw[bT h3,bT h3];dsimp only;rw[aC _ _ h3,cond_true]
   ·rw[bT h2,bT h2];dsimp only;rw[aC _ _ h2,cond_true]
  ·rw[bT h1,aC _ _ h1,cond_true]
 ·rw[bT h0,aC _ _ h0,cond_true]
theorem Bp {N:Nat} (hN:1000<=N) (r c:Int) (l:List Fl) (k:Int->Bool):GY N r c l k=k (trE r c l):=by
 by_cases h0:evE r c l=0
 ·obtain⟨n,hn,rfl,rfl,hl,hf⟩:=ij h0;rw[Gb hn hN hl hf];unfold trE;rw[ifz h0,Int.toNat_natCast];rfl
 ·have e:trE r c l=evE r c l:=by unfold trE; rw[if_pos h0]
  rw[e];unfold GY; rw[ac]; unfold Qn;rw[mw hN];unfold evE at h0 ⊢;by_cases h1:chk r c l=0
  ·rw[ifz h1]at h0 ⊢;have h2:¬ r=c:=by intro h2;rw[if_neg (λq=>q h2)]at h0;exact h0 rfl
   rw[if_pos h2,h1,show((0:Int) != 0)=false from rfl,cond_false,aC _ _ h2,cond_true]
  ·rw[bT h1,aC _ _ h1,cond_true]
theorem Iw {N:Nat} (hN:1000<=N) (r c:Int) (l b:List Fl) (k:KW):tS N r c l b k=lwK r c l b k:=by
 (unfold tS; rw[ac]; unfold sx lwK)
 rw[Bp hN];by_cases h0:trE r c l=0
 ·obtain⟨n,hn,rfl,rfl,hl,hf,ht⟩:=kZ h0;rw[ifz h0,h0,show((0:Int) != 0)=false from rfl,cond_false,ye hN n hn];by_cases h1:pn n b=0
  ·have hb:b.length=n:=by have:=(nx h1).1; omega
   rw[ifz h1,h1,show((0:Int) != 0)=false from rfl,cond_false,JU hN hn hl hb,Bool.false_or,Int.toNat_natCast];cases orB (dP (elt l n) (bt b)) n <;> rfl
  ·rw[bT h1,aC _ _ h1,cond_true]
 ·rw[bT h0,aC _ _ h0,cond_true]
theorem Iy {N:Nat} (hN:1000<=N) (r c:Int) (l b:List Fl) (k:KW):tU N r c l b k=upK r c l b k:=by
 (unfold tU; rw[ac]; unfold sA upK)
 rw[Bp hN];by_cases h0:trE r c l=0
 ·obtain⟨n,hn,rfl,rfl,hl,hf,ht⟩:=kZ h0;rw[ifz h0,h0,show((0:Int) != 0)=false from rfl,cond_false,ye hN n hn];by_cases h1:pn n b=0
  ·have hb:b.length=n:=by have:=(nx h1).1; omega
   rw[ifz h1,h1,show((0:Int) != 0)=false from rfl,cond_false,JV hN hn hl hb,Bool.false_or,Int.toNat_natCast];cases orD (uP (elt l n) (bt b) n) n n <;> rfl
  ·rw[bT h1,aC _ _ h1,cond_true]
 ·rw[bT h0,aC _ _ h0,cond_true]
theorem De {N n:Nat} (hN:1000<=N) {a b:List Fl} (f g:Nat->Fl) (ha:a.length=n) (hn:n<=12) (hb:n<=b.length) (hf:∀ t,t<n->a.getD t none=f t) (hg:∀ t,t<n->b.getD t none=g t) (o:Bool) (k:Fl->Bool->Bool) :
  pa N a b o k=k (dV f g n) (o||dO f g n):=by
 (unfold pa; rw[ac]; unfold sF)
 have h1:((some 0,(0:Int),o):Fl × Int × Bool)=(λt:Nat=>(dV f g t,(t:Int),(o||dO f g t))) 0:=by show _=(some 0,((0:Nat):Int),(o||false)); rw[qY]; rfl
 rw[h1];refine aA (λt:Nat=>(dV f g t,(t:Int),(o||dO f g t))) n (by omega) ?_ ?_
 ·intro t ht K;unfold kY;dsimp only;rw[ha,decide_eq_true (by omega:(t:Int)<(n:Int)),cond_true,aa (ai (by omega) (by omega)),aa (ai (by omega) (by omega)),Int.toNat_natCast,hf t ht,hg t ht,pQ,pQ,aa (ab (by omega) (by omega)),DT o f g t];rfl
 ·intro K;unfold kY;dsimp only;rw[ha,decide_eq_false (by omega:¬(n:Int)<(n:Int)),cond_false]
theorem yg {N n i:Nat} (hn:n<=12) (hi:i<n) {l:List Fl} (h:l.length=n*n) (k:List Fl->Bool):p6 N n n l i k=k (GI l n i):=by
 obtain⟨h1,h2,h3,h4,h5,h6⟩:=Ds (by omega:n<=100) hi h
 (unfold p6; rw[ac]; unfold xC)
 rw[aa h1,aa h2,aa h3,aa h4,h5,h6];rfl
theorem JG {n i m:Nat} {l:List Fl} (h:l.length=n*n) (hi:i<n) (hm:m<=n):(List.drop 0 (List.take m (GI l n i))).length=m /\ ∀ t,t<m->(List.drop 0 (List.take m (GI l n i))).getD t none=elt l n i t:=by rw[List.drop_zero];refine⟨by rw[List.length_take,tF h hi]; omega,λt ht=>?_⟩;rw[List.getD_eq_getElem?_getD,List.getElem?_take,if_pos ht,<- List.getD_eq_getElem?_getD,Mi h hi (by omega)]
theorem Eb {N n:Nat} (hN:1000<=N) (hn:n<=12) {M:List Fl} (v:Nat->Nat->Fl) (hL:M.length=n*n) (hM:∀ i j,i<n->j<=i->elt M n i j=v i j) (k:List Fl->Bool):PO N n n M k=k (mf n (mir v)):=by
 (unfold PO; rw[ac]; unfold Nm)
 rw[lG hn,z7 n v];refine aA (λi:Nat=>((i:Int),mf n (mS v i 0))) n (by omega) ?_ ?_
 ·intro i hi K;unfold g_;dsimp only;rw[decide_eq_true (by omega:(i:Int)<(n:Int)),cond_true];refine(aA (λj:Nat=>((j:Int),mf n (mS v i j))) (i+1) (N:=N) (by omega) (out:=K ((((i+1:Nat)):Int),mf n (mS v (i+1) 0))) ?_ ?_:_)
  ·intro j hj K';have hj2:j<n:=by omega
   unfold hI;dsimp only;have e:=hM i j hi (by omega);rw[decide_eq_true (by omega:(j:Int)<=(i:Int)),cond_true,ca hn hi hj2 hL,e,lV hn hi hj2,ca hn hi hj2 hL,e,lV hn hj2 hi,aa (ab (by omega) (by omega)),zZ n v hj];rfl
  ·intro K';unfold hI;dsimp only;rw[decide_eq_false (by omega:¬((i+1:Nat):Int)<=(i:Int)),cond_false,aa (ab (by omega) (by omega)),Ej];rfl
 ·intro K;unfold g_;dsimp only;rw[decide_eq_false (by omega:¬(n:Int)<(n:Int)),cond_false,Ei]
theorem Rd {N:Nat} (hN:1000<=N) (r c:Int) (l:List Fl) (k:Int->Int->List Fl->Int->Bool):rq N r c l k=qdK r c l k:=by
 (unfold rq; rw[ac]; unfold qr qdK)
 rw[Bp hN];by_cases h0:trE r c l=0
 ·obtain⟨n,hn,rfl,rfl,hl,hf,ht⟩:=kZ h0;rw[ifz h0,h0,show((0:Int) != 0)=false from rfl,cond_false,Int.toNat_natCast,lG hn,RD n (low (qdV l n))];have e:∀ A:Bool,(if A=true then k 0 0 [] 5 else k n n (mf n (mir (qdV l n))) 0)=cond A (k 0 0 [] 5) (k n n (mf n (mir (qdV l n))) 0):=λA=>by cases A <;> rfl
  rw[e];refine aA (λi:Nat=>((i:Int),orB (λi=>orB (λj=>qdO l n i j) (i+1)) i,mf n (rS (low (qdV l n)) i 0))) n (by omega) ?_ ?_
  ·intro i hi K;unfold jP;dsimp only;rw[decide_eq_true (by omega:(i:Int)<(n:Int)),cond_true];generalize ho1:orB (λi=>orB (λj=>qdO l n i j) (i+1)) i=o1;have h1:((0,o1,mf n (rS (low (qdV l n)) i 0)):Int × Bool × List Fl)=(λj:Nat=>((j:Int),(o1||orB (λj=>qdO l n i j) j),mf n (rS (low (qdV l n)) i j))) 0:=by show _=(((0:Nat):Int),(o1||false),_); rw[qY]; rfl
   rw[h1];refine(aA (λj:Nat=>((j:Int),(o1||orB (λj=>qdO l n i j) j),mf n (rS (low (qdV l n)) i j))) (i+1) (N:=N) (by omega) (out:=K ((((i+1:Nat)):Int),orB (λi=>orB (λj=>qdO l n i j) (i+1)) (i+1),mf n (rS (low (qdV l n)) (i+1) 0))) ?_ ?_:_)
   ·intro j hj K';have hj2:j<n:=by omega
    obtain⟨l1,g1⟩:=JG (m:=j+1) hl hi (by omega);obtain⟨l2,g2⟩:=JG (m:=j+1) hl hj2 (by omega);unfold jQ;dsimp only;rw[decide_eq_true (by omega:(j:Int)<=(i:Int)),cond_true,yg hn hi hl,aa (ab (by omega) (by omega)),tF hl hi,aa (decide_eq_true ⟨by omega,by omega⟩),yg hn hj2 hl,aa (ab (by omega) (by omega)),tF hl hj2,aa (decide_eq_true ⟨by omega,by omega⟩),show Int.toNat ((j:Int)+1)=j+1 by omega];refine(De hN (λt=>elt l n i t) (λt=>elt l n j t) l1 (by omega) (by omega) g1 g2 _ _).trans ?_;rw[lV hn hi hj2,aa (ab (by omega) (by omega))];have e3:low (qdV l n) i j=qdV l n i j:=by unfold low; rw[if_pos (by omega)]
    rw[show dV (λt=>elt l n i t) (λt=>elt l n j t) (j+1)=low (qdV l n) i j from e3.symm,RC];rw[show((o1||orB (λj=>qdO l n i j) j)||dO (λt=>elt l n i t) (λt=>elt l n j t) (j+1))=(o1||orB (λj=>qdO l n i j) (j+1)) from xb o1 (λj=>qdO l n i j) j];rfl
   ·intro K';unfold jQ;dsimp only;rw[decide_eq_false (by omega:¬((i+1:Nat):Int)<=(i:Int)),cond_false,aa (ab (by omega) (by omega)),<- ho1];have e3:mf n (rS (low (qdV l n)) i (i+1))=mf n (rS (low (qdV l n)) (i+1) 0):=aZ n (λa b _ hb=>by
     unfold rS;by_cases h2:a<i\/(a=i/\b<i+1)
     ·rw[if_pos h2,if_pos (by omega)]
     ·rw[if_neg h2];by_cases h3:a<i+1\/(a=i+1/\b<0)
      ·rw[if_pos h3]; unfold low; rw[if_neg (by omega)]
      ·rw[if_neg h3])
    rw[e3];rfl
  ·intro K;unfold jP;dsimp only;rw[decide_eq_false (by omega:¬(n:Int)<(n:Int)),cond_false,V9,Eb hN hn (qdV l n) (bH n _) (λi j hi hj=>by rw[gF n _ hi (by omega)]; unfold low; rw[if_pos hj])];rfl
 ·rw[bT h0,aC _ _ h0,cond_true]
theorem ZT {t:Fl} (ht:FW t) (f g:Nat->Fl):∀ k,FW (sV t f g k)
 | 0=>ht
 | k+1=>Qh _ _
theorem WX (f g:Nat->Fl):∀ k,FW (dV f g k)
 | 0=>Jd
 | k+1=>Jc _ _
theorem Sd (l:Nat->Nat->Fl) (b:Nat->Fl) (n:Nat):∀ m a,FW (uT l b n m a)
 | 0,a=>Jd
 | m+1,a=>by
  show FW (if a=n - 1 - m then _ else uT l b n m a);by_cases h:a=n - 1 - m
  ·rw[if_pos h]; exact Qf _ _
  ·rw[if_neg h]; exact Sd l b n m a
theorem Te (n:Nat) (L B:Nat->Nat->Fl) (i j:Nat):FW (smX n L B i j):=Sd _ _ _ _ _
theorem WR {n:Nat} {g:Nat->Fl} {P:Fl->Prop} (h:∀ i,i<n->P (g i)):∀ i,i<(vf n g).length->P ((vf n g).getD i none):=by intro i hi;rw[bK]at hi;rw[i9 n g hi];exact h i hi
theorem Pv (l:List Int):(rZ l).length=l.length:=by unfold rZ; rw[List.length_map]
theorem BO {N:Nat} {l:List Int} (h:di N l.length):di N (rZ l).length:=by rw[Pv]; exact h
theorem ET {n:Nat} {g:Nat->Fl} (h:∀ i,i<n->bD (g i)=true):az (vf n g)=true:=by unfold az;rw[bX];exact WR (P:=λx=>bD x=true) h
theorem VL {n:Nat} {l:Nat->Nat->Fl} {b:Nat->Fl} (h:orB (dP l b) n=false):∀ i,i<n->bD (dX l b i)=true:=λi hi=>by have:=nD h i hi;unfold dP at this;rw[Bool.or_eq_false_iff]at this;simpa using this.2
theorem WP {n:Nat} {l:Nat->Nat->Fl} {b:Nat->Fl} (h:orD (uP l b n) n n=false):∀ i,i<n->bD (uX l b n i)=true:=λi hi=>by have:=ym (Nat.le_refl n) h i (by omega) hi;unfold uP at this;rw[Bool.or_eq_false_iff]at this;simpa using this.2
theorem KU (r c:Int) (a:List Fl):(∃ p e:Int,e ≠ 0 /\ ∀ k:KC,chK r c a k=k 0 0 [] p e) \/
  (∃ n:Nat,n<=12/\r=n/\c=n/\a.length=n*n/\(cR (elt a n) n n 0 false).2=0 /\ ∀ k:KC,chK r c a k=k n n (mf n (cL (elt a n))) 0 0):=by
 unfold chK;by_cases h0:sqE r c a=0
 ·obtain⟨n,hn,rfl,rfl,hl,hf,hs⟩:=p9 h0;by_cases h1:(cR (elt a (n:Int).toNat) (n:Int).toNat (n:Int).toNat 0 false).2=0
  ·exact .inr ⟨n,hn,rfl,rfl,hl,h1,λk=>by rw[ifz h0,ifz h1]; rfl⟩
  ·exact .inl ⟨_,_,h1,λk=>by rw[ifz h0,bT h1]⟩
 ·exact .inl ⟨0,_,h0,λk=>by rw[bT h0]⟩
theorem Lg (r c:Int) (a:List Fl):(∃ p e:Int,e ≠ 0 /\ ∀ k:KC,ivK r c a k=k 0 0 [] p e) \/
  (∃(n:Nat) (P:List Fl),n<=12/\r=n/\c=n/\P.length=n*n/\az P=true/\AllW P/\Cn n P/\mU n P=true /\ ∀ k:KC,ivK r c a k=k n n P 0 0):=by
 unfold ivK;by_cases h0:sqE r c a=0
 ·obtain⟨n,hn,rfl,rfl,hl,hf,hs⟩:=p9 h0;by_cases h1:(cR (elt a (n:Int).toNat) (n:Int).toNat (n:Int).toNat 0 false).2=0
  ·cases h2:smO (n:Int).toNat (cL (elt a (n:Int).toNat)) jX
   ·refine .inr ⟨n,_,hn,rfl,rfl,bH n _,yk (J2 λi j hi hj=>?_),XD (SJ λa b=>Te _ _ _ _ _),J3 _,Gs _,λk=>by rw[ifz h0,ifz h1,if_neg (by decide)]; rfl⟩;exact Kp h2 i j hi (by omega)
   ·exact .inl ⟨0,5,by decide,λk=>by rw[ifz h0,ifz h1,if_pos rfl]⟩
  ·exact .inl ⟨_,_,h1,λk=>by rw[ifz h0,bT h1]⟩
 ·exact .inl ⟨0,_,h0,λk=>by rw[bT h0]⟩
theorem MA (r c:Int) (a b:List Fl):(∃ p e:Int,e ≠ 0 /\ ∀ k:KVx,svK r c a b k=k [] p e) \/
  (∃(n:Nat) (x:List Fl),n<=12/\r=n/\c=n/\x.length=n/\az x=true /\ ∀ k:KVx,svK r c a b k=k x 0 0):=by
 unfold svK;by_cases h0:evE r c a=0
 ·by_cases h1:pn r b=0
  ·by_cases h2:sqE r c a=0
   ·obtain⟨n,hn,rfl,rfl,hl,hf,hs⟩:=p9 h2;by_cases h3:(cR (elt a (n:Int).toNat) (n:Int).toNat (n:Int).toNat 0 false).2=0
    ·cases h4:slO (n:Int).toNat (cL (elt a (n:Int).toNat)) (bt b)
     ·exact .inr ⟨n,_,hn,rfl,rfl,bK _ _,ET λi hi=>Ko h4 i hi,λk=>by rw[ifz h0,ifz h1,ifz h2,ifz h3,if_neg (by decide)]; rfl⟩
     ·exact .inl ⟨0,5,by decide,λk=>by rw[ifz h0,ifz h1,ifz h2,ifz h3,if_pos rfl]⟩
    ·exact .inl ⟨_,_,h3,λk=>by rw[ifz h0,ifz h1,ifz h2,bT h3]⟩
   ·exact .inl ⟨0,_,h2,λk=>by rw[ifz h0,ifz h1,bT h2]⟩
  ·exact .inl ⟨0,_,h1,λk=>by rw[ifz h0,bT h1]⟩
 ·exact .inl ⟨0,_,h0,λk=>by rw[bT h0]⟩
theorem LW (r c:Int) (l b:List Fl):(∃ e:Int,e ≠ 0 /\ ∀ k:KW,lwK r c l b k=k [] e) \/
  (∃(n:Nat) (x:List Fl),n<=12/\r=n/\c=n/\l.length=n*n/\az l=true/\Qb n l=true/\x.length=n/\az x=true /\ ∀ k:KW,lwK r c l b k=k x 0):=by
 unfold lwK;by_cases h0:trE r c l=0
 ·by_cases h1:pn r b=0
  ·obtain⟨n,hn,rfl,rfl,hl,hf,ht⟩:=kZ h0;cases h4:orB (dP (elt l (n:Int).toNat) (bt b)) (n:Int).toNat
   ·exact .inr ⟨n,_,hn,rfl,rfl,hl,hf,ht,bK _ _,ET λi hi=>VL h4 i hi,λk=>by rw[ifz h0,ifz h1,if_neg (by decide)]; rfl⟩
   ·exact .inl ⟨5,by decide,λk=>by rw[ifz h0,ifz h1,if_pos rfl]⟩
  ·exact .inl ⟨_,h1,λk=>by rw[ifz h0,bT h1]⟩
 ·exact .inl ⟨_,h0,λk=>by rw[bT h0]⟩
theorem MF (r c:Int) (l b:List Fl):(∃ e:Int,e ≠ 0 /\ ∀ k:KW,upK r c l b k=k [] e) \/
  (∃(n:Nat) (x:List Fl),n<=12/\r=n/\x.length=n/\az x=true /\ ∀ k:KW,upK r c l b k=k x 0):=by
 unfold upK;by_cases h0:trE r c l=0
 ·by_cases h1:pn r b=0
  ·obtain⟨n,hn,rfl,rfl,hl,hf,ht⟩:=kZ h0;cases h4:orD (uP (elt l (n:Int).toNat) (bt b) (n:Int).toNat) (n:Int).toNat (n:Int).toNat
   ·exact .inr ⟨n,_,hn,rfl,bK _ _,ET λi hi=>WP h4 i hi,λk=>by rw[ifz h0,ifz h1,if_neg (by decide)]; rfl⟩
   ·exact .inl ⟨5,by decide,λk=>by rw[ifz h0,ifz h1,if_pos rfl]⟩
  ·exact .inl ⟨_,h1,λk=>by rw[ifz h0,bT h1]⟩
 ·exact .inl ⟨_,h0,λk=>by rw[bT h0]⟩
theorem Mg (r c:Int) (l:List Fl):(∃ e:Int,e ≠ 0 /\ ∀ k:Int->Int->List Fl->Int->Bool,qdK r c l k=k 0 0 [] e) \/
  (∃(n:Nat) (Q:List Fl),n<=12/\r=n/\c=n/\l.length=n*n/\Q.length=n*n/\az Q=true/\AllW Q/\Cn n Q/\mU n Q=true /\ ∀ k:Int->Int->List Fl->Int->Bool,qdK r c l k=k n n Q 0):=by
 unfold qdK;by_cases h0:trE r c l=0
 ·obtain⟨n,hn,rfl,rfl,hl,hf,ht⟩:=kZ h0;cases h4:orL (n:Int).toNat (qdO l (n:Int).toNat)
  ·refine .inr ⟨n,_,hn,rfl,rfl,hl,bH n _,yk (J2 λi j hi hj=>?_),XD (SJ λa b=>WX _ _ _),J3 _,Gs _,λk=>by rw[ifz h0,if_neg (by decide)]; rfl⟩;exact Ob (nD (nD h4 i hi) j (by omega))
  ·exact .inl ⟨5,by decide,λk=>by rw[ifz h0,if_pos rfl]⟩
 ·exact .inl ⟨_,h0,λk=>by rw[bT h0]⟩
theorem HI {N:Nat} (hF:Fuel N) (Y V:List Fl) (rr cc:Int) (hw:AllW Y):∃(x:List Fl) (a b:Int) (p:List Fl) (e:Int),x.length<=12/\az x=true/\p.length<=144/\az p=true /\
  (e=0 -> ∃ n:Nat,a=n/\b=n/\n<=12/\x.length=n/\p.length=n*n/\mU n p=true/\xd n p=true/\AllW p/\Cn n p) /\
  (∀ k:List Fl->Int->Int->List Fl->Int->Bool,iY N rr cc Y V k=k x a b p e) /\ ∀ k:List Fl->Int->Int->List Fl->Int->Bool,Dz N rr cc Y V k=k x a b p e:=by
 have hN:=hF.lt;have key:∀ k:List Fl->Int->Int->List Fl->Int->Bool,iY N rr cc Y V k=(if kp V rr cc Y ≠ 0 then k [] 0 0 [] (kp V rr cc Y)else ivK rr cc Y λa b p _ e=>cond (e != 0) (k [] 0 0 [] e) (bN N a b p λq=>cond (!q) (k [] 0 0 [] 151) (svK rr cc Y V λx _ e=>cond (e != 0) (k [] 0 0 [] e) (k x a b p 0)))):=λk=>by
  (unfold iY; rw[ac]; unfold qm)
  rw[vV hF _ _ _ _ hw];by_cases h0:kp V rr cc Y=0
  ·rw[ifz h0,h0,show((0:Int) != 0)=false from rfl,cond_false,F4 (by omega)];simp only[Lr (show 1000<=N by omega)]
  ·rw[bT h0,aC _ _ h0,cond_true]
 have key2:∀ k:List Fl->Int->Int->List Fl->Int->Bool,Dz N rr cc Y V k=(if kp V rr cc Y ≠ 0 then k [] 0 0 [] (kp V rr cc Y)else ivK rr cc Y λa b p _ e=>cond (e != 0) (k [] 0 0 [] e) (Cz N a b p λq=>cond (!q) (k [] 0 0 [] 151) (svK rr cc Y V λx _ e=>cond (e != 0) (k [] 0 0 [] e) (k x a b p 0)))):=λk=>by
  (unfold Dz; rw[ac]; unfold Nv)
  rw[te hF _ _ _ _ hw];by_cases h0:kp V rr cc Y=0
  ·rw[ifz h0,h0,show((0:Int) != 0)=false from rfl,cond_false,Ea (by omega)];simp only[Ix (show 1000<=N by omega)]
  ·rw[bT h0,aC _ _ h0,cond_true]
 have er:∀ e:Int,e ≠ 0->(∀ k:List Fl->Int->Int->List Fl->Int->Bool,iY N rr cc Y V k=k [] 0 0 [] e)->(∀ k:List Fl->Int->Int->List Fl->Int->Bool,Dz N rr cc Y V k=k [] 0 0 [] e) -> ∃(x:List Fl) (a b:Int) (p:List Fl) (e:Int),x.length<=12/\az x=true/\p.length<=144/\az p=true /\
  (e=0 -> ∃ n:Nat,a=n/\b=n/\n<=12/\x.length=n/\p.length=n*n/\mU n p=true/\xd n p=true/\AllW p/\Cn n p) /\
  (∀ k:List Fl->Int->Int->List Fl->Int->Bool,iY N rr cc Y V k=k x a b p e) /\ ∀ k:List Fl->Int->Int->List Fl->Int->Bool,Dz N rr cc Y V k=k x a b p e:=
  λe he h1 h2=>⟨[],0,0,[],e,Nat.zero_le _,rfl,Nat.zero_le _,rfl,λq=>absurd q he,h1,h2⟩
 by_cases h0:kp V rr cc Y=0
 ·rcases Lg rr cc Y with⟨p,e,he,q⟩ | ⟨n,P,hn,e1,e2,hP,fP,wP,sP,bP,q⟩
  ·exact er e he (λk=>by rw[key,ifz h0,q,aC _ _ he,cond_true]) (λk=>by rw[key2,ifz h0,q,aC _ _ he,cond_true])
  ·have p1:∀ k,bN N n n P k=k (xd n P):=Bc hF hn hP fP wP sP;have p2:∀ k,Cz N n n P k=k (xd n P):=qK hF hn hP fP wP sP;cases h3:xd n P
   ·exact er 151 (by decide) (λk=>by rw[key,ifz h0,q]; show bN N n n P _=_; rw[p1,h3]; rfl) (λk=>by rw[key2,ifz h0,q]; show Cz N n n P _=_; rw[p2,h3]; rfl)
   ·rcases MA rr cc Y V with⟨p,e,he,q2⟩ | ⟨m,x,hm,e3,e4,hx,fx,q2⟩
    ·exact er e he (λk=>by rw[key,ifz h0,q]; show bN N n n P _=_; rw[p1,h3,Bool.not_true,cond_false,q2,aC _ _ he,cond_true]) (λk=>by rw[key2,ifz h0,q]; show Cz N n n P _=_; rw[p2,h3,Bool.not_true,cond_false,q2,aC _ _ he,cond_true])
    ·have n2:=oe hn;exact⟨x,n,n,P,0,by omega,fx,by omega,fP,λ_=>⟨n,rfl,rfl,hn,by omega,hP,bP,h3,wP,sP⟩,λk=>by rw[key,ifz h0,q]; show bN N n n P _=_; rw[p1,h3,Bool.not_true,cond_false,q2]; rfl,λk=>by rw[key2,ifz h0,q]; show Cz N n n P _=_; rw[p2,h3,Bool.not_true,cond_false,q2]; rfl⟩
 ·exact er _ h0 (λk=>by rw[key,bT h0]) (λk=>by rw[key2,bT h0])
theorem C3 {x:List Fl} {r c:Int} {xs:List Fl} (h:Cr x r c xs=0):r=x.length/\c=x.length/\x.length<=12/\xs.length=x.length*x.length/\az x=true/\az xs=true:=by
 unfold Cr at h;split at h
 ·exact absurd h (by assumption)
 ·rename_i h0;have h0:chk r c xs=0:=by simpa using h0
  split at h
  ·rename_i h1;obtain⟨rfl,h1⟩:=h1;subst h1;have q:=mh.1 h0;split at h
   ·rename_i h2;exact⟨rfl,rfl,by omega,by exact_mod_cast q.2.1,h2,q.2.2⟩
   ·cases h
  ·cases h
abbrev KM:=Int->Int->List Fl->List Fl->Int->Bool
def VB (f g:KM->Bool):Prop:=∃(a b:Int) (M v:List Fl) (e:Int),M.length<=144/\az M=true/\v.length<=12/\az v=true/\(∀ k,f k=k a b M v e) /\ ∀ k,g k=k a b M v e
theorem oh {f g:KM->Bool} {e:Int} (h1:∀ k,f k=k 0 0 [] [] e) (h2:∀ k,g k=k 0 0 [] [] e):VB f g:=⟨0,0,[],[],e,Nat.zero_le _,rfl,Nat.zero_le _,rfl,h1,h2⟩
theorem WL {n:Nat} {l:List Fl} (hl:l.length=n*n) (hf:az l=true):az (mf n λa b=>elt l n b a)=true:=yk λa b ha hb=>cD hf (by rw[hl]; exact eo hb ha)
theorem Fe {N:Nat} (hF:Fuel N) (Y V:List Fl) (rr cc:Int) (hw:AllW Y):VB (l5 N rr cc Y V) (Kk N rr cc Y V):=by
 have hN:1000<=N:=by have:=hF.lt; omega
 have key:∀ k:KM,l5 N rr cc Y V k=(if kp V rr cc Y ≠ 0 then k 0 0 [] [] (kp V rr cc Y)else chK rr cc Y λa b L _ e=>cond (e != 0) (k 0 0 [] [] e) (lwK a b L V λx e=>cond (e != 0) (k 0 0 [] [] e) (Mp N a b L λc d M e=>k c d M x e))):=λk=>by
  (unfold l5; rw[ac]; unfold pk)
  rw[vV hF _ _ _ _ hw];by_cases h0:kp V rr cc Y=0
  ·rw[ifz h0,h0,show((0:Int) != 0)=false from rfl,cond_false,Ba hN];simp only[Im hN]
  ·rw[bT h0,aC _ _ h0,cond_true]
 have key2:∀ k:KM,Kk N rr cc Y V k=(if kp V rr cc Y ≠ 0 then k 0 0 [] [] (kp V rr cc Y)else chK rr cc Y λa b L _ e=>cond (e != 0) (k 0 0 [] [] e) (lwK a b L V λx e=>cond (e != 0) (k 0 0 [] [] e) (zq N a b L λM=>k b a M x 0))):=λk=>by
  (unfold Kk; rw[ac]; unfold NE)
  rw[te hF _ _ _ _ hw];by_cases h0:kp V rr cc Y=0
  ·rw[ifz h0,h0,show((0:Int) != 0)=false from rfl,cond_false,yc hN];simp only[Iw hN]
  ·rw[bT h0,aC _ _ h0,cond_true]
 by_cases h0:kp V rr cc Y=0
 ·rcases KU rr cc Y with⟨p,e,he,q⟩ | ⟨n,hn,e1,e2,hl,hc,q⟩
  ·exact oh (e:=e) (λk=>by rw[key,ifz h0,q,aC _ _ he,cond_true]) (λk=>by rw[key2,ifz h0,q,aC _ _ he,cond_true])
  ·rcases LW n n (mf n (cL (elt Y n))) V with⟨e,he,q2⟩ | ⟨m,x,hm,e3,e4,hL,fL,tL,hx,fx,q2⟩
   ·refine oh (e:=e) (λk=>?_) (λk=>?_)
    ·rw[key,ifz h0,q];rw[show((0:Int) != 0)=false from rfl,cond_false,q2,aC _ _ he,cond_true]
    ·rw[key2,ifz h0,q];rw[show((0:Int) != 0)=false from rfl,cond_false,q2,aC _ _ he,cond_true]
   ·obtain rfl:n=m:=by omega
    have n2:=oe hn;refine⟨n,n,_,x,0,by rw[bH]; exact n2,WL hL fL,by omega,fx,λk=>?_,λk=>?_⟩
    ·rw[key,ifz h0,q];rw[show((0:Int) != 0)=false from rfl,cond_false,q2,show((0:Int) != 0)=false from rfl,cond_false,vW hN hn hL fL]
    ·rw[key2,ifz h0,q];rw[show((0:Int) != 0)=false from rfl,cond_false,q2,show((0:Int) != 0)=false from rfl,cond_false,wX hn hN hL]
 ·exact oh (e:=kp V rr cc Y) (λk=>by rw[key,bT h0]) (λk=>by rw[key2,bT h0])
theorem HH {N:Nat} (hN:1000<=N) (R Z:List Fl) (rr cc:Int) (hR:di N R.length) (hZ:di N Z.length):∃(v:List Fl) (e:Int),v.length<=12/\az v=true/\(∀ k:KW,kI N rr cc R Z k=k v e) /\ ∀ k:KW,mM N rr cc R Z k=k v e:=by
 by_cases h0:Cr Z rr cc R=0
 ·obtain⟨rfl,rfl,hn,hl,fZ,fR⟩:=C3 h0;have key:∀ k:KW,kI N Z.length Z.length R Z k=upK Z.length Z.length (mf Z.length λa b=>elt R Z.length b a) Z k:=λk=>by
   (unfold kI; rw[ac]; unfold nh)
   rw[dH _ _ _ _ hN hZ hR,h0,show((0:Int) != 0)=false from rfl,cond_false,vW hN hn hl fR];exact Io hN _ _ _ _ _
  have key2:∀ k:KW,mM N Z.length Z.length R Z k=upK Z.length Z.length (mf Z.length λa b=>elt R Z.length b a) Z k:=λk=>by unfold mM sD;rw[iL hN _ _ _ _ hZ,h0,show((0:Int) != 0)=false from rfl,cond_false,wX hn hN hl];exact Iy hN _ _ _ _ _
  rcases MF Z.length Z.length (mf Z.length λa b=>elt R Z.length b a) Z with⟨e,he,q⟩ | ⟨n,x,hm,e1,hx,fx,q⟩
  ·exact⟨[],e,Nat.zero_le _,rfl,λk=>by rw[key,q],λk=>by rw[key2,q]⟩
  ·exact⟨x,0,by omega,fx,λk=>by rw[key,q],λk=>by rw[key2,q]⟩
 ·refine⟨[],Cr Z rr cc R,Nat.zero_le _,rfl,λk=>?_,λk=>?_⟩
  ·(unfold kI; rw[ac]; unfold nh)
   rw[dH _ _ _ _ hN hZ hR,aC _ _ h0,cond_true]
  ·unfold mM sD;rw[iL hN _ _ _ _ hZ,aC _ _ h0,cond_true]
theorem OU {N n:Nat} (hN:1000<=N) {a b:List Fl} (f g:Nat->Fl) (ha:a.length=n) (hn:n<=12) (hb:n<=b.length) (hf:∀ t,t<n->a.getD t none=f t) (hg:∀ t,t<n->b.getD t none=g t) (o:Bool) (k:Fl->Bool->Bool) :
  tI N a b o k=k (dV f g n) (o||dO f g n):=by
 (unfold tI; rw[ac]; unfold si)
 have h1:((some 0,(0:Int),o):Fl × Int × Bool)=(λt:Nat=>(dV f g t,(t:Int),(o||dO f g t))) 0:=by show _=(some 0,((0:Nat):Int),(o||false)); rw[qY]; rfl
 rw[h1];refine aA (λt:Nat=>(dV f g t,(t:Int),(o||dO f g t))) n (by omega) ?_ ?_
 ·intro t ht K;unfold kQ;dsimp only;rw[ha,decide_eq_true (by omega:(t:Int)<(n:Int)),cond_true,aa (ai (by omega) (by omega)),aa (ai (by omega) (by omega)),Int.toNat_natCast,hf t ht,hg t ht,Q3,F_ (Jc _ _),aa (ab (by omega) (by omega)),DT o f g t];rfl
 ·intro K;unfold kQ;dsimp only;rw[ha,decide_eq_false (by omega:¬(n:Int)<(n:Int)),cond_false]
theorem O9 {N n i:Nat} (hn:n<=12) (hi:i<n) {l:List Fl} (h:l.length=n*n) (k:List Fl->Bool):wi N n n l i k=k (GI l n i):=by
 obtain⟨h1,h2,h3,h4,h5,h6⟩:=Ds (by omega:n<=100) hi h
 (unfold wi; rw[ac]; unfold vv)
 rw[aa h1,aa h2,aa h3,aa h4,h5,h6];rfl
def urV (L Z:List Fl) (n:Nat) (i:Nat):Fl:=dV (λt=>elt L n i t) (bt Z) (i+1)
def urO (L Z:List Fl) (n:Nat) (i:Nat):Bool:=dO (λt=>elt L n i t) (bt Z) (i+1)
theorem Ef {N n:Nat} (hN:1000<=N) (hn:n<=12) {L Z:List Fl} (hL:L.length=n*n) (hZ:Z.length=n) (a b:Int) (c:List Fl) (t2 t3 y0 y1:Int) (y2:List Fl) (e0:Bool->List Fl->Bool) :
  ah N (dw N n a b c Z t2 t3 n n L y0 y1 y2 e0) (0,false,List.replicate n (some 0))=e0 (orB (urO L Z n) n) (vf n (urV L Z n)):=by
 rw[JC n (urV L Z n)];refine aA (λt:Nat=>((t:Int),orB (urO L Z n) t,vf n (fl_ (urV L Z n) t))) n (by omega) ?_ ?_
 ·intro i hi K;obtain⟨l1,g1⟩:=JG (m:=i+1) hL hi (by omega);unfold dw;dsimp only;rw[decide_eq_true (by omega:(i:Int)<(n:Int)),cond_true,O9 hn hi hL,aa (ab (by omega) (by omega)),tF hL hi,aa (decide_eq_true ⟨by omega,by omega⟩),show Int.toNat ((i:Int)+1)=i+1 by omega];refine(OU hN (λt=>elt L n i t) (bt Z) l1 (by omega) (by omega) g1 (λ_ _=>rfl) _ _).trans ?_;rw[bK,aa (ai (by omega) (by omega)),Int.toNat_natCast,aa (decide_eq_true hi),aa (ab (by omega) (by omega)),EU _ _ hi];rw[show dV (λt=>elt L n i t) (bt Z) (i+1)=urV L Z n i from rfl,JB];rfl
 ·intro K;unfold dw;dsimp only;rw[decide_eq_false (by omega:¬(n:Int)<(n:Int)),cond_false,OB]
theorem Eg {N n:Nat} (hN:1000<=N) (hn:n<=12) {L Z:List Fl} (hL:L.length=n*n) (hZ:Z.length=n) (a b:Int) (c:List Fl) (t2 t3 y0 y1:Int) (y2:List Fl) (e0:Bool->List Fl->Bool) :
  ah N (yA N n a b c Z t2 t3 n n L y0 y1 y2 e0) (0,false,[])=e0 (orB (urO L Z n) n) (vf n (urV L Z n)):=by
 refine aA (λt:Nat=>((t:Int),orB (urO L Z n) t,(vf n (urV L Z n)).take t)) n (by omega) ?_ ?_
 ·intro i hi K;obtain⟨l1,g1⟩:=JG (m:=i+1) hL hi (by omega);have l2:(List.drop 0 (List.take (i+1) Z)).length=i+1:=by rw[List.drop_zero,List.length_take]; omega
  have g2:∀ t,t<i+1->(List.drop 0 (List.take (i+1) Z)).getD t none=bt Z t:=λt ht=>by rw[List.drop_zero,List.getD_eq_getElem?_getD,List.getElem?_take,if_pos ht,<- List.getD_eq_getElem?_getD]; rfl
  unfold yA;dsimp only;rw[decide_eq_true (by omega:(i:Int)<(n:Int)),cond_true,yg hn hi hL,aa (ab (by omega) (by omega)),tF hL hi,aa (decide_eq_true ⟨by omega,by omega⟩),aa (ab (by omega) (by omega)),hZ,aa (decide_eq_true ⟨by omega,by omega⟩),show Int.toNat ((i:Int)+1)=i+1 by omega];refine(De hN (λt=>elt L n i t) (bt Z) l1 (by omega) (by omega) g1 g2 _ _).trans ?_;rw[show dV (λt=>elt L n i t) (bt Z) (i+1)=urV L Z n i from rfl,xv n _ hi,aa (decide_eq_true (by rw[List.length_take,bK]; omega)),aa (ab (by omega) (by omega))];rfl
 ·intro K;unfold yA;dsimp only;rw[decide_eq_false (by omega:¬(n:Int)<(n:Int)),cond_false,List.take_of_length_le (by rw[bK]; omega)]
theorem Sa {L Z:List Fl} {n:Nat} (h:orB (urO L Z n) n=false):az (vf n (urV L Z n))=true:=ET λi hi=>Ob (nD h i hi)
theorem ya {N n:Nat} (hF:Fuel N) (hn:n<=12) {Q:List Fl} (hQ:Q.length=n*n) (fQ:az Q=true) (wQ:AllW Q) (sQ:Cn n Q) (o:Bool) (v:List Fl) (k0:Int->Int->Int->Bool) (k1:Int->Bool) :
  fO N n n Q o v k0 k1=cond o (k0 0 0 5) (cond (!xd n Q) (k0 0 0 170) (k1 0)):=by
 (unfold fO; rw[ac]; unfold jS; unfold xj; rw[ac]; unfold qj)
 rw[Bc hF hn hQ fQ wQ sQ]
theorem yf {N n:Nat} (hF:Fuel N) (hn:n<=12) {Q:List Fl} (hQ:Q.length=n*n) (fQ:az Q=true) (wQ:AllW Q) (bQ:mU n Q=true) (o:Bool) (v:List Fl) (k0:Int->Int->Int->Bool) (k1:List Fl->Int->Bool) :
  Kg N n n Q v o k0 k1=cond o (k0 0 0 5) (cond (!xd n Q) (k0 0 0 170) (k1 Q 0)):=by
 (unfold Kg; rw[ac]; unfold M9; unfold S1; rw[ac]; unfold ND)
 have e:mf n (mir (elt Q n))=Q:=by
  apply List.ext_getElem?;intro t;by_cases ht:t<n*n
  ·have hn0:0<n:=by
    rcases Nat.eq_zero_or_pos n with h0 | h0
    ·rw[h0]at ht; omega
    ·exact h0
   have h1:t / n<n:=Nat.div_lt_of_lt_mul ht;have h2:t%n<n:=Nat.mod_lt _ hn0;have e1:=z9 n (mir (elt Q n)) h1 h2 none;have e2:t / n*n+t%n=t:=by rw[Nat.mul_comm]; exact Nat.div_add_mod t n
   rw[e2]at e1;have e3:mir (elt Q n) (t / n) (t%n)=elt Q n (t / n) (t%n):=by
    unfold mir;by_cases h3:t%n<=t / n
    ·rw[if_pos h3]
    ·rw[if_neg h3]; exact QB hQ fQ bQ h2 h1
   rw[e3]at e1;have e4:elt Q n (t / n) (t%n)=Q.getD t none:=by unfold elt; rw[e2]
   rw[e4]at e1;have g1:t<(mf n (mir (elt Q n))).length:=by rw[bH]; exact ht
   have g2:t<Q.length:=by omega
   rw[List.getD_eq_getElem?_getD,List.getD_eq_getElem?_getD,List.getElem?_eq_getElem g1,List.getElem?_eq_getElem g2]at e1;rw[List.getElem?_eq_getElem g1,List.getElem?_eq_getElem g2];exact congrArg some e1
  ·rw[List.getElem?_eq_none (by rw[bH]; omega),List.getElem?_eq_none (by omega)]
 cases o
 ·rw[cond_false,cond_false,w6 (by have:=hF.lt; omega) hn (elt Q n) hQ (λ_ _ _ _=>rfl),e,qK hF hn hQ fQ wQ (I_ hQ fQ bQ)];cases xd n Q <;> rfl
 ·rfl
theorem Ff {N:Nat} (hF:Fuel N) (R Z:List Fl) (rr cc:Int) (hR:di N R.length) (hZ:di N Z.length):VB (jD N rr cc R Z) (GS N rr cc R Z):=by
 have hN:1000<=N:=by have:=hF.lt; omega
 by_cases h0:Cr Z rr cc R=0
 ·obtain⟨rfl,rfl,hn,hl,fZ,fR⟩:=C3 h0;generalize hm:Z.length=n at *;generalize hL:(mf n λa b=>elt R n b a)=L;have lL:L.length=n*n:=by rw[<- hL,bH]
  have key:∀ k:KM,jD N n n R Z k=qdK n n L λa b Q e=>cond (e != 0) (k 0 0 [] [] e) (ah N (dw N n n n R Z 0 0 n n L a b Q (λs v=>fO N a b Q s v (λc d e=>k c d [] [] e) (λe=>k a b Q v e))) (0,false,List.replicate n (some 0))):=λk=>by
   (unfold jD; rw[ac]; unfold lR)
   rw[dH _ _ _ _ hN (hm ▸ hZ) hR,h0,show((0:Int) != 0)=false from rfl,cond_false,vW hN hn hl fR,hL];rw[Q6 hN,hm,List.length_replicate,Int.toNat_natCast];have hmk:gu 8 (n:Int) (n:Int)=true:=bF (by omega) (by omega) (by omega) (by omega);simp only[hmk,Bool.true_and]
  have key2:∀ k:KM,GS N n n R Z k=qdK n n L λa b Q e=>cond (e != 0) (k 0 0 [] [] e) (ah N (yA N n n n R Z 0 0 n n L a b Q (λs v=>Kg N a b Q v s (λc d e=>k c d [] [] e) (λM e=>k a b M v e))) (0,false,[])):=λk=>by
   (unfold GS; rw[ac]; unfold Jg)
   rw[iL hN _ _ _ _ (hm ▸ hZ),h0,show((0:Int) != 0)=false from rfl,cond_false,wX hn hN hl,hL,Rd hN,hm]
  rcases Mg n n L with⟨e,he,q⟩ | ⟨m,Q,hmn,e1,e2,-,hQ,fQ,wQ,sQ,bQ,q⟩
  ·exact oh (e:=e) (λk=>by rw[key,q,aC _ _ he,cond_true]) (λk=>by rw[key2,q,aC _ _ he,cond_true])
  ·obtain rfl:n=m:=by omega
   have n2:=oe hn;cases h3:orB (urO L Z n) n
   ·cases h4:xd n Q
    ·refine oh (e:=170) (λk=>?_) (λk=>?_)
     ·rw[key,q,show((0:Int) != 0)=false from rfl,cond_false,Ef hN hn lL hm,ya hF hn hQ fQ wQ sQ,h3,h4]; rfl
     ·rw[key2,q,show((0:Int) != 0)=false from rfl,cond_false,Eg hN hn lL hm,yf hF hn hQ fQ wQ bQ,h3,h4]; rfl
    ·refine⟨n,n,Q,vf n (urV L Z n),0,by omega,fQ,by rw[bK]; exact hn,Sa h3,λk=>?_,λk=>?_⟩
     ·rw[key,q,show((0:Int) != 0)=false from rfl,cond_false,Ef hN hn lL hm,ya hF hn hQ fQ wQ sQ,h3,h4]; rfl
     ·rw[key2,q,show((0:Int) != 0)=false from rfl,cond_false,Eg hN hn lL hm,yf hF hn hQ fQ wQ bQ,h3,h4]; rfl
   ·refine oh (e:=5) (λk=>?_) (λk=>?_)
    ·rw[key,q,show((0:Int) != 0)=false from rfl,cond_false,Ef hN hn lL hm,ya hF hn hQ fQ wQ sQ,h3]; rfl
    ·rw[key2,q,show((0:Int) != 0)=false from rfl,cond_false,Eg hN hn lL hm,yf hF hn hQ fQ wQ bQ,h3]; rfl
 ·refine oh (e:=Cr Z rr cc R) (λk=>?_) (λk=>?_)
  ·(unfold jD; rw[ac]; unfold lR)
   rw[dH _ _ _ _ hN hZ hR,aC _ _ h0,cond_true]
  ·(unfold GS; rw[ac]; unfold Jg)
   rw[iL hN _ _ _ _ hZ,aC _ _ h0,cond_true]
theorem Bh {N:Nat} (hN:1000<=N) (a:List Fl) (ha:di N a.length) (hf:az a=true) (k:Bool->Bool):RS N a a k=k true:=by
 (unfold RS; try rw[ac]); unfold Tv
 rw[show(((a.length:Nat):Int) != ((a.length:Nat):Int))=false by simp,cond_false];have h1:=ha.1;have h2:=ha.2;refine aA (λi:Nat=>(i:Int)) a.length (by omega) (λi hi K=>?_) (λK=>?_)
 ·have d1:inR (i:Int) a.length=true:=ai (by omega) (by omega);have d2:af .i64 ((i:Int)+1)=true:=ab (by omega) (by omega);obtain⟨b,hb⟩:=CY (cD hf hi);have fb:∀(b:Nat) (k:Int->Bool),yn N (some b) k=k (b:Int):=λ_ _=>rfl
  unfold EG;dsimp only;rw[decide_eq_true (by omega:(i:Int)<(a.length:Int)),cond_true,aa d1,aa d1,Int.toNat_natCast,hb]
  (unfold SU; try rw[ac]); unfold Sk
  rw[fb,fb,show((b:Int)==b)=true by simp];dsimp only;rw[Bool.not_true,cond_false,aa d2];rfl
 ·unfold EG;dsimp only;rw[decide_eq_false (by omega:¬(a.length:Int)<(a.length:Int)),cond_false]
theorem Ij {N:Nat} (hN:1000<=N) (n m:Int) {P x:List Fl} (hx:x.length<=12) (hP:P.length<=144) (fx:az x=true) (fP:az P=true) (k:Bool->Bool):Wm N x n m P x n m P k=k true:=by
 (unfold Wm; try rw[ac]); unfold TB
 rw[Bh hN x ⟨by omega,by omega⟩ fx,show((n:Int)==n)=true by simp,show((m:Int)==m)=true by simp,show((true:Bool)==true)=true from rfl,cond_true,cond_true,cond_true,Bh hN P ⟨by omega,by omega⟩ fP]
theorem Bb {N:Nat} (hF:Fuel N) (v:List Int) (rows cols:Int) (y r:List Int) (hv:di N v.length) (hy:di N y.length) (hr:di N r.length) (by_:∀ z,z ∈ y->z.toNat<18446744073709551616) :
  sQ3 N v rows cols y r (λb=>b)=true:=by
 have hN:1000<=N:=by have:=hF.lt; omega
 have aw:∀(k:Bool->Bool),sQ0 N k=k true:=λ_=>rfl
 have wY:=V3 by_;have sR:=BO hr;have sV:=BO hv;have c0:∀(A B:Bool),cond ((!true)==false) A B=A:=λ_ _=>rfl
 have c1:∀(e:Int) (A B:Bool),cond (e != e) A B=B:=λe A B=>by rw[show(e != e)=false by simp]; rfl
 have c2:∀(e:Int) (A B:Bool),cond ((e != e)==false) A B=A:=λe A B=>by rw[show(e != e)=false by simp]; rfl
 have c3:∀(e:Int) (A B:Bool),cond ((e==e)==true) A B=A:=λe A B=>by rw[show(e==e)=true by simp]; rfl
 have c4:∀(A B:Bool),cond (true==true) A B=A:=λ_ _=>rfl
 have s12:∀{l:List Fl},l.length<=12->di N l.length:=λh=>⟨by omega,by omega⟩
 have s144:∀{l:List Fl},l.length<=144->di N l.length:=λh=>⟨by omega,by omega⟩
 unfold sQ3 GQ3;rw[OV hv hy,OX hv hr];obtain⟨x,a,b,p,e,hx,fx,hp,fp,-,h1,h2⟩:=HI hF (rZ y) (rZ v) rows cols wY;rw[h1,h2,vV hF _ _ _ _ wY,te hF _ _ _ _ wY,c2,dH _ _ _ _ hN sV sR,iL hN _ _ _ _ sV,c2,Ij hN a b hx hp fx fp,c0,c1];obtain⟨a,b,M,w,e,hM,fM,hw,fw,h1,h2⟩:=Fe hF (rZ y) (rZ v) rows cols wY;rw[h1,h2,Iz hN _ _ (s144 hM) (s12 hw) fM fw,c0,c1];obtain⟨a,b,M,w,e,hM,fM,hw,fw,h1,h2⟩:=Ff hF (rZ r) (rZ v) rows rows sR sV;rw[h1,h2,IB hN _ _ (s144 hM) (s12 hw) fM fw,c0,c1];obtain⟨w,e,hw,fw,h1,h2⟩:=HH hN (rZ r) (rZ v) rows rows sR sV;rw[h1,h2,nX hN _ (s12 hw) fw,c4,c3,aw]
end Go.Proofs.YtdinakfmablagaaGreatDoor
end
