/- Laws in plain Lean. Conditions: none. -/
import Derived.Test.YtdinakfmablagaaGreatDoorK1
set_option linter.unusedVariables false
section
namespace Go.Proofs.YtdinakfmablagaaGreatDoor
open Go Go.Mach Ieee
theorem Lh {N n:Nat} (hN:1000<=N) (hn:n<=12) (k:List Fl->Bool):vR N n k=k (mf n kb):=by
 (unfold vR; rw[ac]; unfold vc)
 rw[lS hn];have h0:((0,mf n λ_ _=>some 0):Int × List Fl)=(λt:Nat=>((t:Int),mf n λa b=>if a=b/\a<t then some 4607182418800017408 else some 0)) 0:=by show _=(((0:Nat):Int),_);rw[bu n (f':=λa b=>if a=b/\a<0 then some 4607182418800017408 else some 0) λa b _ _=>by rw[if_neg (by omega)]];rfl
 rw[h0];refine ax (λt:Nat=>((t:Int),mf n λa b=>if a=b/\a<t then some 4607182418800017408 else some 0)) n (by omega) ?_ ?_
 ·intro t ht K;unfold mn;dsimp only;rw[decide_eq_true (by omega:(t:Int)<(n:Int)),cond_true,mb hn ht ht,aa (ab (by omega) (by omega))];rw[bu n (f':=λa b=>if a=b/\a<t+1 then some 4607182418800017408 else some 0) λa b _ _=>by
   by_cases h:a=t/\b=t
   ·rw[if_pos h,if_pos (by omega)]
   ·rw[if_neg h];by_cases h2:a=b/\a<t
    ·rw[if_pos h2,if_pos (by omega)]
    ·rw[if_neg h2,if_neg (by omega)]]
  rfl
 ·intro K;unfold mn;dsimp only;rw[decide_eq_false (by omega:¬(n:Int)<(n:Int)),cond_false];rw[bu n (f':=kb) λa b ha _=>by
   unfold kb;by_cases h:a=b
   ·rw[if_pos h,if_pos ⟨h,ha⟩]
   ·rw[if_neg h,if_neg (λq=>h q.1)]]
theorem K_ {N n j:Nat} (hN:1000<=N) (hn:n<=12) (hj:j<n) {l:List Fl} (h:l.length=n*n) (k:List Fl->Bool):De N n n l j k=k (vf n (λt=>elt l n t j)):=by
 (unfold De; rw[ac]; unfold IJ)
 refine ax (λt:Nat=>((t:Int),(vf n (λt=>elt l n t j)).take t)) n (by omega) ?_ ?_
 ·intro t ht K;unfold yc;dsimp only;rw[decide_eq_true (by omega:(t:Int)<(n:Int)),cond_true,cd hn ht hj h,rh n (λt=>elt l n t j) ht,aa (decide_eq_true (by rw[List.length_take,aW]; omega)),aa (ab (by omega) (by omega))];rfl
 ·intro K;unfold yc;dsimp only;rw[decide_eq_false (by omega:¬(n:Int)<(n:Int)),cond_false,List.take_of_length_le (by rw[aW]; omega)]
theorem QK {N n:Nat} (hN:1000<=N) (hn:n<=12) (L:Nat->Nat->Fl) {B:List Fl} (hB:B.length=n*n) (t4 t5:Int) (e0:Bool->List Fl->Bool) :
  ai N (BL N n n B t4 t5 n n (mf n L) n n e0) (0,false,mf n (λ_ _=>some 0))=e0 (smO n L (elt B n)) (mf n (smX n L (elt B n))):=by
 rw[GE n (smX n L (elt B n))];refine ax (λj:Nat=>((j:Int),orB (λj=>slO n L (λt=>elt B n t j)) j,mf n (smS (smX n L (elt B n)) j 0))) n (by omega) ?_ ?_
 ·intro j hj K;unfold BL;dsimp only;rw[decide_eq_true (by omega:(j:Int)<(n:Int)),cond_true,K_ hN hn hj hB,Jo hN hn L (aW _ _)];have hb:∀ i,i<n->bt (vf n (λt=>elt B n t j)) i=elt B n i j:=λi hi=>eS n _ hi none
  rw[xX hb,jV (g':=λi=>smX n L (elt B n) i j) (λi hi=>xY hb i hi)];refine(ax (λi:Nat=>((i:Int),mf n (smS (smX n L (elt B n)) j i))) n (N:=N) (by omega) (out:=K ((((j+1:Nat)):Int),orB (λj=>slO n L (λt=>elt B n t j)) (j+1),mf n (smS (smX n L (elt B n)) (j+1) 0))) ?_ ?_:_)
  ·intro i hi K';unfold h_;dsimp only;rw[aW,decide_eq_true (by omega:(i:Int)<(n:Int)),cond_true,aa (ah (by omega) (by omega)),Int.toNat_natCast,mb hn hi hj,aa (ab (by omega) (by omega)),eS n _ hi,GD];rfl
  ·intro K';unfold h_;dsimp only;rw[aW,decide_eq_false (by omega:¬(n:Int)<(n:Int)),cond_false,aa (ab (by omega) (by omega)),JY];rfl
 ·intro K;unfold BL;dsimp only;rw[decide_eq_false (by omega:¬(n:Int)<(n:Int)),cond_false,JZ];rfl
theorem Cc {N n:Nat} (hN:1000<=N) (hn:n<=12) (c:Int) (a:List Fl) {B:List Fl} (hB:B.length=n*n) (fB:aG B=true) (k:KC):Pe N n c a n n B k=smK n c a B k:=by
 (unfold Pe; rw[ac]; unfold ML smK)
 rw[xK hN];by_cases h0:evE n c a=0
 ·obtain⟨m,hm,e1,rfl,hl,hf⟩:=mw h0;obtain rfl:n=m:=by omega
  have n2:=rE hn;rw[h0,show((0:Int) != 0)=false from rfl,cond_false,pI hN,vm hn hB fB,show((0:Int) != 0)=false from rfl,cond_false,show((n:Int) != (n:Int))=false by simp,cond_false,CX hN];unfold chK;by_cases h1:sqE n n a=0
  ·rw[ifz h1,ifz h1];by_cases h2:(cR (elt a (n:Int).toNat) (n:Int).toNat (n:Int).toNat 0 false).2=0
   ·rw[ifz h2,ifz h2];dsimp only;rw[show((0:Int) != 0)=false from rfl,cond_false,lS hn,Int.toNat_natCast,QK hN hn _ hB];cases smO n (cL (elt a n)) (elt B n) <;> rfl
   ·rw[eu h2,eu h2];dsimp only;rw[aF _ _ h2,cond_true]
  ·rw[eu h1,eu h1];dsimp only;rw[aF _ _ h1,cond_true]
 ·have e:sqE n c a=evE n c a:=by unfold sqE; rw[if_pos h0]
  rw[e,eu h0,aF _ _ h0,cond_true]
theorem wI {N:Nat} (hN:1000<=N) (r c:Int) (a:List Fl) (k:KC):JL N r c a k=ivK r c a k:=by
 (unfold JL; rw[ac]; unfold MJ ivK)
 rw[xK hN];by_cases h0:evE r c a=0
 ·obtain⟨n,hn,rfl,rfl,hl,hf⟩:=mw h0;rw[h0,show((0:Int) != 0)=false from rfl,cond_false,Lh hN hn,Cc hN hn _ _ (bD n _) (Gb n)];unfold smK;by_cases h1:sqE n n a=0
  ·rw[ifz h1,ifz h1,Int.toNat_natCast];have hB:∀ i j,i<n->j<n->elt (mf n kb) n i j=kb i j:=λi j hi hj=>ju n _ hi hj
   by_cases h2:(cR (elt a n) n n 0 false).2=0
   ·rw[ifz h2,ifz h2,Dk hB];cases h3:smO n (cL (elt a n)) kb
    ·rw[if_neg (by decide),if_neg (by decide)];dsimp only;rw[show((0:Int) != 0)=false from rfl,cond_false,DT hN hn (smX n (cL (elt a n)) kb) (bD n _) (λi j hi hj=>by rw[ju n _ hi (by omega),uy hB i j hi (by omega)])]
    ·rfl
   ·rw[eu h2,eu h2];dsimp only;rw[aF _ _ h2,cond_true]
  ·rw[eu h1,eu h1];dsimp only;rw[aF _ _ h1,cond_true]
 ·have e:sqE r c a=evE r c a:=by unfold sqE; rw[if_pos h0]
  rw[e,eu h0,aF _ _ h0,cond_true]
theorem Ld {N:Nat} (hN:1000<=N) (n:Nat) (hn:n<=12) (c:Int) (l b:List Fl) (k:Int->Bool):vS N n c l b k=k (AA n b):=by
 (unfold vS; rw[ac]; unfold vg AA)
 by_cases h:(b.length:Int)=n
 ·rw[if_neg (λq=>q h),show(((b.length:Nat):Int) != (n:Int))=false by simp[h],cond_false,ph b ⟨by omega,by omega⟩];cases aG b <;> rfl
 ·rw[if_pos h,aF _ _ h,cond_true]
theorem H5 {N:Nat} (hN:1000<=N) (r c:Int) (a b:List Fl) (k:KVx):tB N r c a b k=svK r c a b k:=by
 (unfold tB; rw[ac]; unfold sf svK)
 rw[xK hN];by_cases h0:evE r c a=0
 ·obtain⟨n,hn,rfl,rfl,hl,hf⟩:=mw h0;rw[ifz h0,h0,show((0:Int) != 0)=false from rfl,cond_false,Ld hN n hn];by_cases h1:AA n b=0
  ·have hb:b.length=n:=by have:=(CG h1).1; omega
   rw[ifz h1,h1,show((0:Int) != 0)=false from rfl,cond_false,CX hN];unfold chK;by_cases h2:sqE n n a=0
   ·rw[ifz h2,ifz h2,Int.toNat_natCast];by_cases h3:(cR (elt a n) n n 0 false).2=0
    ·rw[ifz h3,ifz h3];dsimp only;rw[show((0:Int) != 0)=false from rfl,cond_false,Jo hN hn _ hb];cases slO n (cL (elt a n)) (bt b) <;> rfl
    ·rw[eu h3,eu h3];dsimp only;rw[aF _ _ h3,cond_true]
   ·rw[eu h2,eu h2];dsimp only;rw[aF _ _ h2,cond_true]
  ·rw[eu h1,aF _ _ h1,cond_true]
 ·rw[eu h0,aF _ _ h0,cond_true]
theorem Lc {N n:Nat} (hN:1000<=N) {a b:List Fl} (f g:Nat->Fl) (ha:a.length=n) (hn:n<=12) (hb:n<=b.length) (hf:∀ t,t<n->a.getD t none=f t) (hg:∀ t,t<n->b.getD t none=g t) (o:Bool) (k:Fl->Bool->Bool) :
  Bx N a b o k=k (dV f g n) (o||dO f g n):=by
 (unfold Bx; rw[ac]; unfold IL)
 have h1:((some 0,(0:Int),o):Fl × Int × Bool)=(λt:Nat=>(dV f g t,(t:Int),(o||dO f g t))) 0:=by show _=(some 0,((0:Nat):Int),(o||false)); rw[kO]; rfl
 rw[h1];refine ax (λt:Nat=>(dV f g t,(t:Int),(o||dO f g t))) n (by omega) ?_ ?_
 ·intro t ht K;unfold fG;dsimp only;rw[ha,decide_eq_true (by omega:(t:Int)<(n:Int)),cond_true,aa (ah (by omega) (by omega)),aa (ah (by omega) (by omega)),Int.toNat_natCast,hf t ht,hg t ht,lG,lG,aa (ab (by omega) (by omega)),qq o f g t];rfl
 ·intro K;unfold fG;dsimp only;rw[ha,decide_eq_false (by omega:¬(n:Int)<(n:Int)),cond_false]
theorem Le {N n i:Nat} (hn:n<=12) (hi:i<n) {l:List Fl} (h:l.length=n*n) (k:List Fl->Bool):ku N n n l i k=k (Gl l n i):=by
 obtain⟨h1,h2,h3,h4,h5,h6⟩:=nF (by omega:n<=100) hi h
 (unfold ku; rw[ac]; unfold tS)
 rw[aa h1,aa h2,aa h3,aa h4,h5,h6];rfl
theorem DU {N n:Nat} (hN:1000<=N) (hn:n<=12) {M:List Fl} (v:Nat->Nat->Fl) (hL:M.length=n*n) (hM:∀ i j,i<n->j<=i->elt M n i j=v i j) (k:List Fl->Bool):Pd N n n M k=k (mf n (mir v)):=by
 (unfold Pd; rw[ac]; unfold MK)
 rw[lS hn,zN n v];refine ax (λi:Nat=>((i:Int),mf n (mS v i 0))) n (by omega) ?_ ?_
 ·intro i hi K;unfold hI;dsimp only;rw[decide_eq_true (by omega:(i:Int)<(n:Int)),cond_true];refine(ax (λj:Nat=>((j:Int),mf n (mS v i j))) (i+1) (N:=N) (by omega) (out:=K ((((i+1:Nat)):Int),mf n (mS v (i+1) 0))) ?_ ?_:_)
  ·intro j hj K';have hj2:j<n:=by omega
   unfold hK;dsimp only;have e:=hM i j hi (by omega);rw[decide_eq_true (by omega:(j:Int)<=(i:Int)),cond_true,cd hn hi hj2 hL,e,mb hn hi hj2,cd hn hi hj2 hL,e,mb hn hj2 hi,aa (ab (by omega) (by omega)),zM n v hj];rfl
  ·intro K';unfold hK;dsimp only;rw[decide_eq_false (by omega:¬((i+1:Nat):Int)<=(i:Int)),cond_false,aa (ab (by omega) (by omega)),D3];rfl
 ·intro K;unfold hI;dsimp only;rw[decide_eq_false (by omega:¬(n:Int)<(n:Int)),cond_false,D2]
theorem Zh {t:Fl} (ht:FW t) (f g:Nat->Fl):∀ k,FW (sV t f g k)
 | 0=>ht
 | k+1=>PR _ _
theorem RG (l:Nat->Nat->Fl) (b:Nat->Fl) (n:Nat):∀ m a,FW (uT l b n m a)
 | 0,a=>PS
 | m+1,a=>by
  show FW (if a=n - 1 - m then _ else uT l b n m a);by_cases h:a=n - 1 - m
  ·rw[if_pos h]; exact PP _ _
  ·rw[if_neg h]; exact RG l b n m a
theorem SC (n:Nat) (L B:Nat->Nat->Fl) (i j:Nat):FW (smX n L B i j):=RG _ _ _ _ _
theorem PL {n:Nat} {g:Nat->Fl} {P:Fl->Prop} (h:∀ i,i<n->P (g i)):∀ i,i<(vf n g).length->P ((vf n g).getD i none):=by intro i hi;rw[aW]at hi;rw[eS n g hi];exact h i hi
theorem PM {n:Nat} {g:Nat->Fl} (h:∀ i,i<n->bC (g i)=true):aG (vf n g)=true:=by unfold aG;rw[ik];exact PL (P:=λx=>bC x=true) h
theorem CL (r c:Int) (a:List Fl):(∃ p e:Int,e ≠ 0 /\ ∀ k:KC,ivK r c a k=k 0 0 [] p e) \/
  (∃(n:Nat) (P:List Fl),n<=12/\r=n/\c=n/\P.length=n*n/\aG P=true/\AllW P/\B7 n P/\lw n P=true /\ ∀ k:KC,ivK r c a k=k n n P 0 0):=by
 unfold ivK;by_cases h0:sqE r c a=0
 ·obtain⟨n,hn,rfl,rfl,hl,hf,hs⟩:=tF h0;by_cases h1:(cR (elt a (n:Int).toNat) (n:Int).toNat (n:Int).toNat 0 false).2=0
  ·cases h2:smO (n:Int).toNat (cL (elt a (n:Int).toNat)) kb
   ·refine .inr ⟨n,_,hn,rfl,rfl,bD n _,xO (zQ λi j hi hj=>?_),QT (Jv λa b=>SC _ _ _ _ _),D5 _,F5 _,λk=>by rw[ifz h0,ifz h1,if_neg (by decide)]; rfl⟩;exact JX h2 i j hi (by omega)
   ·exact .inl ⟨0,5,by decide,λk=>by rw[ifz h0,ifz h1,if_pos rfl]⟩
  ·exact .inl ⟨_,_,h1,λk=>by rw[ifz h0,eu h1]⟩
 ·exact .inl ⟨0,_,h0,λk=>by rw[eu h0]⟩
theorem LW (r c:Int) (a b:List Fl):(∃ p e:Int,e ≠ 0 /\ ∀ k:KVx,svK r c a b k=k [] p e) \/
  (∃(n:Nat) (x:List Fl),n<=12/\r=n/\c=n/\x.length=n/\aG x=true /\ ∀ k:KVx,svK r c a b k=k x 0 0):=by
 unfold svK;by_cases h0:evE r c a=0
 ·by_cases h1:AA r b=0
  ·by_cases h2:sqE r c a=0
   ·obtain⟨n,hn,rfl,rfl,hl,hf,hs⟩:=tF h2;by_cases h3:(cR (elt a (n:Int).toNat) (n:Int).toNat (n:Int).toNat 0 false).2=0
    ·cases h4:slO (n:Int).toNat (cL (elt a (n:Int).toNat)) (bt b)
     ·exact .inr ⟨n,_,hn,rfl,rfl,aW _ _,PM λi hi=>JW h4 i hi,λk=>by rw[ifz h0,ifz h1,ifz h2,ifz h3,if_neg (by decide)]; rfl⟩
     ·exact .inl ⟨0,5,by decide,λk=>by rw[ifz h0,ifz h1,ifz h2,ifz h3,if_pos rfl]⟩
    ·exact .inl ⟨_,_,h3,λk=>by rw[ifz h0,ifz h1,ifz h2,eu h3]⟩
   ·exact .inl ⟨0,_,h2,λk=>by rw[ifz h0,ifz h1,eu h2]⟩
  ·exact .inl ⟨0,_,h1,λk=>by rw[ifz h0,eu h1]⟩
 ·exact .inl ⟨0,_,h0,λk=>by rw[eu h0]⟩
theorem Hj {N:Nat} (hF:Fuel N) (Y V:List Fl) (rr cc:Int) (hw:AllW Y):∃(x:List Fl) (a b:Int) (p:List Fl) (e:Int),x.length<=12/\aG x=true/\p.length<=144/\aG p=true /\
  (e=0 -> ∃ n:Nat,a=n/\b=n/\n<=12/\x.length=n/\p.length=n*n/\lw n p=true/\pj n p=true/\AllW p/\B7 n p) /\
  (∀ k:List Fl->Int->Int->List Fl->Int->Bool,iY N rr cc Y V k=k x a b p e) /\ ∀ k:List Fl->Int->Int->List Fl->Int->Bool,Dh N rr cc Y V k=k x a b p e:=by
 have hN:=hF.lt;have key:∀ k:List Fl->Int->Int->List Fl->Int->Bool,iY N rr cc Y V k=(if sE V rr cc Y ≠ 0 then k [] 0 0 [] (sE V rr cc Y)else ivK rr cc Y λa b p _ e=>cond (e != 0) (k [] 0 0 [] e) (br N a b p λq=>cond (!q) (k [] 0 0 [] 151) (svK rr cc Y V λx _ e=>cond (e != 0) (k [] 0 0 [] e) (k x a b p 0)))):=λk=>by
  (unfold iY; rw[ac]; unfold qa)
  rw[HM hF _ _ _ _ hw];by_cases h0:sE V rr cc Y=0
  ·rw[ifz h0,h0,show((0:Int) != 0)=false from rfl,cond_false,yG (by omega)];simp only[KW (show 1000<=N by omega)]
  ·rw[eu h0,aF _ _ h0,cond_true]
 have key2:∀ k:List Fl->Int->Int->List Fl->Int->Bool,Dh N rr cc Y V k=(if sE V rr cc Y ≠ 0 then k [] 0 0 [] (sE V rr cc Y)else ivK rr cc Y λa b p _ e=>cond (e != 0) (k [] 0 0 [] e) (xR N a b p λq=>cond (!q) (k [] 0 0 [] 151) (svK rr cc Y V λx _ e=>cond (e != 0) (k [] 0 0 [] e) (k x a b p 0)))):=λk=>by
  (unfold Dh; rw[ac]; unfold MU)
  rw[FJ hF _ _ _ _ hw];by_cases h0:sE V rr cc Y=0
  ·rw[ifz h0,h0,show((0:Int) != 0)=false from rfl,cond_false,wI (by omega)];simp only[H5 (show 1000<=N by omega)]
  ·rw[eu h0,aF _ _ h0,cond_true]
 have er:∀ e:Int,e ≠ 0->(∀ k:List Fl->Int->Int->List Fl->Int->Bool,iY N rr cc Y V k=k [] 0 0 [] e)->(∀ k:List Fl->Int->Int->List Fl->Int->Bool,Dh N rr cc Y V k=k [] 0 0 [] e) -> ∃(x:List Fl) (a b:Int) (p:List Fl) (e:Int),x.length<=12/\aG x=true/\p.length<=144/\aG p=true /\
  (e=0 -> ∃ n:Nat,a=n/\b=n/\n<=12/\x.length=n/\p.length=n*n/\lw n p=true/\pj n p=true/\AllW p/\B7 n p) /\
  (∀ k:List Fl->Int->Int->List Fl->Int->Bool,iY N rr cc Y V k=k x a b p e) /\ ∀ k:List Fl->Int->Int->List Fl->Int->Bool,Dh N rr cc Y V k=k x a b p e:=
  λe he h1 h2=>⟨[],0,0,[],e,Nat.zero_le _,rfl,Nat.zero_le _,rfl,λq=>absurd q he,h1,h2⟩
 by_cases h0:sE V rr cc Y=0
 ·rcases CL rr cc Y with⟨p,e,he,q⟩ | ⟨n,P,hn,e1,e2,hP,fP,wP,sP,bP,q⟩
  ·exact er e he (λk=>by rw[key,ifz h0,q,aF _ _ he,cond_true]) (λk=>by rw[key2,ifz h0,q,aF _ _ he,cond_true])
  ·have p1:∀ k,br N n n P k=k (pj n P):=wC hF hn hP fP wP sP;have p2:∀ k,xR N n n P k=k (pj n P):=no hF hn hP fP wP sP;cases h3:pj n P
   ·exact er 151 (by decide) (λk=>by rw[key,ifz h0,q]; show br N n n P _=_; rw[p1,h3]; rfl) (λk=>by rw[key2,ifz h0,q]; show xR N n n P _=_; rw[p2,h3]; rfl)
   ·rcases LW rr cc Y V with⟨p,e,he,q2⟩ | ⟨m,x,hm,e3,e4,hx,fx,q2⟩
    ·exact er e he (λk=>by rw[key,ifz h0,q]; show br N n n P _=_; rw[p1,h3,Bool.not_true,cond_false,q2,aF _ _ he,cond_true]) (λk=>by rw[key2,ifz h0,q]; show xR N n n P _=_; rw[p2,h3,Bool.not_true,cond_false,q2,aF _ _ he,cond_true])
    ·have n2:=rE hn;exact⟨x,n,n,P,0,by omega,fx,by omega,fP,λ_=>⟨n,rfl,rfl,hn,by omega,hP,bP,h3,wP,sP⟩,λk=>by rw[key,ifz h0,q]; show br N n n P _=_; rw[p1,h3,Bool.not_true,cond_false,q2]; rfl,λk=>by rw[key2,ifz h0,q]; show xR N n n P _=_; rw[p2,h3,Bool.not_true,cond_false,q2]; rfl⟩
 ·exact er _ h0 (λk=>by rw[key,eu h0]) (λk=>by rw[key2,eu h0])
theorem We {x:List Fl} {r c:Int} {xs:List Fl} (h:WR x r c xs=0):r=x.length/\c=x.length/\x.length<=12/\xs.length=x.length*x.length/\aG x=true/\aG xs=true:=by
 unfold WR at h;split at h
 ·exact absurd h (by assumption)
 ·rename_i h0;have h0:chk r c xs=0:=by simpa using h0
  split at h
  ·rename_i h1;obtain⟨rfl,h1⟩:=h1;subst h1;have q:=kx.1 h0;split at h
   ·rename_i h2;exact⟨rfl,rfl,by omega,by exact_mod_cast q.2.1,h2,q.2.2⟩
   ·cases h
  ·cases h
abbrev KM:=Int->Int->List Fl->List Fl->Int->Bool
def U5 (f g:KM->Bool):Prop:=∃(a b:Int) (M v:List Fl) (e:Int),M.length<=144/\aG M=true/\v.length<=12/\aG v=true/\(∀ k,f k=k a b M v e) /\ ∀ k,g k=k a b M v e
theorem pP {f g:KM->Bool} {e:Int} (h1:∀ k,f k=k 0 0 [] [] e) (h2:∀ k,g k=k 0 0 [] [] e):U5 f g:=⟨0,0,[],[],e,Nat.zero_le _,rfl,Nat.zero_le _,rfl,h1,h2⟩
theorem Oh {N n:Nat} (hN:1000<=N) {a b:List Fl} (f g:Nat->Fl) (ha:a.length=n) (hn:n<=12) (hb:n<=b.length) (hf:∀ t,t<n->a.getD t none=f t) (hg:∀ t,t<n->b.getD t none=g t) (o:Bool) (k:Fl->Bool->Bool) :
  Df N a b o k=k (dV f g n) (o||dO f g n):=by
 (unfold Df; rw[ac]; unfold IM)
 have h1:((some 0,(0:Int),o):Fl × Int × Bool)=(λt:Nat=>(dV f g t,(t:Int),(o||dO f g t))) 0:=by show _=(some 0,((0:Nat):Int),(o||false)); rw[kO]; rfl
 rw[h1];refine ax (λt:Nat=>(dV f g t,(t:Int),(o||dO f g t))) n (by omega) ?_ ?_
 ·intro t ht K;unfold fF;dsimp only;rw[ha,decide_eq_true (by omega:(t:Int)<(n:Int)),cond_true,aa (ah (by omega) (by omega)),aa (ah (by omega) (by omega)),Int.toNat_natCast,hf t ht,hg t ht,zI,A2 (Dq _ _),aa (ab (by omega) (by omega)),qq o f g t];rfl
 ·intro K;unfold fF;dsimp only;rw[ha,decide_eq_false (by omega:¬(n:Int)<(n:Int)),cond_false]
theorem Oy {N n i:Nat} (hn:n<=12) (hi:i<n) {l:List Fl} (h:l.length=n*n) (k:List Fl->Bool):vN N n n l i k=k (Gl l n i):=by
 obtain⟨h1,h2,h3,h4,h5,h6⟩:=nF (by omega:n<=100) hi h
 (unfold vN; rw[ac]; unfold uY)
 rw[aa h1,aa h2,aa h3,aa h4,h5,h6];rfl
theorem CW {N n:Nat} (hF:Fuel N) (hn:n<=12) {Q:List Fl} (hQ:Q.length=n*n) (fQ:aG Q=true) (wQ:AllW Q) (sQ:B7 n Q) (o:Bool) (v:List Fl) (k0:Int->Int->Int->Bool) (k1:Int->Bool) :
  gc N n n Q o v k0 k1=cond o (k0 0 0 5) (cond (!pj n Q) (k0 0 0 170) (k1 0)):=by
 (unfold gc; rw[ac]; unfold j8; unfold JO; rw[ac]; unfold IQ)
 rw[wC hF hn hQ fQ wQ sQ]
theorem wG {N n:Nat} (hF:Fuel N) {l:List Fl} (hn:n<=12) (h:l.length=n*n) (hf:aG l=true) (hw:AllW l) (hs:B7 n l) (k:Bool->Bool) :
  eg N n n l k=k (pj n l):=by
 unfold eg oB;rw[yJ hF hn h hf hw hs];rfl
theorem vA {N:Nat} (hF:Fuel N) (x:List Fl) (r c:Int) (l:List Fl) (hw:AllW l) (k:Int->Bool):kW N x r c l k=k (rO x r c l):=by
 have hN:=hF.lt
 (unfold kW; rw[ac]; unfold nM rO)
 rw[ga (by omega)];by_cases h0:chk r c l=0
 ·have q:=kx.1 h0;rw[h0,if_neg (λh=>h rfl),show((0:Int) != 0)=false from rfl,cond_false];by_cases h1:r=c
  ·subst h1;have e1:((r != r)==false)=true:=by simp
   rw[if_neg (λh=>h rfl),e1,cond_true];obtain⟨n,hn⟩:∃ n:Nat,r=n:=⟨r.toNat,by omega⟩
   subst hn;by_cases h2:(x.length:Int)=n
   ·have e2:(((x.length:Nat):Int) != (n:Int))=false:=by simp[h2]
    have hl:l.length=n*n:=by exact_mod_cast q.2.1
    have hn12:n<=12:=by omega
    rw[e2,cond_false,if_neg (λh=>h h2),oa x ⟨by omega,by omega⟩];cases h3:aG x
    ·rfl
    ·rw[show(!true)=false from rfl,cond_false,if_neg (by decide),zK (by omega) hn12 hl q.2.2,Int.toNat_natCast];cases h4:lw n l
     ·rfl
     ·rw[show(!true)=false from rfl,cond_false,if_neg (by decide),wG hF hn12 hl q.2.2 hw (IF hl q.2.2 h4)];cases pj n l <;> rfl
   ·have e2:(((x.length:Nat):Int) != (n:Int))=true:=by simp[h2]
    rw[e2,cond_true,if_pos h2]
  ·have e1:((r != c)==false)=false:=by simp[h1]
   rw[e1,cond_false,if_pos h1]
 ·have e0:(chk r c l != 0)=true:=by simp[h0]
  rw[e0,cond_true,if_pos h0]
theorem H6 {N n:Nat} (hN:1000<=N) (hn:n<=12) {f p:List Fl} (hf:f.length=n*n) (hp:p.length=n*n) (o:Bool) (k:Bool->List Fl->Bool) :
  Pf N n n f n n p o k=k (o||orM n (prO n f p)) (mf n (prV n f p)):=by
 (unfold Pf; rw[ac]; unfold MN)
 rw[lS hn,JC n (prV n f p)];have h0:((0,o,mf n (rS (prV n f p) 0 0)):Int × Bool × List Fl)=(λi:Nat=>((i:Int),o||orB (λi=>orB (λj=>prO n f p i j) n) i,mf n (rS (prV n f p) i 0))) 0:=by show _=(((0:Nat):Int),o||false,_); rw[kO]; rfl
 rw[h0];refine ax (λi:Nat=>((i:Int),o||orB (λi=>orB (λj=>prO n f p i j) n) i,mf n (rS (prV n f p) i 0))) n (by omega) ?_ ?_
 ·intro i hi K;unfold ic;dsimp only;rw[decide_eq_true (by omega:(i:Int)<(n:Int)),cond_true];generalize ho1:(o||orB (λi=>orB (λj=>prO n f p i j) n) i)=o1;have h1:((0,o1,mf n (rS (prV n f p) i 0)):Int × Bool × List Fl)=(λj:Nat=>((j:Int),o1||orB (λj=>prO n f p i j) j,mf n (rS (prV n f p) i j))) 0:=by show _=(((0:Nat):Int),o1||false,_); rw[kO]; rfl
  rw[h1];refine(ax (λj:Nat=>((j:Int),o1||orB (λj=>prO n f p i j) j,mf n (rS (prV n f p) i j))) n (N:=N) (by omega) (out:=K ((((i+1:Nat)):Int),o||orB (λi=>orB (λj=>prO n f p i j) n) (i+1),mf n (rS (prV n f p) (i+1) 0))) ?_ ?_:_)
  ·intro j hj K';unfold ie;dsimp only;rw[decide_eq_true (by omega:(j:Int)<(n:Int)),cond_true,Ba (by omega) hi hf,OI hN hn hj hp,
    CY (n:=n) (f:=λt=>elt f n i t) (g:=λt=>elt p n t j) hN (by omega) (jN hf hi) (by rw[aW]; omega) (by rw[aW]; omega) (λt ht=>kp hf hi ht) (λt ht=>eS n _ ht none),
    mb hn hi hj,aa (ab (by omega) (by omega))]
   have e:dV (λt=>elt f n i t) (λt=>elt p n t j) n=prV n f p i j:=rfl;have e2:dO (λt=>elt f n i t) (λt=>elt p n t j) n=prO n f p i j:=rfl;rw[e,e2,iX o1 (λj=>prO n f p i j) j,JB];rfl
  ·intro K';unfold ie;dsimp only;rw[decide_eq_false (by omega:¬(n:Int)<(n:Int)),cond_false,aa (ab (by omega) (by omega)),<- ho1,VB,iX o (λi=>orB (λj=>prO n f p i j) n) i];rfl
 ·intro K;unfold ic;dsimp only;rw[decide_eq_false (by omega:¬(n:Int)<(n:Int)),cond_false,OZ];rfl
theorem H4 {N n:Nat} (hF:Fuel N) (hn:n<=12) (x:List Fl) {v:Nat->Nat->Fl} (b:Bool) (hb:b=false -> ∀ i j,i<n->j<=i->bC (v i j)=true) (hw:∀ i j,FW (v i j)) (k0:Int->Int->Int->Bool) (k1:List Fl->Int->Bool) :
  O7 N n n x (mf n (low v)) b k0 k1=cond b (k0 0 0 5) (cond (!pj n (mf n (mir v))) (k0 0 0 151) (k1 (mf n (mir v)) 0)):=by
 have hN:=hF.lt
 (unfold O7; rw[ac]; unfold Mv)
 cases b
 ·rw[cond_false,cond_false,DU (by omega) hn v (bD n _) (λi j hi hj=>by rw[ju n _ hi (by omega)]; unfold low; rw[if_pos hj]),no hF hn (bD n _) (xO (zQ (hb rfl))) (QT (Jv hw)) (D5 _)]
 ·rfl
theorem wJ {N:Nat} (hF:Fuel N) (x:List Fl) (r c:Int) (p:List Fl) (fr fc:Int) (f:List Fl) (qr qc:Int) (q:List Fl) (hwp:AllW p) (k:List Fl->Int->Int->List Fl->Int->Bool) :
  JM N x r c p fr fc f qr qc q k=prK x r c p fr fc f qr qc q (λa b e=>k [] a b [] e) (λa b e v P=>k v a b P e):=by
 have hN:=hF.lt
 (unfold JM; rw[ac]; unfold MM prK)
 rw[oS hF _ _ _ _ hwp];by_cases h0:rO x r c p=0
 ·obtain⟨n,hn,rfl,rfl,hx,hl,fx,fl,-,-⟩:=ug h0;rw[if_neg (λh=>h h0),h0,show((0:Int) != 0)=false from rfl,cond_false,yO (by omega),hx];by_cases h1:sqc fr fc f n=0
  ·obtain⟨rfl,rfl,hfl,ff⟩:=xb h1;rw[if_neg (λh=>h h1),h1,show((0:Int) != 0)=false from rfl,cond_false,yO (by omega)];by_cases h2:sqc qr qc q n=0
   ·obtain⟨rfl,rfl,hql,fq⟩:=xb h2;rw[if_neg (λh=>h h2),h2,show((0:Int) != 0)=false from rfl,cond_false,A3 (by omega) hn hql fq];cases h3:lw n q
    ·rfl
    ·rw[if_pos rfl,if_neg (by decide),show((0:Int) != 0)=false from rfl,cond_false];have z0:((0,false,[]):Int × Bool × List Fl)=(λt:Nat=>((t:Int),false||orB (Cf n f x) t,(vf n (prX n f x)).take t)) 0:=by show _=(((0:Nat):Int),false||false,_); rfl
     rw[z0];refine ax (λt:Nat=>((t:Int),false||orB (Cf n f x) t,(vf n (prX n f x)).take t)) n (by omega) ?_ ?_
     ·intro t ht K;unfold jb;dsimp only;rw[decide_eq_true (by omega:(t:Int)<(n:Int)),cond_true,Ba (by omega) ht hfl,
       CY (n:=n) (f:=λi=>elt f n t i) (g:=λi=>x.getD i none) (by omega) (by omega) (jN hfl ht) (by omega) (by omega) (λi hi=>kp hfl ht hi) (λi hi=>rfl)]
      have e:dV (λi=>elt f n t i) (λi=>x.getD i none) n=prX n f x t:=rfl;have e2:dO (λi=>elt f n t i) (λi=>x.getD i none) n=Cf n f x t:=rfl;rw[e,e2,rh n (prX n f x) ht,aa (decide_eq_true (by rw[List.length_take,aW]; omega)),aa (ab (by omega) (by omega)),iX false (Cf n f x) t];rfl
     ·intro K;unfold jb;dsimp only;rw[decide_eq_false (by omega:¬(n:Int)<(n:Int)),cond_false,List.take_of_length_le (by rw[aW]; omega),H6 (by omega) hn hfl hl,aW,lS hn];generalize hV:nwV n (prV n f p) f q=v;generalize hW:nwO n (prV n f p) f q=w;generalize hO:((false||orB (Cf n f x) n)||orM n (prO n f p))=o;rw[JC n (low v)];have z1:((0,o,mf n (rS (low v) 0 0)):Int × Bool × List Fl)=(λi:Nat=>((i:Int),o||orB (λi=>orB (λj=>w i j) (i+1)) i,mf n (rS (low v) i 0))) 0:=by show _=(((0:Nat):Int),o||false,_); rw[kO]; rfl
      rw[z1];refine ax (λi:Nat=>((i:Int),o||orB (λi=>orB (λj=>w i j) (i+1)) i,mf n (rS (low v) i 0))) n (by omega) ?_ ?_
      ·intro i hi K;unfold jc;dsimp only;rw[decide_eq_true (by omega:(i:Int)<(n:Int)),cond_true];generalize ho1:(o||orB (λi=>orB (λj=>w i j) (i+1)) i)=o1;have z3:((0,o1,mf n (rS (low v) i 0)):Int × Bool × List Fl)=(λj:Nat=>((j:Int),o1||orB (λj=>w i j) j,mf n (rS (low v) i j))) 0:=by show _=(((0:Nat):Int),o1||false,_); rw[kO]; rfl
       rw[z3];refine(ax (λj:Nat=>((j:Int),o1||orB (λj=>w i j) j,mf n (rS (low v) i j))) (i+1) (N:=N) (by omega) (out:=K ((((i+1:Nat)):Int),o||orB (λi=>orB (λj=>w i j) (i+1)) (i+1),mf n (rS (low v) (i+1) 0))) ?_ ?_:_)
       ·intro j hj K';have hj2:j<n:=by omega
        have g7:i*n+n<=n*n:=by rw[tg]; exact Ed hi
        unfold je;dsimp only;rw[decide_eq_true (by omega:(j:Int)<=(i:Int)),cond_true,Lf (by omega) hi (bD n (prV n f p)),Ba (by omega) hj2 hfl,
         H3 (n:=n) (f:=λt=>prV n f p i t) (g:=λt=>elt f n j t) (by omega) (by omega) (by rw[bD]; omega) (by rw[jN hfl hj2]; omega) (by rw[jN hfl hj2]; omega) (λt ht=>wL n (prV n f p) hi ht none) (λt ht=>kp hfl hj2 ht),
         cd hn hi hj2 hql,lG]
        have e:nl (dV (λt=>prV n f p i t) (λt=>elt f n j t) n) (elt q n i j)=v i j:=by rw[<- hV]; rfl
        rw[e,mb hn hi hj2,aa (ab (by omega) (by omega))];have e2:((o1||orB (λj=>w i j) j)||dO (λt=>prV n f p i t) (λt=>elt f n j t) n || !bC (v i j))=(o1||orB (λj=>w i j) (j+1)):=by rw[<- iX o1 (λj=>w i j) j,<- hW,<- hV,Bool.or_assoc]; rfl
        rw[e2];have e3:low v i j=v i j:=by unfold low; rw[if_pos (by omega)]
        rw[<- e3,JB];rfl
       ·intro K';unfold je;dsimp only;have e3:mf n (rS (low v) i (i+1))=mf n (rS (low v) (i+1) 0):=bu n (λa b _ hb=>by
         unfold rS;by_cases h2:a<i\/(a=i/\b<i+1)
         ·rw[if_pos h2,if_pos (by omega)]
         ·rw[if_neg h2];by_cases h3:a<i+1\/(a=i+1/\b<0)
          ·rw[if_pos h3]; unfold low; rw[if_neg (by omega)]
          ·rw[if_neg h3])
        rw[decide_eq_false (by omega:¬((i+1:Nat):Int)<=(i:Int)),cond_false,aa (ab (by omega) (by omega)),<- ho1,e3,iX o (λi=>orB (λj=>w i j) (i+1)) i];rfl
      ·intro K;unfold jc;dsimp only;rw[decide_eq_false (by omega:¬(n:Int)<(n:Int)),cond_false,OZ];have hfin:(o||orB (λi=>orB (λj=>w i j) (i+1)) n)=false -> ∀ i j,i<n->j<=i->bC (v i j)=true:=by intro h;rw[Bool.or_eq_false_iff]at h;rw[<- hV];exact Ij (by rw[hW]; exact h.2)
       rw[H4 hF hn _ _ hfin (by rw[<- hV]; exact Vu)];have eF:prF n x p f q=(o||orB (λi=>orB (λj=>w i j) (i+1)) n):=by unfold prF; rw[hW,hO]; rfl
       have eM:prM n p f q=mf n (mir v):=by unfold prM; rw[hV]
       rw[eF,eM]
   ·rw[if_pos h2,aF _ _ h2,cond_true]
  ·rw[if_pos h1,aF _ _ h1,cond_true]
 ·rw[if_pos h0,aF _ _ h0,cond_true]
theorem yH {N:Nat} (hF:Fuel N) (x:List Fl) (r c:Int) (p:List Fl) (fr fc:Int) (f:List Fl) (qr qc:Int) (q:List Fl) (hwp:AllW p) (k:List Fl->Int->Int->List Fl->Int->Bool) :
  iZ N x r c p fr fc f qr qc q k=prK x r c p fr fc f qr qc q (λa b e=>k [] a b [] e) (λa b e v P=>k v a b P e):=by
 have hN:=hF.lt
 (unfold iZ; rw[ac]; unfold lJ prK)
 rw[vA hF _ _ _ _ hwp];by_cases h0:rO x r c p=0
 ·obtain⟨n,hn,rfl,rfl,hx,hl,fx,fl,-,-⟩:=ug h0;rw[if_neg (λh=>h h0),h0,show((0:Int) != 0)=false from rfl,cond_false,Bd (by omega),hx];by_cases h1:sqc fr fc f n=0
  ·obtain⟨rfl,rfl,hfl,ff⟩:=xb h1;rw[if_neg (λh=>h h1),h1,show((0:Int) != 0)=false from rfl,cond_false,Bd (by omega)];by_cases h2:sqc qr qc q n=0
   ·obtain⟨rfl,rfl,hql,fq⟩:=xb h2;rw[if_neg (λh=>h h2),h2,show((0:Int) != 0)=false from rfl,cond_false,zK (by omega) hn hql fq];cases h3:lw n q
    ·rw[if_pos rfl]; rfl
    ·rw[if_neg (by decide),show(!true)=false from rfl,cond_false,Int.toNat_natCast,List.length_replicate,aa (bE (by omega) (by omega) (by omega) (by omega))];have z0:((0,List.replicate n (some 0),false):Int × List Fl × Bool)=(λt:Nat=>((t:Int),(vf n (prX n f x)).take t++List.replicate (n - t) (some 0),false||orB (Cf n f x) t)) 0:=by show _=(((0:Nat):Int),_,false||false); rfl
     rw[z0];refine ax (λt:Nat=>((t:Int),(vf n (prX n f x)).take t++List.replicate (n - t) (some 0),false||orB (Cf n f x) t)) n (by omega) ?_ ?_
     ·intro t ht K;unfold eR;dsimp only;have hfl2:=zi n (prX n f x) (i:=t) (by omega);have hs:=J5 n (prX n f x) ht;rw[decide_eq_true (by omega:(t:Int)<(n:Int)),cond_true,DY (by omega) ht hfl,
       Og (n:=n) (f:=λi=>elt f n t i) (g:=λi=>x.getD i none) (by omega) (by omega) (jN hfl ht) (by omega) (by omega) (λi hi=>kp hfl ht hi) (λi hi=>rfl)]
      rw[hfl2,aa (ah (by omega) (by omega)),Int.toNat_natCast,aa (decide_eq_true ht),aa (ab (by omega) (by omega))];have e:dV (λi=>elt f n t i) (λi=>x.getD i none) n=prX n f x t:=rfl;have e2:dO (λi=>elt f n t i) (λi=>x.getD i none) n=Cf n f x t:=rfl;rw[e,e2,hs,iX false (Cf n f x) t];rfl
     ·intro K;unfold eR;dsimp only;rw[decide_eq_false (by omega:¬(n:Int)<(n:Int)),cond_false,Nat.sub_self,List.replicate_zero,List.append_nil,List.take_of_length_le (by rw[aW]; omega),FZ (by omega) hn hfl hl,DS (by omega) hn (prV n f p) hfl hql]
      (unfold kX; rw[ac]; unfold f8; unfold JO; rw[ac]; unfold IQ)
      show cond (prF n x p f q) _ _=cond (prF n x p f q) _ _;cases h4:prF n x p f q
      ·rw[cond_false,cond_false];have h5:orL n (nwO n (prV n f p) f q)=false:=by unfold prF at h4;rw[Bool.or_eq_false_iff]at h4;exact h4.2
       have hfin:=xO (zQ (Ij h5));unfold prM;show eg N n n (mf n (mir (nwV n (prV n f p) f q))) _=_;rw[wG hF hn (bD n _) hfin (QT (Jv Vu)) (D5 _)]
      ·rfl
   ·rw[if_pos h2,aF _ _ h2,cond_true]
  ·rw[if_pos h1,aF _ _ h1,cond_true]
 ·rw[if_pos h0,aF _ _ h0,cond_true]
theorem Hc {l:List Fl}:aG l=true ↔ ∀ i,i<l.length->bC (l.getD i none)=true:=by unfold aG;exact ik
theorem Lz (x:List Fl) (r c:Int) (p:List Fl) (fr fc:Int) (f:List Fl) (qr qc:Int) (q:List Fl) :
  (∃ e:Int,e ≠ 0 /\ ∀ k0 k1,prK x r c p fr fc f qr qc q k0 k1=k0 0 0 e)\/(∃(n:Nat) (X P:List Fl),Xp n X P /\ ∀ k0 k1,prK x r c p fr fc f qr qc q k0 k1=k1 n n 0 X P):=by
 unfold prK;by_cases h0:rO x r c p ≠ 0
 ·exact .inl ⟨_,h0,λk0 k1=>if_pos h0⟩
 by_cases h1:sqc fr fc f x.length ≠ 0
 ·exact .inl ⟨_,h1,λk0 k1=>by rw[if_neg h0,if_pos h1]⟩
 by_cases h2:sqc qr qc q x.length ≠ 0
 ·exact .inl ⟨_,h2,λk0 k1=>by rw[if_neg h0,if_neg h1,if_pos h2]⟩
 by_cases h3:lw x.length q=false
 ·exact .inl ⟨150,by decide,λk0 k1=>by rw[if_neg h0,if_neg h1,if_neg h2,if_pos h3]⟩
 cases h4:prF x.length x p f q
 ·cases h5:pj x.length (prM x.length p f q)
  ·exact .inl ⟨151,by decide,λk0 k1=>by rw[if_neg h0,if_neg h1,if_neg h2,if_neg h3]; rfl⟩
  ·refine .inr ⟨x.length,vf x.length (prX x.length f x),prM x.length p f q,?_,λk0 k1=>by rw[if_neg h0,if_neg h1,if_neg h2,if_neg h3]; rfl⟩;obtain⟨n,hn,-,-,hxl,-,-,-,-,-⟩:=ug (by simpa using h0);rw[hxl]at h4 h5 ⊢;unfold prF at h4;rw[Bool.or_eq_false_iff,Bool.or_eq_false_iff,Bool.or_eq_false_iff]at h4;refine⟨hn,aW _ _,bD _ _,Hc.2 (PL (P:=λx=>bC x=true) (λi hi=>NG (nD h4.1.1.2 i hi))),xO (zQ (Ij h4.2)),F5 _,h5,QT (Jv Vu)⟩
 ·exact .inl ⟨5,by decide,λk0 k1=>by rw[if_neg h0,if_neg h1,if_neg h2,if_neg h3]; rfl⟩
def ofV (Q X:List Fl) (n:Nat) (i:Nat):Fl:=dV (λt=>elt Q n i t) (bt X) n
def ofO (Q X:List Fl) (n:Nat) (i:Nat):Bool:=dO (λt=>elt Q n i t) (bt X) n
theorem Jm {N n:Nat} (hN:1000<=N) (hn:n<=12) {L Z:List Fl} (hL:L.length=n*n) (hZ:Z.length=n) (a b:Int) (c:List Fl) (t2 t3:Int) (e0:Bool->List Fl->Bool) :
  ai N (i9 N n Z a b c t2 t3 n n L e0) (0,false,List.replicate n (some 0))=e0 (orB (ofO L Z n) n) (vf n (ofV L Z n)):=by
 rw[Jb n (ofV L Z n)];refine ax (λt:Nat=>((t:Int),orB (ofO L Z n) t,vf n (fl_ (ofV L Z n) t))) n (by omega) ?_ ?_
 ·intro i hi K;unfold i9;dsimp only;rw[decide_eq_true (by omega:(i:Int)<(n:Int)),cond_true,Oy hn hi hL];refine(Oh hN (λt=>elt L n i t) (bt Z) (jN hL hi) hn (by omega) (λt ht=>kp hL hi ht) (λ_ _=>rfl) _ _).trans ?_;rw[aW,aa (ah (by omega) (by omega)),Int.toNat_natCast,aa (decide_eq_true hi),aa (ab (by omega) (by omega)),EC _ _ hi];rw[show dV (λt=>elt L n i t) (bt Z) n=ofV L Z n i from rfl,Ja];rfl
 ·intro K;unfold i9;dsimp only;rw[decide_eq_false (by omega:¬(n:Int)<(n:Int)),cond_false,NZ]
theorem Jn {N n:Nat} (hN:1000<=N) (hn:n<=12) {L Z:List Fl} (hL:L.length=n*n) (hZ:Z.length=n) (a b:Int) (c:List Fl) (t2 t3:Int) (e0:Bool->List Fl->Bool) :
  ai N (kv N n Z a b c t2 t3 n n L e0) (0,false,[])=e0 (orB (ofO L Z n) n) (vf n (ofV L Z n)):=by
 refine ax (λt:Nat=>((t:Int),orB (ofO L Z n) t,(vf n (ofV L Z n)).take t)) n (by omega) ?_ ?_
 ·intro i hi K;unfold kv;dsimp only;rw[decide_eq_true (by omega:(i:Int)<(n:Int)),cond_true,Le hn hi hL];refine(Lc hN (λt=>elt L n i t) (bt Z) (jN hL hi) hn (by omega) (λt ht=>kp hL hi ht) (λ_ _=>rfl) _ _).trans ?_;rw[show dV (λt=>elt L n i t) (bt Z) n=ofV L Z n i from rfl,rh n _ hi,aa (decide_eq_true (by rw[List.length_take,aW]; omega)),aa (ab (by omega) (by omega))];rfl
 ·intro K;unfold kv;dsimp only;rw[decide_eq_false (by omega:¬(n:Int)<(n:Int)),cond_false,List.take_of_length_le (by rw[aW]; omega)]
theorem QY {L Z:List Fl} {n:Nat} (h:orB (ofO L Z n) n=false):aG (vf n (ofV L Z n))=true:=PM λi hi=>NG (nD h i hi)
theorem I1 {N:Nat} (hF:Fuel N) (X:List Fl) (r c:Int) (P:List Fl) (hw:AllW P):U5 (lY N X r c P) (ot N X r c P):=by
 have hN:1000<=N:=by have:=hF.lt; omega
 by_cases h0:rO X r c P=0
 ·obtain⟨n,hn,rfl,rfl,hx,hl,fx,fl,-,-⟩:=ug h0;have key:∀ k:KM,lY N X n n P k=ivK n n P λa b Y _ e=>cond (e != 0) (k 0 0 [] [] e) (br N a b Y λq=>cond (!q) (k 0 0 [] [] 170) (ai N (i9 N n X n n P 0 0 a b Y (λs v=>gc N a b Y s v (λc d e=>k c d [] [] e) (λe=>k a b Y v e))) (0,false,List.replicate n (some 0)))):=λk=>by
   (unfold lY; rw[ac]; unfold tO)
   rw[vA hF _ _ _ _ hw,h0,show((0:Int) != 0)=false from rfl,cond_false,yG hN,hx,List.length_replicate,Int.toNat_natCast];have hmk:gb 8 (n:Int) (n:Int)=true:=bE (by omega) (by omega) (by omega) (by omega);simp only[hmk,Bool.true_and]
  have key2:∀ k:KM,ot N X n n P k=ivK n n P λa b Y _ e=>cond (e != 0) (k 0 0 [] [] e) (xR N a b Y λq=>cond (!q) (k 0 0 [] [] 170) (ai N (kv N n X n n P 0 0 a b Y (λs v=>cond s (k 0 0 [] [] 5) (k a b Y v 0))) (0,false,[]))):=λk=>by
   (unfold ot; rw[ac]; unfold wh)
   rw[oS hF _ _ _ _ hw,h0,show((0:Int) != 0)=false from rfl,cond_false,wI hN,hx]
  rcases CL n n P with⟨p,e,he,q⟩ | ⟨m,Y,hm,e1,e2,hY,fY,wY,sY,bY,q⟩
  ·exact pP (e:=e) (λk=>by rw[key,q,aF _ _ he,cond_true]) (λk=>by rw[key2,q,aF _ _ he,cond_true])
  ·obtain rfl:n=m:=by omega
   have n2:=rE hn;have p1:∀ k,br N n n Y k=k (pj n Y):=wC hF hn hY fY wY sY;have p2:∀ k,xR N n n Y k=k (pj n Y):=no hF hn hY fY wY sY;cases h3:pj n Y
   ·exact pP (e:=170) (λk=>by rw[key,q,show((0:Int) != 0)=false from rfl,cond_false,p1,h3]; rfl) (λk=>by rw[key2,q,show((0:Int) != 0)=false from rfl,cond_false,p2,h3]; rfl)
   ·cases h4:orB (ofO Y X n) n
    ·exact⟨n,n,Y,vf n (ofV Y X n),0,by omega,fY,by rw[aW]; exact hn,QY h4,λk=>by rw[key,q,show((0:Int) != 0)=false from rfl,cond_false,p1,h3,Bool.not_true,cond_false,Jm hN hn hY hx,CW hF hn hY fY wY sY,h4,h3]; rfl,λk=>by rw[key2,q,show((0:Int) != 0)=false from rfl,cond_false,p2,h3,Bool.not_true,cond_false,Jn hN hn hY hx,h4]; rfl⟩
    ·exact pP (e:=5) (λk=>by rw[key,q,show((0:Int) != 0)=false from rfl,cond_false,p1,h3,Bool.not_true,cond_false,Jm hN hn hY hx,CW hF hn hY fY wY sY,h4]; rfl) (λk=>by rw[key2,q,show((0:Int) != 0)=false from rfl,cond_false,p2,h3,Bool.not_true,cond_false,Jn hN hn hY hx,h4]; rfl)
 ·refine pP (e:=rO X r c P) (λk=>?_) (λk=>?_)
  ·(unfold lY; rw[ac]; unfold tO)
   rw[vA hF _ _ _ _ hw,aF _ _ h0,cond_true]
  ·(unfold ot; rw[ac]; unfold wh)
   rw[oS hF _ _ _ _ hw,aF _ _ h0,cond_true]
theorem Ae {N:Nat} (hF:Fuel N) (Y V:List Fl) (rr cc:Int) (fr fc:Int) (f:List Fl) (qr qc:Int) (q:List Fl) (hw:AllW Y):U5 (kV N rr cc Y V fr fc f qr qc q) (JN N rr cc Y V fr fc f qr qc q):=by
 obtain⟨x,a,b,p,e,hx,fx,hp,fp,hok,h1,h2⟩:=Hj hF Y V rr cc hw;have key:∀ k:KM,kV N rr cc Y V fr fc f qr qc q k=cond (e != 0) (k 0 0 [] [] e) (iZ N x a b p fr fc f qr qc q λx a b p e=>cond (e != 0) (k 0 0 [] [] e) (lY N x a b p k)):=λk=>by
  (unfold kV; rw[ac]; unfold nL)
  rw[h1]
 have key2:∀ k:KM,JN N rr cc Y V fr fc f qr qc q k=cond (e != 0) (k 0 0 [] [] e) (JM N x a b p fr fc f qr qc q λx a b p e=>cond (e != 0) (k 0 0 [] [] e) (ot N x a b p k)):=λk=>by
  (unfold JN; rw[ac]; unfold MO)
  rw[h2]
 by_cases h0:e=0
 ·obtain⟨n,-,-,-,-,-,-,-,wp,-⟩:=hok h0;have z:(e != 0)=false:=by rw[h0]; rfl
  rcases Lz x a b p fr fc f qr qc q with⟨e',he,w⟩ | ⟨n,X,P,tl,w⟩
  ·exact pP (e:=e') (λk=>by rw[key,z,cond_false,yH hF _ _ _ _ _ _ _ _ _ _ wp,w,aF _ _ he,cond_true]) (λk=>by rw[key2,z,cond_false,wJ hF _ _ _ _ _ _ _ _ _ _ wp,w,aF _ _ he,cond_true])
  ·obtain⟨a',b',M,v,e',g1,g2,g3,g4,g5,g6⟩:=I1 hF X n n P tl.2.2.2.2.2.2.2;exact⟨a',b',M,v,e',g1,g2,g3,g4,λk=>by rw[key,z,cond_false,yH hF _ _ _ _ _ _ _ _ _ _ wp,w,show((0:Int) != 0)=false from rfl,cond_false,g5],λk=>by rw[key2,z,cond_false,wJ hF _ _ _ _ _ _ _ _ _ _ wp,w,show((0:Int) != 0)=false from rfl,cond_false,g6]⟩
 ·exact pP (e:=e) (λk=>by rw[key,aF _ _ h0,cond_true]) (λk=>by rw[key2,aF _ _ h0,cond_true])
theorem FN {N:Nat} {v y:List Int} (hv:ji N v.length) (hy:ji N y.length) (r c:Int) (k:List Fl->List Fl->Bool):VQ N v r c y k=k (xQ v) (xQ y):=by
 (unfold VQ; try rw[ac]); unfold Wx
 rw[pJ v hv,pJ y hy]
theorem AY {N:Nat} (hF:Fuel N) (x:List Int) (rows:Int) (p m q:List Int) (hx:ji N x.length) (hp:ji N p.length) (hm:ji N m.length) (hq:ji N q.length) (by_:∀ z,z ∈ p->z.toNat<18446744073709551616) :
  sQ3 N x rows p m q (λb=>b)=true:=by
 have hN:1000<=N:=by have:=hF.lt; omega
 have aw:∀(k:Bool->Bool),sQ0 N k=k true:=λ_=>rfl
 have wP:=Vv by_;have c0:∀(A B:Bool),cond ((!true)==false) A B=A:=λ_ _=>rfl
 have c1:∀(e:Int) (A B:Bool),cond (e != e) A B=B:=λe A B=>by rw[show(e != e)=false by simp]; rfl
 have c3:∀(e:Int) (A B:Bool),cond ((e==e)==true) A B=A:=λe A B=>by rw[show(e==e)=true by simp]; rfl
 have c4:∀(A B:Bool),cond (true==true) A B=A:=λ_ _=>rfl
 have s12:∀{l:List Fl},l.length<=12->ji N l.length:=λh=>⟨by omega,by omega⟩
 have s144:∀{l:List Fl},l.length<=144->ji N l.length:=λh=>⟨by omega,by omega⟩
 unfold sQ3 GQ3;rw[FN hx hp];obtain⟨a,b,M,w,e,hM,fM,hw,fw,h1,h2⟩:=I1 hF (xQ x) rows rows (xQ p) wP;rw[h1,h2,Bb hN _ _ (s144 hM) (s12 hw) fM fw,c0,c1,Oi hx hp,pJ m hm,pJ q hq];obtain⟨a,b,M,w,e,hM,fM,hw,fw,h1,h2⟩:=Ae hF (xQ p) (xQ x) rows rows rows rows (xQ m) rows rows (xQ q) wP;rw[h1,h2,Bb hN _ _ (s144 hM) (s12 hw) fM fw,c4,c3,aw]
end Go.Proofs.YtdinakfmablagaaGreatDoor
end
