/- Laws in plain Lean. Conditions: none. -/
import Derived.Test.YtbiingchhnlcnaaGreatDoorK2
import Derived.Test.YtbiingchhnlcnaaGreatDoorX0
set_option linter.unusedVariables false
section
namespace Go.Proofs.YtbiingchhnlcnaaGreatDoor
open Go Go.Mach Ieee
theorem JQ (a:Nat):dL a a=0:=by unfold dL;rw[if_neg (by omega),if_pos rfl]
theorem Nd {N B:Nat} (hF:Fuel N) (hB:B<=1000000000000) {x:Rat} (hx:Bq B x) (k:Int->Bool) :
  pS N (decide (x.num<0)) (aj x.num.natAbs) false (aj x.den) (decide (x.num<0)) (aj x.num.natAbs) false (aj x.den) k=k 0:=by
 unfold pS vk
 (unfold yY; rw[ae]; unfold sC)
 have hB2:B<=2000000000100:=by omega
 rw[wa _ _ _ x.den_nz,lj hF hB2 hx.1 hx.2,wa _ _ _ x.den_nz,lj hF hB2 hx.1 hx.2]
 (unfold Qy; rw[ae]; unfold LP)
 have h1:=pF (N:=N) hF (B:=B+B) (by omega) (dI hx.1 hx.2);dsimp only;rw[iH _ _ h1 h1,JQ];cases decide (x.num<0) <;> rfl
theorem Fv {N n i j:Nat} (hn:n<=1000) (hi:i<n) (hj:j<n) (f:Nat->Nat->Rat) (k:Bool->List Int->Bool->List Int->Bool) :
  Jf N n n (mat dC n f) i j k=kqR (f i j) k:=by
 obtain⟨h1,h2⟩:=eR hn hi hj;have h3:=ke hi hj
 (unfold Jf; rw[ae]; unfold Ls)
 rw[eQ,aa h1,aa h2,pu,Int.toNat_natCast,aa (ai (by omega) (by omega)),ll dC n f hi hj];rfl
theorem NI {N B n:Nat} (hF:Fuel N) (hB:B<=1000000000000) (hn:n<=1000) {f:Nat->Nat->Rat} (hf:pY B n f) (hs:∀ a b,a<n->b<n->f a b=f b a) (k:Bool->Bool) :
  TK N n n (mat dC n f) k=k true:=by
 have hN:=hF.lt
 (unfold TK; rw[ae]; unfold Q2)
 refine aD (λt:Nat=>(t:Int)) n (by omega) ?_ ?_
 ·intro i hi K;unfold Ed;dsimp only;rw[decide_eq_true (by omega:(i:Int)<(n:Int)),cond_true];refine aD (λt:Nat=>(t:Int)) i (by omega) ?_ ?_
  ·intro j hj K';have hj2:j<n:=by omega
   unfold Ee;dsimp only;rw[decide_eq_true (by omega:(j:Int)<(i:Int)),cond_true,Fv hn hi hj2];unfold kqR krR;dsimp only;rw[Fv hn hj2 hi,hs j i hj2 hi];unfold kqR krR;dsimp only;rw[Nd hF hB (hf i j hi hj2),show((0:Int) != 0)=false from rfl,cond_false,aa (ab (by omega) (by omega))];rfl
  ·intro K';unfold Ee;dsimp only;rw[decide_eq_false (by omega:¬(i:Int)<(i:Int)),cond_false,aa (ab (by omega) (by omega))];rfl
 ·intro K;unfold Ed;dsimp only;rw[decide_eq_false (by omega:¬(n:Int)<(n:Int)),cond_false]
theorem DC {N n:Nat} (hF:Fuel N) {l:List Fl} (hn:n<=12) (h:l.length=n*n) (hf:bb l=true) (hw:AllW l) (hs:Ml n l) (k:Int->Int->Bool) :
  pT N n n l k=k (tY n n 0 3 (fm n l)) 0:=by
 have hN:=hF.lt;unfold pT vl
 (unfold vz; rw[ae]; unfold pM)
 rw[Fw (by omega),Ac hn h hf,show((0:Int) != 0)=false from rfl,cond_false,show((n:Int) != (n:Int))=false by simp,cond_false,Kd hF hn h hf hw,
  NI (B:=1200) hF (by decide) (by omega) (zB h hf) hs]
 show N1 N n n (mat dC n (fm n l)) _=_
 (unfold N1; rw[ae]; unfold Lx)
 rw[HB (B:=1200) hF (by decide) hn (zB h hf)];exact Kg hF (by omega) (λt=>k t 0) n 0 1200 N 3 (fm n l) (by omega) (by omega) (zB h hf) (λa b _ _=>hs a b) (y_ hn)
theorem w7 {N n:Nat} (hF:Fuel N) {x p:List Fl} (h:zh n x p) (k:Bool->Bool):sQ0 N x n n p k=k true:=by
 have hN:=hF.lt;have hc:=Oz h;obtain⟨h1,h2,h3,h4,h5,h6,h7,h8⟩:=h
 (unfold sQ0; rw[ae]; unfold GQ0)
 have hs:tY n n 0 3 (fm n p)=3:=by unfold xe at h7;exact eq_of_beq h7
 rw[DC hF h1 h3 h5 h8 (Ov h3 h5 h6),hs];show Jg N n n p _=_;rw[Nq (by omega) h1 h3 h5,if_pos h6,show(((0:Int)==0)==true)=true from rfl,cond_true,h2,show(((n:Int)==(n:Int))==true)=true by simp,cond_true,oG hF _ _ _ _ h8,hc];rfl
theorem C2 (x:List Fl) (rr cc:Int) (p h:List Fl) (r z:Fl) (o:Bool) (L:List Fl) (hl:L.length=x.length*x.length) (hL:o=false->bb L=true) (hs:rF x.length L=true) (hw:AllW L) :
  (∃ e:Int,e ≠ 0 /\ ∀ k0 k2,yj x rr cc p h r z o L k0 k2=k0 e) \/
  (∃ n:Nat,∃ y s c X G,zh n X L /\ ∀ k0 k2,yj x rr cc p h r z o L k0 k2=k2 n y s c X L G):=by
 unfold yj;by_cases h0:lY x rr cc p=0
 ·by_cases h1:oR x.length h r=0
  ·cases hz:be z
   ·exact .inl ⟨4,by decide,λk0 k2=>by rw[ifz h0,ifz h1,if_pos rfl]⟩
   ·by_cases h2:uE x.length x p h r=0
    ·cases h3:(upT x.length x p h r z||o)
     ·cases h4:xe x.length L
      ·exact .inl ⟨151,by decide,λk0 k2=>by rw[ifz h0,ifz h1,if_neg (by decide),ifz h2]; rfl⟩
      ·refine .inr ⟨x.length,upY x.length x h z,uS x.length p h r,upC x.length x p h r z,upX x.length x p h r z,upG x.length p h r,?_,λk0 k2=>by rw[ifz h0,ifz h1,if_neg (by decide),ifz h2]; rfl⟩;obtain⟨n,hn,-,-,hx,-⟩:=mB h0;rw[Bool.or_eq_false_iff]at h3;obtain⟨h5,h6⟩:=h3;unfold upT at h5;simp only[Bool.or_eq_false_iff,Bool.not_eq_false']at h5;obtain⟨⟨⟨q1,q2⟩,q3⟩,q4⟩:=h5;refine⟨by omega,dG _ _,hl,z7.2 (OC (P:=λx=>be x=true) λi hi=>?_),hL h6,hs,h4,hw⟩;have:=iY q2 i hi;unfold gO at this;simp only[Bool.or_eq_false_iff,Bool.not_eq_false']at this;exact this.2
     ·exact .inl ⟨5,by decide,λk0 k2=>by rw[ifz h0,ifz h1,if_neg (by decide),ifz h2]; rfl⟩
    ·exact .inl ⟨uE x.length x p h r,h2,λk0 k2=>by rw[ifz h0,ifz h1,if_neg (by decide),xO h2]⟩
  ·exact .inl ⟨oR x.length h r,h1,λk0 k2=>by rw[ifz h0,xO h1]⟩
 ·exact .inl ⟨lY x rr cc p,h0,λk0 k2=>by rw[xO h0]⟩
theorem Hy {N:Nat} (hF:Fuel N) (x:List Fl) (rr cc:Int) (p h:List Fl) (r z:Fl) (hwp:AllW p) (k0:Int->Int->Fl->Fl->Fl->Int->Bool) (k1:Int->Int->Fl->Fl->Fl->Int->List Fl->Bool) (k2:Int->Int->Fl->Fl->Fl->Int->List Fl->List Fl->List Fl->Bool) :
  kf N x rr cc p h r z k0 k1 k2=yj x rr cc p h r z (GH x.length p h r) (upJ x.length p h r) (λe=>k0 0 0 (some 0) (some 0) (some 0) e) (λn y s c x' p' g=>k2 n n y s c 0 x' p' g):=by
 (unfold kf; rw[ae]; unfold np)
 rw[HN hF _ _ _ _ _ _ _ hwp]
theorem CA {N:Nat} (hF:Fuel N) (x:List Fl) (rr cc:Int) (p h:List Fl) (r z:Fl) (hwp:AllW p) (k0:Int->Int->Fl->Fl->Fl->Int->Bool) (k1:Int->Int->Fl->Fl->Fl->Int->List Fl->Bool) (k2:Int->Int->Fl->Fl->Fl->Int->List Fl->List Fl->List Fl->Bool) :
  iK N x rr cc p h r z k0 k1 k2=yj x rr cc p h r z (GI x.length p h r) (upS x.length p h r) (λe=>k0 0 0 (some 0) (some 0) (some 0) e) (λn y s c x' p' g=>k2 n n y s c 0 x' p' g):=by
 (unfold iK; rw[ae]; unfold om)
 rw[FU hF _ _ _ _ _ _ _ hwp]
theorem Ld (x:List Fl) (rr cc:Int) (p h:List Fl) (r z:Fl) :
  (∃ e:Int,e ≠ 0 /\ ∀ k0 k2,yj x rr cc p h r z (GH x.length p h r) (upJ x.length p h r) k0 k2=k0 e) \/
  (∃ n:Nat,∃ y s c X L G,zh n X L /\ ∀ k0 k2,yj x rr cc p h r z (GH x.length p h r) (upJ x.length p h r) k0 k2=k2 n y s c X L G):=by
 rcases C2 x rr cc p h r z (GH x.length p h r) (upJ x.length p h r) (cR _ _) (λq=>IU q) (A3 _) (KC (CK λa b=>kQ _ _))with h | ⟨n,y,s,c,X,G,h⟩
 ·exact .inl h
 ·exact .inr ⟨n,y,s,c,X,_,G,h⟩
theorem C3 (x:List Fl) (rr cc:Int) (p h:List Fl) (r z:Fl) :
  (∃ e:Int,e ≠ 0 /\ ∀ k0 k2,yj x rr cc p h r z (GI x.length p h r) (upS x.length p h r) k0 k2=k0 e) \/
  (∃ n:Nat,∃ y s c X L G,zh n X L /\ ∀ k0 k2,yj x rr cc p h r z (GI x.length p h r) (upS x.length p h r) k0 k2=k2 n y s c X L G):=by
 rcases C2 x rr cc p h r z (GI x.length p h r) (upS x.length p h r) (cR _ _) (λq=>Jo q) (A3 _) (KC (CK λa b=>ui _ _))with h | ⟨n,y,s,c,X,G,h⟩
 ·exact .inl h
 ·exact .inr ⟨n,y,s,c,X,_,G,h⟩
theorem Ct {σ:Type} {step:σ->(σ->Bool)->Bool} (I:Nat->σ->Prop) (n:Nat) (hs:∀ i s,i<n->I i s -> ∀ K:σ->Bool,(∀ s',I (i+1) s'->K s'=true)->step s K=true) (hx:∀ s,I n s -> ∀ K,step s K=true) :
  ∀(d i M:Nat),i+d=n->d<M -> ∀ s,I i s->ah M step s=true
 | 0,i,M+1,h,hM,s,hI=>by
  have:i=n:=by omega
  subst this;exact hx s hI _
 | d+1,i,M+1,h,hM,s,hI=>hs i s (by omega) hI _ λs' h'=>Ct I n hs hx d (i+1) M (by omega) (by omega) s' h'
def mvT (N:Nat) (i t:Int) (m:List RY0) (e0:Bool->Bool) (K:(Int × Int × Int × List Fl × List Fl)->Bool) (r c:Int) (x p:List Fl):Bool:=
 aB N x r c p m t (λa b e=>cond (e==0) (sQ0 N [] a b [] λg=>cond (!g) (e0 false) ((ac .i64 (i+1))&&(K ((i+1),a,b,[],[])))) ((ac .i64 (i+1))&&(K ((i+1),r,c,x,p))))
  λa b e X P=>cond (e==0) (sQ0 N X a b P λg=>cond (!g) (e0 false) ((ac .i64 (i+1))&&(K ((i+1),a,b,X,P)))) ((ac .i64 (i+1))&&(K ((i+1),r,c,x,p)))
def KOk (i:Int) (K:(Int × Int × Int × List Fl × List Fl)->Bool):Prop:=∀(n:Nat) (x p:List Fl),zh n x p->K (i+1,n,n,x,p)=true
theorem xX {N:Nat} (hF:Fuel N) {i:Int} (hi:ac .i64 (i+1)=true) (t:Int) {m:List RY0} (hm:eE N m.length) (e0:Bool->Bool) {K:(Int × Int × Int × List Fl × List Fl)->Bool} (hK:KOk i K) {n:Nat} {x p:List Fl} (h:zh n x p):mvT N i t m e0 K n n x p=true:=by
 have hw:=h.2.2.2.2.2.2.2;unfold mvT;rw[Nk hF _ _ _ _ hm _ hw];rcases KF x n n p m t with⟨e,he,q⟩ | ⟨n',X,P,hT,q⟩
 ·rw[q,show((e==0)=false) by simp[he],cond_false,hi,Bool.true_and];exact hK n x p h
 ·rw[q,show(((0:Int)==0)=true) from rfl,cond_true,w7 hF hT];show((ac .i64 (i+1))&&(K ((i+1),n',n',X,P)))=true;rw[hi,Bool.true_and];exact hK n' X P hT
theorem U8 {N:Nat} (hF:Fuel N) (t:Int) (l:List RY4) (hl:∀ w,w ∈ l->eE N w.1.length) (h20:l.length<=20) {m:List RY0} (hm:eE N m.length) (e0:Bool->Bool) (e1:Bool) {i:Nat} (hi:i<l.length)
  {n:Nat} {x p:List Fl} (h:zh n x p) {K:(Int × Int × Int × List Fl × List Fl)->Bool} (hK:KOk i K):GC N t l (((List.length l):Nat):Int) m e0 e1 ((i:Int),n,n,x,p) K=true:=by
 have hN:=hF.lt;have hw:=h.2.2.2.2.2.2.2;have hf:ac .i64 ((i:Int)+1)=true:=ab (by omega) (by omega);have sf:∀(r:Int) (k:Fl->Bool),DZ N r k=k (gw r.toNat):=λ_ _=>rfl
 have hrow:eE N (List.getD l i ([],(0,0))).1.length:=by rw[List.getD_eq_getElem?_getD,List.getElem?_eq_getElem hi];exact hl _ (List.getElem_mem hi)
 unfold GC;dsimp only;rw[decide_eq_true (by omega:(i:Int)<(l.length:Int)),cond_true,aa (ai (by omega) (by omega)),Int.toNat_natCast,AQ _ hrow,sf,sf,Hy hF _ _ _ _ _ _ _ hw];generalize hH:zr (List.getD l i ([],(0,0))).1=H;generalize hR:gw (List.getD l i ([],(0,0))).2.1.toNat=R;generalize hZ:gw (List.getD l i ([],(0,0))).2.2.toNat=Z;rcases Ld x n n p H R Z with⟨e,he,q⟩ | ⟨n1,y,s,c,X,L,G,hT,q⟩
 ·rw[q];cases ((i:Int).tmod 3==1)
  ·rw[cond_false,show((e==0)=false) by simp[he],cond_false];exact xX hF hf t hm e0 hK h
  ·rw[cond_true,sf,sf,hR,hZ,CA hF _ _ _ _ _ _ _ hw];rcases C3 x n n p H R Z with⟨e,he,q⟩ | ⟨n1,y,s,c,X,L,G,hT,q⟩
   ·rw[q,show((e==0)=false) by simp[he],cond_false];exact xX hF hf t hm e0 hK h
   ·rw[q,show(((0:Int)==0)=true) from rfl,cond_true,w7 hF hT];exact xX hF hf t hm e0 hK hT
 ·rw[q];cases ((i:Int).tmod 3==1)
  ·rw[cond_false,show(((0:Int)==0)=true) from rfl,cond_true,w7 hF hT];exact xX hF hf t hm e0 hK hT
  ·rw[cond_true,sf,sf,hR,hZ,CA hF _ _ _ _ _ _ _ hw];rcases C3 x n n p H R Z with⟨e,he,q⟩ | ⟨n1,y,s,c,X,L,G,hT,q⟩
   ·rw[q,show((e==0)=false) by simp[he],cond_false];exact xX hF hf t hm e0 hK h
   ·rw[q,show(((0:Int)==0)=true) from rfl,cond_true,w7 hF hT];exact xX hF hf t hm e0 hK hT
theorem v8 {N:Nat} (hF:Fuel N) (x:List Int) (r:Int) (p:List Int) (l:List RY4) (m:List RY0) (t:Int) (hx:eE N x.length) (hp:eE N p.length) (hl:∀ w,w ∈ l->eE N w.1.length) (hm:eE N m.length) (hw:∀ z,z ∈ p->z.toNat<18446744073709551616) :
  sQ1 N x r p l m t (λb=>b)=true:=by
 have hN:=hF.lt;have hW:=Tu hw;unfold sQ1 GQ1;rw[Kh hx hp,oG hF _ _ _ _ hW,Kk (by omega)];by_cases h0:lY (zr x) r r (zr p)=0
 ·rw[h0,show(((0:Int) != 0)==false)=true from rfl,cond_true];by_cases h1:((l.length:Nat):Int)>20
  ·rw[decide_eq_true h1,cond_true]
  ·rw[decide_eq_false h1,cond_false];obtain⟨n,rfl,-,hT⟩:=MC h0 hW;refine Ct (λi (s:Int × Int × Int × List Fl × List Fl)=>∃(n:Nat) (x p:List Fl),zh n x p/\s=((i:Int),(n:Int),(n:Int),x,p)) l.length ?_ ?_ l.length 0 N (by omega) (by omega) _ ⟨n,_,_,hT,rfl⟩
   ·rintro i _ hi ⟨n,x,p,h,rfl⟩ K hK;exact U8 hF t l hl (by omega) hm _ _ hi h λn x p h=>hK _ ⟨n,x,p,h,rfl⟩
   ·rintro _ ⟨n,x,p,h,rfl⟩ K;unfold GC;dsimp only;rw[decide_eq_false (by omega:¬(l.length:Int)<(l.length:Int)),cond_false]
 ·have:((lY (zr x) r r (zr p) != 0)==false)=false:=by simp[h0]
  rw[this,cond_false]
end Go.Proofs.YtbiingchhnlcnaaGreatDoor
end
