/- Laws in plain Lean. Conditions: none. -/
import Derived.Test.YtdinakfmablagaaGreatDoorFlG
set_option linter.unusedVariables false
section
namespace Go.Proofs.YtdinakfmablagaaGreatDoor
open Go Go.Mach Ieee
def tX (c v a b:Fl):Fl:=kl (dq c a) (dq v b)
def tY (c v a b:Fl):Fl:=wN (dq c b) (dq v a)
def tO (o:Bool) (c v a b:Fl):Bool:=(((((o || !aE (dq c a)) || !aE (dq v b)) || !aE (tX c v a b)) || !aE (dq c b)) || !aE (dq v a)) || !aE (tY c v a b)
def tI (n i:Nat) (c v:Fl):Nat->Nat->Bool->List Fl->List Fl->Bool × List Fl × List Fl
 | 0,_,s,w,R=>(s,w,R)
 | d+1,j,s,w,R=>tI n i c v d (j+1) (tO s c v (R.getD (i*n+j) none) (w.getD j none)) (w.set j (tY c v (R.getD (i*n+j) none) (w.getD j none))) (R.set (i*n+j) (tX c v (R.getD (i*n+j) none) (w.getD j none)))
theorem EC (n i:Nat) (c v:Fl):∀(d j:Nat) (s:Bool) (w R:List Fl),(tI n i c v d j s w R).2.1.length=w.length/\(tI n i c v d j s w R).2.2.length=R.length
 | 0,j,s,w,R=>⟨rfl,rfl⟩
 | d+1,j,s,w,R=>by unfold tI;obtain⟨h1,h2⟩:=EC n i c v d (j+1) (tO s c v (R.getD (i*n+j) none) (w.getD j none)) (w.set j (tY c v (R.getD (i*n+j) none) (w.getD j none))) (R.set (i*n+j) (tX c v (R.getD (i*n+j) none) (w.getD j none)));exact⟨by rw[h1,List.length_set],by rw[h2,List.length_set]⟩
theorem CX {N:Nat} (c v a b:Fl) (o:Bool) (k:Fl->Fl->Bool->Bool):cX N c v a b o k=k (tX c v a b) (tY c v a b) (tO o c v a b):=by
 have FW1:∀(x:Fl) (o:Bool) (k:Bool->Bool),FW x->mR N x o k=k (o || !aE x):=λx o k h=>ky h o k
 (unfold cX; try rw[ac]); unfold eD
 rw[oQ,oQ,FW1 _ _ _ (ox _ _),oQ,oQ,FW1 _ _ _ (I2 _ _)];rfl
theorem O3 {N n i:Nat} (hn:n<=12) (hi:i<n) (e:Fl) (c v:Fl) (b9:List Fl) (t1 t2 t8 t9 o4 o5:Int) (e0:Bool->List Fl->List Fl->Bool):∀(d j M:Nat) (s:Bool) (w R:List Fl),j+d=n->d<M->w.length=n->R.length=n*n ->
  ah M (bd N n e i t1 t2 t8 t9 o4 o5 c v b9 e0) ((j:Int),s,w,R)=e0 (tI n i c v d j s w R).1 (tI n i c v d j s w R).2.1 (tI n i c v d j s w R).2.2
 | 0,j,M+1,s,w,R,hj,hM,hw,hR=>by
  show bd N n e i t1 t2 t8 t9 o4 o5 c v b9 e0 ((j:Int),s,w,R) _=_;unfold bd;dsimp only;rw[decide_eq_false (by omega:¬(j:Int)<(n:Int)),cond_false];rfl
 | d+1,j,M+1,s,w,R,hj,hM,hw,hR=>by
  have hj2:j<n:=by omega
  have ih:=λs w R hw hR=>O3 (N:=N) hn hi e c v b9 t1 t2 t8 t9 o4 o5 e0 d (j+1) M s w R (by omega) (by omega) hw hR
  show bd N n e i t1 t2 t8 t9 o4 o5 c v b9 e0 ((j:Int),s,w,R) (ah M (bd N n e i t1 t2 t8 t9 o4 o5 c v b9 e0))=_;generalize ah M (bd N n e i t1 t2 t8 t9 o4 o5 c v b9 e0)=K at ih ⊢;unfold bd;dsimp only;obtain⟨g1,g2⟩:=ct (by omega:n<=1000) hi hj2;have g5:=dF hi hj2;rw[<- bE]at g2;have u1:Int.toNat ((i:Int)*(n:Int)+(j:Int))=i*n+j:=by rw[bE,Int.toNat_natCast]
  have q1:inR ((i:Int)*(n:Int)+(j:Int)) (n*n)=true:=by rw[bE]; exact ai (by omega) (by omega)
  have q2:decide (i*n+j<n*n)=true:=decide_eq_true g5;have r1:inR (j:Int) n=true:=ai (by omega) (by omega);have d1:decide (j<n)=true:=decide_eq_true hj2;have f1:af .i64 ((j:Int)+1)=true:=ab (by omega) (by omega);rw[decide_eq_true (by omega:(j:Int)<(n:Int)),cond_true];simp only[CX,g1,g2,u1,q1,q2,hw,hR,r1,d1,Int.toNat_natCast,Bool.true_and,f1];exact ih (tO s c v (R.getD (i*n+j) none) (w.getD j none)) (w.set j (tY c v (R.getD (i*n+j) none) (w.getD j none))) (R.set (i*n+j) (tX c v (R.getD (i*n+j) none) (w.getD j none))) (by rw[List.length_set]; exact hw) (by rw[List.length_set]; exact hR)
def rqM (p q:Fl):Fl:=kl (dq p p) (dq q q)
def rqS (s:Bool) (p q:Fl):Bool:=((s || !aE (dq p p)) || !aE (dq q q)) || !aE (rqM p q)
def rqT (n:Nat):Nat->Nat->Fl->Bool->List Fl->List Fl->List Fl->Int ⊕ (Fl × Bool × List Fl × List Fl)
 | 0,_,e,s,Z,_,R=>.inr (e,s,Z,R)
 | d+1,i,e,s,Z,w,R=>
  if feq (w.getD i none) (some 0)=true then rqT n d (i+1) e s Z w R
  else if rqS s (R.getD (i*n+i) none) (w.getD i none)=true then .inl 5
  else if fgt (ba (rqM (R.getD (i*n+i) none) (w.getD i none))) (some 0)=false then .inl 171
  else
   let g:=ba (rqM (R.getD (i*n+i) none) (w.getD i none))
   let c:=fdiv (R.getD (i*n+i) none) g
   let v:=fdiv (w.getD i none) g
   let I:=tI n i c v (n - (i+1)) (i+1) ((rqS s (R.getD (i*n+i) none) (w.getD i none) || !aE c) || !aE v) w (R.set (i*n+i) g)
   rqT n d (i+1) (tY c v (Z.getD i none) e) (tO I.1 c v (Z.getD i none) e) (Z.set i (tX c v (Z.getD i none) e)) I.2.1 I.2.2
def PD (o:Int ⊕ (Fl × Bool × List Fl × List Fl)) (e0:Fl->Int->Int->Int->Bool) (e1:Fl->Bool->List Fl->List Fl->Bool):Bool:=
 match o with
 | .inl e=>e0 (some 0) e 0 0
 | .inr (e,s,Z,R)=>e1 e s Z R
theorem ML (x:Fl):FW (ba x):=by
 cases x with
 | none=>intro b hb; cases hb
 | some a=>
  show FW (((Ieee.double.read a).root (Ieee.double.fractionBits+2)).map Ieee.double.write);exact w5
theorem O5 {N n:Nat} (hN:1000<=N) (hn:n<=12) (hsq:∀ p q:Fl,aE (dq p p)=true->aE (dq q q)=true->aE (rqM p q)=true->aE (ba (rqM p q))=true) (t8 t9 o2 o3:Int) (e0:Fl->Int->Int->Int->Bool) (e1:Fl->Bool->List Fl->List Fl->Bool):∀(d i M:Nat) (e:Fl) (s:Bool) (Z w R:List Fl),i+d=n->d<M->Z.length=n->w.length=n->R.length=n*n ->
  ah M (bC N n n t8 t9 o2 o3 e0 e1) (e,(i:Int),s,w,R,Z)=PD (rqT n d i e s Z w R) e0 (λe s Z R=>e1 e s R Z)
 | 0,i,M+1,e,s,Z,w,R,hi,hM,hZ,hw,hR=>by
  show bC N n n t8 t9 o2 o3 e0 e1 (e,(i:Int),s,w,R,Z) _=_;unfold bC;dsimp only;rw[decide_eq_false (by omega:¬(i:Int)<(n:Int)),cond_false];rfl
 | d+1,i,M+1,e,s,Z,w,R,hi,hM,hZ,hw,hR=>by
  have hi2:i<n:=by omega
  have ih:=λe s Z w R=>O5 (N:=N) hN hn hsq t8 t9 o2 o3 e0 e1 d (i+1) M e s Z w R (by omega) (by omega)
  show bC N n n t8 t9 o2 o3 e0 e1 (e,(i:Int),s,w,R,Z) (ah M (bC N n n t8 t9 o2 o3 e0 e1))=_;generalize ah M (bC N n n t8 t9 o2 o3 e0 e1)=K at ih ⊢;have r1:inR (i:Int) n=true:=ai (by omega) (by omega);have d1:decide (i<n)=true:=decide_eq_true hi2;have f1:af .i64 ((i:Int)+1)=true:=ab (by omega) (by omega);have sq:∀(x:Fl) (k:Fl->Bool),pZ N x k=k (ba x):=λ_ _=>rfl
  have ov:∀(o:Bool) (k:Bool),Cd N o k=k:=λo k=>by (unfold Cd; try rw[ac]); unfold Kr; rfl
  have F1:∀(x y:Fl) (o:Bool) (k:Bool->Bool),mR N (kl x y) o k=k (o || !aE (kl x y)):=λx y o k=>ky (ox _ _) o k
  have F2:∀(x y:Fl) (o:Bool) (k:Bool->Bool),mR N (fdiv x y) o k=k (o || !aE (fdiv x y)):=λx y o k=>ky (tN _ _) o k
  have F3:∀(x:Fl) (o:Bool) (k:Bool->Bool),mR N (ba x) o k=k (o || !aE (ba x)):=λx o k=>ky (ML _) o k
  obtain⟨g1,g2⟩:=ct (by omega:n<=1000) hi2 hi2;have g5:=dF hi2 hi2;rw[<- bE]at g2;have u1:Int.toNat ((i:Int)*(n:Int)+(i:Int))=i*n+i:=by rw[bE,Int.toNat_natCast]
  have q1:inR ((i:Int)*(n:Int)+(i:Int)) (n*n)=true:=by rw[bE]; exact ai (by omega) (by omega)
  have q2:decide (i*n+i<n*n)=true:=decide_eq_true g5;unfold bC rqT;dsimp only;rw[decide_eq_true (by omega:(i:Int)<(n:Int)),cond_true];simp only[hw,hZ,hR,r1,d1,f1,g1,g2,u1,q1,q2,Int.toNat_natCast,Bool.true_and,oQ,F1,F2,F3,sq,ov];cases h1:feq (w.getD i none) (some 0)
  ·rw[cond_false,if_neg (by decide)];generalize R.getD (i*n+i) none=p;generalize w.getD i none=q;show cond (rqS s p q || !aE (ba (rqM p q))) _ _=_;by_cases h2:rqS s p q=true
   ·rw[if_pos h2]
    conv=>lhs; rw[h2,Bool.true_or,cond_true]
    rfl
   ·rw[if_neg h2];have h2':rqS s p q=false:=by simpa using h2
    have h5:(!aE (ba (rqM p q)))=false:=by have h6:=h2';unfold rqS at h6;simp only[Bool.or_eq_false_iff,Bool.not_eq_false']at h6;rw[hsq p q h6.1.1.2 h6.1.2 h6.2]; rfl
    conv=>lhs; rw[h2',h5,Bool.or_self,cond_false]
    show cond (!fgt (ba (rqM p q)) (some 0)) _ _=_;cases h3:fgt (ba (rqM p q)) (some 0)
    ·rw[if_pos rfl]; rfl
    ·rw[if_neg (by decide),Bool.not_true,cond_false];have e4:(rqS s p q || !aE (ba (rqM p q)))=rqS s p q:=by rw[h5,Bool.or_false]
     show ah N (bd N n e i _ _ t8 t9 o2 o3 _ _ Z _) (((i+1:Nat):Int),((rqS s p q || !aE (ba (rqM p q))) || !aE (fdiv p (ba (rqM p q)))) || !aE (fdiv q (ba (rqM p q))),w,R.set (i*n+i) _)=_;rw[e4];refine(O3 (N:=N) hn hi2 e (fdiv p (ba (rqM p q))) (fdiv q (ba (rqM p q))) Z _ _ t8 t9 o2 o3 _ (n - (i+1)) (i+1) N _ w (R.set (i*n+i) (ba (rqM p q))) (by omega) (by omega) hw (by rw[List.length_set]; exact hR)).trans ?_;obtain⟨l1,l2⟩:=EC n i (fdiv p (ba (rqM p q))) (fdiv q (ba (rqM p q))) (n - (i+1)) (i+1) ((rqS s p q || !aE (fdiv p (ba (rqM p q)))) || !aE (fdiv q (ba (rqM p q)))) w (R.set (i*n+i) (ba (rqM p q)));simp only[CX];exact ih (tY (fdiv p (ba (rqM p q))) (fdiv q (ba (rqM p q))) (Z.getD i none) e) _ (Z.set i (tX (fdiv p (ba (rqM p q))) (fdiv q (ba (rqM p q))) (Z.getD i none) e)) _ _ (by rw[List.length_set]; exact hZ) (l1.trans hw) (l2.trans (by rw[List.length_set]; exact hR))
  ·rw[cond_true,if_pos rfl];exact ih e s Z w R hZ hw hR
theorem Ka {p:Fl} (h:aE (dq p p)=true):aE p=true:=by
 cases p with
 | none=>cases h
 | some b=>
  cases hr:Ieee.double.read b with
  | number s m i=>show wT (Ieee.double.read b)=true; rw[hr]; rfl
  | infinity s=>
   exfalso;have:dq (some b) (some b)=((Ieee.double.read b).product (Ieee.double.read b)).map Ieee.double.write:=rfl;rw[this,hr]at h;revert h;cases s <;> decide
  | nan=>
   exfalso;have:dq (some b) (some b)=((Ieee.double.read b).product (Ieee.double.read b)).map Ieee.double.write:=rfl;rw[this,hr]at h;cases h
theorem S7 {p:Fl} (h:aE p=true):NN (dq p p):=by obtain⟨b,s,m,i,rfl,hr⟩:=mj h;exact Kw rfl (.inl ⟨s,m,i,hr⟩)
theorem GY {p q:Fl} (h1:aE (dq p p)=true) (h2:aE (dq q q)=true) (h3:aE (rqM p q)=true):aE (ba (rqM p q))=true:=by
 have hn:NN (rqM p q):=Qz (S7 (Ka h1)) (S7 (Ka h2));obtain⟨b,e,-,h⟩:=hn;rcases h with⟨m,i,h⟩ | h
 ·by_cases hm:m=0
  ·subst hm;rw[e];show aE (((Ieee.double.read b).root (Ieee.double.fractionBits+2)).map Ieee.double.write)=true;rw[h];rfl
  ·have hp:0<rv (rqM p q):=by
    rw[e,II h];have hU:=xD Sp;have h0:(0:Int)<signed false m (i+1074).toNat:=by unfold signed;have:0<m*2 ^ (i+1074).toNat:=Nat.mul_pos (by omega) (Nat.pow_pos (by decide));simp only[Bool.false_eq_true,if_false];omega
    have h4:(0:Rat)<((signed false m (i+1074).toNat:Int):Rat):=Rat.intCast_pos.2 h0;exact Rat.mul_pos h4 hU
   exact(Mu h3 hp).1
 ·rw[e]at h3;have h4:wT (Ieee.double.read b)=true:=h3;rw[h]at h4;cases h4
theorem oz {l:List Fl}:aB l=true ↔ ∀ i,i<l.length->aE (l.getD i none)=true:=by unfold aB;exact bU
theorem qr {l:List Fl} {x:Fl} (i:Nat) (h:aB l=true) (hx:aE x=true):aB (l.set i x)=true:=by
 refine oz.2 λj hj=>?_
 rw[List.length_set]at hj;rw[List.getD_eq_getElem?_getD,List.getElem?_set];by_cases e:i=j
 ·rw[if_pos e];split
  ·exact hx
  ·omega
 ·rw[if_neg e,<- List.getD_eq_getElem?_getD];exact oz.1 h j hj
theorem G5 {o:Bool} {c v a b:Fl} (h:tO o c v a b=false):o=false/\aE (tX c v a b)=true/\aE (tY c v a b)=true:=by unfold tO at h;simp only[Bool.or_eq_false_iff,Bool.not_eq_false']at h;exact⟨h.1.1.1.1.1.1,h.1.1.1.2,h.2⟩
theorem Qe (n i:Nat) (c v:Fl):∀(d j:Nat) (s:Bool) (w R:List Fl),(tI n i c v d j s w R).1=false->aB w=true->aB R=true ->
  s=false/\aB (tI n i c v d j s w R).2.1=true/\aB (tI n i c v d j s w R).2.2=true
 | 0,j,s,w,R,h,hw,hR=>⟨h,hw,hR⟩
 | d+1,j,s,w,R,h,hw,hR=>by
  unfold tI at h ⊢;have q:tO s c v (R.getD (i*n+j) none) (w.getD j none)=false:=by
   cases hq:tO s c v (R.getD (i*n+j) none) (w.getD j none)
   ·rfl
   ·have key:∀(d j:Nat) (w R:List Fl),(tI n i c v d j true w R).1=true:=by
     intro d;induction d with
     | zero=>intro j w R; rfl
     | succ d ih=>
      intro j w R;unfold tI;have:tO true c v (R.getD (i*n+j) none) (w.getD j none)=true:=by unfold tO; simp
      rw[this];exact ih _ _ _
    rw[hq,key]at h;cases h
  obtain⟨q1,q2,q3⟩:=G5 q;obtain⟨-,r1,r2⟩:=Qe n i c v d (j+1) _ _ _ h (qr j hw q3) (qr _ hR q2);exact⟨q1,r1,r2⟩
theorem Bs (n:Nat):∀(d i:Nat) (e:Fl) (Z w R:List Fl) (e':Fl) (s':Bool) (Z' R':List Fl),rqT n d i e true Z w R=.inr (e',s',Z',R')->s'=true
 | 0,i,e,Z,w,R,e',s',Z',R',h=>by
  unfold rqT at h;cases h;rfl
 | d+1,i,e,Z,w,R,e',s',Z',R',h=>by
  unfold rqT at h;split at h
  ·exact Bs n d (i+1) _ _ _ _ _ _ _ _ h
  ·split at h
   ·cases h
   ·rename_i h2;exact absurd (by unfold rqS; simp) h2
theorem Eb (n:Nat):∀(d i:Nat) (e:Fl) (s:Bool) (Z w R:List Fl) (e':Fl) (Z' R':List Fl),rqT n d i e s Z w R=.inr (e',false,Z',R')->aE e=true->aB Z=true->aB w=true->aB R=true ->
  aE e'=true/\aB Z'=true/\aB R'=true
 | 0,i,e,s,Z,w,R,e',Z',R',h,he,hZ,hw,hR=>by
  unfold rqT at h;cases h;exact⟨he,hZ,hR⟩
 | d+1,i,e,s,Z,w,R,e',Z',R',h,he,hZ,hw,hR=>by
  unfold rqT at h;split at h
  ·exact Eb n d (i+1) _ _ _ _ _ _ _ _ h he hZ hw hR
  ·split at h
   ·cases h
   ·rename_i h2;split at h
    ·cases h
    ·dsimp only at h;generalize R.getD (i*n+i) none=p at h h2;generalize w.getD i none=q at h h2;have h2':rqS s p q=false:=by simpa using h2
     have hg:aE (ba (rqM p q))=true:=by unfold rqS at h2';simp only[Bool.or_eq_false_iff,Bool.not_eq_false']at h2';exact GY h2'.1.1.2 h2'.1.2 h2'.2
     have fl:∀ o:Bool,o=true->False->False:=λ_ _ h=>h
     cases ho:tO (tI n i (fdiv p (ba (rqM p q))) (fdiv q (ba (rqM p q))) (n - (i+1)) (i+1) ((rqS s p q || !aE (fdiv p (ba (rqM p q)))) || !aE (fdiv q (ba (rqM p q)))) w (R.set (i*n+i) (ba (rqM p q)))).1 (fdiv p (ba (rqM p q))) (fdiv q (ba (rqM p q))) (Z.getD i none) e with
     | true=>
      rw[ho]at h;have:=Bs n d (i+1) _ _ _ _ _ _ _ _ h;cases this
     | false=>
      obtain⟨q1,q2,q3⟩:=G5 ho;obtain⟨-,r1,r2⟩:=Qe n i _ _ _ _ _ _ _ q1 hw (qr _ hR hg);exact Eb n d (i+1) _ _ _ _ _ _ _ _ h q3 (qr _ hZ q2) r1 r2
abbrev KR:=Int->Int->List Fl->List Fl->Fl->Int->Bool
def dvV (h:List Fl) (d:Fl):Nat->Fl:=λj=>fdiv (h.getD j none) d
def dvO (h:List Fl) (d:Fl):Nat->Bool:=λj=>!aE (dvV h d j)
theorem VP {N n:Nat} (hN:1000<=N) (hn:n<=12) {h:List Fl} (hh:h.length=n) (z d:Fl) (b7 b8:List Fl) (t8 t9 o1 o2:Int) (e0:Bool->List Fl->Bool) :
  ah N (dn N h z n d n t8 t9 o1 o2 b7 b8 e0) (0,false,List.replicate n (some 0))=e0 (orB (dvO h d) n) (vf n (dvV h d)):=by
 have h0:((0,false,List.replicate n (some 0)):Int × Bool × List Fl)=(λi:Nat=>((i:Int),orB (dvO h d) i,(vf n (dvV h d)).take i++List.replicate (n - i) (some 0))) 0:=rfl;rw[h0];refine aP (λi:Nat=>((i:Int),orB (dvO h d) i,(vf n (dvV h d)).take i++List.replicate (n - i) (some 0))) n (by omega) ?_ ?_
 ·intro i hi K;unfold dn;dsimp only;have F2:∀(o:Bool) (k:Bool->Bool),mR N (dvV h d i) o k=k (o || !aE (dvV h d i)):=λo k=>ky (tN _ _) o k
  have r1:inR (i:Int) n=true:=ai (by omega) (by omega);have d1:decide (i<n)=true:=decide_eq_true hi;have f1:af .i64 ((i:Int)+1)=true:=ab (by omega) (by omega);have e:fdiv (h.getD i none) d=dvV h d i:=rfl;rw[decide_eq_true (by omega:(i:Int)<(n:Int)),cond_true];simp only[hh,r1,d1,f1,Int.toNat_natCast,Bool.true_and,F2,e,zq n (dvV h d) (i:=i) (by omega)];rw[Kh n (dvV h d) hi];rfl
 ·intro K;unfold dn;dsimp only;rw[decide_eq_false (by omega:¬(n:Int)<(n:Int)),cond_false,Nat.sub_self,List.replicate_zero,List.append_nil,List.take_of_length_le (by rw[cN]; omega)]
def Gy (R Z h:List Fl) (r z:Fl) (rr cc:Int) (k:KR):Bool:=
 if qE Z rr cc R ≠ 0 then k 0 0 [] [] (some 0) (qE Z rr cc R)else if vN Z.length h r z ≠ 0 then k 0 0 [] [] (some 0) (vN Z.length h r z)else
 PD (rqT Z.length Z.length 0 (fdiv z (ba r)) (orB (dvO h (ba r)) Z.length || !aE (fdiv z (ba r))) Z (vf Z.length (dvV h (ba r))) R)
  (λe n a b=>k a b [] [] e n) (λe s Z' R'=>cond s (k 0 0 [] [] (some 0) 5) (k Z.length Z.length R' Z' e 0))
theorem Pd {N:Nat} (hN:1000<=N) (R Z:List Fl) {h:List Fl} (hZ:bW N Z.length) (hR:bW N R.length) (hh:bW N h.length) (r z:Fl) (rr cc:Int) (k:KR) :
  cJ N rr cc R Z h r z k=Gy R Z h r z rr cc k:=by
 (unfold cJ; rw[ac]; unfold kd Gy)
 rw[jR _ _ _ _ hN hZ hR];by_cases h0:qE Z rr cc R=0
 ·obtain⟨e1,e2,hn,hl,-,-⟩:=xQ h0;rw[if_neg (c:=qE Z rr cc R ≠ 0) (λq=>q h0),show(qE Z rr cc R != 0)=false by simp[h0],cond_false,F_ _ _ _ _ hh (by omega)];by_cases h1:vN Z.length h r z=0
  ·rw[if_neg (λq=>q h1),show(vN Z.length h r z != 0)=false by simp[h1],cond_false];have h2:h.length=Z.length:=by have:=(CY h1).1; omega
   have n2:=n_ hn;have sq:∀(x:Fl) (k:Fl->Bool),pZ N x k=k (ba x):=λ_ _=>rfl
   have ov:∀(o:Bool) (k:Bool),Cd N o k=k:=λo k=>by (unfold Cd; try rw[ac]); unfold Kr; rfl
   have F2:∀(x y:Fl) (o:Bool) (k:Bool->Bool),mR N (fdiv x y) o k=k (o || !aE (fdiv x y)):=λx y o k=>ky (tN _ _) o k
   have cl:∀(x:List Fl) (k:List Fl->Bool),x.length<=144->aO N x k=k x:=λx k hx=>by unfold aO;show(decide (x.length*8<=140737488355328)&&k x)=k x;rw[decide_eq_true (by omega),Bool.true_and]
   rw[sq,cl R _ (by omega),cl Z _ (by omega),aa (bI (by omega) (by omega) (by omega) (by omega)),Int.toNat_natCast,VP hN hn h2,F2];simp only[ov];exact O5 hN hn (λp q=>GY) _ _ _ _ _ _ Z.length 0 N _ _ Z _ R (by omega) (by omega) rfl (cN _ _) hl
  ·rw[if_pos h1,bH _ _ h1,cond_true]
 ·rw[if_pos h0,bH _ _ h0,cond_true]
theorem Ec (n:Nat):∀(d i:Nat) (e:Fl) (s:Bool) (Z w R:List Fl) (e':Fl) (s':Bool) (Z' R':List Fl),rqT n d i e s Z w R=.inr (e',s',Z',R')->Z'.length=Z.length/\R'.length=R.length
 | 0,i,e,s,Z,w,R,e',s',Z',R',h=>by
  unfold rqT at h;cases h;exact⟨rfl,rfl⟩
 | d+1,i,e,s,Z,w,R,e',s',Z',R',h=>by
  unfold rqT at h;split at h
  ·exact Ec n d (i+1) _ _ _ _ _ _ _ _ _ h
  ·split at h
   ·cases h
   ·split at h
    ·cases h
    ·dsimp only at h;obtain⟨q1,q2⟩:=Ec n d (i+1) _ _ _ _ _ _ _ _ _ h;exact⟨by rw[q1,List.length_set],by rw[q2,(EC n i _ _ _ _ _ _ _).2,List.length_set]⟩
theorem Lo {N n:Nat} (hF:Fuel N) (hn:n<=12) {Y V:List Fl} (hY:Y.length=n*n) (hV:V.length=n) {h:List Fl} (hh:h.length=n) (r z:Fl) (a0 a1:Int) (k0:Int->Int->Int->Bool) (k1:Int->Int->Int->List Fl->List Fl->Bool) :
  kR N a0 a1 Y V h r z k0 k1=gK n Y V (wB h r) (wC h r z) (wBo h r) (wCo h r z) k0 k1:=by
 have hN:=hF.lt;have hn2:n*n<=144:=n_ hn;have FW1:∀(x:Fl) (o:Bool) (k:Bool->Bool),FW x->mR N x o k=k (o || !aE x):=λx o k h=>ky h o k
 have c1:∀(i j:Nat) (o:Bool) (k:Fl->Bool->Bool),i<n->j<n->fN N i j o h r k=k (wB h r i j) (o||wBo h r i j):=by
  intro i j o k hi hj
  (unfold fN; try rw[ac]); unfold fA
  rw[hh,aa (ai (by omega) (by omega)),Int.toNat_natCast,aa (ai (by omega) (by omega)),Int.toNat_natCast,oQ,FW1 _ _ _ (tN _ _),Bool.or_assoc];rfl
 have c2:∀(i:Nat) (o:Bool) (k:Fl->Bool->Bool),i<n->eF N i 0 o h z r k=k (wC h r z i) (o||wCo h r z i):=by
  intro i o k hi
  (unfold eF; try rw[ac]); unfold jb
  rw[hh,aa (ai (by omega) (by omega)),Int.toNat_natCast,oQ,FW1 _ _ _ (tN _ _),Bool.or_assoc];rfl
 (unfold kR; rw[ac]; unfold ke)
 rw[hV,<- Int.natCast_mul,aa (ab (by omega) (by omega)),aa (bI (by omega) (by omega) (by omega) (by omega)),aa (bI (by omega) (by omega) (by omega) (by omega)),Int.toNat_natCast,Int.toNat_natCast,w6];generalize hB:(wB h r)=B at *;generalize hbo:(wBo h r)=bo at *;generalize hC:(wC h r z)=C at *;generalize hco:(wCo h r z)=co at *;generalize hv:giV n Y B=v;rw[DV n v];have h0:((0,false,List.replicate n (some 0),mf n (mS v 0 0)):Int × Bool × List Fl × List Fl)=(λi:Nat=>((i:Int),orB (λi=>orB (λj=>giO n Y B bo i j) (i+1)||gvO V C co i) i,(vf n (gvV V C)).take i++List.replicate (n - i) (some 0),mf n (mS v i 0))) 0:=rfl;rw[h0];refine aP (λi:Nat=>((i:Int),orB (λi=>orB (λj=>giO n Y B bo i j) (i+1)||gvO V C co i) i,(vf n (gvV V C)).take i++List.replicate (n - i) (some 0),mf n (mS v i 0))) n (by omega) ?_ ?_
 ·intro i hi K;unfold eW;dsimp only;rw[decide_eq_true (by omega:(i:Int)<(n:Int)),cond_true,aa (ab (by omega) (by omega))];generalize ho1:orB (λi=>orB (λj=>giO n Y B bo i j) (i+1)||gvO V C co i) i=o1;have h1:((0,o1,mf n (mS v i 0)):Int × Bool × List Fl)=(λj:Nat=>((j:Int),o1||orB (λj=>giO n Y B bo i j) j,mf n (mS v i j))) 0:=by show _=(((0:Nat):Int),o1||false,_); rw[Bl]; rfl
  rw[h1];refine(aP (λj:Nat=>((j:Int),o1||orB (λj=>giO n Y B bo i j) j,mf n (mS v i j))) (i+1) (N:=N) (by omega) (out:=K ((((i+1:Nat)):Int),orB (λi=>orB (λj=>giO n Y B bo i j) (i+1)||gvO V C co i) (i+1),(vf n (gvV V C)).take (i+1)++List.replicate (n - (i+1)) (some 0),mf n (mS v (i+1) 0))) ?_ ?_:_)
  ·intro j hj K';have hj2:j<n:=by omega
   obtain⟨g1,g2⟩:=ct (by omega:n<=1000) hi hj2;obtain⟨g3,g4⟩:=ct (by omega:n<=1000) hj2 hi;have g5:=dF hi hj2;have g6:=dF hj2 hi;rw[<- bE]at g2 g4;have t1:Int.toNat ((i:Int)*(n:Int)+(j:Int))=i*n+j:=by rw[bE,Int.toNat_natCast]
   have t2:Int.toNat ((j:Int)*(n:Int)+(i:Int))=j*n+i:=by rw[bE,Int.toNat_natCast]
   have r1:inR ((i:Int)*(n:Int)+(j:Int)) (n*n)=true:=by rw[bE]; exact ai (by omega) (by omega)
   have r2:inR ((j:Int)*(n:Int)+(i:Int)) (n*n)=true:=by rw[bE]; exact ai (by omega) (by omega)
   have d1:decide (i*n+j<n*n)=true:=decide_eq_true g5;have d2:decide (j*n+i<n*n)=true:=decide_eq_true g6;have f1:af .i64 ((j:Int)+1)=true:=ab (by omega) (by omega);unfold eX;dsimp only;have e:kl (Y.getD (i*n+j) none) (B i j)=v i j:=by rw[<- hv]; rfl
   have hst:∀(o:Bool) (k:Bool->Bool),mR N (v i j) o k=k (o || !aE (v i j)):=λo k=>FW1 _ o k (by rw[<- e]; exact ox _ _)
   rw[decide_eq_true (by omega:(j:Int)<(i:Int)+1),cond_true];simp only[g1,g2,g3,g4,t1,t2,r1,r2,d1,d2,f1,hY,cW,List.length_set,Bool.true_and,c1 i j _ _ hi hj2,e,hst];rw[pq n _ hi hj2,pq n _ hj2 hi,DU n v hj];have e2:((o1||orB (λj=>giO n Y B bo i j) j||bo i j) || !aE (v i j))=(o1||orB (λj=>giO n Y B bo i j) (j+1)):=by rw[<- zQ o1 (λj=>giO n Y B bo i j) j];unfold giO;rw[hv];simp only[Bool.or_assoc]
   rw[e2];rfl
  ·intro K';unfold eX;dsimp only;have hst:∀(o:Bool) (k:Bool->Bool),mR N (gvV V C i) o k=k (o || !aE (gvV V C i)):=λo k=>FW1 _ o k (ox _ _)
   have e:kl (V.getD i none) (C i)=gvV V C i:=rfl;have f1:af .i64 ((i:Int)+1)=true:=ab (by omega) (by omega);have r1:inR (i:Int) n=true:=ai (by omega) (by omega);have d1:decide (i<n)=true:=decide_eq_true hi;rw[decide_eq_false (by omega:¬((i+1:Nat):Int)<(i:Int)+1),cond_false];simp only[hV,r1,d1,f1,Int.toNat_natCast,Bool.true_and,c2 i _ _ hi,e,hst,zq n (gvV V C) (i:=i) (by omega),Is];rw[Kh n (gvV V C) hi];have e2:((o1||orB (λj=>giO n Y B bo i j) (i+1)||co i) || !aE (gvV V C i))=orB (λi=>orB (λj=>giO n Y B bo i j) (i+1)||gvO V C co i) (i+1):=by show _=(orB (λi=>orB (λj=>giO n Y B bo i j) (i+1)||gvO V C co i) i||_);rw[ho1];unfold gvO;simp only[Bool.or_assoc]
   rw[e2];rfl
 ·intro K;unfold eW;dsimp only;rw[decide_eq_false (by omega:¬(n:Int)<(n:Int)),cond_false,Ir,Nat.sub_self,List.replicate_zero,List.append_nil,List.take_of_length_le (by rw[cN]; omega),<- hv];exact Ic hF hn Y V B C bo co _ _
theorem QV (n:Nat) (hn:n<=12) (Y V:List Fl) (B:Nat->Nat->Fl) (C:Nat->Fl) (bo:Nat->Nat->Bool) (co:Nat->Bool) :
  (∃ e:Int,e ≠ 0 /\ ∀ k0 k1,gK n Y V B C bo co k0 k1=k0 0 0 e) \/
  (Vu n (gV n V C) (gM n Y B)/\B7 n Y V B C bo co=false /\ ∀ k0 k1,gK n Y V B C bo co k0 k1=k1 n n 0 (gM n Y B) (gV n V C)):=by
 unfold gK;cases h:B7 n Y V B C bo co
 ·cases h4:xb n (gM n Y B)
  ·exact .inl ⟨170,by decide,λ_ _=>rfl⟩
  ·obtain⟨h1,h2⟩:=AA h;exact .inr ⟨⟨hn,cN _ _,cW _ _,oz.2 (IZ (P:=λx=>aE x=true) λi hi=>(h2 i hi).2),vR (zO λa b ha hb=>(h1 a b ha hb).2),Bc _,h4,Rq (JL λa b=>ox _ _)⟩,rfl,λ_ _=>rfl⟩
 ·exact .inl ⟨5,by decide,λ_ _=>rfl⟩
theorem MC (Y V h:List Fl) (r z:Fl) (rr cc:Int) :
  (∃ e:Int,e ≠ 0 /\ ∀ k,upI Y V h r z rr cc k=k 0 0 [] [] e) \/
  (∃ n:Nat,rr=n/\FM V rr cc Y=0/\V.length=n/\vN n h r z=0/\B7 n Y V (wB h r) (wC h r z) (wBo h r) (wCo h r z)=false/\Vu n (gV n V (wC h r z)) (gM n Y (wB h r)) /\
   ∀ k,upI Y V h r z rr cc k=k n n (gM n Y (wB h r)) (gV n V (wC h r z)) 0):=by
 unfold upI;by_cases h0:kw V rr cc Y=0
 ·obtain⟨n,hn,e1,rfl,hx,hl,-⟩:=CK (qF.1 h0);by_cases h1:vN V.length h r z=0
  ·rcases QV V.length (by omega) Y V (wB h r) (wC h r z) (wBo h r) (wCo h r z)with⟨e,he,q⟩ | ⟨hT,ha,q⟩
   ·exact .inl ⟨e,he,λk=>by rw[ifz h0,ifz h1,q]⟩
   ·refine .inr ⟨n,e1,qF.1 h0,hx,?_,?_,?_,λk=>?_⟩
    ·rw[<- hx]; exact h1
    ·rw[<- hx]; exact ha
    ·rw[<- hx]; exact hT
    ·rw[ifz h0,ifz h1,q,hx]
  ·exact .inl ⟨_,h1,λk=>by rw[ifz h0,fJ h1]⟩
 ·exact .inl ⟨_,h0,λk=>by rw[fJ h0]⟩
theorem F7 {N:Nat} (hF:Fuel N) (Y V:List Fl) {h:List Fl} (hh:bW N h.length) (r z:Fl) (rr cc:Int) (hw:AllW Y) (k:KI) :
  px N rr cc Y V h r z k=upI Y V h r z rr cc k:=by
 have hN:=hF.lt
 (unfold px; try rw[ac]); unfold pm upI
 rw[nU hF _ _ _ _ hw];by_cases h0:kw V rr cc Y=0
 ·obtain⟨n,hn,rfl,rfl,hx,hl,-⟩:=CK (qF.1 h0);rw[ifz h0,h0,show((0:Int) != 0)=false from rfl,cond_false,F_ _ _ _ _ hh (by omega)];by_cases h1:vN V.length h r z=0
  ·rw[ifz h1,h1,show((0:Int) != 0)=false from rfl,cond_false];have h2:h.length=V.length:=by have:=Pl h1; omega
   have hl':Y.length=V.length*V.length:=by rw[hx]; exact hl
   rw[Lo hF (n:=V.length) (by omega) hl' rfl h2]
  ·rw[fJ h1,bH _ _ h1,cond_true]
 ·rw[fJ h0,bH _ _ h0,cond_true]
theorem KL (a:Nat):dM a a=0:=by unfold dM;rw[if_neg (by omega),if_pos rfl]
theorem OL {N B:Nat} (hF:Fuel N) (hB:B<=1000000000000) {x:Rat} (hx:Bq B x) (k:Int->Bool) :
  pA N (decide (x.num<0)) (aj x.num.natAbs) false (aj x.den) (decide (x.num<0)) (aj x.num.natAbs) false (aj x.den) k=k 0:=by
 unfold pA uL
 (unfold zl; rw[ac]; unfold rU)
 have hB2:B<=2000000000100:=by omega
 rw[vM _ _ _ x.den_nz,kC hF hB2 hx.1 hx.2,vM _ _ _ x.den_nz,kC hF hB2 hx.1 hx.2]
 (unfold SZ; rw[ac]; unfold Nh)
 have h1:=pa (N:=N) hF (B:=B+B) (by omega) (dJ hx.1 hx.2);dsimp only;rw[iJ _ _ h1 h1,KL];cases decide (x.num<0) <;> rfl
theorem FP {N n i j:Nat} (hn:n<=1000) (hi:i<n) (hj:j<n) (f:Nat->Nat->Rat) (k:Bool->List Int->Bool->List Int->Bool) :
  JX N n n (mat dD n f) i j k=kqR (f i j) k:=by
 obtain⟨h1,h2⟩:=ct hn hi hj;have h3:=iU hi hj
 (unfold JX; rw[ac]; unfold MV)
 rw[bE,aa h1,aa h2,oU,Int.toNat_natCast,aa (ai (by omega) (by omega)),kE dD n f hi hj];rfl
theorem Pj {N B n:Nat} (hF:Fuel N) (hB:B<=1000000000000) (hn:n<=1000) {f:Nat->Nat->Rat} (hf:pH B n f) (hs:∀ a b,a<n->b<n->f a b=f b a) (k:Bool->Bool) :
  Wd N n n (mat dD n f) k=k true:=by
 have hN:=hF.lt
 (unfold Wd; rw[ac]; unfold Tx)
 refine aP (λt:Nat=>(t:Int)) n (by omega) ?_ ?_
 ·intro i hi K;unfold Er;dsimp only;rw[decide_eq_true (by omega:(i:Int)<(n:Int)),cond_true];refine aP (λt:Nat=>(t:Int)) i (by omega) ?_ ?_
  ·intro j hj K';have hj2:j<n:=by omega
   unfold Es;dsimp only;rw[decide_eq_true (by omega:(j:Int)<(i:Int)),cond_true,FP hn hi hj2];unfold kqR krR;dsimp only;rw[FP hn hj2 hi,hs j i hj2 hi];unfold kqR krR;dsimp only;rw[OL hF hB (hf i j hi hj2),show((0:Int) != 0)=false from rfl,cond_false,aa (ab (by omega) (by omega))];rfl
  ·intro K';unfold Es;dsimp only;rw[decide_eq_false (by omega:¬(i:Int)<(i:Int)),cond_false,aa (ab (by omega) (by omega))];rfl
 ·intro K;unfold Er;dsimp only;rw[decide_eq_false (by omega:¬(n:Int)<(n:Int)),cond_false]
theorem DN {N n:Nat} (hF:Fuel N) {l:List Fl} (hn:n<=12) (h:l.length=n*n) (hf:aB l=true) (hw:AllW l) (hs:EN n l) (k:Int->Int->Bool) :
  pB N n n l k=k (tA n n 0 3 (fm n l)) 0:=by
 have hN:=hF.lt;unfold pB uM
 (unfold vb; rw[ac]; unfold pn)
 rw[sF (by omega),lG hn h hf,show((0:Int) != 0)=false from rfl,cond_false,show((n:Int) != (n:Int))=false by simp,cond_false,Lf hF hn h hf hw,
  Pj (B:=1200) hF (by decide) (by omega) (zK h hf) hs]
 show PI N n n (mat dD n (fm n l)) _=_
 (unfold PI; rw[ac]; unfold M3)
 rw[Ia (B:=1200) hF (by decide) hn (zK h hf)];exact Li hF (by omega) (λt=>k t 0) n 0 1200 N 3 (fm n l) (by omega) (by omega) (zK h hf) (λa b _ _=>hs a b) (zn hn)
theorem vI {l:List Fl} {i j:Nat} {a d:Fl} (h:i ≠ j):(l.set i a).getD j d=l.getD j d:=by rw[List.getD_eq_getElem?_getD,List.getD_eq_getElem?_getD,List.getElem?_set_ne h]
theorem HN {l:List Fl} {i:Nat} {a d:Fl} (h:i<l.length):(l.set i a).getD i d=a:=by rw[List.getD_eq_getElem?_getD,List.getElem?_set_self h]; rfl
theorem HZ {n i j a b:Nat} (hj:j<n) (hb:b<n) (h:¬(a=i/\b=j)):i*n+j ≠ a*n+b:=by
 intro hc;apply h;have e1:(i*n+j) / n=(a*n+b) / n:=by rw[hc]
 have e2:(i*n+j)%n=(a*n+b)%n:=by rw[hc]
 rw[ug hj,ug hb]at e1;rw[uh hj,uh hb]at e2;exact⟨e1.symm,e2.symm⟩
theorem Kd (n i:Nat) (c v:Fl) (hi:i<n):∀(d j:Nat) (s:Bool) (w R:List Fl),i<j->j+d<=n -> ∀ a b,a<n->b<=a->elt (tI n i c v d j s w R).2.2 n a b=elt R n a b
 | 0,j,s,w,R,_,_,a,b,_,_=>rfl
 | d+1,j,s,w,R,hj,hd,a,b,ha,hb=>by show elt (tI n i c v d (j+1) _ _ _).2.2 n a b=_;rw[Kd n i c v hi d (j+1) _ _ _ (by omega) (by omega) a b ha hb];unfold elt;exact vI (HZ (by omega) (by omega) (by omega))
def UpR (n:Nat) (R:List Fl):Prop:=(∀ i,i<n->ow R n i=true) /\ ∀ i,i<n -> ∀ j,j<i->isz (elt R n i j)=true
theorem Dl {n:Nat} {R:List Fl}:vg R n=true↔UpR n R:=by
 unfold vg UpR Gg;rw[bU];constructor
 ·intro h;exact⟨λi hi=>((Bool.and_eq_true _ _).mp (h i hi)).1,λi hi j hj=>bU.1 ((Bool.and_eq_true _ _).mp (h i hi)).2 j hj⟩
 ·rintro ⟨h1,h2⟩ i hi;rw[h1 i hi,Bool.true_and,bU];exact h2 i hi
theorem IH (n:Nat):∀(d i:Nat) (e:Fl) (s:Bool) (Z w R:List Fl) (e':Fl) (s':Bool) (Z' R':List Fl),i+d=n->R.length=n*n->UpR n R->rqT n d i e s Z w R=.inr (e',s',Z',R')->UpR n R'
 | 0,i,e,s,Z,w,R,e',s',Z',R',_,_,hu,h=>by
  unfold rqT at h;simp only[Sum.inr.injEq,Prod.mk.injEq]at h;obtain⟨-,-,-,rfl⟩:=h;exact hu
 | d+1,i,e,s,Z,w,R,e',s',Z',R',hi,hl,hu,h=>by
  have hi2:i<n:=by omega
  have b0:=dF hi2 hi2;unfold rqT at h;by_cases h1:feq (w.getD i none) (some 0)=true
  ·rw[if_pos h1]at h;exact IH n d (i+1) _ _ _ _ _ _ _ _ _ (by omega) hl hu h
  rw[if_neg h1]at h;by_cases h2:rqS s (R.getD (i*n+i) none) (w.getD i none)=true
  ·rw[if_pos h2]at h; cases h
  rw[if_neg h2]at h;by_cases h3:fgt (ba (rqM (R.getD (i*n+i) none) (w.getD i none))) (some 0)=false
  ·rw[if_pos h3]at h; cases h
  rw[if_neg h3]at h;have h3:fgt (ba (rqM (R.getD (i*n+i) none) (w.getD i none))) (some 0)=true:=by simpa using h3
  dsimp only at h;refine IH n d (i+1) _ _ _ _ _ _ _ _ _ (by omega) ?_ ?_ h
  ·rw[(EC _ _ _ _ _ _ _ _ _).2,List.length_set]; exact hl
  ·have keep:=λ(s0:Bool) (w0:List Fl)=>Kd n i (fdiv (R.getD (i*n+i) none) (ba (rqM (R.getD (i*n+i) none) (w.getD i none)))) (fdiv (w.getD i none) (ba (rqM (R.getD (i*n+i) none) (w.getD i none)))) hi2 (n - (i+1)) (i+1) s0 w0 (R.set (i*n+i) (ba (rqM (R.getD (i*n+i) none) (w.getD i none)))) (by omega) (by omega)
   refine⟨λa ha=>?_,λa ha b hb=>?_⟩
   ·unfold ow;rw[keep _ _ a a ha (Nat.le_refl _)];unfold elt;by_cases e:a=i
    ·rw[e,HN (by omega)]; exact h3
    ·rw[vI (HZ hi2 ha (by omega))]; exact hu.1 a ha
   ·rw[keep _ _ a b ha (by omega)];unfold elt;rw[vI (HZ hi2 (by omega) (by omega))];exact hu.2 a ha b hb
theorem Ea (n:Nat):∀(d i:Nat) (e:Fl) (s:Bool) (Z w R:List Fl) (x:Int),rqT n d i e s Z w R=.inl x->x ≠ 0
 | 0,i,e,s,Z,w,R,x,h=>by unfold rqT at h; cases h
 | d+1,i,e,s,Z,w,R,x,h=>by
  unfold rqT at h;by_cases h1:feq (w.getD i none) (some 0)=true
  ·rw[if_pos h1]at h; exact Ea n d _ _ _ _ _ _ _ h
  rw[if_neg h1]at h;by_cases h2:rqS s (R.getD (i*n+i) none) (w.getD i none)=true
  ·rw[if_pos h2]at h; cases h; decide
  rw[if_neg h2]at h;by_cases h3:fgt (ba (rqM (R.getD (i*n+i) none) (w.getD i none))) (some 0)=false
  ·rw[if_pos h3]at h; cases h; decide
  rw[if_neg h3]at h;exact Ea n d _ _ _ _ _ _ _ h
theorem HX {x:List Fl} {r c:Int} {xs:List Fl} (h:qE x r c xs=0):UpR x.length xs:=by
 unfold qE at h;split at h
 ·exact absurd h (by assumption)
 ·split at h
  ·split at h
   ·split at h
    ·rename_i q; exact Dl.1 (by simpa using q)
    ·cases h
   ·cases h
  ·cases h
theorem Q2 {n:Nat} {x R:List Fl} (hn:n<=12) (hx:x.length=n) (hl:R.length=n*n) (fx:aB x=true) (fR:aB R=true) (hu:UpR n R):qE x n n R=0:=by unfold qE;rw[lG hn hl fR,if_neg (λq=>q rfl),if_pos ⟨rfl,by omega⟩,if_pos fx,hx,if_pos (Dl.2 hu)]
theorem Mb (R Z h:List Fl) (r z:Fl) (rr cc:Int) :
  (∃ e:Int,e ≠ 0 /\ ∀ k,Gy R Z h r z rr cc k=k 0 0 [] [] (some 0) e) \/
  (∃(n:Nat) (R' Z':List Fl) (t:Fl),n<=12/\R'.length=n*n/\Z'.length=n/\qE Z' n n R'=0 /\ ∀ k,Gy R Z h r z rr cc k=k n n R' Z' t 0):=by
 by_cases h0:qE Z rr cc R=0
 ·obtain⟨e1,e2,hn,hl,fZ,fR⟩:=xQ h0;have hu:=HX h0;by_cases h1:vN Z.length h r z=0
  ·generalize hs:(orB (dvO h (ba r)) Z.length || !aE (fdiv z (ba r)))=s;generalize ho:rqT Z.length Z.length 0 (fdiv z (ba r)) s Z (vf Z.length (dvV h (ba r))) R=o;have key:∀ k,Gy R Z h r z rr cc k=PD o (λe n a b=>k a b [] [] e n) (λe s Z' R'=>cond s (k 0 0 [] [] (some 0) 5) (k Z.length Z.length R' Z' e 0)):=λk=>by unfold Gy;rw[ifz h0,ifz h1,hs,ho]
   cases o with
   | inl e=>exact .inl ⟨e,Ea _ _ _ _ _ _ _ _ _ ho,λk=>by rw[key]; rfl⟩
   | inr q=>
    obtain⟨t,s',Z',R'⟩:=q;cases hs':s' with
    | true=>exact .inl ⟨5,by decide,λk=>by rw[key,hs']; rfl⟩
    | false=>
     rw[hs']at ho;cases s with
     | true=>have:=Bs _ _ _ _ _ _ _ _ _ _ _ ho; cases this
     | false=>
      rw[Bool.or_eq_false_iff]at hs;have fw:aB (vf Z.length (dvV h (ba r)))=true:=oz.2 (IZ (P:=λx=>aE x=true) λi hi=>by have:=iY hs.1 i hi;unfold dvO at this;simpa using this)
      obtain⟨q1,q2,q3⟩:=Eb _ _ _ _ _ _ _ _ _ _ _ ho (by simpa using hs.2) fZ fw fR;have l:=Ec _ _ _ _ _ _ _ _ _ _ _ _ ho;have u:=IH _ _ _ _ _ _ _ _ _ _ _ _ (by omega) hl hu ho;exact .inr ⟨Z.length,R',Z',t,hn,l.2.trans hl,l.1,Q2 hn l.1 (l.2.trans hl) q2 q3 u,λk=>by rw[key,hs']; rfl⟩
  ·exact .inl ⟨_,h1,λk=>by unfold Gy; rw[ifz h0,fJ h1]⟩
 ·exact .inl ⟨_,h0,λk=>by unfold Gy; rw[fJ h0]⟩
def Fine (n:Nat) (P:List Fl):Prop:=n<=12/\P.length=n*n/\aB P=true/\AllW P/\pF n P=true/\xb n P=true
theorem A_ {N n:Nat} (hF:Fuel N) {P:List Fl} (h:Fine n P) (k:Bool->Bool):sQ4 N n n P k=k true:=by
 have hN:=hF.lt;obtain⟨h1,h3,h5,h8,h6,h7⟩:=h
 (unfold sQ4; rw[ac]; unfold GQ4)
 have hs:tA n n 0 3 (fm n P)=3:=by unfold xb at h7;exact eq_of_beq h7
 rw[DN hF h1 h3 h5 h8 (Qd h3 h5 h6),hs];show R3 N n n P _=_;rw[OT (by omega) h1 h3 h5,if_pos h6];rfl
theorem Q1 {N:Nat} (hF:Fuel N) (Y V:List Fl) (rr cc:Int) (hw:AllW Y):∃(x:List Fl) (a b:Int) (p:List Fl) (e:Int),(e=0 -> ∃ n:Nat,a=n/\b=n/\Fine n p) /\
  ∀ k:List Fl->Int->Int->List Fl->Int->Bool,i5 N rr cc Y V k=k x a b p e:=by
 have hN:=hF.lt;have key:∀ k:List Fl->Int->Int->List Fl->Int->Bool,i5 N rr cc Y V k=(if kw V rr cc Y ≠ 0 then k [] 0 0 [] (kw V rr cc Y)else ivK rr cc Y λa b p _ e=>cond (e != 0) (k [] 0 0 [] e) (bM N a b p λq=>cond (!q) (k [] 0 0 [] 151) (svK rr cc Y V λx _ e=>cond (e != 0) (k [] 0 0 [] e) (k x a b p 0)))):=λk=>by
  (unfold i5; rw[ac]; unfold qi)
  rw[nU hF _ _ _ _ hw];by_cases h0:kw V rr cc Y=0
  ·rw[ifz h0,h0,show((0:Int) != 0)=false from rfl,cond_false,FR (by omega)];simp only[Lj (show 1000<=N by omega)]
  ·rw[fJ h0,bH _ _ h0,cond_true]
 by_cases h0:kw V rr cc Y=0
 ·rcases K7 rr cc Y with⟨p,e,he,q⟩ | ⟨n,P,hn,e1,e2,hP,fP,wP,sP,bP,q⟩
  ·exact⟨[],0,0,[],e,λh=>absurd h he,λk=>by rw[key,ifz h0,q,bH _ _ he,cond_true]⟩
  ·have p1:∀ k,bM N n n P k=k (xb n P):=wV hF hn hP fP wP sP;cases h3:xb n P
   ·exact⟨[],0,0,[],151,λh=>absurd h (by decide),λk=>by rw[key,ifz h0,q]; show bM N n n P _=_; rw[p1,h3]; rfl⟩
   ·rcases Mw rr cc Y V with⟨p,e,he,q2⟩ | ⟨m,x,hm,e3,e4,hx,fx,q2⟩
    ·exact⟨[],0,0,[],e,λh=>absurd h he,λk=>by rw[key,ifz h0,q]; show bM N n n P _=_; rw[p1,h3,Bool.not_true,cond_false,q2,bH _ _ he,cond_true]⟩
    ·exact⟨x,n,n,P,0,λ_=>⟨n,rfl,rfl,hn,hP,fP,wP,bP,h3⟩,λk=>by rw[key,ifz h0,q]; show bM N n n P _=_; rw[p1,h3,Bool.not_true,cond_false,q2]; rfl⟩
 ·exact⟨[],0,0,[],_,λh=>absurd h h0,λk=>by rw[key,fJ h0]⟩
theorem OB {N:Nat} (hF:Fuel N) (Y V:List Fl) (rr cc:Int) (hw:AllW Y):∃(a b:Int) (M v:List Fl) (e:Int),M.length<=144/\v.length<=12 /\
  ∀ k:Int->Int->List Fl->List Fl->Int->Bool,l5 N rr cc Y V k=k a b M v e:=by
 have hN:1000<=N:=by have:=hF.lt; omega
 have key:∀ k:KM,l5 N rr cc Y V k=(if kw V rr cc Y ≠ 0 then k 0 0 [] [] (kw V rr cc Y)else chK rr cc Y λa b L _ e=>cond (e != 0) (k 0 0 [] [] e) (lwK a b L V λx e=>cond (e != 0) (k 0 0 [] [] e) (PW N a b L λc d M e=>k c d M x e))):=λk=>by
  (unfold l5; rw[ac]; unfold pk)
  rw[nU hF _ _ _ _ hw];by_cases h0:kw V rr cc Y=0
  ·rw[ifz h0,h0,show((0:Int) != 0)=false from rfl,cond_false,AW hN];simp only[H9 hN]
  ·rw[fJ h0,bH _ _ h0,cond_true]
 by_cases h0:kw V rr cc Y=0
 ·rcases KH rr cc Y with⟨p,e,he,q⟩ | ⟨n,hn,e1,e2,hl,hc,q⟩
  ·exact⟨0,0,[],[],e,Nat.zero_le _,Nat.zero_le _,λk=>by rw[key,ifz h0,q,bH _ _ he,cond_true]⟩
  ·rcases LM n n (mf n (cL (elt Y n))) V with⟨e,he,q2⟩ | ⟨m,x,hm,e3,e4,hL,fL,tL,hx,fx,q2⟩
   ·exact⟨0,0,[],[],e,Nat.zero_le _,Nat.zero_le _,λk=>by rw[key,ifz h0,q,show((0:Int) != 0)=false from rfl,cond_false,q2,bH _ _ he,cond_true]⟩
   ·obtain rfl:n=m:=by omega
    have n2:=n_ hn;exact⟨n,n,mf n (λa b=>elt (mf n (cL (elt Y n))) n b a),x,0,by rw[cW]; exact n2,by omega,λk=>by rw[key,ifz h0,q,show((0:Int) != 0)=false from rfl,cond_false,q2,show((0:Int) != 0)=false from rfl,cond_false,A5 hN hn hL fL]⟩
 ·exact⟨0,0,[],[],_,Nat.zero_le _,Nat.zero_le _,λk=>by rw[key,fJ h0]⟩
theorem OC {N:Nat} (hF:Fuel N) (R Z:List Fl) (rr cc:Int) (hR:bW N R.length) (hZ:bW N Z.length):∃(a b:Int) (M v:List Fl) (e:Int),(e=0 -> ∃ n:Nat,a=n/\b=n/\Fine n M) /\
  ∀ k:Int->Int->List Fl->List Fl->Int->Bool,bN N rr cc R Z k=k a b M v e:=by
 have hN:1000<=N:=by have:=hF.lt; omega
 by_cases h0:qE Z rr cc R=0
 ·obtain⟨rfl,rfl,hn,hl,fZ,fR⟩:=xQ h0;generalize hm:Z.length=n at *;generalize hL:(mf n λa b=>elt R n b a)=L;have lL:L.length=n*n:=by rw[<- hL,cW]
  have key:∀ k:KM,bN N n n R Z k=qdK n n L λa b Q e=>cond (e != 0) (k 0 0 [] [] e) (ah N (dU N n n n R Z 0 0 n n L a b Q (λs v=>gj N a b Q s v (λc d e=>k c d [] [] e) (λe=>k a b Q v e))) (0,false,List.replicate n (some 0))):=λk=>by
   (unfold bN; rw[ac]; unfold lT)
   rw[jR _ _ _ _ hN (hm ▸ hZ) hR,h0,show((0:Int) != 0)=false from rfl,cond_false,A5 hN hn hl fR,hL];rw[Rf hN,hm,List.length_replicate,Int.toNat_natCast];have hmk:fY 8 (n:Int) (n:Int)=true:=bI (by omega) (by omega) (by omega) (by omega);simp only[hmk,Bool.true_and]
  rcases LY n n L with⟨e,he,q⟩ | ⟨m,Q,hmn,e1,e2,-,hQ,fQ,wQ,sQ,bQ,q⟩
  ·exact⟨0,0,[],[],e,λh=>absurd h he,λk=>by rw[key,q,bH _ _ he,cond_true]⟩
  ·obtain rfl:n=m:=by omega
   cases h3:orB (urO L Z n) n
   ·cases h4:xb n Q
    ·exact⟨0,0,[],[],170,λh=>absurd h (by decide),λk=>by rw[key,q,show((0:Int) != 0)=false from rfl,cond_false,DS hN hn lL hm,x_ hF hn hQ fQ wQ sQ,h3,h4]; rfl⟩
    ·exact⟨n,n,Q,vf n (urV L Z n),0,λ_=>⟨n,rfl,rfl,hn,hQ,fQ,wQ,bQ,h4⟩,λk=>by rw[key,q,show((0:Int) != 0)=false from rfl,cond_false,DS hN hn lL hm,x_ hF hn hQ fQ wQ sQ,h3,h4]; rfl⟩
   ·exact⟨0,0,[],[],5,λh=>absurd h (by decide),λk=>by rw[key,q,show((0:Int) != 0)=false from rfl,cond_false,DS hN hn lL hm,x_ hF hn hQ fQ wQ sQ,h3]; rfl⟩
 ·refine⟨0,0,[],[],qE Z rr cc R,λh=>absurd h h0,λk=>?_⟩
  (unfold bN; rw[ac]; unfold lT)
  rw[jR _ _ _ _ hN hZ hR,bH _ _ h0,cond_true]
abbrev KR4:=Int->Int->List Fl->List Fl->Bool
def unT (N:Nat) (F:Bool) (KK:Bool) (a b:Int) (R Z:List Fl):Bool:=
 bN N a b R Z λc d Q _ e=>cond ((e==0)==true) (sQ4 N c d Q λg=>cond (!g) F KK) KK
def rtT (N:Nat) (rooted:Bool) (w1 w2:Int) (h:List Fl) (F:Bool) (KK:KR4) (o0 o1:Int) (R Z:List Fl):Bool:=
 cond rooted (xe N w1 λx2=>xe N w2 λx3=>cJ N o0 o1 R Z h x2 x3 λa b R' Z' _ e=>cond (e==0) (IK N a b R' Z' λc=>cond (c != 0) F (unT N F (KK a b R' Z') a b R' Z')) (unT N F (KK o0 o1 R Z) o0 o1 R Z)) (KK o0 o1 R Z)
def saT (N:Nat) (rooted:Bool) (w1 w2:Int) (h:List Fl) (F:Bool) (KK:KR4) (o0 o1:Int) (R Z:List Fl) (a b:Int) (Y V:List Fl):Bool:=
 i5 N a b Y V λ_ c d P e=>cond ((e==0)==true) (sQ4 N c d P λg=>cond (!g) F (rtT N rooted w1 w2 h F KK o0 o1 R Z)) (rtT N rooted w1 w2 h F KK o0 o1 R Z)
theorem Qm {N:Nat} (hF:Fuel N) (F:Bool) {KK:Bool} (hK:KK=true) (a b:Int) {R Z:List Fl} (hR:bW N R.length) (hZ:bW N Z.length):unT N F KK a b R Z=true:=by
 unfold unT;obtain⟨c,d,M,v,e,h1,q⟩:=OC hF R Z a b hR hZ;rw[q];by_cases he:e=0
 ·obtain⟨n,rfl,rfl,hf⟩:=h1 he;rw[he,show(((0:Int)==0)==true)=true from rfl,cond_true,A_ hF hf,Bool.not_true,cond_false,hK]
 ·have:((e==0)==true)=false:=by simp[he]
  rw[this,cond_false,hK]
theorem V3 {N:Nat} (hF:Fuel N) (rooted:Bool) (w1 w2:Int) {h:List Fl} (hh:bW N h.length) (F:Bool) {KK:KR4} (hK:∀ a b R Z,bW N R.length->bW N Z.length->KK a b R Z=true) (o0 o1:Int) {R Z:List Fl} (hR:bW N R.length) (hZ:bW N Z.length):rtT N rooted w1 w2 h F KK o0 o1 R Z=true:=by
 have hN:1000<=N:=by have:=hF.lt; omega
 have sf:∀(r:Int) (k:Fl->Bool),xe N r k=k (fp r.toNat):=λ_ _=>rfl
 unfold rtT;cases rooted
 ·exact hK _ _ _ _ hR hZ
 ·rw[cond_true,sf,sf,Pd hN _ _ hZ hR hh];rcases Mb R Z h (fp w1.toNat) (fp w2.toNat) o0 o1 with⟨e,he,q⟩ | ⟨n,R',Z',t,hn,hl,hz,hc,q⟩
  ·rw[q,show(e==0)=false by simp[he],cond_false];exact Qm hF F (hK _ _ _ _ hR hZ) _ _ hR hZ
  ·have n2:=n_ hn;have sR:bW N R'.length:=⟨by omega,by omega⟩
   have sZ:bW N Z'.length:=⟨by omega,by omega⟩
   rw[q,show((0:Int)==0)=true from rfl,cond_true,AV hN _ _ _ _ sZ,hc,show((0:Int) != 0)=false from rfl,cond_false];exact Qm hF F (hK _ _ _ _ sR sZ) _ _ sR sZ
theorem P0 {N:Nat} (hF:Fuel N) (rooted:Bool) (w1 w2:Int) {h:List Fl} (hh:bW N h.length) (F:Bool) {KK:KR4} (hK:∀ a b R Z,bW N R.length->bW N Z.length->KK a b R Z=true) (o0 o1:Int) {R Z:List Fl} (hR:bW N R.length) (hZ:bW N Z.length) (a b:Int) {Y V:List Fl} (hw:AllW Y):saT N rooted w1 w2 h F KK o0 o1 R Z a b Y V=true:=by
 unfold saT;obtain⟨x,c,d,P,e,h1,q⟩:=Q1 hF Y V a b hw;rw[q];have r:=V3 hF rooted w1 w2 hh F hK o0 o1 hR hZ;by_cases he:e=0
 ·obtain⟨n,rfl,rfl,hf⟩:=h1 he;rw[he,show(((0:Int)==0)==true)=true from rfl,cond_true,A_ hF hf,Bool.not_true,cond_false,r]
 ·have:((e==0)==true)=false:=by simp[he]
  rw[this,cond_false,r]
theorem CJ {σ:Type} {step:σ->(σ->Bool)->Bool} (I:Nat->σ->Prop) (n:Nat) (hs:∀ i s,i<n->I i s -> ∀ K:σ->Bool,(∀ s',I (i+1) s'->K s'=true)->step s K=true) (hx:∀ s,I n s -> ∀ K,step s K=true) :
  ∀(d i M:Nat),i+d=n->d<M -> ∀ s,I i s->ah M step s=true
 | 0,i,M+1,h,hM,s,hI=>by
  have:i=n:=by omega
  subst this;exact hx s hI _
 | d+1,i,M+1,h,hM,s,hI=>hs i s (by omega) hI _ λs' h'=>CJ I n hs hx d (i+1) M (by omega) (by omega) s' h'
theorem My {n:Nat} {x p:List Fl} (h:Vu n x p):kw x n n p=0:=by obtain⟨h1,h2,h3,h4,h5,h6,h7,-⟩:=h;refine qF.2 ?_;unfold FM;rw[lG h1 h3 h5,if_neg (by decide),if_neg (by omega),if_neg (by omega),Int.toNat_natCast,if_neg (by simp[h4]),if_neg (by simp[h6]),if_neg (by simp[h7])]
theorem xT {N:Nat} (hF:Fuel N) (v:List Int) (n:Int) (y:List Int) (l:List RY3) (hv:bW N v.length) (hy:bW N y.length) (hl:∀ w,w ∈ l->bW N w.1.length) (by_:∀ z,z ∈ y->z.toNat<18446744073709551616) :
  sQ1 N v n y l (λb=>b)=true:=by
 have hN:1000<=N:=by have:=hF.lt; omega
 have aw:∀(k:Bool->Bool),sQ0 N k=k true:=λ_=>rfl
 have sf:∀(r:Int) (k:Fl->Bool),xe N r k=k (fp r.toNat):=λ_ _=>rfl
 have wY:=VW by_;unfold sQ1 GQ1;rw[ON hv hy,nU hF _ _ _ _ wY];by_cases h0:kw (uI v) n n (uI y)=0
 ·rw[h0,show(((0:Int) != 0)==false)=true from rfl,cond_true];by_cases h1:((l.length:Nat):Int)>20
  ·rw[decide_eq_true h1,cond_true,aw]
  ·rw[decide_eq_false h1,cond_false];obtain⟨a,b,M,w,e,hM,hw,q⟩:=OB hF (uI y) (uI v) n n wY;rw[q];refine CJ (λi (s:Int × Int × Int × List Fl × List Fl × Int × Int × List Fl × List Fl)=>∃(a0 a1:Int) (Y V:List Fl) (o0 o1:Int) (R Z:List Fl),AllW Y/\bW N R.length/\bW N Z.length/\s=((i:Int),a0,a1,Y,V,o0,o1,R,Z)) l.length ?_ ?_ l.length 0 N (by omega) (by omega) _ ⟨n,n,_,_,a,b,M,w,wY,⟨by omega,by omega⟩,⟨by omega,by omega⟩,rfl⟩
   ·rintro i _ hi ⟨a0,a1,Y,V,o0,o1,R,Z,hY,hR,hZ,rfl⟩ K hK;unfold Kb;dsimp only;have hs:=hl (l.getD i ([],(0,0))) (by rw[List.getD_eq_getElem?_getD,List.getElem?_eq_getElem hi]; exact List.getElem_mem hi);have hKK:∀(a0 a1:Int) (Y V:List Fl),AllW Y -> ∀ a b R Z,bW N R.length->bW N Z.length->((af .i64 ((i:Int)+1))&&K ((i:Int)+1,a0,a1,Y,V,a,b,R,Z))=true:=λa0 a1 Y V hY a b R Z hR hZ=>by rw[aa (ab (by omega) (by omega))];exact hK _ ⟨a0,a1,Y,V,a,b,R,Z,hY,hR,hZ,rfl⟩
    rw[decide_eq_true (by omega:(i:Int)<(l.length:Int)),cond_true,aa (ai (by omega) (by omega)),Int.toNat_natCast,AZ _ hs,sf,sf,F7 hF _ _ (BA hs) _ _ _ _ hY];have hh:=BA hs;rcases MC Y V (uI (l.getD i ([],(0,0))).1) (fp (l.getD i ([],(0,0))).2.1.toNat) (fp (l.getD i ([],(0,0))).2.2.toNat) a0 a1 with⟨e',he,q⟩ | ⟨m,em,-,-,-,-,tl,q⟩
    ·rw[q,show(e'==0)=false by simp[he],cond_false];exact P0 hF (e==0) _ _ hh false (KK:=λa b R Z=>(af .i64 ((i:Int)+1))&&K ((i:Int)+1,a0,a1,Y,V,a,b,R,Z)) (hKK a0 a1 Y V hY) o0 o1 hR hZ a0 a1 hY
    ·have wq:=tl.2.2.2.2.2.2.2;have hf:Fine m (gM m Y (wB (uI (l.getD i ([],(0,0))).1) (fp (l.getD i ([],(0,0))).2.1.toNat))):=⟨tl.1,tl.2.2.1,tl.2.2.2.2.1,tl.2.2.2.2.2.2.2,tl.2.2.2.2.2.1,tl.2.2.2.2.2.2.1⟩
     rw[q,show((0:Int)==0)=true from rfl,cond_true,A_ hF hf,show((!true)==false)=true from rfl,cond_true,nU hF _ _ _ _ wq,My tl,show((0:Int) != 0)=false from rfl,cond_false];exact P0 hF (e==0) _ _ hh false (KK:=λa b R Z=>(af .i64 ((i:Int)+1))&&K ((i:Int)+1,m,m,_,_,a,b,R,Z)) (hKK m m _ _ wq) o0 o1 hR hZ m m wq
   ·rintro _ ⟨a0,a1,Y,V,o0,o1,R,Z,hY,hR,hZ,rfl⟩ K;unfold Kb;dsimp only;rw[decide_eq_false (by omega:¬(l.length:Int)<(l.length:Int)),cond_false];exact aw _
 ·have:((kw (uI v) n n (uI y) != 0)==false)=false:=by simp[h0]
  rw[this,cond_false,aw]
end Go.Proofs.YtdinakfmablagaaGreatDoor
end
