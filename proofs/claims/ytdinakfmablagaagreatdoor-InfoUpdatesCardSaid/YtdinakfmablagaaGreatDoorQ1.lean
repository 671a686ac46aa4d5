/- Laws in plain Lean. Conditions: none. -/
import Derived.Test.YtdinakfmablagaaGreatDoorK1
import Derived.Test.YtdinakfmablagaaGreatDoorFlG
set_option linter.unusedVariables false
section
namespace Go.Proofs.YtdinakfmablagaaGreatDoor
open Go Go.Mach Ieee
def tX (c v a b:Fl):Fl:=cD (bD c a) (bD v b)
def tY (c v a b:Fl):Fl:=Br (bD c b) (bD v a)
def tO (o:Bool) (c v a b:Fl):Bool:=(((((o || !aG (bD c a)) || !aG (bD v b)) || !aG (tX c v a b)) || !aG (bD c b)) || !aG (bD v a)) || !aG (tY c v a b)
def tI (n i:Nat) (c v:Fl):Nat->Nat->Bool->List Fl->List Fl->Bool × List Fl × List Fl
 | 0,_,s,w,R=>(s,w,R)
 | d+1,j,s,w,R=>tI n i c v d (j+1) (tO s c v (R.getD (i*n+j) none) (w.getD j none)) (w.set j (tY c v (R.getD (i*n+j) none) (w.getD j none))) (R.set (i*n+j) (tX c v (R.getD (i*n+j) none) (w.getD j none)))
theorem Cc (n i:Nat) (c v:Fl):∀(d j:Nat) (s:Bool) (w R:List Fl),(tI n i c v d j s w R).2.1.length=w.length/\(tI n i c v d j s w R).2.2.length=R.length
 | 0,j,s,w,R=>⟨rfl,rfl⟩
 | d+1,j,s,w,R=>by unfold tI;obtain⟨h1,h2⟩:=Cc n i c v d (j+1) (tO s c v (R.getD (i*n+j) none) (w.getD j none)) (w.set j (tY c v (R.getD (i*n+j) none) (w.getD j none))) (R.set (i*n+j) (tX c v (R.getD (i*n+j) none) (w.getD j none)));exact⟨by rw[h1,List.length_set],by rw[h2,List.length_set]⟩
theorem Dw {N n i j:Nat} (hn:n<=12) (hi:i<n) (hj:j<n) {b:List Fl} (hb:b.length=n*n) (x:Fl) (k:List Fl->Bool):qI N n n i j x b k=k (b.set (i*n+j) x):=by
 obtain⟨g1,g2⟩:=dZ (by omega:n<=1000) hi hj;have g5:=ja hi hj
 (unfold qI; try rw[ac]); unfold Js
 rw[aa g1,bG,aa g2,hb,aa (ah (by omega) (by omega)),Int.toNat_natCast,aa (decide_eq_true g5)]
theorem AE {N:Nat} (c v a b:Fl) (o:Bool) (k:Fl->Fl->Bool->Bool):cB N c v a b o k=k (tX c v a b) (tY c v a b) (tO o c v a b):=by
 have FW1:∀(x:Fl) (o:Bool) (k:Bool->Bool),FW x->jW N x o k=k (o || !aG x):=λx o k h=>jJ h o k
 (unfold cB; try rw[ac]); unfold dO
 rw[oE,oE,FW1 _ _ _ (kF _ _),oE,oE,FW1 _ _ _ (MK _ _)];rfl
theorem Lu {N n i:Nat} (hn:n<=12) (hi:i<n) (e:Fl) (c v:Fl) (b0 b1 b2 o3:List Fl) (t8 t9:Int) (e0:Bool->List Fl->List Fl->Bool):∀(d j M:Nat) (s:Bool) (w R:List Fl),j+d=n->d<M->w.length=n->R.length=n*n ->
  aj M (su N n e i c v b0 b1 b2 t8 t9 n n o3 e0) ((j:Int),s,w,R)=e0 (tI n i c v d j s w R).1 (tI n i c v d j s w R).2.1 (tI n i c v d j s w R).2.2
 | 0,j,M+1,s,w,R,hj,hM,hw,hR=>by
  show su N n e i c v b0 b1 b2 t8 t9 n n o3 e0 ((j:Int),s,w,R) _=_;unfold su;dsimp only;rw[decide_eq_false (by omega:¬(j:Int)<(n:Int)),cond_false];rfl
 | d+1,j,M+1,s,w,R,hj,hM,hw,hR=>by
  have hj2:j<n:=by omega
  have ih:=λs w R hw hR=>Lu (N:=N) hn hi e c v b0 b1 b2 o3 t8 t9 e0 d (j+1) M s w R (by omega) (by omega) hw hR
  show su N n e i c v b0 b1 b2 t8 t9 n n o3 e0 ((j:Int),s,w,R) (aj M (su N n e i c v b0 b1 b2 t8 t9 n n o3 e0))=_;generalize aj M (su N n e i c v b0 b1 b2 t8 t9 n n o3 e0)=K at ih ⊢;unfold su;dsimp only;have r1:inR (j:Int) n=true:=ah (by omega) (by omega);have d1:decide (j<n)=true:=decide_eq_true hj2;have f1:af .i64 ((j:Int)+1)=true:=ab (by omega) (by omega);rw[decide_eq_true (by omega:(j:Int)<(n:Int)),cond_true,fW hn hi hj2 hR];simp only[wn,hw,r1,d1,Int.toNat_natCast,Bool.true_and,Dw hn hi hj2 hR,f1];exact ih (tO s c v (R.getD (i*n+j) none) (w.getD j none)) (w.set j (tY c v (R.getD (i*n+j) none) (w.getD j none))) (R.set (i*n+j) (tX c v (R.getD (i*n+j) none) (w.getD j none))) (by rw[List.length_set]; exact hw) (by rw[List.length_set]; exact hR)
theorem Lm {N n i:Nat} (hn:n<=12) (hi:i<n) (e:Fl) (c v:Fl) (b0 b1 b2 b9:List Fl) (t1 t2 t8 t9 o4 o5:Int) (e0:Bool->List Fl->List Fl->Bool):∀(d j M:Nat) (s:Bool) (w R:List Fl),j+d=n->d<M->w.length=n->R.length=n*n ->
  aj M (aJ N n e i t1 t2 b0 b1 b2 t8 t9 o4 o5 c v b9 e0) ((j:Int),s,w,R)=e0 (tI n i c v d j s w R).1 (tI n i c v d j s w R).2.1 (tI n i c v d j s w R).2.2
 | 0,j,M+1,s,w,R,hj,hM,hw,hR=>by
  show aJ N n e i t1 t2 b0 b1 b2 t8 t9 o4 o5 c v b9 e0 ((j:Int),s,w,R) _=_;unfold aJ;dsimp only;rw[decide_eq_false (by omega:¬(j:Int)<(n:Int)),cond_false];rfl
 | d+1,j,M+1,s,w,R,hj,hM,hw,hR=>by
  have hj2:j<n:=by omega
  have ih:=λs w R hw hR=>Lm (N:=N) hn hi e c v b0 b1 b2 b9 t1 t2 t8 t9 o4 o5 e0 d (j+1) M s w R (by omega) (by omega) hw hR
  show aJ N n e i t1 t2 b0 b1 b2 t8 t9 o4 o5 c v b9 e0 ((j:Int),s,w,R) (aj M (aJ N n e i t1 t2 b0 b1 b2 t8 t9 o4 o5 c v b9 e0))=_;generalize aj M (aJ N n e i t1 t2 b0 b1 b2 t8 t9 o4 o5 c v b9 e0)=K at ih ⊢;unfold aJ;dsimp only;obtain⟨g1,g2⟩:=dZ (by omega:n<=1000) hi hj2;have g5:=ja hi hj2;rw[<- bG]at g2;have u1:Int.toNat ((i:Int)*(n:Int)+(j:Int))=i*n+j:=by rw[bG,Int.toNat_natCast]
  have q1:inR ((i:Int)*(n:Int)+(j:Int)) (n*n)=true:=by rw[bG]; exact ah (by omega) (by omega)
  have q2:decide (i*n+j<n*n)=true:=decide_eq_true g5;have r1:inR (j:Int) n=true:=ah (by omega) (by omega);have d1:decide (j<n)=true:=decide_eq_true hj2;have f1:af .i64 ((j:Int)+1)=true:=ab (by omega) (by omega);rw[decide_eq_true (by omega:(j:Int)<(n:Int)),cond_true];simp only[AE,g1,g2,u1,q1,q2,hw,hR,r1,d1,Int.toNat_natCast,Bool.true_and,f1];exact ih (tO s c v (R.getD (i*n+j) none) (w.getD j none)) (w.set j (tY c v (R.getD (i*n+j) none) (w.getD j none))) (R.set (i*n+j) (tX c v (R.getD (i*n+j) none) (w.getD j none))) (by rw[List.length_set]; exact hw) (by rw[List.length_set]; exact hR)
def rqM (p q:Fl):Fl:=cD (bD p p) (bD q q)
def rqS (s:Bool) (p q:Fl):Bool:=((s || !aG (bD p p)) || !aG (bD q q)) || !aG (rqM p q)
def rqT (n:Nat):Nat->Nat->Fl->Bool->List Fl->List Fl->List Fl->Int ⊕ (Fl × Bool × List Fl × List Fl)
 | 0,_,e,s,Z,_,R=>.inr (e,s,Z,R)
 | d+1,i,e,s,Z,w,R=>
  if feq (w.getD i none) (some 0)=true then rqT n d (i+1) e s Z w R
  else if rqS s (R.getD (i*n+i) none) (w.getD i none)=true then .inl 5
  else if fgt (aW (rqM (R.getD (i*n+i) none) (w.getD i none))) (some 0)=false then .inl 171
  else
   let g:=aW (rqM (R.getD (i*n+i) none) (w.getD i none))
   let c:=fdiv (R.getD (i*n+i) none) g
   let v:=fdiv (w.getD i none) g
   let I:=tI n i c v (n - (i+1)) (i+1) ((rqS s (R.getD (i*n+i) none) (w.getD i none) || !aG c) || !aG v) w (R.set (i*n+i) g)
   rqT n d (i+1) (tY c v (Z.getD i none) e) (tO I.1 c v (Z.getD i none) e) (Z.set i (tX c v (Z.getD i none) e)) I.2.1 I.2.2
def LX (o:Int ⊕ (Fl × Bool × List Fl × List Fl)) (e0:Fl->Int->Int->Int->Bool) (e1:Fl->Bool->List Fl->List Fl->Bool):Bool:=
 match o with
 | .inl e=>e0 (some 0) e 0 0
 | .inr (e,s,Z,R)=>e1 e s Z R
theorem Lv {N n:Nat} (hN:1000<=N) (hn:n<=12) (b0 b1 b2:List Fl) (t8 t9:Int) (e0:Fl->Int->Int->Int->Bool) (e1:Fl->Bool->List Fl->List Fl->Bool):∀(d i M:Nat) (e:Fl) (s:Bool) (Z w R:List Fl),i+d=n->d<M->Z.length=n->w.length=n->R.length=n*n ->
  aj M (uG N n b0 b1 b2 t8 t9 n n e0 e1) (e,(i:Int),s,Z,w,R)=LX (rqT n d i e s Z w R) e0 e1
 | 0,i,M+1,e,s,Z,w,R,hi,hM,hZ,hw,hR=>by
  show uG N n b0 b1 b2 t8 t9 n n e0 e1 (e,(i:Int),s,Z,w,R) _=_;unfold uG;dsimp only;rw[decide_eq_false (by omega:¬(i:Int)<(n:Int)),cond_false];rfl
 | d+1,i,M+1,e,s,Z,w,R,hi,hM,hZ,hw,hR=>by
  have hi2:i<n:=by omega
  have ih:=λe s Z w R=>Lv (N:=N) hN hn b0 b1 b2 t8 t9 e0 e1 d (i+1) M e s Z w R (by omega) (by omega)
  show uG N n b0 b1 b2 t8 t9 n n e0 e1 (e,(i:Int),s,Z,w,R) (aj M (uG N n b0 b1 b2 t8 t9 n n e0 e1))=_;generalize aj M (uG N n b0 b1 b2 t8 t9 n n e0 e1)=K at ih ⊢;have r1:inR (i:Int) n=true:=ah (by omega) (by omega);have d1:decide (i<n)=true:=decide_eq_true hi2;have f1:af .i64 ((i:Int)+1)=true:=ab (by omega) (by omega);have sq:∀(x:Fl) (k:Fl->Bool),lq N x k=k (aW x):=λ_ _=>rfl
  unfold uG rqT;dsimp only;rw[decide_eq_true (by omega:(i:Int)<(n:Int)),cond_true];simp only[hw,hZ,r1,d1,f1,Int.toNat_natCast,Bool.true_and];cases h1:feq (w.getD i none) (some 0)
  ·rw[cond_false,if_neg (by decide),fW hn hi2 hi2 hR,show elt R n i i=R.getD (i*n+i) none from rfl];simp only[wn,sq,Dw hn hi2 hi2 hR];show cond (rqS s (R.getD (i*n+i) none) (w.getD i none)) _ _=_;generalize R.getD (i*n+i) none=p;generalize w.getD i none=q;by_cases h2:rqS s p q=true
   ·rw[if_pos h2]
    conv=>lhs; rw[h2,cond_true]
    rfl
   ·rw[if_neg h2];have h2':rqS s p q=false:=by simpa using h2
    conv=>lhs; rw[h2',cond_false]
    show cond (!fgt (aW (rqM p q)) (some 0)) _ _=_;cases h3:fgt (aW (rqM p q)) (some 0)
    ·rw[if_pos rfl]; rfl
    ·rw[if_neg (by decide),Bool.not_true,cond_false];show aj N (su N n e i _ _ b0 b1 b2 t8 t9 n n Z _) (((i+1:Nat):Int),_,w,R.set (i*n+i) _)=_;refine(Lu (N:=N) hn hi2 e (fdiv p (aW (rqM p q))) (fdiv q (aW (rqM p q))) b0 b1 b2 Z t8 t9 _ (n - (i+1)) (i+1) N _ w (R.set (i*n+i) (aW (rqM p q))) (by omega) (by omega) hw (by rw[List.length_set]; exact hR)).trans ?_;obtain⟨l1,l2⟩:=Cc n i (fdiv p (aW (rqM p q))) (fdiv q (aW (rqM p q))) (n - (i+1)) (i+1) ((rqS s p q || !aG (fdiv p (aW (rqM p q)))) || !aG (fdiv q (aW (rqM p q)))) w (R.set (i*n+i) (aW (rqM p q)));exact ih (tY (fdiv p (aW (rqM p q))) (fdiv q (aW (rqM p q))) (Z.getD i none) e) _ (Z.set i (tX (fdiv p (aW (rqM p q))) (fdiv q (aW (rqM p q))) (Z.getD i none) e)) _ _ (by rw[List.length_set]; exact hZ) (l1.trans hw) (l2.trans (by rw[List.length_set]; exact hR))
  ·rw[cond_true,if_pos rfl];exact ih e s Z w R hZ hw hR
theorem Jl (x:Fl):FW (aW x):=by
 cases x with
 | none=>intro b hb; cases hb
 | some a=>
  show FW (((Ieee.double.read a).root (Ieee.double.fractionBits+2)).map Ieee.double.write);exact ur
theorem Ln {N n:Nat} (hN:1000<=N) (hn:n<=12) (hsq:∀ p q:Fl,aG (bD p p)=true->aG (bD q q)=true->aG (rqM p q)=true->aG (aW (rqM p q))=true) (b0 b1 b2:List Fl) (t8 t9 o2 o3:Int) (e0:Fl->Int->Int->Int->Bool) (e1:Fl->Bool->List Fl->List Fl->Bool):∀(d i M:Nat) (e:Fl) (s:Bool) (Z w R:List Fl),i+d=n->d<M->Z.length=n->w.length=n->R.length=n*n ->
  aj M (aP N n n b0 b1 b2 t8 t9 o2 o3 e0 e1) (e,(i:Int),s,w,R,Z)=LX (rqT n d i e s Z w R) e0 (λe s Z R=>e1 e s R Z)
 | 0,i,M+1,e,s,Z,w,R,hi,hM,hZ,hw,hR=>by
  show aP N n n b0 b1 b2 t8 t9 o2 o3 e0 e1 (e,(i:Int),s,w,R,Z) _=_;unfold aP;dsimp only;rw[decide_eq_false (by omega:¬(i:Int)<(n:Int)),cond_false];rfl
 | d+1,i,M+1,e,s,Z,w,R,hi,hM,hZ,hw,hR=>by
  have hi2:i<n:=by omega
  have ih:=λe s Z w R=>Ln (N:=N) hN hn hsq b0 b1 b2 t8 t9 o2 o3 e0 e1 d (i+1) M e s Z w R (by omega) (by omega)
  show aP N n n b0 b1 b2 t8 t9 o2 o3 e0 e1 (e,(i:Int),s,w,R,Z) (aj M (aP N n n b0 b1 b2 t8 t9 o2 o3 e0 e1))=_;generalize aj M (aP N n n b0 b1 b2 t8 t9 o2 o3 e0 e1)=K at ih ⊢;have r1:inR (i:Int) n=true:=ah (by omega) (by omega);have d1:decide (i<n)=true:=decide_eq_true hi2;have f1:af .i64 ((i:Int)+1)=true:=ab (by omega) (by omega);have sq:∀(x:Fl) (k:Fl->Bool),lq N x k=k (aW x):=λ_ _=>rfl
  have ov:∀(o:Bool) (k:Bool),D9 N o k=k:=λo k=>by (unfold D9; try rw[ac]); unfold J0; rfl
  have F1:∀(x y:Fl) (o:Bool) (k:Bool->Bool),jW N (cD x y) o k=k (o || !aG (cD x y)):=λx y o k=>jJ (kF _ _) o k
  have F2:∀(x y:Fl) (o:Bool) (k:Bool->Bool),jW N (fdiv x y) o k=k (o || !aG (fdiv x y)):=λx y o k=>jJ (tP _ _) o k
  have F3:∀(x:Fl) (o:Bool) (k:Bool->Bool),jW N (aW x) o k=k (o || !aG (aW x)):=λx o k=>jJ (Jl _) o k
  obtain⟨g1,g2⟩:=dZ (by omega:n<=1000) hi2 hi2;have g5:=ja hi2 hi2;rw[<- bG]at g2;have u1:Int.toNat ((i:Int)*(n:Int)+(i:Int))=i*n+i:=by rw[bG,Int.toNat_natCast]
  have q1:inR ((i:Int)*(n:Int)+(i:Int)) (n*n)=true:=by rw[bG]; exact ah (by omega) (by omega)
  have q2:decide (i*n+i<n*n)=true:=decide_eq_true g5;unfold aP rqT;dsimp only;rw[decide_eq_true (by omega:(i:Int)<(n:Int)),cond_true];simp only[hw,hZ,hR,r1,d1,f1,g1,g2,u1,q1,q2,Int.toNat_natCast,Bool.true_and,oE,F1,F2,F3,sq,ov];cases h1:feq (w.getD i none) (some 0)
  ·rw[cond_false,if_neg (by decide)];generalize R.getD (i*n+i) none=p;generalize w.getD i none=q;show cond (rqS s p q || !aG (aW (rqM p q))) _ _=_;by_cases h2:rqS s p q=true
   ·rw[if_pos h2]
    conv=>lhs; rw[h2,Bool.true_or,cond_true]
    rfl
   ·rw[if_neg h2];have h2':rqS s p q=false:=by simpa using h2
    have h5:(!aG (aW (rqM p q)))=false:=by have h6:=h2';unfold rqS at h6;simp only[Bool.or_eq_false_iff,Bool.not_eq_false']at h6;rw[hsq p q h6.1.1.2 h6.1.2 h6.2]; rfl
    conv=>lhs; rw[h2',h5,Bool.or_self,cond_false]
    show cond (!fgt (aW (rqM p q)) (some 0)) _ _=_;cases h3:fgt (aW (rqM p q)) (some 0)
    ·rw[if_pos rfl]; rfl
    ·rw[if_neg (by decide),Bool.not_true,cond_false];have e4:(rqS s p q || !aG (aW (rqM p q)))=rqS s p q:=by rw[h5,Bool.or_false]
     show aj N (aJ N n e i _ _ b0 b1 b2 t8 t9 o2 o3 _ _ Z _) (((i+1:Nat):Int),((rqS s p q || !aG (aW (rqM p q))) || !aG (fdiv p (aW (rqM p q)))) || !aG (fdiv q (aW (rqM p q))),w,R.set (i*n+i) _)=_;rw[e4];refine(Lm (N:=N) hn hi2 e (fdiv p (aW (rqM p q))) (fdiv q (aW (rqM p q))) b0 b1 b2 Z _ _ t8 t9 o2 o3 _ (n - (i+1)) (i+1) N _ w (R.set (i*n+i) (aW (rqM p q))) (by omega) (by omega) hw (by rw[List.length_set]; exact hR)).trans ?_;obtain⟨l1,l2⟩:=Cc n i (fdiv p (aW (rqM p q))) (fdiv q (aW (rqM p q))) (n - (i+1)) (i+1) ((rqS s p q || !aG (fdiv p (aW (rqM p q)))) || !aG (fdiv q (aW (rqM p q)))) w (R.set (i*n+i) (aW (rqM p q)));simp only[AE];exact ih (tY (fdiv p (aW (rqM p q))) (fdiv q (aW (rqM p q))) (Z.getD i none) e) _ (Z.set i (tX (fdiv p (aW (rqM p q))) (fdiv q (aW (rqM p q))) (Z.getD i none) e)) _ _ (by rw[List.length_set]; exact hZ) (l1.trans hw) (l2.trans (by rw[List.length_set]; exact hR))
  ·rw[cond_true,if_pos rfl];exact ih e s Z w R hZ hw hR
theorem Hi {p:Fl} (h:aG (bD p p)=true):aG p=true:=by
 cases p with
 | none=>cases h
 | some b=>
  cases hr:Ieee.double.read b with
  | number s m i=>show uh (Ieee.double.read b)=true; rw[hr]; rfl
  | infinity s=>
   exfalso;have:bD (some b) (some b)=((Ieee.double.read b).product (Ieee.double.read b)).map Ieee.double.write:=rfl;rw[this,hr]at h;revert h;cases s <;> decide
  | nan=>
   exfalso;have:bD (some b) (some b)=((Ieee.double.read b).product (Ieee.double.read b)).map Ieee.double.write:=rfl;rw[this,hr]at h;cases h
theorem Pl {p:Fl} (h:aG p=true):NN (bD p p):=by obtain⟨b,s,m,i,rfl,hr⟩:=jD h;exact HA rfl (.inl ⟨s,m,i,hr⟩)
theorem Ek {p q:Fl} (h1:aG (bD p p)=true) (h2:aG (bD q q)=true) (h3:aG (rqM p q)=true):aG (aW (rqM p q))=true:=by
 have hn:NN (rqM p q):=MS (Pl (Hi h1)) (Pl (Hi h2));obtain⟨b,e,-,h⟩:=hn;rcases h with⟨m,i,h⟩ | h
 ·by_cases hm:m=0
  ·subst hm;rw[e];show aG (((Ieee.double.read b).root (Ieee.double.fractionBits+2)).map Ieee.double.write)=true;rw[h];rfl
  ·have hp:0<rv (rqM p q):=by
    rw[e,FU h];have hU:=uT Sp;have h0:(0:Int)<signed false m (i+1074).toNat:=by unfold signed;have:0<m*2 ^ (i+1074).toNat:=Nat.mul_pos (by omega) (Nat.pow_pos (by decide));simp only[Bool.false_eq_true,if_false];omega
    have h4:(0:Rat)<((signed false m (i+1074).toNat:Int):Rat):=Rat.intCast_pos.2 h0;exact Rat.mul_pos h4 hU
   exact(I8 h3 hp).1
 ·rw[e]at h3;have h4:uh (Ieee.double.read b)=true:=h3;rw[h]at h4;cases h4
theorem mM {l:List Fl}:aF l=true ↔ ∀ i,i<l.length->aG (l.getD i none)=true:=by unfold aF;exact cL
theorem oh {l:List Fl} {x:Fl} (i:Nat) (h:aF l=true) (hx:aG x=true):aF (l.set i x)=true:=by
 refine mM.2 λj hj=>?_
 rw[List.length_set]at hj;rw[List.getD_eq_getElem?_getD,List.getElem?_set];by_cases e:i=j
 ·rw[if_pos e];split
  ·exact hx
  ·omega
 ·rw[if_neg e,<- List.getD_eq_getElem?_getD];exact mM.1 h j hj
theorem Er {o:Bool} {c v a b:Fl} (h:tO o c v a b=false):o=false/\aG (tX c v a b)=true/\aG (tY c v a b)=true:=by unfold tO at h;simp only[Bool.or_eq_false_iff,Bool.not_eq_false']at h;exact⟨h.1.1.1.1.1.1,h.1.1.1.2,h.2⟩
theorem MA (n i:Nat) (c v:Fl):∀(d j:Nat) (s:Bool) (w R:List Fl),(tI n i c v d j s w R).1=false->aF w=true->aF R=true ->
  s=false/\aF (tI n i c v d j s w R).2.1=true/\aF (tI n i c v d j s w R).2.2=true
 | 0,j,s,w,R,h,hw,hR=>⟨h,hw,hR⟩
 | d+1,j,s,w,R,h,hw,hR=>by
  unfold tI at h ⊢;have q:tO s c v (R.getD (i*n+j) none) (w.getD j none)=false:=by
   cases hq:tO s c v (R.getD (i*n+j) none) (w.getD j none)
   ·rfl
   ·have key:∀(d j:Nat) (w R:List Fl),(tI n i c v d j true w R).1=true:=by
     intro d;induction d with
     | zero=>intro j w R; rfl
     | succ d ih=>
      intro j w R;unfold tI;have:tO true c v (R.getD (i*n+j) none) (w.getD j none)=true:=by unfold tO; simp
      rw[this];exact ih _ _ _
    rw[hq,key]at h;cases h
  obtain⟨q1,q2,q3⟩:=Er q;obtain⟨-,r1,r2⟩:=MA n i c v d (j+1) _ _ _ h (oh j hw q3) (oh _ hR q2);exact⟨q1,r1,r2⟩
theorem zf (n:Nat):∀(d i:Nat) (e:Fl) (Z w R:List Fl) (e':Fl) (s':Bool) (Z' R':List Fl),rqT n d i e true Z w R=.inr (e',s',Z',R')->s'=true
 | 0,i,e,Z,w,R,e',s',Z',R',h=>by
  unfold rqT at h;cases h;rfl
 | d+1,i,e,Z,w,R,e',s',Z',R',h=>by
  unfold rqT at h;split at h
  ·exact zf n d (i+1) _ _ _ _ _ _ _ _ h
  ·split at h
   ·cases h
   ·rename_i h2;exact absurd (by unfold rqS; simp) h2
theorem BS (n:Nat):∀(d i:Nat) (e:Fl) (s:Bool) (Z w R:List Fl) (e':Fl) (Z' R':List Fl),rqT n d i e s Z w R=.inr (e',false,Z',R')->aG e=true->aF Z=true->aF w=true->aF R=true ->
  aG e'=true/\aF Z'=true/\aF R'=true
 | 0,i,e,s,Z,w,R,e',Z',R',h,he,hZ,hw,hR=>by
  unfold rqT at h;cases h;exact⟨he,hZ,hR⟩
 | d+1,i,e,s,Z,w,R,e',Z',R',h,he,hZ,hw,hR=>by
  unfold rqT at h;split at h
  ·exact BS n d (i+1) _ _ _ _ _ _ _ _ h he hZ hw hR
  ·split at h
   ·cases h
   ·rename_i h2;split at h
    ·cases h
    ·dsimp only at h;generalize R.getD (i*n+i) none=p at h h2;generalize w.getD i none=q at h h2;have h2':rqS s p q=false:=by simpa using h2
     have hg:aG (aW (rqM p q))=true:=by unfold rqS at h2';simp only[Bool.or_eq_false_iff,Bool.not_eq_false']at h2';exact Ek h2'.1.1.2 h2'.1.2 h2'.2
     have fl:∀ o:Bool,o=true->False->False:=λ_ _ h=>h
     cases ho:tO (tI n i (fdiv p (aW (rqM p q))) (fdiv q (aW (rqM p q))) (n - (i+1)) (i+1) ((rqS s p q || !aG (fdiv p (aW (rqM p q)))) || !aG (fdiv q (aW (rqM p q)))) w (R.set (i*n+i) (aW (rqM p q)))).1 (fdiv p (aW (rqM p q))) (fdiv q (aW (rqM p q))) (Z.getD i none) e with
     | true=>
      rw[ho]at h;have:=zf n d (i+1) _ _ _ _ _ _ _ _ h;cases this
     | false=>
      obtain⟨q1,q2,q3⟩:=Er ho;obtain⟨-,r1,r2⟩:=MA n i _ _ _ _ _ _ _ q1 hw (oh _ hR hg);exact BS n d (i+1) _ _ _ _ _ _ _ _ h q3 (oh _ hZ q2) r1 r2
def isz (x:Fl):Bool:=match x with | some b=>b==0 | none=>false
def GP (xs:List Fl) (n i:Nat):Bool:=oi (λj=>isz (elt xs n i j)) i
def wT (xs:List Fl) (n:Nat):Bool:=oi (λi=>sO xs n i&&GP xs n i) n
def rU (x:List Fl) (r c:Int) (xs:List Fl):Int:=
 if chk r c xs ≠ 0 then chk r c xs else if r=c/\(x.length:Int)=r then(if aF x=true then(if wT xs x.length=true then 0 else 171)else 4)else 3
theorem KS {x:Fl} (h:aG x=true):∃ b:Nat,x=some b:=by
 cases x with
 | none=>cases h
 | some b=>exact⟨b,rfl⟩
theorem Iz {N n:Nat} {xs x:List Fl} (hn:n<=12) (hN:12<N) (hl:xs.length=n*n) (hf:aF xs=true) (k:Int->Bool) :
  aj N (dh N n n n n xs x (λt=>k t) (k 0)) 0=k (if wT xs n=true then 0 else 171):=by
 have e:k (if wT xs n=true then 0 else 171)=cond (wT xs n) (k 0) (k 171):=by cases wT xs n <;> rfl
 rw[e];refine oC (λi=>(i:Int)) (λi=>sO xs n i&&GP xs n i) n rfl (by omega) (λi hi K=>?_) (λK=>?_)
 ·simp only[dh];have a1:=ja hi hi;have a2:=sk hn;have a3:=S0 hn hi;rw[bJ (by omega),cond_true,A2,be (ab (by omega) (by omega)),be (ab (by omega) (by omega)),be (ah (by omega) (by omega))];show cond (!sO xs n i) (k 171) _=_;cases sO xs n i
  ·rfl
  ·have:=oC (N:=N) (step:=di N n i n i i n n xs x k ((af .i64 (i+1))&&K (i+1))) (s:=0) (ex:=k 171) (out:=K (i+1)) (λd=>(d:Int)) (λj=>isz (elt xs n i j)) i rfl (by omega) (λj hj K=>?_) (λK=>?_)
   ·exact this
   ·simp only[di];have b1:=ja hi (show j<n by omega);rw[bJ (by omega),cond_true,A2,be (ab (by omega) (by omega)),be (ab (by omega) (by omega)),be (ah (by omega) (by omega))];have hx:=du hf (show i*n+j<xs.length by omega);unfold elt;obtain⟨b,hb⟩:=KS hx;rw[hb];show cond ((b:Int) != 0) _ _=cond (b==0) _ _;rw[be (ab (by omega) (by omega))];have:((b:Int) != 0) = !(b==0):=by rw[Bool.eq_iff_iff]; simp
    rw[this];cases b==0 <;> rfl
   ·simp only[di];rw[bM (by omega),cond_false,be (ab (by omega) (by omega))]
 ·simp only[dh];rw[bM (by omega),cond_false]
theorem th {N:Nat} (x:List Fl) (r c:Int) (xs:List Fl) (hN:1000<=N) (hx:bO N x.length) (hs:bO N xs.length) (k:Int->Bool):kx N r c xs x k=k (rU x r c xs):=by
 (unfold kx; rw[ac]; unfold kh rU)
 simp only[H8 _ _ xs hs,jb x hx,nq];by_cases h0:chk r c xs=0
 ·rw[bJ h0,if_neg (by simpa using h0)];by_cases h1:r=c
  ·subst h1;rw[bJ (p:=r=r) rfl];by_cases h2:(x.length:Int)=r
   ·subst h2;rw[bJ (p:=(x.length:Int)=x.length) rfl];have q:=kV.1 h0;have hn:x.length<=12:=by have:=q.1; omega
    have hl:xs.length=x.length*x.length:=by have:=q.2.1; exact_mod_cast this
    have:=Iz (N:=N) (x:=x) hn (by omega) hl q.2.2 k;simp only[this];cases aF x <;> rfl
   ·rw[bM h2,if_neg (λh=>h2 h.2)]; rfl
  ·rw[bM h1,if_neg (λh=>h1 h.1)]; rfl
 ·rw[bM h0,if_pos h0]; rfl
def q7 (xs:List Fl) (n i t:Nat):Nat->Nat->Fl:=λa b=>if b<i\/(b=i/\a<t)then elt xs n b a else some 0
theorem Lj {N n:Nat} (hn:n<=12) (hN:1000<=N) {xs:List Fl} (hl:xs.length=n*n) (k:List Fl->Bool):pd N n n xs k=k (mf n (λa b=>elt xs n b a)):=by
 (unfold pd; rw[ac]; unfold sG)
 rw[nJ hn];refine At (λi=>((i:Int),mf n (q7 xs n i 0))) n ?_ (by omega) (λi hi K=>?_) (λK=>?_)
 ·refine Prod.ext rfl ?_;show mf n (λ_ _=>some 0)=mf n (q7 xs n 0 0);exact f7 n λa b ha hb=>by unfold q7; rw[if_neg (by omega)]
 ·simp only[kS];rw[bJ (by omega),cond_true];refine At (λt=>((t:Int),mf n (q7 xs n i t))) n rfl (by omega) (λt ht K'=>?_) (λK'=>?_)
  ·simp only[kT];rw[bJ (by omega),cond_true,fW hn hi ht hl,rG hn ht hi,be (ab (by omega) (by omega))];have:mf n (λa b=>if a=t/\b=i then elt xs n i t else q7 xs n i t a b)=mf n (q7 xs n i (t+1)):=f7 n λa b ha hb=>by
    unfold q7;by_cases h:a=t/\b=i
    ·rw[if_pos h,if_pos (by omega),h.1,h.2]
    ·rw[if_neg h];by_cases h2:b<i\/(b=i/\a<t)
     ·rw[if_pos h2,if_pos (by omega)]
     ·rw[if_neg h2,if_neg (by omega)]
   rw[this]; rfl
  ·simp only[kT];rw[bM (by omega),cond_false,be (ab (by omega) (by omega))];have:mf n (q7 xs n i n)=mf n (q7 xs n (i+1) 0):=f7 n λa b ha hb=>by
    unfold q7;by_cases h2:b<i\/(b=i/\a<n)
    ·rw[if_pos h2,if_pos (by omega)]
    ·rw[if_neg h2,if_neg (by omega)]
   rw[this]; rfl
 ·simp only[kS];rw[bM (by omega),cond_false];congr 1;exact f7 n λa b ha hb=>by unfold q7; rw[if_pos (by omega)]
theorem GH {x:Fl}:isz x=true↔x=some 0:=by
 cases x with
 | none=>exact⟨λh=>(by cases h),λh=>(by cases h)⟩
 | some b=>
  show(b==0)=true↔_;rw[beq_iff_eq];exact⟨λh=>by rw[h],λh=>by cases h; rfl⟩
theorem Gu:cn (some 0)=some 0:=uW (by rfl)
theorem Jb {n:Nat} {xs:List Fl} (hl:xs.length=n*n) (hf:aF xs=true) :
  oi (λi=>sO (mf n (λa b=>elt xs n b a)) n i&&qu (mf n (λa b=>elt xs n b a)) n i) n=wT xs n:=by
 have hd:∀ i,i<n->sO (mf n (λa b=>elt xs n b a)) n i=sO xs n i:=λi hi=>by unfold sO; rw[qv n _ hi hi]
 have hu:∀ i j,i<n->j<n->(upP (mf n (λa b=>elt xs n b a)) n j i=true↔elt xs n i j=some 0):=λi j hi hj=>by unfold upP;have f1:aG (elt xs n i j)=true:=du hf (by have:=fG hi hj; omega);rw[qv n _ hj hi,decide_eq_true_iff,Gu,uW f1]
 rw[Bool.eq_iff_iff];unfold wT;rw[cL,cL];constructor
 ·intro h i hi;rw[Bool.and_eq_true];have h1:=h i hi;rw[Bool.and_eq_true]at h1;refine⟨(hd i hi).symm.trans h1.1,?_⟩;unfold GP;rw[cL];intro j hj;have h2:=h j (by omega);rw[Bool.and_eq_true]at h2;have h3:=h2.2;unfold qu at h3;rw[cL]at h3;have h4:=h3 (i - (j+1)) (by omega);rw[show j+1+(i - (j+1))=i by omega]at h4;exact GH.2 ((hu i j hi (by omega)).1 h4)
 ·intro h i hi;rw[Bool.and_eq_true];have h1:=h i hi;rw[Bool.and_eq_true]at h1;refine⟨(hd i hi).trans h1.1,?_⟩;unfold qu;rw[cL];intro d hdd;have h2:=h (i+1+d) (by omega);rw[Bool.and_eq_true]at h2;have h3:=h2.2;unfold GP at h3;rw[cL]at h3;exact(hu (i+1+d) i (by omega) hi).2 (GH.1 (h3 i (by omega)))
theorem Li {N n:Nat} {xs:List Fl} (hn:n<=12) (hN:1000<=N) (hl:xs.length=n*n) (hf:aF xs=true) (k:Int->Bool) :
  Mh N n n xs k=k (if oi (λi=>sO xs n i&&qu xs n i) n=true then 0 else 93):=by
 have h0:chk n n xs=0:=Be hn hl hf
 (unfold Mh; rw[ac]; unfold JP)
 rw[uj hN,nq,bJ h0,Bool.not_true,cond_false,nq,bJ (p:=(n:Int)=n) rfl,Bool.not_true,cond_false];have e:k (if oi (λi=>sO xs n i&&qu xs n i) n=true then 0 else 93)=cond (oi (λi=>sO xs n i&&qu xs n i) n) (k 0) (k 93):=by cases oi (λi=>sO xs n i&&qu xs n i) n <;> rfl
 rw[e];refine oC (λi=>(i:Int)) (λi=>sO xs n i&&qu xs n i) n rfl (by omega) (λi hi K=>?_) (λK=>?_)
 ·simp only[gJ];rw[bJ (by omega),cond_true,fW hn hi hi hl,be (ab (by omega) (by omega))];show cond (!sO xs n i) (k 93) _=_;cases sO xs n i
  ·rfl
  ·have:=oC (N:=N) (step:=zw N i n n xs k ((af .i64 (i+1))&&K (i+1))) (s:=(i:Int)+1) (ex:=k 93) (out:=K (i+1)) (λd=>((i+1+d:Nat):Int)) (λd=>upP xs n i (i+1+d)) (n - (i+1)) (by simp) (by omega) (λd hd K=>?_) (λK=>?_)
   ·exact this
   ·simp only[zw];rw[bJ (by omega),cond_true,fW hn hi (by omega) hl,uo,be (ab (by omega) (by omega))];show cond (!upP xs n i (i+1+d)) (k 93) _=_;cases upP xs n i (i+1+d) <;> rfl
   ·simp only[zw];rw[bM (by omega),cond_false,be (ab (by omega) (by omega))]
 ·simp only[gJ];rw[bM (by omega),cond_false]
theorem yF {N:Nat} (hN:1000<=N) (r c:Int) (xs x:List Fl) (hx:bO N x.length) (k:Int->Bool):Md N r c xs x k=k (rU x r c xs):=by
 have hg:∀ k,pc N r c xs k=k (chk r c xs):=λk=>uj hN r c xs k
 (unfold Md; rw[ac]; unfold JH rU)
 rw[hg];by_cases h0:chk r c xs=0
 ·rw[nq,bJ h0,Bool.not_true,cond_false,if_neg (by simpa using h0)];have q:=kV.1 h0;by_cases h1:r=c
  ·subst h1;rw[nq,bJ (p:=r=r) rfl,Bool.not_true];by_cases h2:(x.length:Int)=r
   ·rw[if_pos ⟨rfl,h2⟩];simp only[nq];rw[bJ h2,kI x hx];cases h3:aF x
    ·rfl
    ·subst h2;have hn:x.length<=12:=by have:=q.1; omega
     have hl:xs.length=x.length*x.length:=by have:=q.2.1; exact_mod_cast this
     show pd N _ _ xs _=_;have f1:aF (mf x.length λa b=>elt xs x.length b a)=true:=yV λa b ha hb=>du q.2.2 (by have:=fG hb ha; omega)
     rw[Lj hn hN hl,Li hn hN (kt _ _) f1,Jb hl q.2.2];cases wT xs x.length <;> rfl
   ·rw[if_neg (λh=>h2 h.2)];simp only[nq];rw[bM h2]; rfl
  ·rw[nq,bM h1,if_neg (λh=>h1 h.1)]; rfl
 ·rw[nq,bM h0,Bool.not_false,cond_true,if_pos h0]
theorem M5 {r:Fl} (h:aG r=true):fgt r (some 0) = !fle r (some 0):=by
 obtain⟨b,s,m,i,rfl,hb⟩:=jD h;rw[OY];show _ = !((Ieee.double.read b).order (Ieee.double.read 0)==some .lt||(Ieee.double.read b).order (Ieee.double.read 0)==some .eq);rw[hb,IP];obtain⟨o,ho⟩:∃ o,(Datum.number s m i).order (.number false 0 (-1074))=some o:=⟨_,rfl⟩
 rw[ho];cases o <;> rfl
theorem AC {N n:Nat} {h:List Fl} (hs:bO N h.length) (r z:Fl) (K:Int->Bool) (X:Bool) :
  rQ N n h r (λe=>cond (e != 0) (K e) (wI N z (λc=>cond (!c) (K 4) X)))=if nK n h r z ≠ 0 then K (nK n h r z)else X:=by
 (unfold rQ; rw[ac]; unfold uQ nK)
 by_cases h0:(h.length:Int)=n
 ·rw[show(((h.length:Nat):Int) != (n:Int))=false by simp[h0],cond_false,if_pos h0,kI h hs];simp only[mp];cases aF h
  ·rfl
  ·cases fr:aG r
   ·rfl
   ·rw[M5 fr];cases fle r (some 0)
    ·cases aG z <;> rfl
    ·rfl
 ·rw[show(((h.length:Nat):Int) != (n:Int))=true by simp[h0],cond_true,if_neg h0]; rfl
def dvV (h:List Fl) (d:Fl):Nat->Fl:=λj=>fdiv (h.getD j none) d
def dvO (h:List Fl) (d:Fl):Nat->Bool:=λj=>!aG (dvV h d j)
theorem Rw {N n:Nat} (hN:1000<=N) (hn:n<=12) {h:List Fl} (hh:h.length=n) (z d:Fl) (b0 b1 b7 b8:List Fl) (t8 t9 o1 o2:Int) (e0:Bool->List Fl->Bool) :
  aj N (bK N z n d n b0 b1 h t8 t9 o1 o2 b7 b8 e0) (0,false,List.replicate n (some 0))=e0 (orB (dvO h d) n) (vf n (dvV h d)):=by
 have h0:((0,false,List.replicate n (some 0)):Int × Bool × List Fl)=(λi:Nat=>((i:Int),orB (dvO h d) i,(vf n (dvV h d)).take i++List.replicate (n - i) (some 0))) 0:=rfl;rw[h0];refine bw (λi:Nat=>((i:Int),orB (dvO h d) i,(vf n (dvV h d)).take i++List.replicate (n - i) (some 0))) n (by omega) ?_ ?_
 ·intro i hi K;unfold bK;dsimp only;have F2:∀(o:Bool) (k:Bool->Bool),jW N (dvV h d i) o k=k (o || !aG (dvV h d i)):=λo k=>jJ (tP _ _) o k
  have r1:inR (i:Int) n=true:=ah (by omega) (by omega);have d1:decide (i<n)=true:=decide_eq_true hi;have f1:af .i64 ((i:Int)+1)=true:=ab (by omega) (by omega);have e:fdiv (h.getD i none) d=dvV h d i:=rfl;rw[decide_eq_true (by omega:(i:Int)<(n:Int)),cond_true];simp only[hh,r1,d1,f1,Int.toNat_natCast,Bool.true_and,F2,e,nn n (dvV h d) (i:=i) (by omega)];rw[xA n (dvV h d) hi];rfl
 ·intro K;unfold bK;dsimp only;rw[decide_eq_false (by omega:¬(n:Int)<(n:Int)),cond_false,Nat.sub_self,List.replicate_zero,List.append_nil,List.take_of_length_le (by rw[fk]; omega)]
theorem Rx {N n:Nat} (hN:1000<=N) (hn:n<=12) {h:List Fl} (hh:h.length=n) (z d:Fl) (b0 b1 o b8:List Fl) (t8 t9 m2 m3:Int) (e0:Bool->List Fl->Bool) :
  aj N (Em N z n d n b0 b1 h t8 t9 m2 m3 o b8 e0) (0,false,[])=e0 (orB (dvO h d) n) (vf n (dvV h d)):=by
 have h0:((0,false,[]):Int × Bool × List Fl)=(λi:Nat=>((i:Int),orB (dvO h d) i,(vf n (dvV h d)).take i)) 0:=rfl;rw[h0];refine bw (λi:Nat=>((i:Int),orB (dvO h d) i,(vf n (dvV h d)).take i)) n (by omega) ?_ ?_
 ·intro i hi K;unfold Em;dsimp only;have r1:inR (i:Int) n=true:=ah (by omega) (by omega);have d1:decide (i<n)=true:=decide_eq_true hi;have f1:af .i64 ((i:Int)+1)=true:=ab (by omega) (by omega);have e:fdiv (h.getD i none) d=dvV h d i:=rfl;have l1:decide ((List.take (i+1) (vf n (dvV h d))).length*8<=140737488355328)=true:=decide_eq_true (by rw[List.length_take,fk]; omega);rw[decide_eq_true (by omega:(i:Int)<(n:Int)),cond_true];simp only[hh,r1,d1,f1,Int.toNat_natCast,Bool.true_and,wn,e,Cf n (dvV h d) hi,l1];rfl
 ·intro K;unfold Em;dsimp only;rw[decide_eq_false (by omega:¬(n:Int)<(n:Int)),cond_false,List.take_of_length_le (by rw[fk]; omega)]
abbrev KR:=Int->Int->List Fl->List Fl->Fl->Int->Bool
def FR (R Z h:List Fl) (r z:Fl) (rr cc:Int) (k:KR):Bool:=
 if rU Z rr cc R ≠ 0 then k 0 0 [] [] (some 0) (rU Z rr cc R)else if nK Z.length h r z ≠ 0 then k 0 0 [] [] (some 0) (nK Z.length h r z)else
 LX (rqT Z.length Z.length 0 (fdiv z (aW r)) (orB (dvO h (aW r)) Z.length || !aG (fdiv z (aW r))) Z (vf Z.length (dvV h (aW r))) R)
  (λe n a b=>k a b [] [] e n) (λe s Z' R'=>cond s (k 0 0 [] [] (some 0) 5) (k Z.length Z.length R' Z' e 0))
theorem vg {x:List Fl} {r c:Int} {xs:List Fl} (h:rU x r c xs=0):r=x.length/\c=x.length/\x.length<=12/\xs.length=x.length*x.length/\aF x=true/\aF xs=true:=by
 unfold rU at h;split at h
 ·exact absurd h (by assumption)
 ·rename_i h0;have h0:chk r c xs=0:=by simpa using h0
  split at h
  ·rename_i h1;obtain⟨rfl,h1⟩:=h1;subst h1;have q:=kV.1 h0;split at h
   ·rename_i h2;exact⟨rfl,rfl,by omega,by exact_mod_cast q.2.1,h2,q.2.2⟩
   ·cases h
  ·cases h
theorem Lw {N:Nat} (hN:1000<=N) (R Z:List Fl) {h:List Fl} (hZ:bO N Z.length) (hh:bO N h.length) (r z:Fl) (rr cc:Int) (k:KR) :
  Oa N rr cc r z R Z h k=FR R Z h r z rr cc k:=by
 (unfold Oa; rw[ac]; unfold PC FR)
 rw[yF hN _ _ _ _ hZ];by_cases h0:rU Z rr cc R=0
 ·obtain⟨e1,e2,hn,hl,-,-⟩:=vg h0;rw[if_neg (c:=rU Z rr cc R ≠ 0) (λq=>q h0),show(rU Z rr cc R != 0)=false by simp[h0],cond_false,AC hh r z (λe=>k 0 0 [] [] (some 0) e)];by_cases h1:nK Z.length h r z=0
  ·rw[if_neg (λq=>q h1),if_neg (λq=>q h1)];have h2:h.length=Z.length:=by have:=(vu h1).1; omega
   have n2:=sk hn;have l1:decide (([]++R).length*8<=140737488355328)=true:=decide_eq_true (by rw[List.nil_append]; omega);have l2:decide (([]++Z).length*8<=140737488355328)=true:=decide_eq_true (by rw[List.nil_append]; omega);have sq:∀(x:Fl) (k:Fl->Bool),lq N x k=k (aW x):=λ_ _=>rfl
   rw[l1,l2,Bool.true_and,Bool.true_and,sq,h2,Rx hN hn h2,wn];exact Lv hN hn _ _ _ _ _ _ _ Z.length 0 N _ _ Z _ R (by omega) (by omega) rfl (fk _ _) hl
  ·rw[if_pos h1,if_pos h1]
 ·rw[if_pos h0,show(rU Z rr cc R != 0)=true by simp[h0],cond_true]
theorem Dz {N:Nat} (hN:1000<=N) (R Z:List Fl) {h:List Fl} (hZ:bO N Z.length) (hR:bO N R.length) (hh:bO N h.length) (r z:Fl) (rr cc:Int) (k:KR) :
  cV N rr cc r z R Z h k=FR R Z h r z rr cc k:=by
 (unfold cV; rw[ac]; unfold eK FR)
 rw[th _ _ _ _ hN hZ hR];by_cases h0:rU Z rr cc R=0
 ·obtain⟨e1,e2,hn,hl,-,-⟩:=vg h0;rw[if_neg (c:=rU Z rr cc R ≠ 0) (λq=>q h0),show(rU Z rr cc R != 0)=false by simp[h0],cond_false,Ds _ _ _ _ hh (by omega)];by_cases h1:nK Z.length h r z=0
  ·rw[if_neg (λq=>q h1),show(nK Z.length h r z != 0)=false by simp[h1],cond_false];have h2:h.length=Z.length:=by have:=(vu h1).1; omega
   have n2:=sk hn;have sq:∀(x:Fl) (k:Fl->Bool),lq N x k=k (aW x):=λ_ _=>rfl
   have ov:∀(o:Bool) (k:Bool),D9 N o k=k:=λo k=>by (unfold D9; try rw[ac]); unfold J0; rfl
   have F2:∀(x y:Fl) (o:Bool) (k:Bool->Bool),jW N (fdiv x y) o k=k (o || !aG (fdiv x y)):=λx y o k=>jJ (tP _ _) o k
   have cl:∀(x:List Fl) (k:List Fl->Bool),x.length<=144->aO N x k=k x:=λx k hx=>by unfold aO;show(decide (x.length*8<=140737488355328)&&k x)=k x;rw[decide_eq_true (by omega),Bool.true_and]
   rw[sq,cl R _ (by omega),cl Z _ (by omega),aa (bZ (by omega) (by omega) (by omega) (by omega)),Int.toNat_natCast,Rw hN hn h2,F2];simp only[ov];exact Ln hN hn (λp q=>Ek) _ _ _ _ _ _ _ _ _ Z.length 0 N _ _ Z _ R (by omega) (by omega) rfl (fk _ _) hl
  ·rw[if_pos h1,jQ _ _ h1,cond_true]
 ·rw[if_pos h0,jQ _ _ h0,cond_true]
theorem xy (n:Nat):∀(d i:Nat) (e:Fl) (s:Bool) (Z w R:List Fl) (e':Fl) (s':Bool) (Z' R':List Fl),rqT n d i e s Z w R=.inr (e',s',Z',R')->Z'.length=Z.length/\R'.length=R.length
 | 0,i,e,s,Z,w,R,e',s',Z',R',h=>by
  unfold rqT at h;cases h;exact⟨rfl,rfl⟩
 | d+1,i,e,s,Z,w,R,e',s',Z',R',h=>by
  unfold rqT at h;split at h
  ·exact xy n d (i+1) _ _ _ _ _ _ _ _ _ h
  ·split at h
   ·cases h
   ·split at h
    ·cases h
    ·dsimp only at h;obtain⟨q1,q2⟩:=xy n d (i+1) _ _ _ _ _ _ _ _ _ h;exact⟨by rw[q1,List.length_set],by rw[q2,(Cc n i _ _ _ _ _ _ _).2,List.length_set]⟩
theorem FT (R Z h:List Fl) (r z:Fl) (rr cc:Int) :
  (∃ e:Int,∀ k,FR R Z h r z rr cc k=k 0 0 [] [] (some 0) e) \/
  (∃(n:Nat) (R' Z':List Fl) (t:Fl),n<=12/\R'.length=n*n/\Z'.length=n/\aF R'=true/\aF Z'=true/\aG t=true /\ ∀ k,FR R Z h r z rr cc k=k n n R' Z' t 0):=by
 unfold FR;by_cases h0:rU Z rr cc R=0
 ·obtain⟨e1,e2,hn,hl,fZ,fR⟩:=vg h0;by_cases h1:nK Z.length h r z=0
  ·generalize hs:(orB (dvO h (aW r)) Z.length || !aG (fdiv z (aW r)))=s;generalize ho:rqT Z.length Z.length 0 (fdiv z (aW r)) s Z (vf Z.length (dvV h (aW r))) R=o;cases o with
   | inl e=>exact .inl ⟨e,λk=>by rw[if_neg (λq=>q h0),if_neg (λq=>q h1)]; rfl⟩
   | inr q=>
    obtain⟨t,s',Z',R'⟩:=q;cases s' with
    | true=>exact .inl ⟨5,λk=>by rw[if_neg (λq=>q h0),if_neg (λq=>q h1)]; rfl⟩
    | false=>
     cases s with
     | true=>have:=zf _ _ _ _ _ _ _ _ _ _ _ ho; cases this
     | false=>
      rw[Bool.or_eq_false_iff]at hs;have fw:aF (vf Z.length (dvV h (aW r)))=true:=mM.2 (MG (P:=λx=>aG x=true) λi hi=>by have:=nO hs.1 i hi;unfold dvO at this;simpa using this)
      obtain⟨q1,q2,q3⟩:=BS _ _ _ _ _ _ _ _ _ _ _ ho (by simpa using hs.2) fZ fw fR;refine .inr ⟨Z.length,R',Z',t,hn,?_,?_,q3,q2,q1,λk=>by rw[if_neg (λq=>q h0),if_neg (λq=>q h1)]; rfl⟩
      ·exact((xy _ _ _ _ _ _ _ _ _ _ _ _ ho).2).trans hl
      ·exact(xy _ _ _ _ _ _ _ _ _ _ _ _ ho).1
  ·exact .inl ⟨_,λk=>by rw[if_neg (λq=>q h0),if_pos h1]⟩
 ·exact .inl ⟨_,λk=>by rw[if_pos h0]⟩
theorem ifz {α:Sort _} {a:Int} {A B:α} (h:a=0):(if a ≠ 0 then A else B)=B:=if_neg λq=>q h
theorem vh {α:Sort _} {a:Int} {A B:α} (h:¬ a=0):(if a ≠ 0 then A else B)=A:=if_pos h
abbrev KI:=Int->Int->List Fl->List Fl->Int->Bool
def upI (Y V h:List Fl) (r z:Fl) (rr cc:Int) (k:KI):Bool:=
 if iS V rr cc Y ≠ 0 then k 0 0 [] [] (iS V rr cc Y)else if nK V.length h r z ≠ 0 then k 0 0 [] [] (nK V.length h r z)else
 gK V.length Y V (wB h r) (wC h r z) (wBo h r) (wCo h r z) (λa b e=>k a b [] [] e) (λa b e M v=>k a b M v e)
def joI (Y V bY bV:List Fl) (rr cc br bc:Int) (k:KI):Bool:=
 if iS V rr cc Y ≠ 0 then k 0 0 [] [] (iS V rr cc Y)else if iS bV br bc bY ≠ 0 then k 0 0 [] [] (iS bV br bc bY)else
 if ((V.length:Nat):Int) ≠ ((bV.length:Nat):Int)then k 0 0 [] [] 3 else
 gK V.length Y V (jB V.length bY) (jC bV) nob noc (λa b e=>k a b [] [] e) (λa b e M v=>k a b M v e)
theorem DB {n:Int} {h:List Fl} {r z:Fl} (q:nK n h r z=0):(h.length:Int)=n:=(vu q).1
theorem pK {N:Nat} (hF:Fuel N) (Y V:List Fl) {h:List Fl} (hh:bO N h.length) (r z:Fl) (rr cc:Int) (hw:AllW Y) (k:KI) :
  eJ N rr cc r z Y V h k=upI Y V h r z rr cc k:=by
 have hN:=hF.lt
 (unfold eJ; try rw[ac]); unfold iA upI
 rw[tf hF _ _ _ _ hw];by_cases h0:iS V rr cc Y=0
 ·obtain⟨n,hn,rfl,rfl,hx,hl,-⟩:=jq (dG.1 h0);rw[ifz h0,h0,show((0:Int) != 0)=false from rfl,cond_false,Ds _ _ _ _ hh (by omega)];by_cases h1:nK V.length h r z=0
  ·rw[ifz h1,h1,show((0:Int) != 0)=false from rfl,cond_false];have h2:h.length=V.length:=by have:=DB h1; omega
   have hl':Y.length=V.length*V.length:=by rw[hx]; exact hl
   rw[zR hF (n:=V.length) (by omega) hl' rfl h2]
  ·rw[vh h1,jQ _ _ h1,cond_true]
 ·rw[vh h0,jQ _ _ h0,cond_true]
theorem pJ {N:Nat} (hF:Fuel N) (Y V bY bV:List Fl) (rr cc br bc:Int) (hw:AllW Y) (hb:AllW bY) (k:KI) :
  iE N rr cc br bc Y V bY bV k=joI Y V bY bV rr cc br bc k:=by
 have hN:=hF.lt
 (unfold iE; try rw[ac]); unfold iz joI
 rw[tf hF _ _ _ _ hw];by_cases h0:iS V rr cc Y=0
 ·obtain⟨n,hn,rfl,rfl,hx,hl,-⟩:=jq (dG.1 h0);rw[ifz h0,h0,show((0:Int) != 0)=false from rfl,cond_false,tf hF _ _ _ _ hb];by_cases h1:iS bV br bc bY=0
  ·obtain⟨m,hm,rfl,rfl,hbx,hbl,-⟩:=jq (dG.1 h1);rw[ifz h1,h1,show((0:Int) != 0)=false from rfl,cond_false];by_cases h2:((V.length:Nat):Int)=((bV.length:Nat):Int)
   ·have h3:V.length=bV.length:=by omega
    rw[show((((V.length:Nat):Int) != ((bV.length:Nat):Int))=false) by simp[h2],cond_false,if_neg (λq=>q h2)];have hl':Y.length=V.length*V.length:=by rw[hx]; exact hl
    have hbl':bY.length=V.length*V.length:=by rw[h3,hbx]; exact hbl
    rw[w_ hF (n:=V.length) (by omega) hl' rfl hbl' h3.symm]
   ·rw[jQ _ _ h2,cond_true,if_pos h2]
  ·rw[vh h1,jQ _ _ h1,cond_true]
 ·rw[vh h0,jQ _ _ h0,cond_true]
def Rf (n:Nat) (x p:List Fl):Prop:=n<=12/\x.length=n/\p.length=n*n/\aF x=true/\aF p=true/\nX n p=true/\vx n p=true/\AllW p
theorem LH {n:Nat} (v:Nat->Nat->Fl):nX n (mf n (mir v))=true:=by
 unfold nX;refine cL.2 λi hi=>cL.2 λj hj=>?_
 have hj2:j<n:=by omega
 rw[qv n _ hi hj2,qv n _ hj2 hi];have:mir v i j=mir v j i:=by unfold mir;rw[if_pos (by omega),if_neg (by omega)]
 rw[this];exact decide_eq_true rfl
theorem GE (n:Nat) (hn:n<=12) (Y V:List Fl) (B:Nat->Nat->Fl) (C:Nat->Fl) (bo:Nat->Nat->Bool) (co:Nat->Bool) :
  (∃ e:Int,e ≠ 0 /\ ∀ k0 k1,gK n Y V B C bo co k0 k1=k0 0 0 e) \/
  (Rf n (gV n V C) (gM n Y B)/\uc n Y V B C bo co=false /\ ∀ k0 k1,gK n Y V B C bo co k0 k1=k1 n n 0 (gM n Y B) (gV n V C)):=by
 unfold gK;cases h:uc n Y V B C bo co
 ·cases h4:vx n (gM n Y B)
  ·exact .inl ⟨170,by decide,λ_ _=>rfl⟩
  ·obtain⟨h1,h2⟩:=ym h;exact .inr ⟨⟨hn,fk _ _,kt _ _,mM.2 (MG (P:=λx=>aG x=true) λi hi=>(h2 i hi).2),yV (xu λa b ha hb=>(h1 a b ha hb).2),LH _,h4,NI (GU λa b=>kF _ _)⟩,rfl,λ_ _=>rfl⟩
 ·exact .inl ⟨5,by decide,λ_ _=>rfl⟩
theorem Jd (Y V h:List Fl) (r z:Fl) (rr cc:Int) :
  (∃ e:Int,e ≠ 0 /\ ∀ k,upI Y V h r z rr cc k=k 0 0 [] [] e) \/
  (∃ n:Nat,rr=n/\vk V rr cc Y=0/\V.length=n/\nK n h r z=0/\uc n Y V (wB h r) (wC h r z) (wBo h r) (wCo h r z)=false/\Rf n (gV n V (wC h r z)) (gM n Y (wB h r)) /\
   ∀ k,upI Y V h r z rr cc k=k n n (gM n Y (wB h r)) (gV n V (wC h r z)) 0):=by
 unfold upI;by_cases h0:iS V rr cc Y=0
 ·obtain⟨n,hn,e1,rfl,hx,hl,-⟩:=jq (dG.1 h0);by_cases h1:nK V.length h r z=0
  ·rcases GE V.length (by omega) Y V (wB h r) (wC h r z) (wBo h r) (wCo h r z)with⟨e,he,q⟩ | ⟨hT,ha,q⟩
   ·exact .inl ⟨e,he,λk=>by rw[ifz h0,ifz h1,q]⟩
   ·refine .inr ⟨n,e1,dG.1 h0,hx,?_,?_,?_,λk=>?_⟩
    ·rw[<- hx]; exact h1
    ·rw[<- hx]; exact ha
    ·rw[<- hx]; exact hT
    ·rw[ifz h0,ifz h1,q,hx]
  ·exact .inl ⟨_,h1,λk=>by rw[ifz h0,vh h1]⟩
 ·exact .inl ⟨_,h0,λk=>by rw[vh h0]⟩
theorem H5 (Y V bY bV:List Fl) (rr cc br bc:Int) :
  (∃ e:Int,e ≠ 0 /\ ∀ k,joI Y V bY bV rr cc br bc k=k 0 0 [] [] e) \/
  (∃ n:Nat,rr=n/\vk V rr cc Y=0/\vk bV br bc bY=0/\V.length=n/\bV.length=n/\uc n Y V (jB n bY) (jC bV) nob noc=false/\Rf n (gV n V (jC bV)) (gM n Y (jB n bY)) /\
   ∀ k,joI Y V bY bV rr cc br bc k=k n n (gM n Y (jB n bY)) (gV n V (jC bV)) 0):=by
 unfold joI;by_cases h0:iS V rr cc Y=0
 ·obtain⟨n,hn,e1,rfl,hx,hl,-⟩:=jq (dG.1 h0);by_cases h1:iS bV br bc bY=0
  ·by_cases h2:((V.length:Nat):Int) ≠ ((bV.length:Nat):Int)
   ·exact .inl ⟨3,by decide,λk=>by rw[ifz h0,ifz h1,if_pos h2]⟩
   ·rcases GE V.length (by omega) Y V (jB V.length bY) (jC bV) nob noc with⟨e,he,q⟩ | ⟨hT,ha,q⟩
    ·exact .inl ⟨e,he,λk=>by rw[ifz h0,ifz h1,if_neg h2,q]⟩
    ·refine .inr ⟨n,e1,dG.1 h0,dG.1 h1,hx,by omega,?_,?_,λk=>?_⟩
     ·rw[<- hx]; exact ha
     ·rw[<- hx]; exact hT
     ·rw[ifz h0,ifz h1,if_neg h2,q,hx]
  ·exact .inl ⟨_,h1,λk=>by rw[ifz h0,vh h1]⟩
 ·exact .inl ⟨_,h0,λk=>by rw[vh h0]⟩
theorem BA {N n:Nat} (hN:1000<=N) (hn:n<=12) {M:List Fl} (v:Nat->Nat->Fl) (hL:M.length=n*n) (hM:∀ i j,i<n->j<=i->elt M n i j=v i j) (k:List Fl->Bool):D2 N n n M k=k (mf n (mir v)):=by
 (unfold D2; rw[ac]; unfold Gd)
 rw[nJ hn,xq n v];refine bw (λi:Nat=>((i:Int),mf n (mS v i 0))) n (by omega) ?_ ?_
 ·intro i hi K;unfold vH;dsimp only;rw[decide_eq_true (by omega:(i:Int)<(n:Int)),cond_true];refine(bw (λj:Nat=>((j:Int),mf n (mS v i j))) (i+1) (N:=N) (by omega) (out:=K ((((i+1:Nat)):Int),mf n (mS v (i+1) 0))) ?_ ?_:_)
  ·intro j hj K';have hj2:j<n:=by omega
   unfold vI;dsimp only;have e:=hM i j hi (by omega);rw[decide_eq_true (by omega:(j:Int)<=(i:Int)),cond_true,fW hn hi hj2 hL,e,rG hn hi hj2,fW hn hi hj2 hL,e,rG hn hj2 hi,aa (ab (by omega) (by omega)),xp n v hj];rfl
  ·intro K';unfold vI;dsimp only;rw[decide_eq_false (by omega:¬((i+1:Nat):Int)<=(i:Int)),cond_false,aa (ab (by omega) (by omega)),BG];rfl
 ·intro K;unfold vH;dsimp only;rw[decide_eq_false (by omega:¬(n:Int)<(n:Int)),cond_false,BF]
theorem yN {N n:Nat} (hF:Fuel N) (hn:n<=12) (x:List Fl) {M:List Fl} {v:Nat->Nat->Fl} (b:Bool) (hb:b=false -> ∀ i j,i<n->j<=i->aG (v i j)=true) (hw:∀ i j,FW (v i j)) (hL:M.length=n*n) (hM:∀ i j,i<n->j<=i->elt M n i j=v i j) (k0:Int->Int->Int->Bool) (k1:Int->List Fl->Bool) :
  G8 N n n x M b k0 k1=cond b (k0 0 0 5) (cond (!vx n (mf n (mir v))) (k0 0 0 170) (k1 0 (mf n (mir v)))):=by
 have hN:=hF.lt
 (unfold G8; rw[ac]; unfold Jr)
 (unfold Ot; rw[ac]; unfold MQ)
 cases b
 ·rw[cond_false,cond_false,BA (by omega) hn v hL hM,oF hF hn (kt n _) (yV (xu (hb rfl))) (NI (GU hw)) (BH _)];cases vx n (mf n (mir v)) <;> rfl
 ·rfl
theorem NE {N n:Nat} (hF:Fuel N) (hn:n<=12) {Y V h:List Fl} (hY:Y.length=n*n) (hV:V.length=n) (hh:h.length=n) (r z:Fl) (t8 t9:Int) (e0:Bool->List Fl->List Fl->Bool) :
  aj N (zr N r z n Y V h n n t8 t9 n n e0) (0,false,[],mf n (λ_ _=>some 0))=e0 (uc n Y V (wB h r) (wC h r z) (wBo h r) (wCo h r z)) (gV n V (wC h r z)) (mf n (low (giV n Y (wB h r)))):=by
 have hN:=hF.lt;have hB:∀ i j,fdiv (bD (h.getD i none) (h.getD j none)) r=wB h r i j:=λ_ _=>rfl
 have hC:∀ i,fdiv (bD (h.getD i none) z) r=wC h r z i:=λ_=>rfl
 generalize hBo:wBo h r=bo;generalize hCo:wCo h r z=co;rw[NY n (low (giV n Y (wB h r)))];have h0:((0,false,[],mf n (rS (low (giV n Y (wB h r))) 0 0)):Int × Bool × List Fl × List Fl)=(λi:Nat=>((i:Int),orB (λi=>orB (λj=>giO n Y (wB h r) bo i j) (i+1)||gvO V (wC h r z) co i) i,(vf n (gvV V (wC h r z))).take i,mf n (rS (low (giV n Y (wB h r))) i 0))) 0:=rfl;rw[h0];refine bw (λi:Nat=>((i:Int),orB (λi=>orB (λj=>giO n Y (wB h r) bo i j) (i+1)||gvO V (wC h r z) co i) i,(vf n (gvV V (wC h r z))).take i,mf n (rS (low (giV n Y (wB h r))) i 0))) n (by omega) ?_ ?_
 ·intro i hi K;unfold zr;dsimp only;rw[decide_eq_true (by omega:(i:Int)<(n:Int)),cond_true];generalize ho1:orB (λi=>orB (λj=>giO n Y (wB h r) bo i j) (i+1)||gvO V (wC h r z) co i) i=o1;have h1:((0,o1,mf n (rS (low (giV n Y (wB h r))) i 0)):Int × Bool × List Fl)=(λj:Nat=>((j:Int),o1||orB (λj=>giO n Y (wB h r) bo i j) j,mf n (rS (low (giV n Y (wB h r))) i j))) 0:=by show _=(((0:Nat):Int),o1||false,_); rw[NU]; rfl
  rw[h1];have r1:inR (i:Int) n=true:=ah (by omega) (by omega);have d1:decide (i<n)=true:=decide_eq_true hi;have f1:af .i64 ((i:Int)+1)=true:=ab (by omega) (by omega);refine(bw (λj:Nat=>((j:Int),o1||orB (λj=>giO n Y (wB h r) bo i j) j,mf n (rS (low (giV n Y (wB h r))) i j))) (i+1) (N:=N) (by omega) (out:=K ((((i+1:Nat)):Int),orB (λi=>orB (λj=>giO n Y (wB h r) bo i j) (i+1)||gvO V (wC h r z) co i) (i+1),(vf n (gvV V (wC h r z))).take (i+1),mf n (rS (low (giV n Y (wB h r))) (i+1) 0))) ?_ ?_:_)
  ·intro j hj K';have hj2:j<n:=by omega
   have r2:inR (j:Int) n=true:=ah (by omega) (by omega);have d2:decide (j<n)=true:=decide_eq_true hj2;have f2:af .i64 ((j:Int)+1)=true:=ab (by omega) (by omega);unfold B8;dsimp only;rw[decide_eq_true (by omega:(j:Int)<=(i:Int)),cond_true,fW hn hi hj2 hY];simp only[hh,r1,d1,r2,d2,Int.toNat_natCast,Bool.true_and,wn,hB];have e:cD (elt Y n i j) (wB h r i j)=giV n Y (wB h r) i j:=rfl;rw[e,rG hn hi hj2,aa f2];have e3:low (giV n Y (wB h r)) i j=giV n Y (wB h r) i j:=by unfold low; rw[if_pos (by omega)]
   rw[<- e3,NX,e3];have e2:(((o1||orB (λj=>giO n Y (wB h r) bo i j) j || !aG (bD (h.getD i none) (h.getD j none))) || !aG (wB h r i j)) || !aG (giV n Y (wB h r) i j))=(o1||orB (λj=>giO n Y (wB h r) bo i j) (j+1)):=by rw[<- xw o1 (λj=>giO n Y (wB h r) bo i j) j,<- hBo];unfold giO wBo;simp only[Bool.or_assoc]
   rw[e2];rfl
  ·intro K';unfold B8;dsimp only;rw[decide_eq_false (by omega:¬((i+1:Nat):Int)<=(i:Int)),cond_false];have l1:decide ((List.take (i+1) (vf n (gvV V (wC h r z)))).length*8<=140737488355328)=true:=decide_eq_true (by rw[List.length_take,fk]; omega);have e:cD (V.getD i none) (wC h r z i)=gvV V (wC h r z) i:=rfl;simp only[hh,hV,r1,d1,Int.toNat_natCast,Bool.true_and,wn,hC,e,Cf n (gvV V (wC h r z)) hi,l1,f1];have e3:mf n (rS (low (giV n Y (wB h r))) i (i+1))=mf n (rS (low (giV n Y (wB h r))) (i+1) 0):=f7 n (λa b _ hb=>by
    unfold rS;by_cases h2:a<i\/(a=i/\b<i+1)
    ·rw[if_pos h2,if_pos (by omega)]
    ·rw[if_neg h2];by_cases h3:a<i+1\/(a=i+1/\b<0)
     ·rw[if_pos h3]; unfold low; rw[if_neg (by omega)]
     ·rw[if_neg h3])
   have e2:((((o1||orB (λj=>giO n Y (wB h r) bo i j) (i+1)) || !aG (bD (h.getD i none) z)) || !aG (wC h r z i)) || !aG (gvV V (wC h r z) i))=orB (λi=>orB (λj=>giO n Y (wB h r) bo i j) (i+1)||gvO V (wC h r z) co i) (i+1):=by show _=(orB (λi=>orB (λj=>giO n Y (wB h r) bo i j) (i+1)||gvO V (wC h r z) co i) i||_);rw[ho1,<- hCo];unfold gvO wCo;simp only[Bool.or_assoc]
   rw[e2,e3];rfl
 ·intro K;unfold zr;dsimp only;rw[decide_eq_false (by omega:¬(n:Int)<(n:Int)),cond_false,RE,List.take_of_length_le (by rw[fk]; omega)];rfl
theorem C7 {n:Nat} {Y V:List Fl} {B:Nat->Nat->Fl} {C:Nat->Fl} {bo:Nat->Nat->Bool} {co:Nat->Bool} (h:uc n Y V B C bo co=false):∀ i j,i<n->j<=i->aG (giV n Y B i j)=true:=
 λi j hi hj=>((ym h).1 i j hi hj).2
theorem uk {N:Nat} (hF:Fuel N) (Y V:List Fl) {h:List Fl} (hh:bO N h.length) (r z:Fl) (rr cc:Int) (hw:AllW Y) (k:KI) :
  Oo N rr cc r z Y V h k=upI Y V h r z rr cc k:=by
 have hN:=hF.lt
 (unfold Oo; try rw[ac]); unfold PS upI
 rw[qq hF _ _ _ _ hw];by_cases h0:iS V rr cc Y=0
 ·obtain⟨n,hn,rfl,rfl,hx,hl,-⟩:=jq (dG.1 h0);rw[ifz h0,h0,show((0:Int) != 0)=false from rfl,cond_false,AC hh r z (λe=>k 0 0 [] [] e)];by_cases h1:nK V.length h r z=0
  ·rw[ifz h1,ifz h1];subst hx;have h2:h.length=V.length:=by have:=DB h1; omega
   have hl':Y.length=V.length*V.length:=hl;rw[h2,nJ hn,NE hF hn hl' rfl h2];exact yN hF hn _ _ (λhb=>C7 hb) (λi j=>kF _ _) (kt _ _) (λi j hi hj=>by rw[qv _ _ hi (by omega)]; unfold low; rw[if_pos hj]) _ _
  ·rw[vh h1,vh h1]
 ·rw[vh h0,jQ _ _ h0,cond_true]
theorem oU {p:Nat->Bool}:∀{n:Nat},orB p n=false ↔ ∀ i,i<n->p i=false
 | 0=>⟨λ_ i hi=>absurd hi (Nat.not_lt_zero _),λ_=>rfl⟩
 | n+1=>by show(orB p n||p n)=false↔_;rw[Bool.or_eq_false_iff,oU];exact⟨λ⟨h1,h2⟩ i hi=>(Nat.lt_or_ge i n).elim (h1 i) (λh=>by rw[show i=n by omega]; exact h2),λh=>⟨λi hi=>h i (by omega),h n (by omega)⟩⟩
theorem NT {a b:Bool} (h:a=false↔b=false):a=b:=by cases a <;> cases b <;> first | rfl | (exfalso; simp at h)
theorem Gz {n:Nat} {l:List Fl} (h:l.length=n*n) (hf:aF l=true) (hs:nX n l=true) {i j:Nat} (hi:i<n) (hj:j<n):elt l n i j=elt l n j i:=by
 have key:∀ a b,a<n->b<a->elt l n a b=elt l n b a:=by
  intro a b ha hb;unfold nX at hs;have h1:=cL.1 (cL.1 hs a ha) b hb;have h2:=of_decide_eq_true h1;have f1:aG (elt l n a b)=true:=du hf (by have:=fG ha (by omega:b<n); omega);have f2:aG (elt l n b a)=true:=du hf (by have:=fG (by omega:b<n) ha; omega)
  rwa [uW f1,uW f2]at h2
 rcases Nat.lt_trichotomy i j with h1 | h1 | h1
 ·exact(key j i hj h1).symm
 ·rw[h1]
 ·exact key i j hi h1
def saV (a b:List Fl):Nat->Fl:=λt=>cD (a.getD t none) (b.getD t none)
def saO (a b:List Fl):Nat->Bool:=λt=>!aG (saV a b t)
theorem NC {N L:Nat} (hN:1000<=N) (hL:L<=144) {Y Z:List Fl} (hY:Y.length=L) (hZ:Z.length=L) (V W:List Fl) (a a2 b5 b6 t4 t5 y y1:Int) (e0:Bool->List Fl->Bool) :
  aj N (zp N L Y V Z W a a2 b5 b6 t4 t5 y y1 e0) (0,false,List.replicate L (some 0))=e0 (orB (saO Y Z) L) (vf L (saV Y Z)):=by
 have h0:((0,false,List.replicate L (some 0)):Int × Bool × List Fl)=(λi:Nat=>((i:Int),orB (saO Y Z) i,(vf L (saV Y Z)).take i++List.replicate (L - i) (some 0))) 0:=rfl;rw[h0];refine bw (λi:Nat=>((i:Int),orB (saO Y Z) i,(vf L (saV Y Z)).take i++List.replicate (L - i) (some 0))) L (by omega) ?_ ?_
 ·intro i hi K;unfold zp;dsimp only;have r1:inR (i:Int) L=true:=ah (by omega) (by omega);have d1:decide (i<L)=true:=decide_eq_true hi;have f1:af .i64 ((i:Int)+1)=true:=ab (by omega) (by omega);have e:cD (Y.getD i none) (Z.getD i none)=saV Y Z i:=rfl;rw[decide_eq_true (by omega:(i:Int)<(L:Int)),cond_true];simp only[hY,hZ,r1,d1,f1,Int.toNat_natCast,Bool.true_and,wn,e,nn L (saV Y Z) (i:=i) (by omega)];rw[xA L (saV Y Z) hi];rfl
 ·intro K;unfold zp;dsimp only;rw[decide_eq_false (by omega:¬(L:Int)<(L:Int)),cond_false,Nat.sub_self,List.replicate_zero,List.append_nil,List.take_of_length_le (by rw[fk]; omega)]
theorem ND {N n:Nat} (hN:1000<=N) (hn:n<=12) {V W:List Fl} (hV:V.length=n) (hW:W.length=n) (Y Z b10:List Fl) (s:Bool) (a a2 b5 b6 t4 t5 y y1:Int) (e0:Bool->List Fl->Bool) :
  aj N (zq N n Y V Z W a a2 b5 b6 t4 t5 y y1 b10 e0) (0,s,[])=e0 (s||orB (saO V W) n) (vf n (saV V W)):=by
 have h0:((0,s,[]):Int × Bool × List Fl)=(λi:Nat=>((i:Int),s||orB (saO V W) i,(vf n (saV V W)).take i)) 0:=by show _=(((0:Nat):Int),s||false,_); rw[NU]; rfl
 rw[h0];refine bw (λi:Nat=>((i:Int),s||orB (saO V W) i,(vf n (saV V W)).take i)) n (by omega) ?_ ?_
 ·intro i hi K;unfold zq;dsimp only;have r1:inR (i:Int) n=true:=ah (by omega) (by omega);have d1:decide (i<n)=true:=decide_eq_true hi;have f1:af .i64 ((i:Int)+1)=true:=ab (by omega) (by omega);have e:cD (V.getD i none) (W.getD i none)=saV V W i:=rfl;have l1:decide ((List.take (i+1) (vf n (saV V W))).length*8<=140737488355328)=true:=decide_eq_true (by rw[List.length_take,fk]; omega);rw[decide_eq_true (by omega:(i:Int)<(n:Int)),cond_true];simp only[hV,hW,r1,d1,f1,Int.toNat_natCast,Bool.true_and,wn,e,Cf n (saV V W) hi,l1];rw[<- xw s (saO V W) i];rfl
 ·intro K;unfold zq;dsimp only;rw[decide_eq_false (by omega:¬(n:Int)<(n:Int)),cond_false,List.take_of_length_le (by rw[fk]; omega)]
theorem Nq {n:Nat} {Y V Z W:List Fl} (hY:Y.length=n*n) (hZ:Z.length=n*n) (fY:aF Y=true) (fZ:aF Z=true) (sY:nX n Y=true) (sZ:nX n Z=true) :
  (orB (saO Y Z) (n*n)||orB (saO V W) n)=uc n Y V (jB n Z) (jC W) nob noc:=by
 refine NT ?_;unfold uc;rw[Bool.or_eq_false_iff,oU,oU,oU];have e1:∀ i j,i<n->j<n->saO Y Z (i*n+j) = !aG (giV n Y (jB n Z) i j):=λi j _ _=>rfl
 have e2:∀ i j,i<n->j<n->giV n Y (jB n Z) i j=giV n Y (jB n Z) j i:=λi j hi hj=>by unfold giV jB;rw[Gz hY fY sY hi hj,Gz hZ fZ sZ hi hj]
 have e3:∀ i,saO V W i=gvO V (jC W) noc i:=λi=>rfl
 constructor
 ·rintro ⟨h1,h2⟩ i hi;rw[Bool.or_eq_false_iff,oU];refine⟨λj hj=>?_,(e3 i).symm.trans (h2 i hi)⟩;have:=h1 (i*n+j) (fG hi (by omega));exact(e1 i j hi (by omega)).symm.trans this
 ·intro h;refine⟨λt ht=>?_,λi hi=>?_⟩
  ·have hn0:0<n:=by
    rcases Nat.eq_zero_or_pos n with h0 | h0
    ·rw[h0]at ht; exact absurd ht (Nat.not_lt_zero _)
    ·exact h0
   have hi:t / n<n:=Nat.div_lt_of_lt_mul ht;have hj:t%n<n:=Nat.mod_lt _ hn0;have et:t=(t / n)*n+t%n:=by have:=Nat.div_add_mod t n; rw[Nat.mul_comm]at this; omega
   rw[et,e1 _ _ hi hj];rcases Nat.le_total (t%n) (t / n)with hc | hc
   ·have:=h _ hi;rw[Bool.or_eq_false_iff,oU]at this;exact this.1 _ (by omega)
   ·rw[e2 _ _ hi hj];have:=h _ hj;rw[Bool.or_eq_false_iff,oU]at this;exact this.1 _ (by omega)
  ·have:=h i hi;rw[Bool.or_eq_false_iff]at this;exact this.2
theorem yG {N:Nat} (hF:Fuel N) (Y V bY bV:List Fl) (rr cc br bc:Int) (hw:AllW Y) (hb:AllW bY) (k:KI) :
  R5 N rr cc br bc Y V bY bV k=joI Y V bY bV rr cc br bc k:=by
 have hN:=hF.lt
 (unfold R5; try rw[ac]); unfold P9 joI
 rw[qq hF _ _ _ _ hw];by_cases h0:iS V rr cc Y=0
 ·obtain⟨n,hn,rfl,rfl,hx,hl,fV,fY,sY,-⟩:=jq (dG.1 h0);rw[ifz h0,h0,show((0:Int) != 0)=false from rfl,cond_false,qq hF _ _ _ _ hb];by_cases h1:iS bV br bc bY=0
  ·obtain⟨m,hm,rfl,rfl,hbx,hbl,fbV,fbY,sbY,-⟩:=jq (dG.1 h1);rw[ifz h1,h1,show((0:Int) != 0)=false from rfl,cond_false];by_cases h2:((V.length:Nat):Int)=((bV.length:Nat):Int)
   ·have h3:V.length=bV.length:=by omega
    rw[show((((V.length:Nat):Int) != ((bV.length:Nat):Int))=false) by simp[h2],cond_false,if_neg (λq=>q h2)];obtain rfl:m=n:=by omega
    have n2:=sk hn;rw[nJ hn,<- xt,List.length_replicate,hx,NC (by omega) n2 hl hbl,ND (by omega) hn hx hbx,Nq hl hbl fY fbY sY sbY];exact yN (v:=giV m Y (jB m bY)) hF hn _ _ (λhb=>C7 hb) (λi j=>kF _ _) (fk _ _) (λi j hi hj=>xB (m*m) (saV Y bY) (i:=i*m+j) (fG hi (by omega)) none) _ _
   ·rw[jQ _ _ h2,cond_true,if_pos h2]
  ·rw[vh h1,jQ _ _ h1,cond_true]
 ·rw[vh h0,jQ _ _ h0,cond_true]
theorem Ao {x:Fl} (h:aG x=true):∃ b,x=some b:=by
 cases x with
 | none=>cases h
 | some b=>exact⟨b,rfl⟩
theorem oG {N:Nat} (hN:1000<=N) (a:List Fl) (ha:bO N a.length) (hf:aF a=true) (k:Bool->Bool):Ml N a a k=k true:=by
 (unfold Ml; try rw[ac]); unfold PE
 rw[show(((a.length:Nat):Int) != ((a.length:Nat):Int))=false by simp,cond_false];have h1:=ha.1;have h2:=ha.2;refine bw (λi:Nat=>(i:Int)) a.length (by omega) (λi hi K=>?_) (λK=>?_)
 ·have d1:inR (i:Int) a.length=true:=ah (by omega) (by omega);have d2:af .i64 ((i:Int)+1)=true:=ab (by omega) (by omega);obtain⟨b,hb⟩:=Ao (du hf hi);simp only[B7,Int.toNat_natCast,d1,d2,Bool.true_and,hb];rw[decide_eq_true (by omega:(i:Int)<(a.length:Int)),cond_true];show cond ((b:Int) != b) _ _=_;rw[show((b:Int) != b)=false by simp,cond_false]; rfl
 ·simp only[B7];rw[decide_eq_false (by omega:¬(a.length:Int)<(a.length:Int)),cond_false]
theorem oL {N:Nat} (hN:1000<=N) (n m:Int) {Y V:List Fl} (hY:bO N Y.length) (hV:bO N V.length) (fY:aF Y=true) (fV:aF V=true) (k:Bool->Bool):Mm N n m Y V n m Y V k=k true:=by
 (unfold Mm; try rw[ac]); unfold Su
 rw[oG hN V hV fV]
 (unfold Od; try rw[ac]); unfold MN
 have e:((n:Int)==n)=true:=by simp
 have e2:((m:Int)==m)=true:=by simp
 rw[e,e2,show((true:Bool)==true)=true from rfl,cond_true,cond_true,cond_true,oG hN Y hY fY]
theorem yR {N:Nat} (hN:1000<=N) (n m:Int) {Y V:List Fl} (hY:bO N Y.length) (hV:bO N V.length) (fY:aF Y=true) (fV:aF V=true) (k:Bool->Bool):Ol N n m Y V n m Y V k=k true:=by
 (unfold Ol; try rw[ac]); unfold SA
 rw[oG hN V hV fV]
 (unfold Od; try rw[ac]); unfold MN
 have e:((n:Int)==n)=true:=by simp
 have e2:((m:Int)==m)=true:=by simp
 rw[e,e2,show((true:Bool)==true)=true from rfl,cond_true,cond_true,cond_true,oG hN Y hY fY]
theorem Dg {N:Nat} {v y:List Int} (hv:bO N v.length) (hy:bO N y.length) (r c:Int) (k:List Fl->List Fl->Bool):Oi N v r c y k=k (ip y) (ip v):=by
 (unfold Oi; try rw[ac]); unfold Sy
 rw[qs v hv,qs y hy]
theorem Lc {N:Nat} {v y:List Int} (hv:bO N v.length) (hy:bO N y.length) (r:Int) (k:List Fl->List Fl->Bool):Oj N v r y k=k (ip y) (ip v):=by
 (unfold Oj; try rw[ac]); unfold Sz
 rw[qs v hv,qs y hy]
theorem yK {N:Nat} {a b:List Fl} (ha:bO N a.length) (hb:bO N b.length) (K:Bool):N7 N a b (λ_ _=>K)=K:=by
 have ha1:=ha.1; have ha2:=ha.2;have hb1:=hb.1; have hb2:=hb.2
 (unfold N7; rw[ac]; unfold Pv)
 refine bw (λt:Nat=>((t:Int),spl a t)) a.length (by omega) ?_ ?_
 ·intro t ht K;unfold Hk;dsimp only;rw[decide_eq_true (by omega:(t:Int)<(a.length:Int)),cond_true,B4,aa (ah (by omega) (by omega)),Int.toNat_natCast,aa (decide_eq_true (by omega)),aa (ab (by omega) (by omega))];rfl
 intro _;unfold Hk;dsimp only;rw[decide_eq_false (by omega:¬(a.length:Int)<(a.length:Int)),cond_false];refine bw (λt:Nat=>((t:Int),spl b t)) b.length (by omega) ?_ ?_
 ·intro t ht K;unfold Hj;dsimp only;rw[decide_eq_true (by omega:(t:Int)<(b.length:Int)),cond_true,B4,aa (ah (by omega) (by omega)),Int.toNat_natCast,aa (decide_eq_true (by omega)),aa (ab (by omega) (by omega))];rfl
 intro _;unfold Hj;dsimp only;rw[decide_eq_false (by omega:¬(b.length:Int)<(b.length:Int)),cond_false]
theorem w8 {N:Nat} (hF:Fuel N) (v:List Int) (n:Int) (y r w:List Int) (w1 w2:Int) (u k_:List Int) (hv:bO N v.length) (hy:bO N y.length) (hr:bO N r.length) (hw:bO N w.length) (hu:bO N u.length) (hk:bO N k_.length)
  (by_:∀ z,z ∈ y->z.toNat<18446744073709551616) (bk:∀ z,z ∈ k_->z.toNat<18446744073709551616) :
  sQ2 N v n y r w w1 w2 u k_ (λb=>b)=true:=by
 have hN:=hF.lt;have aw:∀(k:Bool->Bool),sQ0 N k=k true:=λ_=>rfl
 have sf:∀(r:Int) (k:Fl->Bool),BU N r k=k (gk r.toNat):=λ_ _=>rfl
 have fb:∀(b:Nat) (k:Int->Bool),tB N (some b) k=k (b:Int):=λ_ _=>rfl
 have wY:=LP by_;have wZ:=LP bk;have hh:=tF hw;have sV:=tF hv;have sR:=tF hr;have c0:∀(A B:Bool),cond ((!true)==false) A B=A:=λ_ _=>rfl
 have c1:∀(e:Int) (A B:Bool),cond (e != e) A B=B:=λe A B=>by rw[show(e != e)=false by simp]; rfl
 have c2:∀(e:Int) (A B:Bool),cond ((e != e)==false) A B=A:=λe A B=>by rw[show(e != e)=false by simp]; rfl
 have c3:∀(e:Int) (A B:Bool),cond ((e==e)==true) A B=A:=λe A B=>by rw[show(e==e)=true by simp]; rfl
 have c4:∀(A B:Bool),cond (true==true) A B=A:=λ_ _=>rfl
 have sn:bO N ([]:List Fl).length:=⟨by show 0<N; omega,by show 0<=17592186044416; omega⟩
 have fn:aF []=true:=rfl;unfold sQ2 GQ2;simp only[Dg hv hy,Dg hu hk,Lc hv hr,qs w hw,sf];generalize gk w1.toNat=R;generalize gk w2.toNat=Z;have up:∀(T:Bool),(eJ N n n R Z (ip y) (ip v) (ip w) λa b M x e=>Oo N n n R Z (ip y) (ip v) (ip w) λa' b' M' x' e'=>Mm N a b M x a' b' M' x' λcr=>cond ((!cr)==false) (cond (e != e') false T) false)=T:=by
  intro T;rw[pK hF _ _ hh _ _ _ _ wY];rcases Jd (ip y) (ip v) (ip w) R Z n n with⟨e,he,q⟩ | ⟨m,em,-,-,-,-,tl,q⟩
  ·rw[q,uk hF _ _ hh _ _ _ _ wY,q,oL (by omega) _ _ sn sn fn fn,c0,c1]
  ·have n2:=sk tl.1;have n1:=tl.1;rw[q,uk hF _ _ hh _ _ _ _ wY,q,oL (by omega) _ _ ⟨by rw[tl.2.2.1]; omega,by rw[tl.2.2.1]; omega⟩ ⟨by rw[tl.2.1]; omega,by rw[tl.2.1]; omega⟩ tl.2.2.2.2.1 tl.2.2.2.1,c0,c1]
 refine(up _).trans ?_;have rt:∀(T:Bool),(Oa N n n R Z (ip r) (ip v) (ip w) λa b M x t e=>cV N n n R Z (ip r) (ip v) (ip w) λa' b' M' x' t' e'=>N7 N (ip v) (ip r) λ_ _=>Ol N a' b' M' x' a b M x λcr=>cond ((!cr)==false) (tB N t' λp=>tB N t λq=>cond ((p != q)==false) (cond (e' != e) false T) false) false)=T:=by
  intro T;rw[Lw (by omega) _ _ sV hh];rcases FT (ip r) (ip v) (ip w) R Z n n with⟨e,q⟩ | ⟨m,R',Z',t,hm,l1,l2,f1,f2,f3,q⟩
  ·rw[q,Dz (by omega) _ _ sV sR hh,q,yK sV sR,yR (by omega) _ _ sn sn fn fn,c0,fb,fb,c2,c1]
  ·have n2:=sk hm;obtain⟨b,rfl⟩:=Ao f3;rw[q,Dz (by omega) _ _ sV sR hh,q,yK sV sR,yR (by omega) _ _ ⟨by omega,by omega⟩ ⟨by omega,by omega⟩ f1 f2,c0,fb,fb,c2,c1]
 refine(rt _).trans ?_;rw[pJ hF _ _ _ _ _ _ _ _ wY wZ];rcases H5 (ip y) (ip v) (ip k_) (ip u) n n n n with⟨e,he,q⟩ | ⟨m,em,-,-,-,-,-,tl,q⟩
 ·rw[q,yG hF _ _ _ _ _ _ _ _ wY wZ,q,oL (by omega) _ _ sn sn fn fn,c4,c3,aw]
 ·have n2:=sk tl.1;have n1:=tl.1;rw[q,yG hF _ _ _ _ _ _ _ _ wY wZ,q,oL (by omega) _ _ ⟨by rw[tl.2.2.1]; omega,by rw[tl.2.2.1]; omega⟩ ⟨by rw[tl.2.1]; omega,by rw[tl.2.1]; omega⟩ tl.2.2.2.2.1 tl.2.2.2.1,c4,c3,aw]
end Go.Proofs.YtdinakfmablagaaGreatDoor
end
