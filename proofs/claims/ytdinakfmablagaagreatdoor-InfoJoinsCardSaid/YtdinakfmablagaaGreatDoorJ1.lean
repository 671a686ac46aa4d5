/- Laws in plain Lean. Conditions: none. -/
import Derived.Test.YtdinakfmablagaaGreatDoorK1
import Derived.Test.YtdinakfmablagaaGreatDoorFlG
set_option linter.unusedVariables false
section
namespace Go.Proofs.YtdinakfmablagaaGreatDoor
open Go Go.Mach Ieee
theorem C7 {N n:Nat} (hF:Fuel N) {l:List Fl} (hn:n<=12) (h:l.length=n*n) (hf:bF l=true) (hw:AllW l) (hs:JE n l) (k:Bool->Bool) :
  iO N n n l k=k (zD n l):=by
 (unfold iO; try rw[af]); unfold pg
 rw[Db hF hn h hf hw hs];rfl
def eZ (x:List Fl) (r c:Int) (l:List Fl):Int:=if tR x r c l=151 then 170 else tR x r c l
theorem QE {r c:Int} {l:List Fl}:chk r c l ≠ 151:=by
 unfold chk;split
 ·split
  ·split <;> decide
  ·decide
 ·decide
theorem j5 {N:Nat} (hF:Fuel N) (x:List Fl) (r c:Int) (l:List Fl) (hw:AllW l) (k:Int->Bool):dN N r c l x k=k (eZ x r c l):=by
 have hN:=hF.lt
 (unfold dN; rw[af]; unfold oa eZ tR)
 rw[sT (by omega)];by_cases h0:chk r c l=0
 ·have q:=p6.1 h0;rw[h0,if_neg (c:=(0:Int) ≠ 0) (λh=>h rfl),show((0:Int) != 0)=false from rfl,cond_false];by_cases h1:r=c
  ·subst h1;have e1:((r != r)==false)=true:=by simp
   rw[if_neg (c:=r ≠ r) (λh=>h rfl),e1,cond_true];obtain⟨n,hn⟩:∃ n:Nat,r=n:=⟨r.toNat,by omega⟩
   subst hn;by_cases h2:(x.length:Int)=n
   ·have e2:(((x.length:Nat):Int) != (n:Int))=false:=by simp[h2]
    have hl:l.length=n*n:=by exact_mod_cast q.2.1
    have hn12:n<=12:=by omega
    rw[e2,cond_false,if_neg (c:=((x.length:Nat):Int) ≠ (n:Int)) (λh=>h h2),l_ x ⟨by omega,by omega⟩];cases h3:bF x
    ·rfl
    ·rw[show(!true)=false from rfl,cond_false,M4 (by omega) hn12 hl q.2.2,Int.toNat_natCast];cases h4:pb n l
     ·rfl
     ·rw[show(!true)=false from rfl,cond_false,C7 hF hn12 hl q.2.2 hw (Mc hl q.2.2 h4)];cases zD n l <;> rfl
   ·have e2:(((x.length:Nat):Int) != (n:Int))=true:=by simp[h2]
    rw[e2,cond_true,if_pos (c:=((x.length:Nat):Int) ≠ (n:Int)) h2]; rfl
  ·have e1:((r != c)==false)=false:=by simp[h1]
   rw[e1,cond_false,if_pos (c:=r ≠ c) h1]; rfl
 ·have e0:(chk r c l != 0)=true:=by simp[h0]
  rw[e0,cond_true,if_pos (c:=chk r c l ≠ 0) h0,if_neg QE]
theorem vV {N:Nat} (hF:Fuel N) (x:List Fl) (r c:Int) (l:List Fl) (hw:AllW l) (k:Int->Bool):nc N r c l x k=k (eZ x r c l):=by
 (unfold nc; try rw[af]); unfold vz
 rw[C8 hF _ _ _ _ hw];unfold eZ;by_cases h:tR x r c l=151
 ·rw[if_pos h,h]; rfl
 ·rw[if_neg h,show(tR x r c l==151)=false by simp[h],cond_false]
theorem cb {x:List Fl} {r c:Int} {l:List Fl}:eZ x r c l=0↔tR x r c l=0:=by
 unfold eZ;split
 ·rename_i h; rw[h]; decide
 ·exact Iff.rfl
theorem JM {x:Fl}:bF [x]=aL x:=by show(true&&aL x)=aL x;rfl
def yv (n:Int) (h:List Fl) (r z:Fl):Int:=
 if (h.length:Int)=n then(if bF h=true/\aL r=true then(if fle r (some 0)=true then 152 else if aL z=true then 0 else 4)else 4)else 3
theorem Dh {N:Nat} (n:Int) (h:List Fl) (r z:Fl) (hs:ek N h.length) (h1:1<N) (k:Int->Bool):m0 N n h r z k=k (yv n h r z):=by
 (unfold m0; try rw[af]); unfold pK yv
 have o1:∀ x:Fl,ek N [x].length:=λx=>⟨h1,by show 1<=17592186044416; omega⟩
 simp only[l_ h hs,l_ [r] (o1 r),l_ [z] (o1 z),JM];by_cases e:(h.length:Int)=n
 ·rw[show(((h.length:Nat):Int) != n)=false by simp[e],if_pos e];cases bF h <;> cases aL r <;> cases fle r (some 0) <;> cases aL z <;> rfl
 ·rw[show(((h.length:Nat):Int) != n)=true by simp[e],if_neg e]; rfl
theorem H8 {n:Int} {h:List Fl} {r z:Fl} (hc:yv n h r z=0):(h.length:Int)=n/\bF h=true/\aL r=true/\aL z=true/\fle r (some 0)=false:=by
 unfold yv at hc;split at hc
 ·rename_i h1;split at hc
  ·rename_i h2;split at hc
   ·cases hc
   ·rename_i h3;split at hc
    ·rename_i h4; exact⟨h1,h2.1,h2.2,h4,by simpa using h3⟩
    ·cases hc
  ·cases hc
 ·cases hc
def giV (n:Nat) (Y:List Fl) (B:Nat->Nat->Fl):Nat->Nat->Fl:=λi j=>bL (elt Y n i j) (B i j)
def giO (n:Nat) (Y:List Fl) (B:Nat->Nat->Fl) (bo:Nat->Nat->Bool):Nat->Nat->Bool:=λi j=>bo i j || !aL (giV n Y B i j)
def gvV (V:List Fl) (C:Nat->Fl):Nat->Fl:=λi=>bL (V.getD i none) (C i)
def gvO (V:List Fl) (C:Nat->Fl) (co:Nat->Bool):Nat->Bool:=λi=>co i || !aL (gvV V C i)
def pG (n:Nat) (Y V:List Fl) (B:Nat->Nat->Fl) (C:Nat->Fl) (bo:Nat->Nat->Bool) (co:Nat->Bool):Bool:=orB (λi=>orB (λj=>giO n Y B bo i j) (i+1)||gvO V C co i) n
def gM (n:Nat) (Y:List Fl) (B:Nat->Nat->Fl):List Fl:=mf n (mir (giV n Y B))
def gV (n:Nat) (V:List Fl) (C:Nat->Fl):List Fl:=vf n (gvV V C)
def gK (n:Nat) (Y V:List Fl) (B:Nat->Nat->Fl) (C:Nat->Fl) (bo:Nat->Nat->Bool) (co:Nat->Bool) (k0:Int->Int->Int->Bool) (k1:Int->Int->Int->List Fl->List Fl->Bool):Bool:=
 cond (pG n Y V B C bo co) (k0 0 0 5) (cond (!zD n (gM n Y B)) (k0 0 0 170) (k1 n n 0 (gM n Y B) (gV n V C)))
theorem nE {n:Nat} {Y V:List Fl} {B:Nat->Nat->Fl} {C:Nat->Fl} {bo:Nat->Nat->Bool} {co:Nat->Bool} (h:pG n Y V B C bo co=false) :
  (∀ i j,i<n->j<=i->bo i j=false/\aL (giV n Y B i j)=true) /\ ∀ i,i<n->co i=false/\aL (gvV V C i)=true:=by
 unfold pG at h;refine⟨λi j hi hj=>?_,λi hi=>?_⟩
 ·have h1:=rN h i hi;rw[Bool.or_eq_false_iff]at h1;have h2:=rN h1.1 j (by omega);unfold giO at h2;simpa using h2
 ·have h1:=rN h i hi;rw[Bool.or_eq_false_iff]at h1;have h2:=h1.2;unfold gvO at h2;simpa using h2
theorem oF {N n:Nat} (hF:Fuel N) (hn:n<=12) (Y V:List Fl) (B:Nat->Nat->Fl) (C:Nat->Fl) (bo:Nat->Nat->Bool) (co:Nat->Bool) (k0:Int->Int->Int->Bool) (k1:Int->Bool) :
  cj N n n (pG n Y V B C bo co) (gV n V C) (gM n Y B) k0 k1=cond (pG n Y V B C bo co) (k0 0 0 5) (cond (!zD n (gM n Y B)) (k0 0 0 170) (k1 0)):=by
 (unfold cj; rw[af]; unfold gr)
 (unfold uj; try rw[af]); unfold n_
 cases h:pG n Y V B C bo co
 ·rw[cond_false,cond_false];obtain⟨h1,h2⟩:=nE h;exact C7 hF hn (j8 _ _) (K2 (Gu λa b ha hb=>(h1 a b ha hb).2)) (So (Ot λa b=>iM _ _)) (Nd _) _
 ·rfl
def nob:Nat->Nat->Bool:=λ_ _=>false
def noc:Nat->Bool:=λ_=>false
def jB (n:Nat) (b:List Fl):Nat->Nat->Fl:=λi j=>elt b n i j
def jC (b:List Fl):Nat->Fl:=λi=>b.getD i none
def wB (h:List Fl) (r:Fl):Nat->Nat->Fl:=λi j=>fdiv (kT (h.getD i none) (h.getD j none)) r
def wBo (h:List Fl) (r:Fl):Nat->Nat->Bool:=λi j=>!aL (kT (h.getD i none) (h.getD j none)) || !aL (wB h r i j)
def wC (h:List Fl) (r z:Fl):Nat->Fl:=λi=>fdiv (kT (h.getD i none) z) r
def wCo (h:List Fl) (r z:Fl):Nat->Bool:=λi=>!aL (kT (h.getD i none) z) || !aL (wC h r z i)
theorem wK {N n:Nat} (hF:Fuel N) (hn:n<=12) {Y V:List Fl} (hY:Y.length=n*n) (hV:V.length=n) {bY bV:List Fl} (hbY:bY.length=n*n) (hbV:bV.length=n) (b0 b1:Int) (a0 a1:Int) (k0:Int->Int->Int->Bool) (k1:Int->Int->Int->List Fl->List Fl->Bool) :
  eD N a0 a1 Y V b0 b1 n bY bV k0 k1=gK n Y V (jB n bY) (jC bV) (nob) (noc) k0 k1:=by
 have hN:=hF.lt;have hn2:n*n<=144:=yC hn;have FW1:∀(x:Fl) (o:Bool) (k:Bool->Bool),FW x->kV N x o k=k (o || !aL x):=λx o k h=>qm h o k
 have c1:∀(i j:Nat) (o:Bool) (k:Fl->Bool),i<n->j<n->dP N i j o b0 b1 n bY bV k=k (jB n bY i j):=by
  intro i j o k hi hj;obtain⟨g1,g2⟩:=de (by omega:n<=1000) hi hj;have g5:=iU hi hj
  (unfold dP; try rw[af]); unfold iw
  rw[aa g1,bg,aa g2,hbY,aa (aj (by omega) (by omega)),Int.toNat_natCast,aa (decide_eq_true g5)];rfl
 have c2:∀(i:Nat) (o:Bool) (k:Fl->Bool),i<n->fj N i 0 o b0 b1 bY bV k=k (jC bV i):=by
  intro i o k hi
  (unfold fj; try rw[af]); unfold jf
  rw[hbV,aa (aj (by omega) (by omega)),Int.toNat_natCast,aa (decide_eq_true hi)]
  try rfl
 (unfold eD; rw[af]; unfold d_)
 rw[hV,<- Int.natCast_mul,aa (ac (by omega) (by omega)),aa (bQ (by omega) (by omega) (by omega) (by omega)),aa (bQ (by omega) (by omega) (by omega) (by omega)),Int.toNat_natCast,Int.toNat_natCast,xc];generalize hB:(jB n bY)=B at *;generalize hbo:(nob)=bo at *;generalize hC:(jC bV)=C at *;generalize hco:(noc)=co at *;generalize hv:giV n Y B=v;rw[xb n v];have h0:((0,false,List.replicate n (some 0),mf n (mS v 0 0)):Int × Bool × List Fl × List Fl)=(λi:Nat=>((i:Int),orB (λi=>orB (λj=>giO n Y B bo i j) (i+1)||gvO V C co i) i,(vf n (gvV V C)).take i++List.replicate (n - i) (some 0),mf n (mS v i 0))) 0:=rfl;rw[h0];refine bR (λi:Nat=>((i:Int),orB (λi=>orB (λj=>giO n Y B bo i j) (i+1)||gvO V C co i) i,(vf n (gvV V C)).take i++List.replicate (n - i) (some 0),mf n (mS v i 0))) n (by omega) ?_ ?_
 ·intro i hi K;unfold cu;dsimp only;rw[decide_eq_true (by omega:(i:Int)<(n:Int)),cond_true,aa (ac (by omega) (by omega))];generalize ho1:orB (λi=>orB (λj=>giO n Y B bo i j) (i+1)||gvO V C co i) i=o1;have h1:((0,o1,mf n (mS v i 0)):Int × Bool × List Fl)=(λj:Nat=>((j:Int),o1||orB (λj=>giO n Y B bo i j) j,mf n (mS v i j))) 0:=by show _=(((0:Nat):Int),o1||false,_); rw[Np]; rfl
  rw[h1];refine(bR (λj:Nat=>((j:Int),o1||orB (λj=>giO n Y B bo i j) j,mf n (mS v i j))) (i+1) (N:=N) (by omega) (out:=K ((((i+1:Nat)):Int),orB (λi=>orB (λj=>giO n Y B bo i j) (i+1)||gvO V C co i) (i+1),(vf n (gvV V C)).take (i+1)++List.replicate (n - (i+1)) (some 0),mf n (mS v (i+1) 0))) ?_ ?_:_)
  ·intro j hj K';have hj2:j<n:=by omega
   obtain⟨g1,g2⟩:=de (by omega:n<=1000) hi hj2;obtain⟨g3,g4⟩:=de (by omega:n<=1000) hj2 hi;have g5:=iU hi hj2;have g6:=iU hj2 hi;rw[<- bg]at g2 g4;have t1:Int.toNat ((i:Int)*(n:Int)+(j:Int))=i*n+j:=by rw[bg,Int.toNat_natCast]
   have t2:Int.toNat ((j:Int)*(n:Int)+(i:Int))=j*n+i:=by rw[bg,Int.toNat_natCast]
   have r1:inR ((i:Int)*(n:Int)+(j:Int)) (n*n)=true:=by rw[bg]; exact aj (by omega) (by omega)
   have r2:inR ((j:Int)*(n:Int)+(i:Int)) (n*n)=true:=by rw[bg]; exact aj (by omega) (by omega)
   have d1:decide (i*n+j<n*n)=true:=decide_eq_true g5;have d2:decide (j*n+i<n*n)=true:=decide_eq_true g6;have f1:ai .i64 ((j:Int)+1)=true:=ac (by omega) (by omega);unfold cw;dsimp only;have e:bL (Y.getD (i*n+j) none) (B i j)=v i j:=by rw[<- hv]; rfl
   have hst:∀(o:Bool) (k:Bool->Bool),kV N (v i j) o k=k (o || !aL (v i j)):=λo k=>FW1 _ o k (by rw[<- e]; exact iM _ _)
   rw[decide_eq_true (by omega:(j:Int)<(i:Int)+1),cond_true];simp only[g1,g2,g3,g4,t1,t2,r1,r2,d1,d2,f1,hY,j8,List.length_set,Bool.true_and,c1 i j _ _ hi hj2,e,hst];rw[qp n _ hi hj2,qp n _ hj2 hi,xa n v hj];have e2:((o1||orB (λj=>giO n Y B bo i j) j) || !aL (v i j))=(o1||orB (λj=>giO n Y B bo i j) (j+1)):=by
    rw[<- xf o1 (λj=>giO n Y B bo i j) j];unfold giO;rw[hv];have q:∀ i j,bo i j=false:=by rw[<- hbo]; intros; rfl
    simp only[q,Bool.false_or]
   rw[e2];rfl
  ·intro K';unfold cw;dsimp only;have hst:∀(o:Bool) (k:Bool->Bool),kV N (gvV V C i) o k=k (o || !aL (gvV V C i)):=λo k=>FW1 _ o k (iM _ _)
   have e:bL (V.getD i none) (C i)=gvV V C i:=rfl;have f1:ai .i64 ((i:Int)+1)=true:=ac (by omega) (by omega);have r1:inR (i:Int) n=true:=aj (by omega) (by omega);have d1:decide (i<n)=true:=decide_eq_true hi;rw[decide_eq_false (by omega:¬((i+1:Nat):Int)<(i:Int)+1),cond_false];simp only[hV,r1,d1,f1,Int.toNat_natCast,Bool.true_and,c2 i _ _ hi,e,hst,ng n (gvV V C) (i:=i) (by omega),Bt];rw[xj n (gvV V C) hi];have e2:((o1||orB (λj=>giO n Y B bo i j) (i+1)) || !aL (gvV V C i))=orB (λi=>orB (λj=>giO n Y B bo i j) (i+1)||gvO V C co i) (i+1):=by
    show _=(orB (λi=>orB (λj=>giO n Y B bo i j) (i+1)||gvO V C co i) i||_);rw[ho1];unfold gvO;have q:∀ i,co i=false:=by rw[<- hco]; intros; rfl
    simp only[q,Bool.false_or,Bool.or_assoc]
   rw[e2];rfl
 ·intro K;unfold cu;dsimp only;rw[decide_eq_false (by omega:¬(n:Int)<(n:Int)),cond_false,Bs,Nat.sub_self,List.replicate_zero,List.append_nil,List.take_of_length_le (by rw[jP]; omega),<- hv];exact oF hF hn Y V B C bo co _ _
theorem zy {N n:Nat} (hF:Fuel N) (hn:n<=12) {Y V:List Fl} (hY:Y.length=n*n) (hV:V.length=n) {bY bV:List Fl} (hbY:bY.length=n*n) (hbV:bV.length=n) (b0 b1:Int) (a0 a1:Int) (k0:Int->Int->Int->Bool) (k1:Int->Int->Int->List Fl->List Fl->Bool) :
  fN N a0 a1 Y V b0 b1 bY bV n k0 k1=gK n Y V (jB n bY) (jC bV) (nob) (noc) k0 k1:=by
 have hN:=hF.lt;have hn2:n*n<=144:=yC hn;have FW1:∀(x:Fl) (o:Bool) (k:Bool->Bool),FW x->kV N x o k=k (o || !aL x):=λx o k h=>qm h o k
 have c1:∀(i j:Nat) (o:Bool) (k:Fl->Bool),i<n->j<n->fi N i j o b0 b1 bY bV n k=k (jB n bY i j):=by
  intro i j o k hi hj;obtain⟨g1,g2⟩:=de (by omega:n<=1000) hi hj;have g5:=iU hi hj
  (unfold fi; try rw[af]); unfold je
  rw[aa g1,bg,aa g2,hbY,aa (aj (by omega) (by omega)),Int.toNat_natCast];rfl
 have c2:∀(i:Nat) (o:Bool) (k:Fl->Bool),i<n->gQ N i 0 o b0 b1 bY bV k=k (jC bV i):=by
  intro i o k hi
  (unfold gQ; try rw[af]); unfold kp
  rw[hbV,aa (aj (by omega) (by omega)),Int.toNat_natCast]
  try rfl
 (unfold fN; rw[af]; unfold fJ)
 rw[hV,<- Int.natCast_mul,aa (ac (by omega) (by omega)),aa (bQ (by omega) (by omega) (by omega) (by omega)),aa (bQ (by omega) (by omega) (by omega) (by omega)),Int.toNat_natCast,Int.toNat_natCast,xc];generalize hB:(jB n bY)=B at *;generalize hbo:(nob)=bo at *;generalize hC:(jC bV)=C at *;generalize hco:(noc)=co at *;generalize hv:giV n Y B=v;rw[xb n v];have h0:((0,false,List.replicate n (some 0),mf n (mS v 0 0)):Int × Bool × List Fl × List Fl)=(λi:Nat=>((i:Int),orB (λi=>orB (λj=>giO n Y B bo i j) (i+1)||gvO V C co i) i,(vf n (gvV V C)).take i++List.replicate (n - i) (some 0),mf n (mS v i 0))) 0:=rfl;rw[h0];refine bR (λi:Nat=>((i:Int),orB (λi=>orB (λj=>giO n Y B bo i j) (i+1)||gvO V C co i) i,(vf n (gvV V C)).take i++List.replicate (n - i) (some 0),mf n (mS v i 0))) n (by omega) ?_ ?_
 ·intro i hi K;unfold cL;dsimp only;rw[decide_eq_true (by omega:(i:Int)<(n:Int)),cond_true,aa (ac (by omega) (by omega))];generalize ho1:orB (λi=>orB (λj=>giO n Y B bo i j) (i+1)||gvO V C co i) i=o1;have h1:((0,o1,mf n (mS v i 0)):Int × Bool × List Fl)=(λj:Nat=>((j:Int),o1||orB (λj=>giO n Y B bo i j) j,mf n (mS v i j))) 0:=by show _=(((0:Nat):Int),o1||false,_); rw[Np]; rfl
  rw[h1];refine(bR (λj:Nat=>((j:Int),o1||orB (λj=>giO n Y B bo i j) j,mf n (mS v i j))) (i+1) (N:=N) (by omega) (out:=K ((((i+1:Nat)):Int),orB (λi=>orB (λj=>giO n Y B bo i j) (i+1)||gvO V C co i) (i+1),(vf n (gvV V C)).take (i+1)++List.replicate (n - (i+1)) (some 0),mf n (mS v (i+1) 0))) ?_ ?_:_)
  ·intro j hj K';have hj2:j<n:=by omega
   obtain⟨g1,g2⟩:=de (by omega:n<=1000) hi hj2;obtain⟨g3,g4⟩:=de (by omega:n<=1000) hj2 hi;have g5:=iU hi hj2;have g6:=iU hj2 hi;rw[<- bg]at g2 g4;have t1:Int.toNat ((i:Int)*(n:Int)+(j:Int))=i*n+j:=by rw[bg,Int.toNat_natCast]
   have t2:Int.toNat ((j:Int)*(n:Int)+(i:Int))=j*n+i:=by rw[bg,Int.toNat_natCast]
   have r1:inR ((i:Int)*(n:Int)+(j:Int)) (n*n)=true:=by rw[bg]; exact aj (by omega) (by omega)
   have r2:inR ((j:Int)*(n:Int)+(i:Int)) (n*n)=true:=by rw[bg]; exact aj (by omega) (by omega)
   have d1:decide (i*n+j<n*n)=true:=decide_eq_true g5;have d2:decide (j*n+i<n*n)=true:=decide_eq_true g6;have f1:ai .i64 ((j:Int)+1)=true:=ac (by omega) (by omega);unfold cM;dsimp only;have e:bL (Y.getD (i*n+j) none) (B i j)=v i j:=by rw[<- hv]; rfl
   have hst:∀(o:Bool) (k:Bool->Bool),kV N (v i j) o k=k (o || !aL (v i j)):=λo k=>FW1 _ o k (by rw[<- e]; exact iM _ _)
   rw[decide_eq_true (by omega:(j:Int)<(i:Int)+1),cond_true];simp only[g1,g2,g3,g4,t1,t2,r1,r2,d1,d2,f1,hY,j8,List.length_set,Bool.true_and,c1 i j _ _ hi hj2,e,hst];rw[qp n _ hi hj2,qp n _ hj2 hi,xa n v hj];have e2:((o1||orB (λj=>giO n Y B bo i j) j) || !aL (v i j))=(o1||orB (λj=>giO n Y B bo i j) (j+1)):=by
    rw[<- xf o1 (λj=>giO n Y B bo i j) j];unfold giO;rw[hv];have q:∀ i j,bo i j=false:=by rw[<- hbo]; intros; rfl
    simp only[q,Bool.false_or]
   rw[e2];rfl
  ·intro K';unfold cM;dsimp only;have hst:∀(o:Bool) (k:Bool->Bool),kV N (gvV V C i) o k=k (o || !aL (gvV V C i)):=λo k=>FW1 _ o k (iM _ _)
   have e:bL (V.getD i none) (C i)=gvV V C i:=rfl;have f1:ai .i64 ((i:Int)+1)=true:=ac (by omega) (by omega);have r1:inR (i:Int) n=true:=aj (by omega) (by omega);have d1:decide (i<n)=true:=decide_eq_true hi;rw[decide_eq_false (by omega:¬((i+1:Nat):Int)<(i:Int)+1),cond_false];simp only[hV,r1,d1,f1,Int.toNat_natCast,Bool.true_and,c2 i _ _ hi,e,hst,ng n (gvV V C) (i:=i) (by omega),Bt];rw[xj n (gvV V C) hi];have e2:((o1||orB (λj=>giO n Y B bo i j) (i+1)) || !aL (gvV V C i))=orB (λi=>orB (λj=>giO n Y B bo i j) (i+1)||gvO V C co i) (i+1):=by
    show _=(orB (λi=>orB (λj=>giO n Y B bo i j) (i+1)||gvO V C co i) i||_);rw[ho1];unfold gvO;have q:∀ i,co i=false:=by rw[<- hco]; intros; rfl
    simp only[q,Bool.false_or,Bool.or_assoc]
   rw[e2];rfl
 ·intro K;unfold cL;dsimp only;rw[decide_eq_false (by omega:¬(n:Int)<(n:Int)),cond_false,Bs,Nat.sub_self,List.replicate_zero,List.append_nil,List.take_of_length_le (by rw[jP]; omega),<- hv];exact oF hF hn Y V B C bo co _ _
theorem E6 {N n:Nat} (hF:Fuel N) (hn:n<=12) {Y V:List Fl} (hY:Y.length=n*n) (hV:V.length=n) {h:List Fl} (hh:h.length=n) (r z:Fl) (a0 a1:Int) (k0:Int->Int->Int->Bool) (k1:Int->Int->Int->List Fl->List Fl->Bool) :
  iX N a0 a1 Y V r z h k0 k1=gK n Y V (wB h r) (wC h r z) (wBo h r) (wCo h r z) k0 k1:=by
 have hN:=hF.lt;have hn2:n*n<=144:=yC hn;have FW1:∀(x:Fl) (o:Bool) (k:Bool->Bool),FW x->kV N x o k=k (o || !aL x):=λx o k h=>qm h o k
 have c1:∀(i j:Nat) (o:Bool) (k:Fl->Bool->Bool),i<n->j<n->bK N i j o r h k=k (wB h r i j) (o||wBo h r i j):=by
  intro i j o k hi hj
  (unfold bK; try rw[af]); unfold cI
  rw[hh,aa (aj (by omega) (by omega)),Int.toNat_natCast,aa (decide_eq_true hi),aa (aj (by omega) (by omega)),Int.toNat_natCast,aa (decide_eq_true hj),w_,FW1 _ _ _ (q7 _ _),Bool.or_assoc];rfl
 have c2:∀(i:Nat) (o:Bool) (k:Fl->Bool->Bool),i<n->bH N i 0 o z r h k=k (wC h r z i) (o||wCo h r z i):=by
  intro i o k hi
  (unfold bH; try rw[af]); unfold cl
  rw[hh,aa (aj (by omega) (by omega)),Int.toNat_natCast,aa (decide_eq_true hi),w_,FW1 _ _ _ (q7 _ _),Bool.or_assoc];rfl
 (unfold iX; rw[af]; unfold iQ)
 rw[hV,<- Int.natCast_mul,aa (ac (by omega) (by omega)),aa (bQ (by omega) (by omega) (by omega) (by omega)),aa (bQ (by omega) (by omega) (by omega) (by omega)),Int.toNat_natCast,Int.toNat_natCast,xc];generalize hB:(wB h r)=B at *;generalize hbo:(wBo h r)=bo at *;generalize hC:(wC h r z)=C at *;generalize hco:(wCo h r z)=co at *;generalize hv:giV n Y B=v;rw[xb n v];have h0:((0,false,List.replicate n (some 0),mf n (mS v 0 0)):Int × Bool × List Fl × List Fl)=(λi:Nat=>((i:Int),orB (λi=>orB (λj=>giO n Y B bo i j) (i+1)||gvO V C co i) i,(vf n (gvV V C)).take i++List.replicate (n - i) (some 0),mf n (mS v i 0))) 0:=rfl;rw[h0];refine bR (λi:Nat=>((i:Int),orB (λi=>orB (λj=>giO n Y B bo i j) (i+1)||gvO V C co i) i,(vf n (gvV V C)).take i++List.replicate (n - i) (some 0),mf n (mS v i 0))) n (by omega) ?_ ?_
 ·intro i hi K;unfold dB;dsimp only;rw[decide_eq_true (by omega:(i:Int)<(n:Int)),cond_true,aa (ac (by omega) (by omega))];generalize ho1:orB (λi=>orB (λj=>giO n Y B bo i j) (i+1)||gvO V C co i) i=o1;have h1:((0,o1,mf n (mS v i 0)):Int × Bool × List Fl)=(λj:Nat=>((j:Int),o1||orB (λj=>giO n Y B bo i j) j,mf n (mS v i j))) 0:=by show _=(((0:Nat):Int),o1||false,_); rw[Np]; rfl
  rw[h1];refine(bR (λj:Nat=>((j:Int),o1||orB (λj=>giO n Y B bo i j) j,mf n (mS v i j))) (i+1) (N:=N) (by omega) (out:=K ((((i+1:Nat)):Int),orB (λi=>orB (λj=>giO n Y B bo i j) (i+1)||gvO V C co i) (i+1),(vf n (gvV V C)).take (i+1)++List.replicate (n - (i+1)) (some 0),mf n (mS v (i+1) 0))) ?_ ?_:_)
  ·intro j hj K';have hj2:j<n:=by omega
   obtain⟨g1,g2⟩:=de (by omega:n<=1000) hi hj2;obtain⟨g3,g4⟩:=de (by omega:n<=1000) hj2 hi;have g5:=iU hi hj2;have g6:=iU hj2 hi;rw[<- bg]at g2 g4;have t1:Int.toNat ((i:Int)*(n:Int)+(j:Int))=i*n+j:=by rw[bg,Int.toNat_natCast]
   have t2:Int.toNat ((j:Int)*(n:Int)+(i:Int))=j*n+i:=by rw[bg,Int.toNat_natCast]
   have r1:inR ((i:Int)*(n:Int)+(j:Int)) (n*n)=true:=by rw[bg]; exact aj (by omega) (by omega)
   have r2:inR ((j:Int)*(n:Int)+(i:Int)) (n*n)=true:=by rw[bg]; exact aj (by omega) (by omega)
   have d1:decide (i*n+j<n*n)=true:=decide_eq_true g5;have d2:decide (j*n+i<n*n)=true:=decide_eq_true g6;have f1:ai .i64 ((j:Int)+1)=true:=ac (by omega) (by omega);unfold dC;dsimp only;have e:bL (Y.getD (i*n+j) none) (B i j)=v i j:=by rw[<- hv]; rfl
   have hst:∀(o:Bool) (k:Bool->Bool),kV N (v i j) o k=k (o || !aL (v i j)):=λo k=>FW1 _ o k (by rw[<- e]; exact iM _ _)
   rw[decide_eq_true (by omega:(j:Int)<(i:Int)+1),cond_true];simp only[g1,g2,g3,g4,t1,t2,r1,r2,d1,d2,f1,hY,j8,List.length_set,Bool.true_and,c1 i j _ _ hi hj2,e,hst];rw[qp n _ hi hj2,qp n _ hj2 hi,xa n v hj];have e2:((o1||orB (λj=>giO n Y B bo i j) j||bo i j) || !aL (v i j))=(o1||orB (λj=>giO n Y B bo i j) (j+1)):=by rw[<- xf o1 (λj=>giO n Y B bo i j) j];unfold giO;rw[hv];simp only[Bool.or_assoc]
   rw[e2];rfl
  ·intro K';unfold dC;dsimp only;have hst:∀(o:Bool) (k:Bool->Bool),kV N (gvV V C i) o k=k (o || !aL (gvV V C i)):=λo k=>FW1 _ o k (iM _ _)
   have e:bL (V.getD i none) (C i)=gvV V C i:=rfl;have f1:ai .i64 ((i:Int)+1)=true:=ac (by omega) (by omega);have r1:inR (i:Int) n=true:=aj (by omega) (by omega);have d1:decide (i<n)=true:=decide_eq_true hi;rw[decide_eq_false (by omega:¬((i+1:Nat):Int)<(i:Int)+1),cond_false];simp only[hV,r1,d1,f1,Int.toNat_natCast,Bool.true_and,c2 i _ _ hi,e,hst,ng n (gvV V C) (i:=i) (by omega),Bt];rw[xj n (gvV V C) hi];have e2:((o1||orB (λj=>giO n Y B bo i j) (i+1)||co i) || !aL (gvV V C i))=orB (λi=>orB (λj=>giO n Y B bo i j) (i+1)||gvO V C co i) (i+1):=by show _=(orB (λi=>orB (λj=>giO n Y B bo i j) (i+1)||gvO V C co i) i||_);rw[ho1];unfold gvO;simp only[Bool.or_assoc]
   rw[e2];rfl
 ·intro K;unfold dB;dsimp only;rw[decide_eq_false (by omega:¬(n:Int)<(n:Int)),cond_false,Bs,Nat.sub_self,List.replicate_zero,List.append_nil,List.take_of_length_le (by rw[jP]; omega),<- hv];exact oF hF hn Y V B C bo co _ _
theorem zz {N n:Nat} (hF:Fuel N) (hn:n<=12) {Y V:List Fl} (hY:Y.length=n*n) (hV:V.length=n) {h:List Fl} (hh:h.length=n) (r z:Fl) (a0 a1:Int) (k0:Int->Int->Int->Bool) (k1:Int->Int->Int->List Fl->List Fl->Bool) :
  fO N a0 a1 Y V r z h k0 k1=gK n Y V (wB h r) (wC h r z) (wBo h r) (wCo h r z) k0 k1:=by
 have hN:=hF.lt;have hn2:n*n<=144:=yC hn;have FW1:∀(x:Fl) (o:Bool) (k:Bool->Bool),FW x->kV N x o k=k (o || !aL x):=λx o k h=>qm h o k
 have c1:∀(i j:Nat) (o:Bool) (k:Fl->Bool->Bool),i<n->j<n->bK N i j o r h k=k (wB h r i j) (o||wBo h r i j):=by
  intro i j o k hi hj
  (unfold bK; try rw[af]); unfold cI
  rw[hh,aa (aj (by omega) (by omega)),Int.toNat_natCast,aa (decide_eq_true hi),aa (aj (by omega) (by omega)),Int.toNat_natCast,aa (decide_eq_true hj),w_,FW1 _ _ _ (q7 _ _),Bool.or_assoc];rfl
 have c2:∀(i:Nat) (o:Bool) (k:Fl->Bool->Bool),i<n->bH N i 0 o z r h k=k (wC h r z i) (o||wCo h r z i):=by
  intro i o k hi
  (unfold bH; try rw[af]); unfold cl
  rw[hh,aa (aj (by omega) (by omega)),Int.toNat_natCast,aa (decide_eq_true hi),w_,FW1 _ _ _ (q7 _ _),Bool.or_assoc];rfl
 (unfold fO; rw[af]; unfold fK)
 rw[hV,<- Int.natCast_mul,aa (ac (by omega) (by omega)),aa (bQ (by omega) (by omega) (by omega) (by omega)),aa (bQ (by omega) (by omega) (by omega) (by omega)),Int.toNat_natCast,Int.toNat_natCast,xc];generalize hB:(wB h r)=B at *;generalize hbo:(wBo h r)=bo at *;generalize hC:(wC h r z)=C at *;generalize hco:(wCo h r z)=co at *;generalize hv:giV n Y B=v;rw[xb n v];have h0:((0,false,List.replicate n (some 0),mf n (mS v 0 0)):Int × Bool × List Fl × List Fl)=(λi:Nat=>((i:Int),orB (λi=>orB (λj=>giO n Y B bo i j) (i+1)||gvO V C co i) i,(vf n (gvV V C)).take i++List.replicate (n - i) (some 0),mf n (mS v i 0))) 0:=rfl;rw[h0];refine bR (λi:Nat=>((i:Int),orB (λi=>orB (λj=>giO n Y B bo i j) (i+1)||gvO V C co i) i,(vf n (gvV V C)).take i++List.replicate (n - i) (some 0),mf n (mS v i 0))) n (by omega) ?_ ?_
 ·intro i hi K;unfold cN;dsimp only;rw[decide_eq_true (by omega:(i:Int)<(n:Int)),cond_true,aa (ac (by omega) (by omega))];generalize ho1:orB (λi=>orB (λj=>giO n Y B bo i j) (i+1)||gvO V C co i) i=o1;have h1:((0,o1,mf n (mS v i 0)):Int × Bool × List Fl)=(λj:Nat=>((j:Int),o1||orB (λj=>giO n Y B bo i j) j,mf n (mS v i j))) 0:=by show _=(((0:Nat):Int),o1||false,_); rw[Np]; rfl
  rw[h1];refine(bR (λj:Nat=>((j:Int),o1||orB (λj=>giO n Y B bo i j) j,mf n (mS v i j))) (i+1) (N:=N) (by omega) (out:=K ((((i+1:Nat)):Int),orB (λi=>orB (λj=>giO n Y B bo i j) (i+1)||gvO V C co i) (i+1),(vf n (gvV V C)).take (i+1)++List.replicate (n - (i+1)) (some 0),mf n (mS v (i+1) 0))) ?_ ?_:_)
  ·intro j hj K';have hj2:j<n:=by omega
   obtain⟨g1,g2⟩:=de (by omega:n<=1000) hi hj2;obtain⟨g3,g4⟩:=de (by omega:n<=1000) hj2 hi;have g5:=iU hi hj2;have g6:=iU hj2 hi;rw[<- bg]at g2 g4;have t1:Int.toNat ((i:Int)*(n:Int)+(j:Int))=i*n+j:=by rw[bg,Int.toNat_natCast]
   have t2:Int.toNat ((j:Int)*(n:Int)+(i:Int))=j*n+i:=by rw[bg,Int.toNat_natCast]
   have r1:inR ((i:Int)*(n:Int)+(j:Int)) (n*n)=true:=by rw[bg]; exact aj (by omega) (by omega)
   have r2:inR ((j:Int)*(n:Int)+(i:Int)) (n*n)=true:=by rw[bg]; exact aj (by omega) (by omega)
   have d1:decide (i*n+j<n*n)=true:=decide_eq_true g5;have d2:decide (j*n+i<n*n)=true:=decide_eq_true g6;have f1:ai .i64 ((j:Int)+1)=true:=ac (by omega) (by omega);unfold cO;dsimp only;have e:bL (Y.getD (i*n+j) none) (B i j)=v i j:=by rw[<- hv]; rfl
   have hst:∀(o:Bool) (k:Bool->Bool),kV N (v i j) o k=k (o || !aL (v i j)):=λo k=>FW1 _ o k (by rw[<- e]; exact iM _ _)
   rw[decide_eq_true (by omega:(j:Int)<(i:Int)+1),cond_true];simp only[g1,g2,g3,g4,t1,t2,r1,r2,d1,d2,f1,hY,j8,List.length_set,Bool.true_and,c1 i j _ _ hi hj2,e,hst];rw[qp n _ hi hj2,qp n _ hj2 hi,xa n v hj];have e2:((o1||orB (λj=>giO n Y B bo i j) j||bo i j) || !aL (v i j))=(o1||orB (λj=>giO n Y B bo i j) (j+1)):=by rw[<- xf o1 (λj=>giO n Y B bo i j) j];unfold giO;rw[hv];simp only[Bool.or_assoc]
   rw[e2];rfl
  ·intro K';unfold cO;dsimp only;have hst:∀(o:Bool) (k:Bool->Bool),kV N (gvV V C i) o k=k (o || !aL (gvV V C i)):=λo k=>FW1 _ o k (iM _ _)
   have e:bL (V.getD i none) (C i)=gvV V C i:=rfl;have f1:ai .i64 ((i:Int)+1)=true:=ac (by omega) (by omega);have r1:inR (i:Int) n=true:=aj (by omega) (by omega);have d1:decide (i<n)=true:=decide_eq_true hi;rw[decide_eq_false (by omega:¬((i+1:Nat):Int)<(i:Int)+1),cond_false];simp only[hV,r1,d1,f1,Int.toNat_natCast,Bool.true_and,c2 i _ _ hi,e,hst,ng n (gvV V C) (i:=i) (by omega),Bt];rw[xj n (gvV V C) hi];have e2:((o1||orB (λj=>giO n Y B bo i j) (i+1)||co i) || !aL (gvV V C i))=orB (λi=>orB (λj=>giO n Y B bo i j) (i+1)||gvO V C co i) (i+1):=by show _=(orB (λi=>orB (λj=>giO n Y B bo i j) (i+1)||gvO V C co i) i||_);rw[ho1];unfold gvO;simp only[Bool.or_assoc]
   rw[e2];rfl
 ·intro K;unfold cN;dsimp only;rw[decide_eq_false (by omega:¬(n:Int)<(n:Int)),cond_false,Bs,Nat.sub_self,List.replicate_zero,List.append_nil,List.take_of_length_le (by rw[jP]; omega),<- hv];exact oF hF hn Y V B C bo co _ _
theorem ifz {α:Sort _} {a:Int} {A B:α} (h:a=0):(if a ≠ 0 then A else B)=B:=if_neg λq=>q h
theorem wH {α:Sort _} {a:Int} {A B:α} (h:¬ a=0):(if a ≠ 0 then A else B)=A:=if_pos h
abbrev KI:=Int->Int->List Fl->List Fl->Int->Bool
def upI (Y V h:List Fl) (r z:Fl) (rr cc:Int) (k:KI):Bool:=
 if eZ V rr cc Y ≠ 0 then k 0 0 [] [] (eZ V rr cc Y)else if yv V.length h r z ≠ 0 then k 0 0 [] [] (yv V.length h r z)else
 gK V.length Y V (wB h r) (wC h r z) (wBo h r) (wCo h r z) (λa b e=>k a b [] [] e) (λa b e M v=>k a b M v e)
def joI (Y V bY bV:List Fl) (rr cc br bc:Int) (k:KI):Bool:=
 if eZ V rr cc Y ≠ 0 then k 0 0 [] [] (eZ V rr cc Y)else if eZ bV br bc bY ≠ 0 then k 0 0 [] [] (eZ bV br bc bY)else
 if ((V.length:Nat):Int) ≠ ((bV.length:Nat):Int)then k 0 0 [] [] 3 else
 gK V.length Y V (jB V.length bY) (jC bV) nob noc (λa b e=>k a b [] [] e) (λa b e M v=>k a b M v e)
theorem yw {n:Int} {h:List Fl} {r z:Fl} (q:yv n h r z=0):(h.length:Int)=n:=(H8 q).1
theorem tV {N:Nat} (hF:Fuel N) (Y V:List Fl) {h:List Fl} (hh:ek N h.length) (r z:Fl) (rr cc:Int) (hw:AllW Y) (k:KI) :
  kX N rr cc Y V r z h k=upI Y V h r z rr cc k:=by
 have hN:=hF.lt
 (unfold kX; try rw[af]); unfold kQ upI
 rw[j5 hF _ _ _ _ hw];by_cases h0:eZ V rr cc Y=0
 ·obtain⟨n,hn,rfl,rfl,hx,hl,-⟩:=eB (cb.1 h0);rw[ifz h0,h0,show((0:Int) != 0)=false from rfl,cond_false,Dh _ _ _ _ hh (by omega)];by_cases h1:yv V.length h r z=0
  ·rw[ifz h1,h1,show((0:Int) != 0)=false from rfl,cond_false];have h2:h.length=V.length:=by have:=yw h1; omega
   have hl':Y.length=V.length*V.length:=by rw[hx]; exact hl
   rw[E6 hF (n:=V.length) (by omega) hl' rfl h2]
  ·rw[wH h1,fh _ _ h1,cond_true]
 ·rw[wH h0,fh _ _ h0,cond_true]
theorem jU {N:Nat} (hF:Fuel N) (Y V:List Fl) {h:List Fl} (hh:ek N h.length) (r z:Fl) (rr cc:Int) (hw:AllW Y) (k:KI) :
  iq N rr cc r z Y V h k=upI Y V h r z rr cc k:=by
 have hN:=hF.lt
 (unfold iq; try rw[af]); unfold il upI
 rw[j5 hF _ _ _ _ hw];by_cases h0:eZ V rr cc Y=0
 ·obtain⟨n,hn,rfl,rfl,hx,hl,-⟩:=eB (cb.1 h0);rw[ifz h0,h0,show((0:Int) != 0)=false from rfl,cond_false,Dh _ _ _ _ hh (by omega)];by_cases h1:yv V.length h r z=0
  ·rw[ifz h1,h1,show((0:Int) != 0)=false from rfl,cond_false];have h2:h.length=V.length:=by have:=yw h1; omega
   have hl':Y.length=V.length*V.length:=by rw[hx]; exact hl
   rw[zz hF (n:=V.length) (by omega) hl' rfl h2]
  ·rw[wH h1,fh _ _ h1,cond_true]
 ·rw[wH h0,fh _ _ h0,cond_true]
theorem fL {N:Nat} (hF:Fuel N) (Y V bY bV:List Fl) (rr cc br bc:Int) (hw:AllW Y) (hb:AllW bY) (k:KI) :
  d9 N rr cc br bc Y V bY bV k=joI Y V bY bV rr cc br bc k:=by
 have hN:=hF.lt
 (unfold d9; try rw[af]); unfold ik joI
 rw[j5 hF _ _ _ _ hw];by_cases h0:eZ V rr cc Y=0
 ·obtain⟨n,hn,rfl,rfl,hx,hl,-⟩:=eB (cb.1 h0);rw[ifz h0,h0,show((0:Int) != 0)=false from rfl,cond_false,j5 hF _ _ _ _ hb];by_cases h1:eZ bV br bc bY=0
  ·obtain⟨m,hm,rfl,rfl,hbx,hbl,-⟩:=eB (cb.1 h1);rw[ifz h1,h1,show((0:Int) != 0)=false from rfl,cond_false];by_cases h2:((V.length:Nat):Int)=((bV.length:Nat):Int)
   ·have h3:V.length=bV.length:=by omega
    rw[show((((V.length:Nat):Int) != ((bV.length:Nat):Int))=false) by simp[h2],cond_false,if_neg (λq=>q h2)];have hl':Y.length=V.length*V.length:=by rw[hx]; exact hl
    have hbl':bY.length=V.length*V.length:=by rw[h3,hbx]; exact hbl
    rw[wK hF (n:=V.length) (by omega) hl' rfl hbl' h3.symm]
   ·rw[fh _ _ h2,cond_true,if_pos h2]
  ·rw[wH h1,fh _ _ h1,cond_true]
 ·rw[wH h0,fh _ _ h0,cond_true]
theorem tU {N:Nat} (hF:Fuel N) (Y V bY bV:List Fl) (rr cc br bc:Int) (hw:AllW Y) (hb:AllW bY) (k:KI) :
  kW N rr cc br bc bY bV Y V k=joI Y V bY bV rr cc br bc k:=by
 have hN:=hF.lt
 (unfold kW; try rw[af]); unfold kP joI
 rw[j5 hF _ _ _ _ hw];by_cases h0:eZ V rr cc Y=0
 ·obtain⟨n,hn,rfl,rfl,hx,hl,-⟩:=eB (cb.1 h0);rw[ifz h0,h0,show((0:Int) != 0)=false from rfl,cond_false,j5 hF _ _ _ _ hb];by_cases h1:eZ bV br bc bY=0
  ·obtain⟨m,hm,rfl,rfl,hbx,hbl,-⟩:=eB (cb.1 h1);rw[ifz h1,h1,show((0:Int) != 0)=false from rfl,cond_false];by_cases h2:((V.length:Nat):Int)=((bV.length:Nat):Int)
   ·have h3:V.length=bV.length:=by omega
    rw[show((((V.length:Nat):Int) != ((bV.length:Nat):Int))=false) by simp[h2],cond_false,if_neg (λq=>q h2)];have hl':Y.length=V.length*V.length:=by rw[hx]; exact hl
    have hbl':bY.length=V.length*V.length:=by rw[h3,hbx]; exact hbl
    rw[zy hF (n:=V.length) (by omega) hl' rfl hbl' h3.symm]
   ·rw[fh _ _ h2,cond_true,if_pos h2]
  ·rw[wH h1,fh _ _ h1,cond_true]
 ·rw[wH h0,fh _ _ h0,cond_true]
def AW (n:Nat) (x p:List Fl):Prop:=n<=12/\x.length=n/\p.length=n*n/\bF x=true/\bF p=true/\pb n p=true/\zD n p=true/\AllW p
theorem En {l:List Fl}:bF l=true ↔ ∀ i,i<l.length->aL (l.getD i none)=true:=by unfold bF;exact gu
theorem Cm {x:List Fl} {r c:Int} {p:List Fl} (h:tR x r c p=0) (hw:AllW p):∃ n:Nat,r=n/\c=n/\AW n x p:=by obtain⟨n,h1,h2,h3,h4,h5,h6,h7,h8,h9⟩:=eB h;exact⟨n,h2,h3,h1,h4,h5,h6,h7,h8,h9,hw⟩
theorem K3 {n:Nat} (v:Nat->Nat->Fl):pb n (mf n (mir v))=true:=by
 unfold pb;refine gu.2 λi hi=>gu.2 λj hj=>?_
 have hj2:j<n:=by omega
 rw[uY n _ hi hj2,uY n _ hj2 hi];have:mir v i j=mir v j i:=by unfold mir;rw[if_pos (by omega),if_neg (by omega)]
 rw[this];exact decide_eq_true rfl
theorem Gd (n:Nat) (hn:n<=12) (Y V:List Fl) (B:Nat->Nat->Fl) (C:Nat->Fl) (bo:Nat->Nat->Bool) (co:Nat->Bool) :
  (∃ e:Int,e ≠ 0 /\ ∀ k0 k1,gK n Y V B C bo co k0 k1=k0 0 0 e) \/
  (AW n (gV n V C) (gM n Y B)/\pG n Y V B C bo co=false /\ ∀ k0 k1,gK n Y V B C bo co k0 k1=k1 n n 0 (gM n Y B) (gV n V C)):=by
 unfold gK;cases h:pG n Y V B C bo co
 ·cases h4:zD n (gM n Y B)
  ·exact .inl ⟨170,by decide,λ_ _=>rfl⟩
  ·obtain⟨h1,h2⟩:=nE h;exact .inr ⟨⟨hn,jP _ _,j8 _ _,En.2 (Rz (P:=λx=>aL x=true) λi hi=>(h2 i hi).2),K2 (Gu λa b ha hb=>(h1 a b ha hb).2),K3 _,h4,So (Ot λa b=>iM _ _)⟩,rfl,λ_ _=>rfl⟩
 ·exact .inl ⟨5,by decide,λ_ _=>rfl⟩
theorem AO (Y V h:List Fl) (r z:Fl) (rr cc:Int) :
  (∃ e:Int,e ≠ 0 /\ ∀ k,upI Y V h r z rr cc k=k 0 0 [] [] e) \/
  (∃ n:Nat,rr=n/\tR V rr cc Y=0/\V.length=n/\yv n h r z=0/\pG n Y V (wB h r) (wC h r z) (wBo h r) (wCo h r z)=false/\AW n (gV n V (wC h r z)) (gM n Y (wB h r)) /\
   ∀ k,upI Y V h r z rr cc k=k n n (gM n Y (wB h r)) (gV n V (wC h r z)) 0):=by
 unfold upI;by_cases h0:eZ V rr cc Y=0
 ·obtain⟨n,hn,e1,rfl,hx,hl,-⟩:=eB (cb.1 h0);by_cases h1:yv V.length h r z=0
  ·rcases Gd V.length (by omega) Y V (wB h r) (wC h r z) (wBo h r) (wCo h r z)with⟨e,he,q⟩ | ⟨hT,ha,q⟩
   ·exact .inl ⟨e,he,λk=>by rw[ifz h0,ifz h1,q]⟩
   ·refine .inr ⟨n,e1,cb.1 h0,hx,?_,?_,?_,λk=>?_⟩
    ·rw[<- hx]; exact h1
    ·rw[<- hx]; exact ha
    ·rw[<- hx]; exact hT
    ·rw[ifz h0,ifz h1,q,hx]
  ·exact .inl ⟨_,h1,λk=>by rw[ifz h0,wH h1]⟩
 ·exact .inl ⟨_,h0,λk=>by rw[wH h0]⟩
theorem Af (Y V bY bV:List Fl) (rr cc br bc:Int) :
  (∃ e:Int,e ≠ 0 /\ ∀ k,joI Y V bY bV rr cc br bc k=k 0 0 [] [] e) \/
  (∃ n:Nat,rr=n/\tR V rr cc Y=0/\tR bV br bc bY=0/\V.length=n/\bV.length=n/\pG n Y V (jB n bY) (jC bV) nob noc=false/\AW n (gV n V (jC bV)) (gM n Y (jB n bY)) /\
   ∀ k,joI Y V bY bV rr cc br bc k=k n n (gM n Y (jB n bY)) (gV n V (jC bV)) 0):=by
 unfold joI;by_cases h0:eZ V rr cc Y=0
 ·obtain⟨n,hn,e1,rfl,hx,hl,-⟩:=eB (cb.1 h0);by_cases h1:eZ bV br bc bY=0
  ·by_cases h2:((V.length:Nat):Int) ≠ ((bV.length:Nat):Int)
   ·exact .inl ⟨3,by decide,λk=>by rw[ifz h0,ifz h1,if_pos h2]⟩
   ·rcases Gd V.length (by omega) Y V (jB V.length bY) (jC bV) nob noc with⟨e,he,q⟩ | ⟨hT,ha,q⟩
    ·exact .inl ⟨e,he,λk=>by rw[ifz h0,ifz h1,if_neg h2,q]⟩
    ·refine .inr ⟨n,e1,cb.1 h0,cb.1 h1,hx,by omega,?_,?_,λk=>?_⟩
     ·rw[<- hx]; exact ha
     ·rw[<- hx]; exact hT
     ·rw[ifz h0,ifz h1,if_neg h2,q,hx]
  ·exact .inl ⟨_,h1,λk=>by rw[ifz h0,wH h1]⟩
 ·exact .inl ⟨_,h0,λk=>by rw[wH h0]⟩
theorem KD {N:Nat} (b:Bool) (n:Nat) (hN:dq N (ah n)) (k:Bool->List Int->Bool):Lq N false b (ah n) k=k false (ah n):=by
 (unfold Lq; rw[af]; unfold Jd GJ Jb)
 obtain⟨h1,h2⟩:=hN;rw[List.nil_append,decide_eq_true (by omega),Bool.true_and,gZ _ (by omega) (by omega),tJ];simp only[List.drop_zero,List.take_length];rw[decide_eq_true (by omega:0+(ah n).length<=(ah n).length),Bool.true_and];rfl
theorem HF {N:Nat} (hN:1000<=N) {E B:Nat} {x:Int × Int} (hx:Ex E B x) (hB:B<=31000) (k:Bool->List Int->Bool):sQ2 N x.1 (decide (x.2<0)) (ah x.2.natAbs) k=k false (ah x.2.natAbs):=by unfold sQ2 GQ2;rw[KD _ _ (iT hN hB hx.2.2)]
theorem HH {N:Nat} (hN:1000<=N) {E B:Nat} {x:Int × Int} (hx:Ex E B x) (hB:B<=31000) (k:Bool->List Int->Bool):It N x.1 (decide (x.2<0)) (ah x.2.natAbs) k=mB (vS x).2 k:=by unfold It OX;rw[Am _ _ _ (iT hN hB hx.2.2),l7];rfl
theorem zg {x:Fl} (hx:aL x=true):rv x=((mD x:Int):Rat)*Ue Sp:=by
 obtain⟨b,s,m,i,rfl,h⟩:=gz hx;rw[BF h,D6 h];have:(i+(Sc:Int)).toNat=(i+1074).toNat:=by have:=JC; have:=Oa; omega
 rw[this]
theorem Ex.mn {E F B C:Nat} {x:Int × Int} (h:Ex E B x) (h1:E<=F) (h2:B<=C):Ex F C x:=⟨by have:=h.1; omega,by have:=h.2.1; omega,bJ h.2.2 h2⟩
def rU (x:Int × Int):Int × Int:=(x.1,((x.2.natAbs:Nat):Int))
theorem ov {E B:Nat} {x:Int × Int} (h:Ex E B x):Ex E B (rU x):=⟨h.1,h.2.1,by show aK B ((x.2.natAbs:Nat):Int).natAbs; rw[Int.natAbs_natCast]; exact h.2.2⟩
theorem CK {E B:Nat} {x:Int × Int} (h:Ex E B x):Ex E B (vS x):=⟨h.1,h.2.1,by show aK B (-x.2).natAbs; rw[Int.natAbs_neg]; exact h.2.2⟩
theorem oB {N:Nat} (hN:1000<=N) {E B:Nat} {x:Int × Int} (hx:Ex E B x) (hB:B<=31000) (F:Int->Bool->List Int->Bool):sQ2 N x.1 (decide (x.2<0)) (ah x.2.natAbs) (F x.1)=exK (rU x) F:=by rw[HF hN hx hB];unfold exK rU;have h:((x.2.natAbs:Nat):Int).natAbs=x.2.natAbs:=Int.natAbs_natCast _;dsimp only;rw[h,decide_eq_false (by omega:¬((x.2.natAbs:Nat):Int)<0)]
def nT (N:Nat) (e1:Int) (g1:Bool) (l1:List Int) (k0:Bool->Bool):Int->Bool->List Int->Bool:=λe g l=>
 jA N 5 (λa b c=>sQ0 N e a g l b c (λa2 b2 c2=>jz N (-53) (λb3 c3=>sQ0 N a2 (-53) b2 c2 b3 c3 (λa4 b4 c4=>sQ1 N e1 a4 g1 l1 b4 c4 (λnr=>k0 (decide (nr<=0)))))))
def nC (N:Nat) (c:Fl) (T:Int->Bool->List Int->Bool):Int->Bool->List Int->Bool:=λe g l=>
 e_ N c (λe5 g5 l5=>sQ2 N e5 g5 l5 (λg6 l6=>sQ3 N e e5 g l g6 l6 (T e5 g6 l6) (T e g l) T))
def nB (N:Nat) (a b c:Fl) (k0:Bool->Bool):Int->Bool->List Int->Bool:=λe1 g1 l1=>
 e_ N a (λe3 g3 l3=>sQ2 N e3 g3 l3 (λg8 l8=>e_ N b (λe4 g9 l9=>sQ2 N e4 g9 l9 (λg10 l10=>
  sQ3 N e3 e4 g8 l8 g10 l10 (nC N c (nT N e1 g1 l1 k0) e4 g10 l10) (nC N c (nT N e1 g1 l1 k0) e3 g8 l8) (nC N c (nT N e1 g1 l1 k0))))))
theorem Nh (N:Nat) (x y a b c:Fl) (k0:Bool->Bool):OW N x y a b c k0 =
  e_ N x (λe g l=>e_ N y (λe1 g1 l1=>It N e1 g1 l1 (λg2 l2=>sQ3 N e e1 g l g2 l2
   (sQ2 N e1 g2 l2 (λg3 l3=>nB N a b c k0 e1 g3 l3)) (sQ2 N e g l (λg4 l4=>nB N a b c k0 e g4 l4)) (λe2 g5 l5=>sQ2 N e2 g5 l5 (λg6 l6=>nB N a b c k0 e2 g6 l6))))):=rfl
def nP (A:Int × Int):Int × Int:=mN (mN A (0,5)) (-53,1)
theorem Ga:Ex 1100 10 ((0,5):Int × Int):=⟨by decide,by decide,by unfold aK; decide⟩
theorem Ld:Ex 1100 10 ((-53,1):Int × Int):=⟨by decide,by decide,by unfold aK; decide⟩
theorem KF {N:Nat} (hN:1000<=N) (n:Nat) (hn:n<1000) (k:Bool->List Int->Bool):yK N (n:Int) k=k false (ah n):=sU n (by omega) (kO hN (by omega)) (by omega) k
theorem CJ {E F B C:Nat} {x y:Int × Int} (hx:Ex E B x) (hy:Ex F C y):Ex (E+F) (B+C) (mN x y):=by
 refine⟨?_,?_,?_⟩
 ·have h1:=hx.1; have h2:=hy.1; show -((E+F:Nat):Int)<=x.1+y.1; omega
 ·have h1:=hx.2.1; have h2:=hy.2.1; show x.1+y.1<=((E+F:Nat):Int); omega
 ·show aK (B+C) (x.2*y.2).natAbs;rw[Int.natAbs_mul];exact dd hx.2.2 hy.2.2
theorem QU {N:Nat} (hN:1000<=N) {O A:Int × Int} (hO:Ex 1100 2110 O) (hA:Ex 1100 2110 A) (k0:Bool->Bool) :
  exK A (nT N O.1 (decide (O.2<0)) (ah O.2.natAbs) k0)=k0 (decide (nS (jQ O (vS (nP A))).2<=0)):=by
 have hw:∀ k,jA N 5 k=k 0 (decide ((5:Int)<0)) (ah (5:Int).natAbs):=λk=>KF hN 5 (by decide) _
 have hp:∀ k,jz N (-53) k=k (decide ((1:Int)<0)) (ah (1:Int).natAbs):=λk=>KF hN 1 (by decide) _
 have m1:=CJ hA Ga;have m2:=CJ m1 Ld;unfold exK nT
 try dsimp only
 rw[hw];refine(Aj (x:=A) (y:=(0,5)) hN (hA.mn (F:=5000) (C:=5000) (by omega) (by omega)) (Ga.mn (by omega) (by omega)) (by omega) (by omega) _).trans ?_;unfold exK
 try dsimp only
 rw[hp];refine(Aj (x:=mN A (0,5)) (y:=(-53,1)) hN (m1.mn (F:=5000) (C:=5000) (by omega) (by omega)) (Ld.mn (by omega) (by omega)) (by omega) (by omega) _).trans ?_;exact HG (x:=O) (y:=nP A) hN (hO.mn (F:=5000) (C:=5000) (by omega) (by omega)) (m2.mn (by omega) (by omega)) (by omega) (λnr=>k0 (decide (nr<=0)))
theorem QT {N:Nat} (hN:1000<=N) {P:Int × Int} (hP:Ex 1100 2110 P) {c:Fl} (hc:aL c=true) (wc:FW c) (T:Int->Bool->List Int->Bool) :
  exK P (nC N c T)=exK (jQ P (rU (ofE c))) T:=by
 have h1:=(mj hc).mn (F:=1100) (C:=2110) (by omega) (by omega);unfold nC
 conv=>lhs; unfold exK
 try dsimp only
 rw[uT hN hc wc]
 conv=>lhs; unfold exK
 try dsimp only
 refine(oB hN h1 (by omega) (λe5 g6 l6=>sQ3 N P.1 e5 (decide (P.2<0)) (ah P.2.natAbs) g6 l6 (T e5 g6 l6) (T P.1 (decide (P.2<0)) (ah P.2.natAbs)) T)).trans ?_
 conv=>lhs; unfold exK
 try dsimp only
 exact rD hN hP (ov h1) (by omega) _ _ T rfl rfl
theorem QS {N:Nat} (hN:1000<=N) {O:Int × Int} {a b c:Fl} (ha:aL a=true) (wa:FW a) (hb:aL b=true) (wb:FW b) (hc:aL c=true) (wc:FW c)
  (hP:Ex 1100 2110 (jQ (rU (ofE a)) (rU (ofE b)))) (k0:Bool->Bool) :
  exK O (nB N a b c k0)=exK (jQ (jQ (rU (ofE a)) (rU (ofE b))) (rU (ofE c))) (nT N O.1 (decide (O.2<0)) (ah O.2.natAbs) k0):=by
 have h1:=(mj ha).mn (F:=1100) (C:=2110) (by omega) (by omega);have h2:=(mj hb).mn (F:=1100) (C:=2110) (by omega) (by omega);generalize hT:nT N O.1 (decide (O.2<0)) (ah O.2.natAbs) k0=T;unfold nB
 conv=>lhs; unfold exK
 try dsimp only
 rw[hT,uT hN ha wa]
 conv=>lhs; unfold exK
 try dsimp only
 refine(oB hN h1 (by omega) (λe3 g8 l8=>e_ N b (λe4 g9 l9=>sQ2 N e4 g9 l9 (λg10 l10=>
  sQ3 N e3 e4 g8 l8 g10 l10 (nC N c T e4 g10 l10) (nC N c T e3 g8 l8) (nC N c T))))).trans ?_
 conv=>lhs; unfold exK
 try dsimp only
 rw[uT hN hb wb]
 conv=>lhs; unfold exK
 try dsimp only
 refine(oB hN h2 (by omega) (λe4 g10 l10=>
  sQ3 N (rU (ofE a)).1 e4 (decide ((rU (ofE a)).2<0)) (ah (rU (ofE a)).2.natAbs) g10 l10 (nC N c T e4 g10 l10) (nC N c T (rU (ofE a)).1 (decide ((rU (ofE a)).2<0)) (ah (rU (ofE a)).2.natAbs)) (nC N c T))).trans ?_
 conv=>lhs; unfold exK
 try dsimp only
 refine(rD hN (ov h1) (ov h2) (by omega) _ _ (nC N c T) rfl rfl).trans ?_;exact QT hN hP hc wc T
theorem NR {z:Int}:nS z<=0↔z<=0:=by
 unfold nS;split
 ·rename_i h; rw[h]
 ·split
  ·rename_i h; exact⟨λ_=>by omega,λ_=>by decide⟩
  ·rename_i h; exact⟨λq=>absurd q (by decide),λq=>by omega⟩
theorem EV.sign {x:Int × Int} {v:Int} {E:Nat} (h:EV x v E):x.2<=0↔v<=0:=by
 have hp:(0:Int)<2 ^ (x.1+(E:Int)).toNat:=Int.pow_pos (by decide);rw[<- h.2];constructor
 ·intro q; exact Int.mul_nonpos_of_nonpos_of_nonneg q (Int.le_of_lt hp)
 ·intro q;rcases Int.lt_or_le 0 x.2 with h1 | h1
  ·have:=Int.mul_pos h1 hp; omega
  ·exact h1
def Nr (x y a b c:Fl):Prop:=(((mD x - mD y).natAbs:Nat):Int)*2 ^ 53<=5*((((mD a).natAbs:Nat):Int)+(((mD b).natAbs:Nat):Int)+(((mD c).natAbs:Nat):Int))
theorem Dk {N:Nat} (hN:1000<=N) {x y a b c:Fl} (hx:aL x=true) (wx:FW x) (hy:aL y=true) (wy:FW y) (ha:aL a=true) (wa:FW a) (hb:aL b=true) (wb:FW b) (hc:aL c=true) (wc:FW c) (h:Nr x y a b c) (k:Bool->Bool) :
  FA N x y a b c k=k true:=by
 have x1:=(mj hx).mn (F:=1100) (C:=2110) (by omega) (by omega);have y1:=(mj hy).mn (F:=1100) (C:=2110) (by omega) (by omega);have a1:=ov ((mj ha).mn (F:=1100) (C:=2110) (by omega) (by omega));have b1:=ov ((mj hb).mn (F:=1100) (C:=2110) (by omega) (by omega));have c1:=ov ((mj hc).mn (F:=1100) (C:=2110) (by omega) (by omega));have vx:=ut hx;have vy:=(ut hy).neg;have va:=(ut ha).abs;have vb:=(ut hb).abs;have vc:=(ut hc).abs;have bt:∀{z:Fl},aL z=true->(mD z).natAbs<2 ^ 2098:=λhz=>NW hz
 have p1:∀ z:Nat,z<2 ^ 2098*2 ^ 12->aK (2098+12) z:=λz hz=>Nat.lt_of_lt_of_eq hz (Nat.pow_add 2 2098 12).symm
 have bx:=bt hx; have by':=bt hy; have ba:=bt ha; have bb:=bt hb; have bc:=bt hc;obtain⟨o1,o2⟩:=xQ x1 (CK y1) vx vy (C:=2098+12) (p1 _ (by generalize (2:Nat) ^ 2098=w at *; omega));obtain⟨s1,s2⟩:=xQ a1 b1 va vb (C:=2098+12) (p1 _ (by generalize (2:Nat) ^ 2098=w at *; omega));obtain⟨t1,t2⟩:=xQ s1 c1 s2 vc (C:=2098+12) (p1 _ (by generalize (2:Nat) ^ 2098=w at *; omega))
 (unfold FA; try rw[af])
 rw[Nh,uT hN hx wx]
 conv=>lhs; unfold exK
 try dsimp only
 rw[uT hN hy wy]
 conv=>lhs; unfold exK
 try dsimp only
 rw[HH hN y1 (by omega)]
 conv=>lhs; unfold mB
 try dsimp only
 refine(rD (x:=ofE x) (y:=vS (ofE y)) hN x1 (CK y1) (by omega) _ _ (λe2 g5 l5=>sQ2 N e2 g5 l5 (λg6 l6=>nB N a b c k e2 g6 l6)) rfl rfl).trans ?_
 conv=>lhs; unfold exK
 try dsimp only
 refine(oB hN o1 (by omega) (nB N a b c k)).trans ?_;rw[QS hN ha wa hb wb hc wc s1,QU hN (ov o1) t1];congr 1;refine decide_eq_true (NR.2 ?_);have e5:EV ((0,5):Int × Int) 5 0:=⟨by decide,by decide⟩
 have e53:EV ((-53,1):Int × Int) 1 53:=⟨by decide,by decide⟩
 have eP:=((t2.mul e5).mul e53).neg;have eO:=o2.abs;have e0:EV ((0,1):Int × Int) (2 ^ 53) 53:=⟨by decide,by decide⟩
 have eO2:EV (rU (jQ (ofE x) (vS (ofE y)))) ((((mD x + -mD y).natAbs:Nat):Int)*2 ^ 53) (Sc+53):=by have:=eO.mul e0;unfold mN at this;rw[Int.mul_one,Int.add_zero]at this;exact this
 have hs:=eO2.add eP;refine(EV.sign hs).2 ?_;unfold Nr at h;rw[<- Int.sub_eq_add_neg,Int.mul_one];omega
theorem Mw {ra rb rw s1 l s2 e p q t up uq:Rat} (h1 : -p<=s1 - (ra+rb)/\s1 - (ra+rb)<=p) (h2 : -(t+up)<=l - (s1+rw)/\l - (s1+rw)<=t+up)
  (h3 : -q<=s2 - (rb+rw)/\s2 - (rb+rw)<=q) (h4 : -(t+uq)<=e - (ra+s2)/\e - (ra+s2)<=t+uq) (pt:p<=t) (qt:q<=t) (hp:2*up<=p) (hq:2*uq<=q) : -(5*t)<=l - e/\l - e<=5*t:=by
 constructor <;> grind
theorem JL {A B W ra rb rw s1 l s2 e u:Rat} (hu:0<=u) (hu2:2*u<=1) (ha:Bd ra A) (hb:Bd rb B) (hw:Bd rw W)
  (h1:Bd (s1 - (ra+rb)) (u*(A+B))) (h2:Bd (l - (s1+rw)) (u*(A+B+W+u*(A+B)))) (h3:Bd (s2 - (rb+rw)) (u*(B+W))) (h4:Bd (e - (ra+s2)) (u*(A+B+W+u*(B+W)))):Bd (l - e) (5*(u*(A+B+W))):=by
 have a0:=Bd.nonneg ha;have b0:=Bd.nonneg hb;have w0:=Bd.nonneg hw;have e1:u*(A+B+W+u*(A+B))=u*(A+B+W)+u*(u*(A+B)):=by rw[Rat.mul_add]
 have e2:u*(A+B+W+u*(B+W))=u*(A+B+W)+u*(u*(B+W)):=by rw[Rat.mul_add]
 have uw:0<=u*W:=Rat.mul_nonneg hu w0;have ua:0<=u*A:=Rat.mul_nonneg hu a0;have p0:0<=u*(A+B):=Rat.mul_nonneg hu (by grind);have q0:0<=u*(B+W):=Rat.mul_nonneg hu (by grind);have p1:=Rat.mul_nonneg (by grind:0<=1 - 2*u) p0;have q1:=Rat.mul_nonneg (by grind:0<=1 - 2*u) q0;rw[e1]at h2;rw[e2]at h4;have pt:u*(A+B)<=u*(A+B+W):=by
  have:u*(A+B+W)=u*(A+B)+u*W:=by rw[Rat.mul_add]
  grind
 have qt:u*(B+W)<=u*(A+B+W):=by
  have:u*(A+B+W)=u*(B+W)+u*A:=by grind
  grind
 exact Mw h1 h2 h3 h4 pt qt (by grind) (by grind)
theorem Lk {x:Fl} (hx:aL x=true):Bd (rv x) ((((mD x).natAbs:Nat):Int)*Ue Sp):=by
 have hU:=AX Sp;rw[zg hx];generalize mD x=z;rcases Int.natAbs_eq z with h | h
 ·have:0<=((((z.natAbs:Nat):Int):Rat))*Ue Sp:=Rat.mul_nonneg (by exact_mod_cast Int.natCast_nonneg _) (by grind);rw[<- h]at this ⊢;unfold Bd; constructor <;> grind
 ·have:0<=((((z.natAbs:Nat):Int):Rat))*Ue Sp:=Rat.mul_nonneg (by exact_mod_cast Int.natCast_nonneg _) (by grind);have e:((z:Int):Rat) = -((((z.natAbs:Nat):Int):Rat)):=by
   conv=>lhs; rw[h]
   exact Rat.intCast_neg _
  rw[e];unfold Bd; constructor <;> grind
theorem Ag {a b w:Fl} (ha:aL a=true) (hb:aL b=true) (hw:aL w=true) (h1:aL (bL a b)=true) (h2:aL (bL (bL a b) w)=true) (h3:aL (bL b w)=true) (h4:aL (bL a (bL b w))=true) :
  Nr (bL (bL a b) w) (bL a (bL b w)) a b w:=by
 have ba:=Lk ha;have bb:=Lk hb;have bw:=Lk hw;generalize hA:((((mD a).natAbs:Nat):Int):Rat)*Ue Sp=A at ba;generalize hB:((((mD b).natAbs:Nat):Int):Rat)*Ue Sp=B at bb;generalize hW:((((mD w).natAbs:Nat):Int):Rat)*Ue Sp=W at bw;have hu:(0:Rat)<=uu:=by unfold uu; grind
 have hu2:2*uu<=(1:Rat):=by unfold uu; grind
 have e1:=(rg ha hb h1).2 (A+B) (by unfold Bd at *; constructor <;> grind);have e2:=(rg h1 hw h2).2 (A+B+W+uu*(A+B)) (by unfold Bd at *; generalize uu*(A+B)=p at *; constructor <;> grind);have e3:=(rg hb hw h3).2 (B+W) (by unfold Bd at *; constructor <;> grind);have e4:=(rg ha h3 h4).2 (A+B+W+uu*(B+W)) (by unfold Bd at *; generalize uu*(B+W)=p at *; constructor <;> grind);have key:=JL hu hu2 ba bb bw e1 e2 e3 e4;rw[zg h2,zg h4,<- hA,<- hB,<- hW]at key;unfold Nr;have hU:=AX Sp;generalize hl:mD (bL (bL a b) w)=vl at key ⊢;generalize he:mD (bL a (bL b w))=ve at key ⊢;generalize (mD a).natAbs=na at key ⊢;generalize (mD b).natAbs=nb at key ⊢;generalize (mD w).natAbs=nw at key ⊢;generalize Ue Sp=U at key hU;obtain⟨k1,k2⟩:=key;have c1:(((vl:Rat) - (ve:Rat))*9007199254740992)*U<=(5*(((na:Int):Rat)+((nb:Int):Rat)+((nw:Int):Rat)))*U:=by grind
 have c2:(((ve:Rat) - (vl:Rat))*9007199254740992)*U<=(5*(((na:Int):Rat)+((nb:Int):Rat)+((nw:Int):Rat)))*U:=by grind
 have d1:=Rat.le_of_mul_le_mul_right c1 hU;have d2:=Rat.le_of_mul_le_mul_right c2 hU;rw[show(9007199254740992:Rat)=((9007199254740992:Int):Rat) from rfl]at d1 d2;generalize hK:(9007199254740992:Int)=K at d1 d2;have f1:(vl - ve)*K<=5*((na:Int)+(nb:Int)+(nw:Int)):=by exact_mod_cast d1
 have f2:(ve - vl)*K<=5*((na:Int)+(nb:Int)+(nw:Int)):=by exact_mod_cast d2
 rw[<- hK]at f1 f2;have e:(2:Int) ^ 53=9007199254740992:=by decide
 rw[e];omega
theorem Hp {x:Fl} (h:aL x=true):∃ b,x=some b:=by
 cases x with
 | none=>cases h
 | some b=>exact⟨b,rfl⟩
theorem yn {N:Nat} (hN:1000<=N) (a:List Fl) (ha:ek N a.length) (hf:bF a=true) (k:Bool->Bool):NG N a a k=k true:=by
 (unfold NG; try rw[af]); unfold O_
 rw[show(((a.length:Nat):Int) != ((a.length:Nat):Int))=false by simp,cond_false];have h1:=ha.1;have h2:=ha.2;refine bR (λi:Nat=>(i:Int)) a.length (by omega) (λi hi K=>?_) (λK=>?_)
 ·have d1:inR (i:Int) a.length=true:=aj (by omega) (by omega);have d2:ai .i64 ((i:Int)+1)=true:=ac (by omega) (by omega);obtain⟨b,hb⟩:=Hp (bG hf hi);simp only[BS,Int.toNat_natCast,d1,d2,Bool.true_and,hb];rw[decide_eq_true (by omega:(i:Int)<(a.length:Int)),cond_true];show cond ((b:Int) != b) _ _=_;rw[show((b:Int) != b)=false by simp,cond_false]; rfl
 ·simp only[BS];rw[decide_eq_false (by omega:¬(a.length:Int)<(a.length:Int)),cond_false]
theorem Fa {N:Nat} (hN:1000<=N) (n:Int) {Y V:List Fl} (hY:ek N Y.length) (hV:ek N V.length) (fY:bF Y=true) (fV:bF V=true) (k:Bool->Bool):Rj N n n Y V n n Y V k=k true:=by
 (unfold Rj; try rw[af]); unfold RX
 rw[yn hN V hV fV]
 (unfold Oy; try rw[af]); unfold IY
 have e:((n:Int)==n)=true:=by simp
 rw[e,show((true:Bool)==true)=true from rfl,cond_true,cond_true,cond_true,yn hN Y hY fY]
theorem C6 {N:Nat} {v y:List Int} (hv:ek N v.length) (hy:ek N y.length) (r c:Int) (k:List Fl->List Fl->Bool):NK N v r c y k=k (oO y) (oO v):=by
 (unfold NK; try rw[af]); unfold RS
 rw[yk v hv,yk y hy]
theorem CT (n:Nat) (Y Z:List Fl):giV n Y (jB n Z)=giV n Z (jB n Y):=by funext i j;exact Aa _ _
theorem CX (V W:List Fl):gvV V (jC W)=gvV W (jC V):=by funext i;exact Aa _ _
theorem Hr (n:Nat) (Y V Z W:List Fl):pG n Y V (jB n Z) (jC W) nob noc=pG n Z W (jB n Y) (jC V) nob noc:=by unfold pG giO gvO;rw[CT,CX]
theorem MN (n:Nat) (Y V Z W:List Fl) (k0:Int->Int->Int->Bool) (k1:Int->Int->Int->List Fl->List Fl->Bool):gK n Y V (jB n Z) (jC W) nob noc k0 k1=gK n Z W (jB n Y) (jC V) nob noc k0 k1:=by unfold gK gM gV;rw[Hr,CT,CX]
theorem C1 {n:Nat} {Y V Z W:List Fl} (h1:eZ V n n Y=0) (h2:eZ W n n Z=0) (k:KI):joI Y V Z W n n n n k=joI Z W Y V n n n n k:=by
 obtain⟨m,-,e1,-,v1,-⟩:=eB (cb.1 h1);obtain⟨m',-,e2,-,v2,-⟩:=eB (cb.1 h2);have hv:V.length=n:=by omega
 have hw:W.length=n:=by omega
 unfold joI;rw[ifz h1,ifz h2,ifz h2,ifz h1,if_neg (by omega),if_neg (by omega),hv,hw,MN]
theorem MC {n:Nat} {l:List Fl} (h:l.length=n*n) (hf:bF l=true) (hs:pb n l=true) {i j:Nat} (hi:i<n) (hj:j<n):elt l n i j=elt l n j i:=by
 have key:∀ a b,a<n->b<a->elt l n a b=elt l n b a:=by
  intro a b ha hb;unfold pb at hs;have h1:=gu.1 (gu.1 hs a ha) b hb;have h2:=of_decide_eq_true h1;have f1:aL (elt l n a b)=true:=bG hf (by have:=gd ha (by omega:b<n); omega);have f2:aL (elt l n b a)=true:=bG hf (by have:=gd (by omega:b<n) ha; omega)
  rwa [A2 f1,A2 f2]at h2
 rcases Nat.lt_trichotomy i j with h1 | h1 | h1
 ·exact(key j i hj h1).symm
 ·rw[h1]
 ·exact key i j hi h1
theorem Hb {n:Nat} {aY aV bY bV h:List Fl} {r z:Fl} (hn:n<=12) (ta:AW n aV aY) (tb:AW n bV bY)
  (g1:pG n aY aV (jB n bY) (jC bV) nob noc=false)
  (g2:pG n (gM n aY (jB n bY)) (gV n aV (jC bV)) (wB h r) (wC h r z) (wBo h r) (wCo h r z)=false)
  (g3:pG n bY bV (wB h r) (wC h r z) (wBo h r) (wCo h r z)=false)
  (g4:pG n aY aV (jB n (gM n bY (wB h r))) (jC (gV n bV (wC h r z))) nob noc=false) :
  (∀ i,i<n->Nr ((gV n (gV n aV (jC bV)) (wC h r z)).getD i none) ((gV n aV (jC (gV n bV (wC h r z)))).getD i none) (aV.getD i none) (bV.getD i none) (wC h r z i)/\aL (wC h r z i)=true) /\
  ∀ i j,i<n->j<n->Nr (elt (gM n (gM n aY (jB n bY)) (wB h r)) n i j) (elt (gM n aY (jB n (gM n bY (wB h r)))) n i j) (elt aY n i j) (elt bY n i j) (wB h r (max i j) (min i j))/\aL (wB h r (max i j) (min i j))=true:=by
 obtain⟨y1,v1⟩:=nE g1;obtain⟨y2,v2⟩:=nE g2;obtain⟨y3,v3⟩:=nE g3;obtain⟨y4,v4⟩:=nE g4;obtain⟨-,a2,a3,a4,a5,a6,-,-⟩:=ta;obtain⟨-,b2,b3,b4,b5,b6,-,-⟩:=tb;refine⟨λi hi=>?_,λi j hi hj=>?_⟩
 ·have q1:=(v1 i hi).2;have q2:=(v2 i hi).2;have q3:=v3 i hi;have q4:=(v4 i hi).2;have e1:(gV n aV (jC bV)).getD i none=bL (aV.getD i none) (bV.getD i none):=nh n _ hi none;have e2:(gV n bV (wC h r z)).getD i none=bL (bV.getD i none) (wC h r z i):=nh n _ hi none;have e3:(gV n (gV n aV (jC bV)) (wC h r z)).getD i none=bL (bL (aV.getD i none) (bV.getD i none)) (wC h r z i):=by rw[<- e1]; exact nh n _ hi none
  have e4:(gV n aV (jC (gV n bV (wC h r z)))).getD i none=bL (aV.getD i none) (bL (bV.getD i none) (wC h r z i)):=by rw[<- e2]; exact nh n _ hi none
  have w1:aL (wC h r z i)=true:=by have:=q3.1; unfold wCo at this; simp at this; exact this.2
  rw[e3,e4];refine⟨Ag (bG a4 (by omega)) (bG b4 (by omega)) w1 q1 ?_ q3.2 ?_,w1⟩
  ·rw[<- e1]; exact q2
  ·rw[<- e2]; exact q4
 ·have key:∀ p q,p<n->q<=p->Nr (giV n (gM n aY (jB n bY)) (wB h r) p q) (giV n aY (jB n (gM n bY (wB h r))) p q) (elt aY n p q) (elt bY n p q) (wB h r p q)/\aL (wB h r p q)=true:=by
   intro p q hp hq;have hq2:q<n:=by omega
   have q1:=(y1 p q hp hq).2;have q2:=(y2 p q hp hq).2;have q3:=y3 p q hp hq;have q4:=(y4 p q hp hq).2;have lo:∀(Z:List Fl) (B:Nat->Nat->Fl),elt (gM n Z B) n p q=bL (elt Z n p q) (B p q):=by intro Z B;unfold gM;rw[uY n _ hp hq2];unfold mir;rw[if_pos hq]; rfl
   have e1:=lo aY (jB n bY);have e2:=lo bY (wB h r);have w1:aL (wB h r p q)=true:=by have:=q3.1; unfold wBo at this; simp at this; exact this.2
   have e3:giV n (gM n aY (jB n bY)) (wB h r) p q=bL (bL (elt aY n p q) (elt bY n p q)) (wB h r p q):=by unfold giV; rw[e1]; rfl
   have e4:giV n aY (jB n (gM n bY (wB h r))) p q=bL (elt aY n p q) (bL (elt bY n p q) (wB h r p q)):=by unfold giV jB; rw[e2]
   rw[e3,e4];refine⟨Ag (bG a5 (by have:=gd hp hq2; omega)) (bG b5 (by have:=gd hp hq2; omega)) w1 q1 ?_ q3.2 ?_,w1⟩
   ·rw[<- e3]; exact q2
   ·rw[<- e4]; exact q4
  have up:∀(Z:List Fl) (B:Nat->Nat->Fl),elt (gM n Z B) n i j=giV n Z B (max i j) (min i j):=by
   intro Z B;unfold gM;rw[uY n _ hi hj];unfold mir;rcases Nat.le_total j i with hji | hij
   ·rw[if_pos hji,Nat.max_eq_left hji,Nat.min_eq_right hji]
   ·rcases Nat.eq_or_lt_of_le hij with e | hlt
    ·subst e; rw[if_pos (Nat.le_refl _),Nat.max_self,Nat.min_self]
    ·rw[if_neg (by omega),Nat.max_eq_right hij,Nat.min_eq_left hij]
  have sy:∀(Z:List Fl),Z.length=n*n->bF Z=true->pb n Z=true->elt Z n i j=elt Z n (max i j) (min i j):=by
   intro Z z1 z2 z3;rcases Nat.le_total j i with hji | hij
   ·rw[Nat.max_eq_left hji,Nat.min_eq_right hji]
   ·rw[Nat.max_eq_right hij,Nat.min_eq_left hij]; exact MC z1 z2 z3 hi hj
  rw[up,up,sy aY a3 a5 a6,sy bY b3 b5 b6];exact key (max i j) (min i j) (by omega) (by omega)
theorem QO (i j:Nat):imm true (i:Int) (j:Int)=((max i j:Nat):Int):=by
 unfold imm;rw[cond_true];by_cases h:(j:Int)>(i:Int)
 ·rw[decide_eq_true h,cond_true,Nat.max_eq_right (by omega)]
 ·rw[decide_eq_false h,cond_false,Nat.max_eq_left (by omega)]
theorem QN (i j:Nat):imm false (i:Int) (j:Int)=((min i j:Nat):Int):=by
 unfold imm;rw[cond_false];by_cases h:(j:Int)<(i:Int)
 ·rw[decide_eq_true h,cond_true,Nat.min_eq_right (by omega)]
 ·rw[decide_eq_false h,cond_false,Nat.min_eq_left (by omega)]
theorem Si {N n i:Nat} (hN:1000<=N) (hn:n<=12) (hi:i<n) (w:List Int) (w6 w7 a1 a2 b1 b2 l1 l2 e1 e2:Int) {h LY LV EY EV aY aV bY bV:List Fl} (hh:h.length=n) (q1:LY.length=n*n) (q2:EY.length=n*n) (q3:aY.length=n*n) (q4:bY.length=n*n)
  (hnear:∀ j,j<n -> ∀ k,FA N (LY.getD (i*n+j) none) (EY.getD (i*n+j) none) (aY.getD (i*n+j) none) (bY.getD (i*n+j) none) (fdiv (kT (h.getD (max i j) none) (h.getD (min i j) none)) (dD w6.toNat)) k=k true) (x0:Bool->Bool) (x1:Bool) :
  am N (DZ N n i w w6 w7 a1 a2 b1 b2 h l1 l2 LY LV e1 e2 EY EV aY aV bY bV x0 x1) 0=x1:=by
 have sf:∀(r:Int) (k:Fl->Bool),zF N r k=k (dD r.toNat):=λ_ _=>rfl
 have hn2:n*n<=144:=yC hn;refine bR (λj:Nat=>(j:Int)) n (by omega) ?_ ?_
 ·intro j hj K;obtain⟨g1,g2⟩:=de (by omega:n<=1000) hi hj;have g5:=iU hi hj;rw[<- bg]at g2;have t1:Int.toNat ((i:Int)*(n:Int)+(j:Int))=i*n+j:=by rw[bg,Int.toNat_natCast]
  have r1:inR ((i:Int)*(n:Int)+(j:Int)) (n*n)=true:=by rw[bg]; exact aj (by omega) (by omega)
  have d1:decide (i*n+j<n*n)=true:=decide_eq_true g5;have m1:inR (((max i j:Nat)):Int) n=true:=aj (by omega) (by omega);have m2:inR (((min i j:Nat)):Int) n=true:=aj (by omega) (by omega);have m3:decide (max i j<n)=true:=decide_eq_true (by omega);have m4:decide (min i j<n)=true:=decide_eq_true (by omega);have f1:ai .i64 ((j:Int)+1)=true:=ac (by omega) (by omega);unfold DZ;dsimp only;rw[decide_eq_true (by omega:(j:Int)<(n:Int)),cond_true];simp only[g1,g2,t1,q1,q2,q3,q4,hh,r1,d1,QO,QN,m1,m2,m3,m4,Int.toNat_natCast,Bool.true_and,sf,hnear j hj,Bool.not_true,cond_false,f1];rfl
 ·intro K;unfold DZ;dsimp only;rw[decide_eq_false (by omega:¬(n:Int)<(n:Int)),cond_false]
theorem Q1 {N n:Nat} (hN:1000<=N) (hn:n<=12) (w:List Int) (w3 w4 a1 a2 b1 b2 l1 l2 e1 e2:Int) {h LY LV EY EV aY aV bY bV:List Fl} (hh:h.length=n) (q1:LY.length=n*n) (q2:EY.length=n*n) (q3:aY.length=n*n) (q4:bY.length=n*n)
  (v1:LV.length=n) (v2:EV.length=n) (v3:aV.length=n) (v4:bV.length=n)
  (hnv:∀ i,i<n -> ∀ k,FA N (LV.getD i none) (EV.getD i none) (aV.getD i none) (bV.getD i none) (fdiv (kT (h.getD i none) (dD w4.toNat)) (dD w3.toNat)) k=k true)
  (hny:∀ i j,i<n->j<n -> ∀ k,FA N (LY.getD (i*n+j) none) (EY.getD (i*n+j) none) (aY.getD (i*n+j) none) (bY.getD (i*n+j) none) (fdiv (kT (h.getD (max i j) none) (h.getD (min i j) none)) (dD w3.toNat)) k=k true) (x0:Bool->Bool) (x1:Bool) :
  am N (Ma N n w w3 w4 a1 a2 b1 b2 h l1 l2 LY LV e1 e2 EY EV aY aV bY bV x0 x1) 0=x1:=by
 have sf:∀(r:Int) (k:Fl->Bool),zF N r k=k (dD r.toNat):=λ_ _=>rfl
 refine bR (λj:Nat=>(j:Int)) n (by omega) ?_ ?_
 ·intro i hi K;have r1:inR (i:Int) n=true:=aj (by omega) (by omega);have d1:decide (i<n)=true:=decide_eq_true hi;have f1:ai .i64 ((i:Int)+1)=true:=ac (by omega) (by omega);unfold Ma;dsimp only;rw[decide_eq_true (by omega:(i:Int)<(n:Int)),cond_true];simp only[v1,v2,v3,v4,hh,r1,d1,Int.toNat_natCast,Bool.true_and,sf,hnv i hi,Bool.not_true,cond_false];rw[Si hN hn hi w w3 w4 a1 a2 b1 b2 l1 l2 e1 e2 hh q1 q2 q3 q4 (λj hj=>hny i j hi hj),f1];rfl
 ·intro K;unfold Ma;dsimp only;rw[decide_eq_false (by omega:¬(n:Int)<(n:Int)),cond_false]
theorem Gi {N:Nat} (hF:Fuel N) {n:Nat} (v y u k_ w:List Int) (w1 w2:Int) (hw:ek N w.length) (e:Int) {aY aV bY bV abY abV:List Fl} (ab ab1:Int)
  (ta:AW n aV aY) (tb:AW n bV bY) (wa:AllW aV) (wb:AllW bV) (hab:AllW abY)
  (hE:e=0->ab=n/\abY=gM n aY (jB n bY)/\abV=gV n aV (jC bV)/\pG n aY aV (jB n bY) (jC bV) nob noc=false/\AW n abV abY) :
  JQ9 N v n y u k_ w w1 w2 e aY aV bY bV ab ab1 abY abV (λb=>b)=true:=by
 have hN:=hF.lt;have sf:∀(r:Int) (k:Fl->Bool),zF N r k=k (dD r.toNat):=λ_ _=>rfl
 have hh:=FE hw;have wY:=ta.2.2.2.2.2.2.2;have wZ:=tb.2.2.2.2.2.2.2;unfold JQ9;rw[yk w hw,sf,sf,tV hF _ _ hh _ _ _ _ hab];generalize hH:oO w=H at hh;generalize hR:dD w1.toNat=R;generalize hZ:dD w2.toNat=Z;have late:=AO abY abV H R Z ab ab1;have bw:=AO bY bV H R Z n n;have conts:∀(n8 n9:Int) (LY LV:List Fl) (e10:Int) (n11 n12:Int) (WY WV:List Fl) (e13:Int),(e ≠ 0\/e10 ≠ 0\/e13 ≠ 0) -> ∀(T:Bool),
   (cond ((e != 0)==false) (cond ((e10 != 0)==false) (cond (e13 != 0) true T) true) true)=true:=by
  intro n8 n9 LY LV e10 n11 n12 WY WV e13 h T;by_cases h1:e=0
  ·subst h1;by_cases h2:e10=0
   ·subst h2;have h3:e13 ≠ 0:=by rcases h with h | h | h <;> first | exact absurd rfl h | exact h
    rw[fh _ _ h3]; rfl
   ·rw[fh _ _ h2]; rfl
  ·rw[fh _ _ h1]; rfl
 rcases late with⟨e10,he10,q⟩ | ⟨m,em,-,-,hl,gl,tl,q⟩
 ·rw[q,sf,sf,hR,hZ,jU hF _ _ hh _ _ _ _ wZ];rcases bw with⟨e13,he13,q'⟩ | ⟨m',-,-,-,-,-,-,q'⟩
  ·rw[q']; exact conts 0 0 [] [] e10 0 0 [] [] e13 (.inr (.inl he10)) _
  ·rw[q']; exact conts 0 0 [] [] e10 0 0 [] [] 0 (.inr (.inl he10)) _
 ·rw[q,sf,sf,hR,hZ,jU hF _ _ hh _ _ _ _ wZ];rcases bw with⟨e13,he13,q'⟩ | ⟨m',em',-,-,hl',gl',tl',q'⟩
  ·rw[q']; exact conts 0 0 [] [] 0 0 0 [] [] e13 (.inr (.inr he13)) _
  ·rw[q'];by_cases he:e=0
   ·obtain⟨a1,a2,a3,a4,a5⟩:=hE he;have hm:m=n:=by omega
    have hm':m'=n:=by omega
    subst hm;rw[hm']at hl' gl' tl' ⊢;subst he a2 a3;rw[show(((0:Int) != 0)==false)=true from rfl,cond_true,cond_true,show((0:Int) != 0)=false from rfl,cond_false,tU hF _ _ _ _ _ _ _ _ wY tl'.2.2.2.2.2.2.2];rcases Af aY aV (gM m bY (wB H R)) (gV m bV (wC H R Z)) m m m m with⟨e16,he16,q''⟩ | ⟨m2,em2,-,-,-,-,g4,t4,q''⟩
    ·rw[q'',fh _ _ he16,cond_true]
    ·have hm2:m2=m:=by omega
     rw[hm2]at g4 t4 q'';rw[q'',show((0:Int) != 0)=false from rfl,cond_false];have hHl:H.length=m:=by have:=yw hl; omega
     obtain⟨nv,ny⟩:=Hb (h:=H) (r:=R) (z:=Z) ta.1 ta tb a4 gl gl' g4;have hn2:m*m<=144:=yC ta.1;have ff:ai .i64 ((m:Int)*(m:Int))=true:=by rw[<- Int.natCast_mul]; exact ac (by omega) (by omega)
     have c1:((((H.length:Nat):Int) != (m:Int))==false)=true:=by rw[hHl]; simp
     have c2:((((gV m (gV m aV (jC bV)) (wC H R Z)).length:Nat):Int) != (m:Int))=false:=by rw[show(gV m (gV m aV (jC bV)) (wC H R Z)).length=m from jP _ _]; simp
     have c3:((((gV m aV (jC (gV m bV (wC H R Z)))).length:Nat):Int) != (m:Int))=false:=by rw[show(gV m aV (jC (gV m bV (wC H R Z)))).length=m from jP _ _]; simp
     have c4:((((gM m (gM m aY (jB m bY)) (wB H R)).length:Nat):Int) != (m:Int)*(m:Int))=false:=by rw[show(gM m (gM m aY (jB m bY)) (wB H R)).length=m*m from j8 _ _,Int.natCast_mul]; simp
     have c5:((((gM m aY (jB m (gM m bY (wB H R)))).length:Nat):Int) != (m:Int)*(m:Int))=false:=by rw[show(gM m aY (jB m (gM m bY (wB H R)))).length=m*m from j8 _ _,Int.natCast_mul]; simp
     rw[c1,cond_true,c2,show((false==false)=true) from rfl,cond_true,c3,show((false==false)=true) from rfl,cond_true,aa ff,c4,show((false==false)=true) from rfl,cond_true,aa ff,c5,cond_false];exact Q1 (N:=N) (LY:=gM m (gM m aY (jB m bY)) (wB H R)) (LV:=gV m (gV m aV (jC bV)) (wC H R Z)) (EY:=gM m aY (jB m (gM m bY (wB H R)))) (EV:=gV m aV (jC (gV m bV (wC H R Z)))) (by omega) ta.1 w w1 w2 m m m m m m m m hHl (j8 _ _) (j8 _ _) ta.2.2.1 tb.2.2.1 (jP _ _) (jP _ _) ta.2.1 tb.2.1
      (λi hi k=>by
       rw[hR,hZ];exact Dk (by omega) (bG tl.2.2.2.1 (by rw[tl.2.1]; exact hi)) (by rw[show(gV m (gV m aV (jC bV)) (wC H R Z)).getD i none=_ from nh m _ hi none]; exact iM _ _)
        (bG t4.2.2.2.1 (by rw[t4.2.1]; exact hi)) (by rw[show(gV m aV (jC (gV m bV (wC H R Z)))).getD i none=_ from nh m _ hi none]; exact iM _ _)
        (bG ta.2.2.2.1 (by rw[ta.2.1]; exact hi)) (wa.get (by rw[ta.2.1]; exact hi)) (bG tb.2.2.2.1 (by rw[tb.2.1]; exact hi)) (wb.get (by rw[tb.2.1]; exact hi)) (nv i hi).2 (q7 _ _) (nv i hi).1 k)
      (λi j hi hj k=>by
       rw[hR];have hx:=gd hi hj;exact Dk (by omega) (bG tl.2.2.2.2.1 (by rw[tl.2.2.1]; exact hx)) (tl.2.2.2.2.2.2.2.get (by rw[tl.2.2.1]; exact hx))
        (bG t4.2.2.2.2.1 (by rw[t4.2.2.1]; exact hx)) (t4.2.2.2.2.2.2.2.get (by rw[t4.2.2.1]; exact hx))
        (bG ta.2.2.2.2.1 (by rw[ta.2.2.1]; exact hx)) (wY.get (by rw[ta.2.2.1]; exact hx)) (bG tb.2.2.2.2.1 (by rw[tb.2.2.1]; exact hx)) (wZ.get (by rw[tb.2.2.1]; exact hx)) (ny i j hi hj).2 (q7 _ _) (ny i j hi hj).1 k) _ _
   ·exact conts 0 0 [] [] 0 0 0 [] [] 0 (.inl he) _
theorem zw {N:Nat} (hF:Fuel N) (v:List Int) (n:Int) (y u k_ w:List Int) (w1 w2:Int) (hv:ek N v.length) (hy:ek N y.length) (hu:ek N u.length) (hk:ek N k_.length) (hw:ek N w.length)
  (bv:∀ z,z ∈ v->z.toNat<18446744073709551616) (by_:∀ z,z ∈ y->z.toNat<18446744073709551616) (bu:∀ z,z ∈ u->z.toNat<18446744073709551616) (bk:∀ z,z ∈ k_->z.toNat<18446744073709551616) :
  sQ7 N v n y u k_ w w1 w2 (λb=>b)=true:=by
 have hN:=hF.lt;have aw:∀(k:Bool->Bool),sQ4 N k=k true:=λ_=>rfl
 have wY:=u7 by_;have wZ:=u7 bk;unfold sQ7 GQ7;rw[C6 hv hy,C6 hu hk,vV hF _ _ _ _ wY];simp only[aw];by_cases h0:eZ (oO v) n n (oO y)=0
 ·rw[h0,show(((0:Int) != 0)==false)=true from rfl,cond_true,vV hF _ _ _ _ wZ];by_cases h1:eZ (oO u) n n (oO k_)=0
  ·rw[h1,show((0:Int) != 0)=false from rfl,cond_false,fL hF _ _ _ _ _ _ _ _ wY wZ];obtain⟨m,rfl,-,ta⟩:=Cm (cb.1 h0) wY;obtain⟨m',e',-,tb⟩:=Cm (cb.1 h1) wZ;obtain rfl:m'=m:=by omega
   rcases Af (oO y) (oO v) (oO k_) (oO u) m' m' m' m' with⟨e,he,q⟩ | ⟨m2,em2,-,-,-,-,g1,t1,q⟩
   ·rw[q,fL hF _ _ _ _ _ _ _ _ wZ wY,C1 h1 h0,q];rw[show((e != e)==false)=true by simp,cond_true,show((e==0)==true)=false by simp[he],cond_false];simp only[Bool.not_true,cond_false];exact Gi hF v y u k_ w w1 w2 hw e 0 0 ta tb (u7 bv) (u7 bu) (λx hx=>by cases hx) (λh=>absurd h he)
   ·obtain rfl:m2=m':=by omega
    have n2:m2*m2<=144:=yC ta.1;have n1:=ta.1;rw[q,fL hF _ _ _ _ _ _ _ _ wZ wY,C1 h1 h0,q];rw[show(((0:Int) != 0)==false)=true from rfl,cond_true,show(((0:Int)==0)==true)=true from rfl,cond_true,
     Fa (by omega) _ ⟨by rw[t1.2.2.1]; omega,by rw[t1.2.2.1]; omega⟩ ⟨by rw[t1.2.1]; omega,by rw[t1.2.1]; omega⟩ t1.2.2.2.2.1 t1.2.2.2.1,show((!true)==false)=true from rfl,cond_true,show(!true)=false from rfl,cond_false]
    exact Gi hF v y u k_ w w1 w2 hw 0 m2 m2 ta tb (u7 bv) (u7 bu) t1.2.2.2.2.2.2.2 (λ_=>⟨rfl,rfl,rfl,g1,t1⟩)
  ·rw[fh _ _ h1,cond_true]
 ·rw[show((eZ (oO v) n n (oO y) != 0)==false)=false by simp[h0],cond_false]
end Go.Proofs.YtdinakfmablagaaGreatDoor
end
