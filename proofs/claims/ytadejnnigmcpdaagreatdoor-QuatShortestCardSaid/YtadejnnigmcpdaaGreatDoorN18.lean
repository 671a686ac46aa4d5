/-
  VECTORS OF RATIONALS: dot, cross, and how long one is at most.
  Conditions: none.
-/
import Derived.Test.YtadejnnigmcpdaaGreatDoorFlG
set_option linter.unusedVariables false
section
namespace Go.Proofs.YtadejnnigmcpdaaGreatDoor
open Go Go.Mach Ieee
structure P3 where
 x:Rat
 y:Rat
 z:Rat
namespace P3
def dot (p q:P3):Rat:=p.x*q.x+p.y*q.y+p.z*q.z
def crs (p q:P3):P3:=⟨p.y*q.z - p.z*q.y,p.z*q.x - p.x*q.z,p.x*q.y - p.y*q.x⟩
def add (p q:P3):P3:=⟨p.x+q.x,p.y+q.y,p.z+q.z⟩
def sub (p q:P3):P3:=⟨p.x - q.x,p.y - q.y,p.z - q.z⟩
def scl (c:Rat) (p:P3):P3:=⟨c*p.x,c*p.y,c*p.z⟩
def NB (p:P3) (e:Rat):Prop:=0<=e/\p.dot p<=e*e
end P3
open P3
theorem j4 {a b:Rat} (hb:0<=b) (h:a*a<=b*b):a<=b:=by
 rcases (Rat.le_total:a<=b\/b<=a)with k | k
 ·exact k
 ·rcases Rat.le_iff_lt_or_eq.1 k with k | k
  ·exfalso;have h1:=Rat.mul_pos ((Rat.lt_iff_sub_pos _ _).1 k) (by grind:0<a+b);grind
  ·rw[<- k]; exact Rat.le_refl
theorem qn {a b:Rat} (hb:0<=b) (h:a*a<=b*b):Bd a b:=by refine⟨?_,j4 hb h⟩;have:=j4 (a:=-a) hb (by grind);grind
theorem P3.NB.x {p:P3} {e:Rat} (h:NB p e):Bd p.x e:=qn h.1 (by have h2:=h.2;unfold P3.dot at h2;have a:=ak p.y;have b:=ak p.z;grind)
theorem P3.NB.y {p:P3} {e:Rat} (h:NB p e):Bd p.y e:=qn h.1 (by have h2:=h.2;unfold P3.dot at h2;have a:=ak p.x;have b:=ak p.z;grind)
theorem P3.NB.z {p:P3} {e:Rat} (h:NB p e):Bd p.z e:=qn h.1 (by have h2:=h.2;unfold P3.dot at h2;have a:=ak p.x;have b:=ak p.y;grind)
theorem P3.NB.of {p:P3} {e:Rat} (hx:Bd p.x e) (hy:Bd p.y e) (hz:Bd p.z e):NB p (174 / 100*e):=by have h0:=hx.nonneg;have a:=hx.sq;have b:=hy.sq;have c:=hz.sq;refine⟨by grind,?_⟩;unfold P3.dot;have:=ak e;grind
theorem P3.NB.mono {p:P3} {e f:Rat} (h:NB p e) (g:e<=f):NB p f:=by have h0:=h.1;have h2:=h.2;refine⟨by grind,Rat.le_trans h2 ?_⟩;have:=Rat.mul_nonneg ((Rat.le_iff_sub_nonneg _ _).1 g) (by grind:0<=e+f);grind
theorem FB (p q:P3):(p.crs q).dot (p.crs q)=p.dot p*q.dot q - p.dot q*p.dot q:=by unfold crs dot;grind
theorem bu (p:P3):0<=p.dot p:=by have a:=ak p.x;have b:=ak p.y;have c:=ak p.z;unfold P3.dot;grind
theorem P3.NB.dot {p q:P3} {e f:Rat} (h:NB p e) (g:NB q f):Bd (p.dot q) (e*f):=by have h1:=FB p q;have h2:=bu (p.crs q);have e0:=h.1;have f0:=g.1;refine qn (Rat.mul_nonneg e0 f0) ?_;have h3:=h.2;have g3:=g.2;have p0:=bu p;have q0:=bu q;generalize p.dot p=P at *;generalize q.dot q=Q at *;generalize p.dot q=R at *;generalize (p.crs q).dot (p.crs q)=S at *;have a1:=Rat.mul_nonneg (by grind:0<=e*e - P) q0;have a2:=Rat.mul_nonneg (by grind:0<=f*f - Q) (ak e);grind
theorem P3.NB.crs {p q:P3} {e f:Rat} (h:NB p e) (g:NB q f):NB (p.crs q) (e*f):=by have h1:=FB p q;have e0:=h.1;have f0:=g.1;refine⟨Rat.mul_nonneg e0 f0,?_⟩;rw[h1];have h3:=h.2;have g3:=g.2;have p0:=bu p;have q0:=bu q;have r0:=ak (p.dot q);generalize p.dot p=P at *;generalize q.dot q=Q at *;generalize p.dot q=R at *;have a1:=Rat.mul_nonneg (by grind:0<=e*e - P) q0;have a2:=Rat.mul_nonneg (by grind:0<=f*f - Q) (ak e);grind
theorem P3.NB.add {p q:P3} {e f:Rat} (h:NB p e) (g:NB q f):NB (p.add q) (e+f):=by
 have h1:=(h.dot g).2;have e0:=h.1;have f0:=g.1;refine⟨by grind,?_⟩;have h3:=h.2;have g3:=g.2;have i:(p.add q).dot (p.add q)=p.dot p+q.dot q+2*p.dot q:=by unfold P3.add P3.dot; grind
 rw[i];grind
theorem P3.NB.neg {p:P3} {e:Rat} (h:NB p e):NB (P3.scl (-1) p) e:=by
 refine⟨h.1,?_⟩;have i:(P3.scl (-1) p).dot (P3.scl (-1) p)=p.dot p:=by unfold P3.scl P3.dot; grind
 rw[i]; exact h.2
theorem P3.NB.scl {p:P3} {e c k:Rat} (h:NB p e) (hc:Bd c k):NB (P3.scl c p) (k*e):=by
 refine⟨Rat.mul_nonneg hc.nonneg h.1,?_⟩;have i:(P3.scl c p).dot (P3.scl c p)=c*c*p.dot p:=by unfold P3.scl P3.dot; grind
 rw[i];have h3:=h.2;have c2:=hc.sq;have p0:=bu p;have a1:=Rat.mul_nonneg (by grind:0<=k*k - c*c) p0;have a2:=Rat.mul_nonneg (by grind:0<=e*e - p.dot p) (ak k);grind
theorem P3.NB.sub {p q:P3} {e f:Rat} (h:NB p e) (g:NB q f):NB (p.sub q) (e+f):=by
 have:=h.add g.neg;have i:p.add (P3.scl (-1) q)=p.sub q:=by show P3.mk _ _ _=P3.mk _ _ _;congr 1 <;> (unfold P3.scl; grind)
 rwa [i]at this
theorem P3.NB.le {p q:P3} {e f:Rat} (h:NB q e) (g:NB (p.sub q) f):NB p (e+f):=by
 have:=h.add g;have i:q.add (p.sub q)=p:=by show P3.mk _ _ _=p;cases p;show P3.mk _ _ _=P3.mk _ _ _;congr 1 <;> (unfold P3.sub; grind)
 rwa [i]at this
def P3.NA (p:P3) (e:Rat):Prop:=0<=e->e*e<=p.dot p
theorem P3.NA.near {p q:P3} {e f:Rat} (h:NA q e) (g:NB (p.sub q) f) (k:Rat) (hp:NB p k):e<=k+f:=by
 rcases (Rat.le_total:e<=0\/0<=e)with h0 | h0
 ·have:=hp.1;have:=g.1;grind
 ·have h1:=h h0;have i:q=p.add (P3.scl (-1) (p.sub q)):=by cases q;show P3.mk _ _ _=P3.mk _ _ _;congr 1 <;> (unfold P3.scl P3.sub; grind)
  have h2:=hp.add g.neg;rw[<- i]at h2;exact j4 h2.1 (Rat.le_trans h1 h2.2)
theorem amK {x y e:Rat} (h:Bd (x - y) e) (hy:Bd y 2):Bd (x*x - y*y) (e*(4+e)):=by
 have h2:Bd (x+y) (4+e):=by obtain⟨a,b⟩:=h;obtain⟨c,d⟩:=hy;exact⟨by grind,by grind⟩
 have:=h.mul h2;have i:(x - y)*(x+y)=x*x - y*y:=by grind
 rwa [i]at this
end Go.Proofs.YtadejnnigmcpdaaGreatDoor
end
section
namespace Go.Proofs.YtadejnnigmcpdaaGreatDoor
open Go Go.Mach Ieee P3
theorem P3.ext' {p q:P3} (hx:p.x=q.x) (hy:p.y=q.y) (hz:p.z=q.z):p=q:=by cases p; cases q;simp only at hx hy hz;subst hx hy hz; rfl
def Len (p:P3) (lo hi:Rat):Prop:=0<=lo/\lo*lo<=p.dot p/\NB p hi
theorem Len.mono {p:P3} {lo hi lo' hi':Rat} (h:Len p lo hi) (h0:0<=lo') (h1:lo'<=lo) (h2:hi<=hi'):Len p lo' hi':=by refine⟨h0,Rat.le_trans ?_ h.2.1,h.2.2.mono h2⟩;have:=Rat.mul_nonneg (by grind:0<=lo - lo') (by grind:0<=lo+lo');grind
theorem Len.near {p q:P3} {lo hi f:Rat} (h:Len q lo hi) (g:NB (p.sub q) f) (hf:f<=lo):Len p (lo - f) (hi+f):=by
 obtain⟨h0,h1,h2⟩:=h;have f0:=g.1;refine⟨by grind,?_,h2.le g⟩;rcases (Rat.le_total:(lo - f)*(lo - f)<=p.dot p\/p.dot p<=(lo - f)*(lo - f))with k | k
 ·exact k
 ·rcases Rat.le_iff_lt_or_eq.1 k with k | k
  ·exfalso;have p0:=bu p;have b0:0<lo - f:=by
    rcases Rat.le_iff_lt_or_eq.1 (by grind:0<=lo - f)with b | b
    ·exact b
    ·rw[<- b]at k; grind
   have hb:lo - f ≠ 0:=by grind
   have hab:p.dot p / (lo - f)*(lo - f)=p.dot p:=by rw[Rat.div_mul_cancel hb]
   have ha0:0<=p.dot p / (lo - f):=by rw[Rat.div_def]; exact Rat.mul_nonneg p0 (Rat.le_of_lt (Rat.inv_pos.2 b0))
   generalize p.dot p / (lo - f)=a at *;have hlt:a<lo - f:=by
    rcases (Rat.le_total:a<=lo - f\/lo - f<=a)with j | j
    ·rcases Rat.le_iff_lt_or_eq.1 j with j | j
     ·exact j
     ·rw[j]at hab; grind
    ·have:=Rat.mul_nonneg (by grind:0<=a - (lo - f)) (by grind:0<=lo - f);grind
   have hp:NB p ((a+(lo - f)) / 2):=by refine⟨by grind,?_⟩;have:=ak (a - (lo - f));grind
   have i:q=p.add (P3.scl (-1) (p.sub q)):=by apply P3.ext' <;> (unfold P3.add P3.scl P3.sub; grind)
   have h3:=hp.add g.neg;rw[<- i]at h3;have h4:=j4 h3.1 (Rat.le_trans h1 h3.2);grind
  ·rw[<- k]; exact Rat.le_refl
theorem Len.scl {p:P3} {lo hi c:Rat} (h:Len p lo hi) (hc:0<=c):Len (P3.scl c p) (c*lo) (c*hi):=by
 refine⟨Rat.mul_nonneg hc h.1,?_,h.2.2.scl ⟨by grind,Rat.le_refl⟩⟩;have i:(P3.scl c p).dot (P3.scl c p)=c*c*p.dot p:=by unfold P3.scl dot; grind
 rw[i];have:=Rat.mul_nonneg (ak c) (by have:=h.2.1; grind:0<=p.dot p - lo*lo);grind
theorem TZ {l:Rat} {p:P3} (hl:0<l) (h:Bd (l*l - p.dot p) (37*uu*p.dot p)):Len p ((1 - 19*uu)*l) ((1+19*uu)*l):=by
 have h0:=Rat.mul_pos hl hl;have p0:=bu p;obtain⟨h1,h2⟩:=h;refine⟨by grind,?_,by grind,?_⟩
 ·have i:(1 - 19*uu)*l*((1 - 19*uu)*l)=(1 - 19*uu)*(1 - 19*uu)*(l*l):=by grind
  rw[i];generalize l*l=q at *;grind
 ·have i:(1+19*uu)*l*((1+19*uu)*l)=(1+19*uu)*(1+19*uu)*(l*l):=by grind
  rw[i];generalize l*l=q at *;grind
def Rot (w x y z:Rat) (p:P3):P3:=⟨R0 w x y z p.x p.y p.z,R0 w y z x p.y p.z p.x,R0 w z x y p.z p.x p.y⟩
theorem xU (w x y z:Rat):ra w x y z*ra w x y z+rc w y z x*rc w y z x+rb w z x y*rb w z x y=Nq w x y z*Nq w x y z/\ra w x y z*rb w x y z+rc w y z x*ra w y z x+rb w z x y*rc w z x y=0:=by
 constructor
 ·unfold ra rb rc Nq; grind
 ·unfold ra rb rc; grind
theorem aja (w x y z:Rat):Nq w y z x=Nq w x y z/\Nq w z x y=Nq w x y z:=by constructor <;> (unfold Nq; grind)
theorem Kn (w x y z:Rat) (p q:P3):(Rot w x y z p).dot (Rot w x y z q)=Nq w x y z*Nq w x y z*p.dot q:=by
 obtain⟨a1,a2⟩:=xU w x y z;obtain⟨b1,b2⟩:=xU w y z x;obtain⟨c1,c2⟩:=xU w z x y;obtain⟨n1,n2⟩:=aja w x y z;rw[n1]at b1;rw[n2]at c1;unfold Rot dot R0;simp only;generalize Nq w x y z*Nq w x y z=n at *;generalize ra w x y z=x1 at *;generalize rb w x y z=x2 at *;generalize rc w x y z=x3 at *;generalize ra w y z x=y1 at *;generalize rb w y z x=y2 at *;generalize rc w y z x=y3 at *;generalize ra w z x y=z1 at *;generalize rb w z x y=z2 at *;generalize rc w z x y=z3 at *;have e:(x1*p.x+x2*p.y+x3*p.z)*(x1*q.x+x2*q.y+x3*q.z)+(y1*p.y+y2*p.z+y3*p.x)*(y1*q.y+y2*q.z+y3*q.x)+(z1*p.z+z2*p.x+z3*p.y)*(z1*q.z+z2*q.x+z3*q.y) =
  (x1*x1+y3*y3+z2*z2)*(p.x*q.x)+(y1*y1+z3*z3+x2*x2)*(p.y*q.y)+(z1*z1+x3*x3+y2*y2)*(p.z*q.z)+(x1*x2+y3*y1+z2*z3)*(p.x*q.y+p.y*q.x)+(y1*y2+z3*z1+x2*x3)*(p.y*q.z+p.z*q.y)+(z1*z2+x3*x1+y2*y3)*(p.z*q.x+p.x*q.z):=by grind
 rw[e,a1,b1,c1,a2,b2,c2];grind
theorem Zn (w x y z c:Rat) (p:P3):Rot w x y z (P3.scl c p)=P3.scl c (Rot w x y z p):=by apply P3.ext' <;> (unfold Rot P3.scl R0; grind)
theorem Zo (w x y z:Rat) (p q:P3):Rot w x y z (p.sub q)=(Rot w x y z p).sub (Rot w x y z q):=by apply P3.ext' <;> (unfold Rot P3.sub R0; grind)
theorem P3.NB.rot {w x y z:Rat} {p:P3} {e:Rat} (h:NB p e) (hN:0<=Nq w x y z):NB (Rot w x y z p) (Nq w x y z*e):=by refine⟨Rat.mul_nonneg hN h.1,?_⟩;rw[Kn];have:=Rat.mul_nonneg (ak (Nq w x y z)) (by have:=h.2; grind:0<=e*e - p.dot p);grind
theorem Len.rot {w x y z:Rat} {p:P3} {lo hi:Rat} (h:Len p lo hi) (hN:0<=Nq w x y z):Len (Rot w x y z p) (Nq w x y z*lo) (Nq w x y z*hi):=by refine⟨Rat.mul_nonneg hN h.1,?_,h.2.2.rot hN⟩;rw[Kn];have:=Rat.mul_nonneg (ak (Nq w x y z)) (by have:=h.2.1; grind:0<=p.dot p - lo*lo);grind
end Go.Proofs.YtadejnnigmcpdaaGreatDoor
end
section
namespace Go.Proofs.YtadejnnigmcpdaaGreatDoor
open Go Go.Mach Ieee P3
structure Ax (P Q:P3) (l m h:Rat) (f U1 U2 U3:P3):Prop where
 l0:0<l
 ll:Bd (l*l - P.dot P) (37*uu*P.dot P)
 qm:NB Q m
 fm:NB (f.sub ((P3.scl (1 / l) P).crs Q)) (12*uu*m)
 h0:0<h
 hh:Bd (h*h - f.dot f) (37*uu*f.dot f)
 mh:m<=68*h
 u1:NB (U1.sub (P3.scl (1 / l) P)) (4*uu)
 u2:NB (U2.sub (P3.scl (1 / h) f)) (4*uu)
 u3:NB (U3.sub (U1.crs U2)) (8*uu)
theorem Am {x c e:Rat} (hc:0<c) (h:Bd (x*c) (e*c)):Bd x e:=by
 obtain⟨h1,h2⟩:=h;constructor
 ·rcases (Rat.le_total : -e<=x\/x <= -e)with k | k
  ·exact k
  ·rcases Rat.le_iff_lt_or_eq.1 k with k | k
   ·have:=Rat.mul_pos ((Rat.lt_iff_sub_pos _ _).1 k) hc;grind
   ·rw[k]; exact Rat.le_refl
 ·rcases (Rat.le_total:x<=e\/e<=x)with k | k
  ·exact k
  ·rcases Rat.le_iff_lt_or_eq.1 k with k | k
   ·have:=Rat.mul_pos ((Rat.lt_iff_sub_pos _ _).1 k) hc;grind
   ·rw[<- k]; exact Rat.le_refl
theorem TN {l:Rat} (c:Rat) (hl:0<l):1 / l*(c*l)=c:=by
 have:l ≠ 0:=by grind
 grind
theorem TO {l:Rat} (hl:0<l):0<=1 / l:=by rw[Rat.div_def,Rat.one_mul]; exact Rat.le_of_lt (Rat.inv_pos.2 hl)
theorem P3.NB.symm {p q:P3} {e:Rat} (h:NB (p.sub q) e):NB (q.sub p) e:=by
 have:=h.neg;have i:P3.scl (-1) (p.sub q)=q.sub p:=by apply P3.ext' <;> (unfold P3.scl P3.sub; grind)
 rwa [i]at this
theorem KS {P:P3} {l lo hi:Rat} (hl:0<l) (h:Len P (lo*l) (hi*l)):Len (P3.scl (1 / l) P) lo hi:=by
 have:=h.scl (TO hl)
 rwa [TN _ hl,TN _ hl]at this
theorem ahg {p:P3} {l c:Rat} (hl:0<l) (h:NB p (c*l)):NB (P3.scl (1 / l) p) c:=by
 have:=h.scl (c:=1 / l) (k:=1 / l) ⟨by have:=TO hl; grind,Rat.le_refl⟩
 rwa [TN _ hl]at this
section
variable {P Q:P3} {l m h:Rat} {f U1 U2 U3:P3}
theorem Ax.e1 (H:Ax P Q l m h f U1 U2 U3):Len (P3.scl (1 / l) P) (1 - 19*uu) (1+19*uu):=KS H.l0 (TZ H.l0 H.ll)
theorem Ax.x (H:Ax P Q l m h f U1 U2 U3):Len ((P3.scl (1 / l) P).crs Q) ((1 - 840*uu)*h) ((1+840*uu)*h):=by have h1:=TZ H.h0 H.hh;have h0:=H.h0;have hm:=H.mh;exact(h1.near H.fm.symm (by grind)).mono (by grind) (by grind) (by grind)
theorem Ax.e2 (H:Ax P Q l m h f U1 U2 U3):Len (P3.scl (1 / h) ((P3.scl (1 / l) P).crs Q)) (1 - 840*uu) (1+840*uu):=KS H.h0 H.x
theorem Ax.n2 (H:Ax P Q l m h f U1 U2 U3):NB (U2.sub (P3.scl (1 / h) ((P3.scl (1 / l) P).crs Q))) (820*uu):=by
 have h0:=H.h0;have hm:=H.mh;have a:NB (P3.scl (1 / h) (f.sub ((P3.scl (1 / l) P).crs Q))) (816*uu):=ahg h0 (H.fm.mono (by grind));have b:=H.u2.add a;have i:(U2.sub (P3.scl (1 / h) f)).add (P3.scl (1 / h) (f.sub ((P3.scl (1 / l) P).crs Q)))=U2.sub (P3.scl (1 / h) ((P3.scl (1 / l) P).crs Q)):=by generalize (P3.scl (1 / l) P).crs Q=X;generalize 1 / h=c;apply P3.ext' <;> (unfold P3.add P3.scl P3.sub; grind)
 rw[i]at b;exact b.mono (by grind)
theorem Rf (a b c d:P3):(a.crs b).sub (c.crs d)=((a.sub c).crs b).add (c.crs (b.sub d)):=by apply P3.ext' <;> (unfold P3.add P3.crs P3.sub; grind)
theorem Ax.n3 (H:Ax P Q l m h f U1 U2 U3):NB (U3.sub ((P3.scl (1 / l) P).crs (P3.scl (1 / h) ((P3.scl (1 / l) P).crs Q)))) (835*uu):=by
 have n2:=H.n2;have e2:=H.e2;have e1:=H.e1;have u1:=H.u1;have u3:=H.u3;generalize P3.scl (1 / h) ((P3.scl (1 / l) P).crs Q)=E2 at *;generalize P3.scl (1 / l) P=E1 at *;have hU2:=e2.2.2.le n2;have a:=(u1.crs hU2).add (e1.2.2.crs n2);rw[<- Rf]at a;have b:=u3.add a;have i:(U3.sub (U1.crs U2)).add ((U1.crs U2).sub (E1.crs E2))=U3.sub (E1.crs E2):=by generalize U1.crs U2=X;generalize E1.crs E2=Y;apply P3.ext' <;> (unfold P3.add P3.sub; grind)
 rw[i]at b;exact b.mono (by grind)
end
section
variable {w x y z:Rat} {a b u v:P3} {l l' m:Rat}
end
end Go.Proofs.YtadejnnigmcpdaaGreatDoor
end
