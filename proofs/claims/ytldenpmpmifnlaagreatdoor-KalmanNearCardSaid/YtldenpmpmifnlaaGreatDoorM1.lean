/-
  ONE NUMBER, ONE ROW: how near the variance behind an update lies to the exact one; over the rationals.
  Conditions: none.
-/
import Derived.Test.YtldenpmpmifnlaaGreatDoorFlG
import Derived.Test.YtldenpmpmifnlaaGreatDoorC8
set_option linter.unusedVariables false
section
namespace Go.Proofs.YtldenpmpmifnlaaGreatDoor
open Go Go.Mach Ieee
def u1:Rat:=1 / 9007199254740000
theorem Bd.mulr {x e y:Rat} (h:Bd x e) (hy:0<=y):Bd (x*y) (e*y):=by obtain⟨h1,h2⟩:=h;have a:=Rat.mul_nonneg (show 0<=x+e by grind) hy;have b:=Rat.mul_nonneg (show 0<=e - x by grind) hy;constructor <;> grind
theorem Bd.prod {x e y f:Rat} (h:Bd x e) (g:Bd y f):Bd (x*y) (e*f):=by obtain⟨h1,h2⟩:=h;obtain⟨g1,g2⟩:=g;have a:=Rat.mul_nonneg (show 0<=e+x by grind) (show 0<=f+y by grind);have b:=Rat.mul_nonneg (show 0<=e - x by grind) (show 0<=f - y by grind);have c:=Rat.mul_nonneg (show 0<=e+x by grind) (show 0<=f - y by grind);have d:=Rat.mul_nonneg (show 0<=e - x by grind) (show 0<=f+y by grind);constructor <;> grind
theorem Bd.plus {x e y f:Rat} (h:Bd x e) (g:Bd y f):Bd (x+y) (e+f):=by obtain⟨h1,h2⟩:=h;obtain⟨g1,g2⟩:=g;constructor <;> grind
theorem Bd.le' {x e f:Rat} (h:Bd x e) (g:e<=f):Bd x f:=by obtain⟨h1,h2⟩:=h;constructor <;> grind
theorem pk {a b e f g:Rat} (h:Bd a e) (k:Bd b f) (hg:e+f+e*f<=g):∃ c,Bd c g/\(1+a)*(1+b)=1+c:=
 ⟨a+b+a*b,((h.plus k).plus (h.prod k)).le' hg,by grind⟩
theorem aj3 {H r γ ρ δ ψ τ:Rat} (hH:0<=H) (hr:0<r) (hHr:H<=1048576*r) (h1:Bd γ (7*u1)) (h2:Bd ρ (13*u1)) (h3:Bd ψ (3*u1)) (h4:Bd τ (2*u1)) (h5:ρ=δ+τ) :
  Bd ((r - H*ρ)*(r - H*ρ)*(1+γ)+H*r*(1+2*δ+ψ) - (r*r+H*r)) (8*u1*(r*r+H*r)):=by
 have hr0:=Rat.le_of_lt hr;have rr:=Rat.mul_nonneg hr0 hr0;have Hr:=Rat.mul_nonneg hH hr0;have e:(r - H*ρ)*(r - H*ρ)*(1+γ)+H*r*(1+2*δ+ψ) - (r*r+H*r)=γ*(r*r)+(ψ + -2*τ + -2*(γ*ρ))*(H*r)+(1+γ)*(ρ*ρ)*(H*H):=by subst h5; grind
 rw[e];have b1:=h1.mulr rr;have b2:Bd (ψ + -2*τ + -2*(γ*ρ)) (7*u1+182*u1*u1):=by have:=h1.prod h2;obtain⟨p1,p2⟩:=this;obtain⟨q1,q2⟩:=h3;obtain⟨s1,s2⟩:=h4;constructor <;> grind
 have b3:=b2.mulr Hr;have c1:Bd ((1+γ)*(ρ*ρ)) (338*u1*u1):=by
  have g1:Bd (1+γ) 2:=by obtain⟨p1,p2⟩:=h1;unfold u1 at p1 p2;constructor <;> grind
  exact(g1.prod (h2.prod h2)).le' (by unfold u1; grind)
 have c2:=c1.mulr (Rat.mul_nonneg hH hH);have c3:338*u1*u1*(H*H)<=338*u1*u1*1048576*(H*r):=by
  have k1:=Rat.mul_nonneg hH (show 0<=1048576*r - H by grind);have k2:0<=338*u1*u1:=by unfold u1; grind
  generalize 338*u1*u1=c at *;have k3:=Rat.mul_nonneg k2 (show 0<=1048576*(H*r) - H*H by grind);generalize H*H=a at *;generalize H*r=b at *;grind
 refine((b1.plus b3).plus (c2.le' c3)).le' ?_;unfold u1;generalize r*r=x at *;generalize H*r=y at *;grind
theorem ae1:uu<=u1:=by unfold uu u1; decide +kernel
@[irreducible] def Ls:Rat:=Ue 900
theorem vS:0<Ls:=by unfold Ls; exact iA _
theorem U7:eta<=(u1 - uu)*Ls:=by
 have h1:eta=Ls*Ue 175:=by unfold eta Ls; rw[DL,<- q_]
 have h2:Ue 175<=u1 - uu:=by unfold Ue u1 uu; decide +kernel
 rw[h1];have:=Rat.mul_nonneg (Rat.le_of_lt vS) (show 0<=u1 - uu - Ue 175 by grind);grind
theorem ae3:0<Bg:=by unfold Bg; decide +kernel
def Sd (s:Rat):Prop:=s=1\/s = -1
theorem P9 {x X s w m m':Rat} (hs:Sd s) (hX:Ls<=s*X) (h:∀ A,Bd X A->Bd (x - X) (m*A+w)) (hm:0<=m' - m) (he:w<=(m' - m)*Ls):∃ θ,Bd θ m'/\x=X*(1+θ):=by
  have hL:=vS;have key:∀ Y y:Rat,Ls<=Y->Bd (y - Y) (m*Y+w) -> ∃ θ,Bd θ m'/\y=Y*(1+θ):=by
    intro Y y hY hb;have hY0:0<Y:=by grind
    have hne:Y ≠ 0:=by grind
    have e:(y - Y) / Y*Y=y - Y:=Rat.div_mul_cancel hne;refine⟨(y - Y) / Y,?_,by grind⟩;generalize (y - Y) / Y=θ at *;have hu:(m' - m)*Ls<=(m' - m)*Y:=by have:=Rat.mul_nonneg hm (show 0<=Y - Ls by grind);grind
    have hb2:Bd (θ*Y) (m'*Y):=by rw[e];exact hb.le' (by grind)
    obtain⟨b1,b2⟩:=hb2;constructor
    · rcases (Rat.le_total : -m'<=θ\/θ <= -m')with k | k
      · exact k
      · rcases Rat.le_iff_lt_or_eq.1 k with k | k
        · have:=Rat.mul_pos (show 0 < -m' - θ by grind) hY0
          grind
        · grind
    · rcases (Rat.le_total:θ<=m'\/m'<=θ)with k | k
      · exact k
      · rcases Rat.le_iff_lt_or_eq.1 k with k | k
        · have:=Rat.mul_pos (show 0<θ - m' by grind) hY0
          grind
        · grind
  rcases hs with rfl | rfl
  · exact key X x (by grind) (h X ⟨by grind,Rat.le_refl⟩)
  · obtain⟨θ,h1,h2⟩:=key (-X) (-x) (by grind) (by have:=h (-X) ⟨by grind,by grind⟩;obtain⟨a,b⟩:=this;constructor <;> grind)
    exact⟨θ,h1,by grind⟩
theorem M3 {x X s w:Rat} (hs:Sd s) (hX:Ls<=s*X) (h:∀ A,Bd X A->Bd (x - X) (uu*A+w)) (hw:w<=eta):∃ θ,Bd θ u1/\x=X*(1+θ):=
 P9 hs hX h (by have:=ae1; grind) (by have:=U7; grind)
theorem AW {s X B:Rat} (hs:Sd s) (h0:0<=s*X) (h:s*X<=B):Bd X B:=by rcases hs with rfl | rfl <;> constructor <;> grind
theorem ak1 {x y:Fl} (hx:aw x=true) (hy:aw y=true) {s:Rat} (hs:Sd s) (h1:Ls<=s*(rv x*rv y)) (h2:s*(rv x*rv y)<=Bg):aw (aZ x y)=true /\ ∃ θ,Bd θ u1/\rv (aZ x y)=rv x*rv y*(1+θ):=by obtain⟨a,-,c⟩:=AJ hx hy (AW hs (by have:=vS; grind) h2);exact⟨a,M3 hs h1 c Rat.le_refl⟩
theorem ahc {x y:Fl} (hx:aw x=true) (hy:aw y=true) {s:Rat} (hs:Sd s) (h1:Ls<=s*(rv x+rv y)) (h2:s*(rv x+rv y)<=Bg):aw (cu x y)=true /\ ∃ θ,Bd θ u1/\rv (cu x y)=(rv x+rv y)*(1+θ):=by obtain⟨a,c⟩:=D9 hx hy (AW hs (by have:=vS; grind) h2);exact⟨a,M3 hs h1 (λA hA=>by have:=c A hA; rwa [Rat.add_zero]) (Rat.le_of_lt xA)⟩
theorem ak2 {x y:Fl} (hx:aw x=true) (hy:aw y=true) {s:Rat} (hs:Sd s) (h1:Ls<=s*(rv x - rv y)) (h2:s*(rv x - rv y)<=Bg):aw (dF x y)=true /\ ∃ θ,Bd θ u1/\rv (dF x y)=(rv x - rv y)*(1+θ):=by obtain⟨a,c⟩:=Lt hx hy (AW hs (by have:=vS; grind) h2);exact⟨a,M3 hs h1 (λA hA=>by have:=c A hA; rwa [Rat.add_zero]) (Rat.le_of_lt xA)⟩
theorem aj6 {x y:Fl} (hx:aw x=true) (hy:aw y=true) {s:Rat} (hs:Sd s) (h0:rv y ≠ 0) (h1:Ls<=s*(rv x / rv y)) (h2:s*(rv x / rv y)<=Bg / 2):aw (fdiv x y)=true /\ ∃ θ,Bd θ (2*u1)/\rv (fdiv x y)=rv x / rv y*(1+θ):=by obtain⟨a,-,c⟩:=J4 hx hy h0 (AW hs (by have:=vS; grind) h2);have:=ae1;exact⟨a,P9 hs h1 c (by grind) (by have:=U7; have:=vS; have:=Rat.mul_nonneg (show 0<=u1 - uu by grind) (Rat.le_of_lt vS); grind)⟩
theorem adV {δ β α e f:Rat} (h:(1+δ)*(1+β)=1+α) (hb:Bd β f) (ha:Bd α e) (hf:f<=1 / 100) (he:0<=e+f):Bd δ ((e+f)*(100 / 99)):=by
 obtain⟨b1,b2⟩:=hb;obtain⟨a1,a2⟩:=ha;have g0:0<=(e+f)*(100 / 99):=by grind
 have gE:(e+f)*(100 / 99)*(99 / 100)=e+f:=by grind
 generalize (e+f)*(100 / 99)=G at *;have hd:δ*(1+β)=α - β:=by grind
 constructor
 ·rcases (Rat.le_total : -G<=δ\/δ <= -G)with k | k
  ·exact k
  ·have k1:=Rat.mul_nonneg (show 0 <= -δ - G by grind) (show 0<=(1+β) - 99 / 100 by grind);have k2:(-δ - G)*(1+β - 99 / 100) = -(δ*(1+β)) - G*β+δ*(99 / 100)+G*(99 / 100) - G:=by grind
   have k3:=Rat.mul_nonneg g0 (show 0<=β+1 / 100 by grind);rw[k2,hd]at k1;grind
 ·rcases (Rat.le_total:δ<=G\/G<=δ)with k | k
  ·exact k
  ·have k1:=Rat.mul_nonneg (show 0<=δ - G by grind) (show 0<=(1+β) - 99 / 100 by grind);have k2:(δ - G)*(1+β - 99 / 100)=δ*(1+β) - G - G*β - δ*(99 / 100)+G*(99 / 100):=by grind
   have k3:=Rat.mul_nonneg g0 (show 0<=β+1 / 100 by grind);rw[k2,hd]at k1;grind
theorem U0 {x e T:Rat} (hT:0<T) (h:Bd x (e*T)):∃ q,x=q*T/\Bd q e:=by
 have e1:x / T*T=x:=Rat.div_mul_cancel (by grind);refine⟨x / T,e1.symm,?_⟩;generalize x / T=q at *;subst e1;obtain⟨h1,h2⟩:=h;constructor
 ·rcases (Rat.le_total : -e<=q\/q <= -e)with k | k
  ·exact k
  ·rcases Rat.le_iff_lt_or_eq.1 k with k | k
   ·have:=Rat.mul_pos (show 0 < -e - q by grind) hT;grind
   ·grind
 ·rcases (Rat.le_total:q<=e\/e<=q)with k | k
  ·exact k
  ·rcases Rat.le_iff_lt_or_eq.1 k with k | k
   ·have:=Rat.mul_pos (show 0<q - e by grind) hT;grind
   ·grind
theorem Vo {p h r v w S k f1 f3 H T θ1 θ2 θ3 θ4 θ5 θ6:Rat} (hp:p*h ≠ 0) (hH:p*h*h=H) (hH0:0<=H) (hr:0<r) (hT:H+r=T)
  (t1:Bd θ1 u1) (t2:Bd θ2 u1) (t3:Bd θ3 u1) (t4:Bd θ4 u1) (t5:Bd θ5 u1) (t6:Bd θ6 (2*u1))
  (r1:f1=p*h*(1+θ1)) (r2:v=f1*(1+θ2)) (r3:f3=h*v*(1+θ3)) (r4:w=f3*(1+θ4)) (r5:S=(w+r)*(1+θ5)) (r6:k*S=v*(1+θ6)) :
  ∃ δ,Bd δ (10*u1)/\k*T=p*h*(1+δ):=by
 have T0:0<T:=by grind
 obtain⟨α1,a1,e1⟩:=pk t1 t2 (g:=201 / 100*u1) (by unfold u1; decide +kernel);obtain⟨α',a',e'⟩:=pk t3 t4 (g:=201 / 100*u1) (by unfold u1; decide +kernel);obtain⟨α2,a2,e2⟩:=pk a1 a' (g:=403 / 100*u1) (by unfold u1; decide +kernel);obtain⟨α3,a3,e3⟩:=pk a1 t6 (g:=402 / 100*u1) (by unfold u1; decide +kernel);have hv:v=p*h*(1+α1):=by rw[<- e1,r2,r1]; grind
 have hw:w=H*(1+α2):=by rw[<- e2,<- e1,<- e',r4,r3,r2,r1,<- hH]; grind
 have hS:Bd (S - T) (51 / 10*u1*T):=by
  have b1:=a2.mulr hH0;have b2:=t5.mulr (Rat.le_of_lt T0);have b3:=(b1.prod t5)
  have e:S - T=α2*H+θ5*T+α2*H*θ5:=by rw[r5,hw,<- hT]; grind
  rw[e];refine((b1.plus b2).plus b3).le' ?_;have:H<=T:=by grind
  unfold u1;grind
 obtain⟨β,q1,q2⟩:=U0 T0 hS;have hST:S=T*(1+β):=by grind
 have hk:k*T*(1+β)=p*h*(1+α3):=by
  have:k*T*(1+β)=k*S:=by rw[hST]; grind
  rw[this,r6,hv,<- e3]; grind
 have hd:k*T / (p*h)*(p*h)=k*T:=Rat.div_mul_cancel hp;generalize k*T / (p*h)=Q at *;refine⟨Q - 1,?_,by grind⟩;have hq:(1+(Q - 1))*(1+β)=1+α3:=by
  have z:(Q*(1+β) - (1+α3))*(p*h)=0:=by rw[<- hd]at hk; grind
  rcases Rat.mul_eq_zero.1 z with z | z
  ·grind
  ·exact absurd z hp
 refine(adV hq q2 a3 (by unfold u1; decide +kernel) (by unfold u1; decide +kernel)).le' (by unfold u1; decide +kernel)
theorem WI {p h r k kb H T δ θ7:Rat} (hH:p*h*h=H) (hH0:0<=H) (hr:0<r) (hT:H+r=T) (hHr:H<=1048576*r) (d:Bd δ (10*u1)) (hk:k*T=p*h*(1+δ)) (t7:Bd θ7 u1) (r7:kb=k*h*(1+θ7)) :
  ∃ τ,Bd τ (2*u1)/\Bd (δ+τ) (13*u1)/\T*(1 - kb)=r - H*(δ+τ)/\1 / 4194304<=1 - kb/\1 - kb<=2:=by
 have T0:0<T:=by grind
 have b1:Bd (θ7+θ7*δ) (2*u1):=(t7.plus (t7.prod d)).le' (by unfold u1; decide +kernel);have b2:Bd (δ+(θ7+θ7*δ)) (13*u1):=(d.plus b1).le' (by unfold u1; decide +kernel);have e:T*(1 - kb)=r - H*(δ+(θ7+θ7*δ)):=by
  have:T*kb=H*(1+δ)*(1+θ7):=by
   rw[r7];have:T*(k*h*(1+θ7))=k*T*h*(1+θ7):=by grind
   rw[this,hk,<- hH]; grind
  grind
 refine⟨_,b1,b2,e,?_,?_⟩
 ·generalize δ+(θ7+θ7*δ)=ρ at *;have c:=b2.mulr hH0;have c2:13*u1*H<=r / 2:=by unfold u1; grind
  have c3:r / 2<=T*(1 - kb):=by have:=c.2; grind
  rcases (Rat.le_total:1 / 4194304<=1 - kb\/1 - kb<=1 / 4194304)with k | k
  ·exact k
  ·have:=Rat.mul_nonneg (Rat.le_of_lt T0) (show 0<=1 / 4194304 - (1 - kb) by grind);generalize 1 - kb=X at *;have:T*X<=T / 4194304:=by grind
   grind
 ·generalize δ+(θ7+θ7*δ)=ρ at *;have c:=b2.mulr hH0;have c3:T*(1 - kb)<=T+13*u1*T:=by
   have h1:=c.1;have h2:13*u1*H<=13*u1*T:=by unfold u1; grind
   grind
  rcases (Rat.le_total:1 - kb<=2\/2<=1 - kb)with k | k
  ·exact k
  ·have:=Rat.mul_nonneg (Rat.le_of_lt T0) (show 0<=(1 - kb) - 2 by grind);generalize 1 - kb=X at *;unfold u1 at c3;grind
theorem aeF {p h r k X A f9 B f11 D e F P H T δ τ θ8 θ9 θ10 θ11 θ12 θ13 θ14 θ15:Rat} (hp0:0<p) (hH:p*h*h=H) (hH0:0<=H) (hr:0<r) (hT:H+r=T) (hHr:H<=1048576*r)
  (d:Bd δ (10*u1)) (hk:k*T=p*h*(1+δ)) (ht:Bd τ (2*u1)) (hρ:Bd (δ+τ) (13*u1)) (hX:T*X=r - H*(δ+τ))
  (t8:Bd θ8 u1) (t9:Bd θ9 u1) (t10:Bd θ10 u1) (t11:Bd θ11 u1) (t12:Bd θ12 u1) (t13:Bd θ13 u1) (t14:Bd θ14 u1) (t15:Bd θ15 u1)
  (r8:A=X*(1+θ8)) (r9:f9=A*p*(1+θ9)) (r10:B=f9*(1+θ10)) (r11:f11=B*A*(1+θ11)) (r12:D=f11*(1+θ12)) (r13:e=k*r*(1+θ13)) (r14:F=e*k*(1+θ14)) (r15:P=(D+F)*(1+θ15)) :
  Bd (P*T - p*r) (10*u1*(p*r)):=by
 have T0:0<T:=by grind
 obtain⟨g1,b1,e1⟩:=pk t8 t8 (g:=201 / 100*u1) (by unfold u1; decide +kernel);obtain⟨g2,b2,e2⟩:=pk t9 t10 (g:=201 / 100*u1) (by unfold u1; decide +kernel);obtain⟨g3,b3,e3⟩:=pk t11 t12 (g:=201 / 100*u1) (by unfold u1; decide +kernel);obtain⟨g4,b4,e4⟩:=pk b1 b2 (g:=403 / 100*u1) (by unfold u1; decide +kernel);obtain⟨γ,b5,e5⟩:=pk b4 b3 (g:=7*u1) (by unfold u1; decide +kernel);obtain⟨φ,b6,e6⟩:=pk t13 t14 (g:=201 / 100*u1) (by unfold u1; decide +kernel);have hD:D=X*X*p*(1+γ):=by rw[<- e5,<- e4,<- e3,<- e2,<- e1,r12,r11,r10,r9,r8]; grind
 have hF:F=k*k*r*(1+φ):=by rw[<- e6,r14,r13]; grind
 have b7:Bd (δ*δ+φ*((1+δ)*(1+δ))) (3*u1):=by
  have c1:=d.prod d;have c2:Bd (1+δ) (101 / 100):=by obtain⟨p1,p2⟩:=d;unfold u1 at p1 p2;constructor <;> grind
  exact(c1.plus (b6.prod (c2.prod c2))).le' (by unfold u1; decide +kernel)
 have hc:=aj3 hH0 hr hHr b5 hρ b7 ht rfl;have h1:T*T*D=p*((r - H*(δ+τ))*(r - H*(δ+τ))*(1+γ)):=by rw[hD,<- hX]; grind
 have h2:T*T*F=p*(H*r*(1+2*δ+(δ*δ+φ*((1+δ)*(1+δ))))):=by
  have:T*T*F=k*T*(k*T)*r*(1+φ):=by rw[hF]; grind
  rw[this,hk,<- hH]; grind
 generalize (r - H*(δ+τ))*(r - H*(δ+τ))*(1+γ)=Y at *;generalize H*r*(1+2*δ+(δ*δ+φ*((1+δ)*(1+δ))))=Z at *;have h3:(T*(D+F) - p*r)*T=p*(Y+Z - (r*r+H*r)):=by
  have:(T*(D+F) - p*r)*T=T*T*D+T*T*F - p*r*T:=by grind
  rw[this,h1,h2,<- hT]; grind
 have h4:Bd ((T*(D+F) - p*r)*T) (8*u1*(p*r)*T):=by
  rw[h3];have m:=hc.mulr (Rat.le_of_lt hp0);have e1:(Y+Z - (r*r+H*r))*p=p*(Y+Z - (r*r+H*r)):=by grind
  have e2:8*u1*(r*r+H*r)*p=8*u1*(p*r)*T:=by rw[<- hT]; grind
  rw[e1,e2]at m;exact m
 obtain⟨q,q1,q2⟩:=U0 T0 h4;have h5:T*(D+F) - p*r=q:=by
  have z:(T*(D+F) - p*r - q)*T=0:=by grind
  rcases Rat.mul_eq_zero.1 z with z | z
  ·grind
  ·rw[z]at T0; exact absurd T0 (by decide)
 have pr0:0<=p*r:=Rat.mul_nonneg (Rat.le_of_lt hp0) (Rat.le_of_lt hr);have h6:P*T - p*r=q+(p*r)*θ15+q*θ15:=by rw[r15,<- h5]; grind
 rw[h6];have m1:Bd ((p*r)*θ15) (u1*(p*r)):=by
  have:=t15.mulr pr0
  rwa [Rat.mul_comm θ15]at this
 refine((q2.plus m1).plus (q2.prod t15)).le' ?_;generalize p*r=y at *;unfold u1;grind
def In2 (x:Rat) (m n:Nat):Prop:=Ue m<=x/\x<=2 ^ n
theorem T2 (m:Nat):Ue m*2 ^ m=1:=by rw[Rat.mul_comm]; exact nB m
theorem In2.pos {x:Rat} {m n:Nat} (h:In2 x m n):0<x:=by have:=iA m; have:=h.1; grind
theorem l9 {a b:Nat} (h:a<=b):(2:Rat) ^ a<=2 ^ b:=by have:((2 ^ a:Nat):Rat)<=((2 ^ b:Nat):Rat):=Rat.natCast_le_natCast.2 (Nat.pow_le_pow_right (by decide) h);rw[Rat.natCast_pow,Rat.natCast_pow]at this;exact this
theorem Qa {a b x y:Rat} (ha:0<=a) (hb:0<=b) (h1:a<=x) (h2:b<=y):a*b<=x*y:=by have k1:=Rat.mul_nonneg (show 0<=x - a by grind) (show 0<=y by grind);have k2:=Rat.mul_nonneg ha (show 0<=y - b by grind);grind
theorem In2.mul {x y:Rat} {m n m' n':Nat} (h:In2 x m n) (g:In2 y m' n'):In2 (x*y) (m+m') (n+n'):=by
 have x0:=Rat.le_of_lt h.pos;have y0:=Rat.le_of_lt g.pos;refine⟨?_,?_⟩
 ·rw[q_]; exact Qa (Rat.le_of_lt (iA _)) (Rat.le_of_lt (iA _)) h.1 g.1
 ·rw[lC]; exact Qa x0 y0 h.2 g.2
theorem In2.fac {x θ:Rat} {m n:Nat} (h:In2 x m n) (g:Bd θ (1 / 2)):In2 (x*(1+θ)) (m+1) (n+1):=by
 refine h.mul ⟨?_,?_⟩
 ·have:Ue 1=1 / 2:=by unfold Ue; decide +kernel
  rw[this]; obtain⟨a,b⟩:=g; grind
 ·have:(2:Rat) ^ 1=2:=by decide +kernel
  rw[this]; obtain⟨a,b⟩:=g; grind
theorem In2.div {x y:Rat} {m n m' n':Nat} (h:In2 x m n) (g:In2 y m' n'):In2 (x / y) (m+n') (n+m'):=by
 have y0:=g.pos;have e:x / y*y=x:=Rat.div_mul_cancel (by grind);have q:In2 (1 / y) n' m':=by
  have e1:1 / y*y=1:=Rat.div_mul_cancel (by grind);have i1:=T2 n';have i2:=T2 m';have u1:=iA n';have u2:=iA m';have p1:=uP m';have z0:0<1 / y:=by
   rcases (Rat.le_total:1 / y<=0\/0<=1 / y)with k | k
   ·have:=Rat.mul_nonneg (show 0 <= -(1 / y) by grind) (Rat.le_of_lt y0);grind
   ·rcases Rat.le_iff_lt_or_eq.1 k with k | k
    ·exact k
    ·rw[<- k]at e1; grind
  generalize 1 / y=z at *;constructor
  ·have k1:=Rat.mul_nonneg (Rat.le_of_lt z0) (show 0<=2 ^ n' - y by have:=g.2; grind);have k2:=Rat.mul_nonneg (Rat.le_of_lt u1) (show 0<=z*2 ^ n' - 1 by grind);have:Ue n'*(z*2 ^ n' - 1)=z*(Ue n'*2 ^ n') - Ue n':=by grind
   rw[this,i1]at k2;grind
  ·have k1:=Rat.mul_nonneg (Rat.le_of_lt z0) (show 0<=y - Ue m' by have:=g.1; grind);have k2:=Rat.mul_nonneg (Rat.le_of_lt p1) (show 0<=1 - z*Ue m' by grind);have:2 ^ m'*(1 - z*Ue m')=2 ^ m' - z*(Ue m'*2 ^ m'):=by grind
   rw[this,i2]at k2;grind
 have:x / y=x*(1 / y):=by rw[Rat.div_def,Rat.div_def,Rat.one_mul]
 rw[this];exact h.mul q
theorem In2.toLs {x:Rat} {m n:Nat} (h:In2 x m n) (hm:m<=900):Ls<=x:=by unfold Ls;exact Rat.le_trans (T3 hm) h.1
theorem In2.toBg {x:Rat} {m n:Nat} (h:In2 x m n) (hn:n<=900):x<=Bg:=by unfold Bg;exact Rat.le_trans h.2 (l9 hn)
theorem In2.toBg2 {x:Rat} {m n:Nat} (h:In2 x m n) (hn:n<=899):x<=Bg / 2:=by
 have e:Bg / 2=2 ^ 899:=by unfold Bg; decide +kernel
 rw[e];exact Rat.le_trans h.2 (l9 hn)
theorem DB {θ:Rat} (h:Bd θ u1):Bd θ (1 / 2):=h.le' (by unfold u1; decide +kernel)
theorem aeE {θ:Rat} (h:Bd θ (2*u1)):Bd θ (1 / 2):=h.le' (by unfold u1; decide +kernel)
theorem zz:aw (some 0)=true/\rv (some 0)=0:=AP false
theorem aha {x:Fl} (hx:aw x=true) {s:Rat} (hs:Sd s) {m n:Nat} (h:In2 (s*rv x) m n) (hm:m<=900) (hn:n<=900):aw (cu (some 0) x)=true /\ ∃ θ,Bd θ u1/\rv (cu (some 0) x)=rv x*(1+θ):=by
 have e:rv (some 0)+rv x=rv x:=by rw[zz.2]; grind
 have:=ahc (x:=some 0) zz.1 hx hs (by rw[e]; exact h.toLs hm) (by rw[e]; exact h.toBg hn)
 rwa [e]at this
theorem sq1 {s:Rat} (hs:Sd s):s*s=1:=by rcases hs with rfl | rfl <;> grind
theorem mn:Sd 1:=.inl rfl
theorem Sd.mul {s t:Rat} (h:Sd s) (g:Sd t):Sd (s*t):=by
 rcases h with rfl | rfl <;> rcases g with rfl | rfl
 ·left; decide +kernel
 ·right; decide +kernel
 ·right; decide +kernel
 ·left; decide +kernel
theorem MX {x y:Fl} (hx:aw x=true) (hy:aw y=true) {s t:Rat} (hs:Sd s) (ht:Sd t) {m n m' n':Nat} (h:In2 (s*rv x) m n) (g:In2 (t*rv y) m' n') (hm:m+m'<=900) (hn:n+n'<=900) :
  aw (aZ x y)=true/\In2 (s*t*rv (aZ x y)) (m+m'+1) (n+n'+1) /\ ∃ θ,Bd θ u1/\rv (aZ x y)=rv x*rv y*(1+θ):=by
 have i:=h.mul g;have e:s*rv x*(t*rv y)=s*t*(rv x*rv y):=by grind
 rw[e]at i;obtain⟨a,θ,b,c⟩:=ak1 hx hy (hs.mul ht) (i.toLs hm) (i.toBg hn);refine⟨a,?_,θ,b,c⟩;rw[c];have e2:s*t*(rv x*rv y*(1+θ))=s*t*(rv x*rv y)*(1+θ):=by grind
 rw[e2];exact i.fac (DB b)
theorem PD {x:Fl} (hx:aw x=true) {s:Rat} (hs:Sd s) {m n:Nat} (h:In2 (s*rv x) m n) (hm:m<=900) (hn:n<=900) :
  aw (cu (some 0) x)=true/\In2 (s*rv (cu (some 0) x)) (m+1) (n+1) /\ ∃ θ,Bd θ u1/\rv (cu (some 0) x)=rv x*(1+θ):=by
 obtain⟨a,θ,b,c⟩:=aha hx hs h hm hn;refine⟨a,?_,θ,b,c⟩;rw[c];have e2:s*(rv x*(1+θ))=s*rv x*(1+θ):=by grind
 rw[e2];exact h.fac (DB b)
theorem aj5 {x y:Fl} (hx:aw x=true) (hy:aw y=true) {s:Rat} (hs:Sd s) {m n m' n':Nat} (h:In2 (s*rv x) m n) (g:In2 (rv y) m' n') (hm:m+n'<=900) (hn:n+m'<=899) :
  aw (fdiv x y)=true/\In2 (s*rv (fdiv x y)) (m+n'+1) (n+m'+1) /\ ∃ θ,Bd θ (2*u1)/\rv (fdiv x y)*rv y=rv x*(1+θ):=by
 have i:=h.div g;have y0:=g.pos;have e:s*rv x / rv y=s*(rv x / rv y):=by rw[Rat.div_def,Rat.div_def,Rat.mul_assoc]
 rw[e]at i;obtain⟨a,θ,b,c⟩:=aj6 hx hy hs (by grind) (i.toLs hm) (i.toBg2 hn);have e1:rv x / rv y*rv y=rv x:=Rat.div_mul_cancel (by grind);refine⟨a,?_,θ,b,?_⟩
 ·rw[c];have e2:s*(rv x / rv y*(1+θ))=s*(rv x / rv y)*(1+θ):=by grind
  rw[e2];exact i.fac (aeE b)
 ·rw[c];generalize rv x / rv y=q at *;grind
theorem ahb {x y:Fl} (hx:aw x=true) (hy:aw y=true) {m n m' n' k:Nat} (h:In2 (rv x) m n) (g:In2 (rv y) m' n') (hm:m'<=900) (hk:k<900) (h1:n<=k) (h2:n'<=k) :
  aw (cu x y)=true/\In2 (rv (cu x y)) (m'+1) (k+2) /\ ∃ θ,Bd θ u1/\rv (cu x y)=(rv x+rv y)*(1+θ):=by
 have i:In2 (rv x+rv y) m' (k+1):=by
  refine⟨?_,?_⟩
  ·have:=h.pos; have:=g.1; grind
  ·have a:=Rat.le_trans h.2 (l9 h1);have b:=Rat.le_trans g.2 (l9 h2);have:(2:Rat) ^ (k+1)=2 ^ k*2:=by rw[lC]; congr 1
   rw[this]; grind
 obtain⟨a,θ,b,c⟩:=ahc hx hy mn (by rw[Rat.one_mul]; exact i.toLs hm) (by rw[Rat.one_mul]; exact i.toBg (by omega));exact⟨a,by rw[c]; exact i.fac (DB b),θ,b,c⟩
theorem In2.one {x:Rat} {m n:Nat} (h:In2 x m n):In2 (1*x) m n:=by rwa [Rat.one_mul]
theorem In2.un1 {x:Rat} {m n:Nat} (h:In2 (1*x) m n):In2 x m n:=by rwa [Rat.one_mul]at h
theorem SY (s:Rat):1*s=s:=Rat.one_mul s
def adX:Fl:=some 4607182418800017408
theorem IA {b:Nat} {i:Int} (h:Ieee.double.read b=.number false 4503599627370496 i) {n:Nat} (hi:(i+1074).toNat+52+n=1074 ):aw (some b)=true/\rv (some b)=Ue n:=by
 refine⟨sw h,?_⟩;rw[ne h,jh,if_neg (by decide),Rat.natCast_mul,Rat.natCast_pow];generalize (i+1074).toNat=a at *;have hS:Sp=(a+52)+n:=by rw[DL]; omega
 rw[hS,q_,q_];have h1:((2:Nat):Rat) ^ a*Ue a=1:=nB a;have h2:(2:Rat) ^ 52*Ue 52=1:=nB 52;have h3:((4503599627370496:Nat):Rat)=(2:Rat) ^ 52:=by decide +kernel
 rw[h3];generalize ((2:Nat):Rat) ^ a=p at *;generalize (2:Rat) ^ 52=q at *;generalize Ue a=r at *;generalize Ue 52=s at *;have:q*p*(r*s*Ue n)=(p*r)*(q*s)*Ue n:=by grind
 rw[this,h1,h2,Rat.one_mul,Rat.one_mul]
theorem Fh:aw adX=true/\rv adX=1:=by have h:=IA (b:=4607182418800017408) (i:=-52) (by decide) (n:=0) (by decide);refine⟨h.1,h.2.trans ?_⟩;unfold Ue; decide +kernel
def V1 (a b:Fl):Fl:=cu (some 0) (aZ a b)
def W1 (a b:Fl):Fl:=cu (some 0) (aZ b (V1 a b))
def S1 (a b c:Fl):Fl:=cu (W1 a b) c
def K1 (a b c:Fl):Fl:=fdiv (V1 a b) (S1 a b c)
def A1 (a b c:Fl):Fl:=dF adX (aZ (K1 a b c) b)
def B1 (a b c:Fl):Fl:=cu (some 0) (aZ (A1 a b c) a)
def D1 (a b c:Fl):Fl:=cu (some 0) (aZ (B1 a b c) (A1 a b c))
def F1 (a b c:Fl):Fl:=aZ (aZ (K1 a b c) c) (K1 a b c)
def P1 (a b c:Fl):Fl:=cu (D1 a b c) (F1 a b c)
structure Upd1 (a b c:Fl) (s:Rat):Prop where
 fv:aw (aZ a b)=true/\aw (V1 a b)=true
 fS:aw (aZ b (V1 a b))=true/\aw (W1 a b)=true/\aw (S1 a b c)=true
 fk:aw (K1 a b c)=true
 fA:aw (aZ (K1 a b c) b)=true/\aw (A1 a b c)=true
 fD:aw (aZ (A1 a b c) a)=true/\aw (B1 a b c)=true/\aw (aZ (B1 a b c) (A1 a b c))=true/\aw (D1 a b c)=true
 ff:aw (aZ (K1 a b c) c)=true/\aw (F1 a b c)=true
 fP:aw (P1 a b c)=true
 S0:In2 (rv (S1 a b c)) 101 207
 k0:In2 (s*rv (K1 a b c)) 360 254
 P0:0<rv (P1 a b c)
 near:Bd (rv (P1 a b c)*(rv a*rv b*rv b+rv c) - rv a*rv c) (10*u1*(rv a*rv c))
theorem ak4 {a b c:Fl} (ha:aw a=true) (hb:aw b=true) (hc:aw c=true) {s:Rat} (hs:Sd s) (ia:In2 (rv a) 100 100) (ib:In2 (s*rv b) 50 50) (ic:In2 (rv c) 100 100) (hH:rv a*rv b*rv b<=1048576*rv c):Upd1 a b c s:=by
 obtain⟨f1,i1,θ1,t1,r1⟩:=MX ha hb mn hs ia.one ib (by omega) (by omega);rw[SY]at i1;obtain⟨f2,i2,θ2,t2,r2⟩:=PD f1 hs i1 (by omega) (by omega);change aw (V1 a b)=true at f2;change In2 (s*rv (V1 a b)) _ _ at i2;change rv (V1 a b)=_ at r2;obtain⟨f3,i3,θ3,t3,r3⟩:=MX hb f2 hs hs ib i2 (by omega) (by omega);rw[sq1 hs]at i3;obtain⟨f4,i4,θ4,t4,r4⟩:=PD f3 mn i3 (by omega) (by omega);change aw (W1 a b)=true at f4;change In2 (1*rv (W1 a b)) _ _ at i4;change rv (W1 a b)=_ at r4;obtain⟨f5,i5,θ5,t5,r5⟩:=ahb (k:=205) f4 hc i4.un1 ic (by omega) (by omega) (by omega) (by omega);change aw (S1 a b c)=true at f5;change In2 (rv (S1 a b c)) _ _ at i5;change rv (S1 a b c)=_ at r5;obtain⟨f6,i6,θ6,t6,r6⟩:=aj5 f2 f5 hs i2 i5 (by omega) (by omega);change aw (K1 a b c)=true at f6;change In2 (s*rv (K1 a b c)) _ _ at i6;change rv (K1 a b c)*_=_ at r6;obtain⟨f7,i7,θ7,t7,r7⟩:=MX f6 hb hs hs i6 ib (by omega) (by omega);have hp0:=ia.pos;have hr:=ic.pos;have hb0:rv b ≠ 0:=by intro h;have:=ib.pos;rw[h]at this;grind
 have hp:rv a*rv b ≠ 0:=by
  intro h;rcases Rat.mul_eq_zero.1 h with z | z
  ·rw[z]at hp0; exact absurd hp0 (by decide)
  ·exact hb0 z
 have hH0:0<=rv a*rv b*rv b:=by
  have h2:0<=rv b*rv b:=by
   rcases (Rat.le_total:0<=rv b\/rv b<=0)with h | h
   ·exact Rat.mul_nonneg h h
   ·have:=Rat.mul_nonneg (show 0 <= -rv b by grind) (show 0 <= -rv b by grind);grind
  have:=Rat.mul_nonneg (Rat.le_of_lt hp0) h2
  rwa [Rat.mul_assoc]
 obtain⟨δ,d,hk⟩:=Vo hp rfl hH0 hr rfl t1 t2 t3 t4 t5 t6 r1 r2 r3 r4 r5 r6;obtain⟨τ,ht,hρ,hX,x1,x2⟩:=WI rfl hH0 hr rfl hH d hk t7 r7;have iX:In2 (rv adX - rv (aZ (K1 a b c) b)) 22 1:=by
  rw[Fh.2];refine⟨?_,?_⟩
  ·have:Ue 22=1 / 4194304:=by unfold Ue; decide +kernel
   rw[this]; exact x1
  ·have:(2:Rat) ^ 1=2:=by decide +kernel
   rw[this]; exact x2
 obtain⟨f8,θ8,t8,r8⟩:=ak2 Fh.1 f7 mn (by rw[Rat.one_mul]; exact iX.toLs (by omega)) (by rw[Rat.one_mul]; exact iX.toBg (by omega));have i8:=iX.fac (DB t8);rw[<- r8]at i8;rw[Fh.2]at r8;change aw (A1 a b c)=true at f8;change In2 (rv (A1 a b c)) _ _ at i8;change rv (A1 a b c)=_ at r8;obtain⟨f9,i9,θ9,t9,r9⟩:=MX f8 ha mn mn i8.one ia.one (by omega) (by omega);obtain⟨f10,i10,θ10,t10,r10⟩:=PD f9 (mn.mul mn) i9 (by omega) (by omega);change aw (B1 a b c)=true at f10;change In2 (1*1*rv (B1 a b c)) _ _ at i10;change rv (B1 a b c)=_ at r10;obtain⟨f11,i11,θ11,t11,r11⟩:=MX f10 f8 (mn.mul mn) mn i10 i8.one (by omega) (by omega);obtain⟨f12,i12,θ12,t12,r12⟩:=PD f11 ((mn.mul mn).mul mn) i11 (by omega) (by omega);change aw (D1 a b c)=true at f12;change In2 (1*1*1*rv (D1 a b c)) _ _ at i12;change rv (D1 a b c)=_ at r12;have e1:(1:Rat)*1*1=1:=by decide +kernel
 rw[e1]at i12;obtain⟨f13,i13,θ13,t13,r13⟩:=MX f6 hc hs mn i6 ic.one (by omega) (by omega);obtain⟨f14,i14,θ14,t14,r14⟩:=MX f13 f6 (hs.mul mn) hs i13 i6 (by omega) (by omega);change aw (F1 a b c)=true at f14;change In2 (s*1*s*rv (F1 a b c)) _ _ at i14;change rv (F1 a b c)=_ at r14;have e2:s*1*s=1:=by rw[Rat.mul_one,sq1 hs]
 rw[e2]at i14;obtain⟨f15,i15,θ15,t15,r15⟩:=ahb (k:=610) f12 f14 i12.un1 i14.un1 (by omega) (by omega) (by omega) (by omega);change aw (P1 a b c)=true at f15;change In2 (rv (P1 a b c)) _ _ at i15;change rv (P1 a b c)=_ at r15;exact⟨⟨f1,f2⟩,⟨f3,f4,f5⟩,f6,⟨f7,f8⟩,⟨f9,f10,f11,f12⟩,⟨f13,f14⟩,f15,i5,i6,i15.pos,
  aeF hp0 rfl hH0 hr rfl hH d hk ht hρ hX t8 t9 t10 t11 t12 t13 t14 t15 r8 r9 r10 r11 r12 r13 r14 r15⟩
theorem tJ {σ:Type} {step:σ->(σ->Bool)->Bool} {s0:σ} (s1:σ) {N:Nat} (hN:1000<=N) {out:Bool} (h0:∀ K,step s0 K=K s1) (h1:∀ K,step s1 K=out):al N step s0=out:=by
 obtain⟨M,rfl⟩:∃ M,N=M+1+1:=⟨N - 2,by omega⟩
 show step s0 (al (M+1) step)=out;rw[h0];show step s1 (al M step)=out;exact h1 _
theorem DK {N:Nat} {x:Fl} (hx:aw x=true) (hw:FW x) (o:Bool) (b1:List Fl) (b2 b3:Int) (b4 b5:List Fl) (b6 b7 b8:Fl) (b9:List Fl) (k:Bool->Bool):sQ4 N x o b1 b2 b3 b4 b5 b6 b7 b8 b9 k=k o:=by unfold sQ4 GQ4;rw[EG hx,sZ N hx hw]; rfl
theorem PB {N:Nat} {x y:Fl} (hx:aw (aZ x y)=true) (o:Bool) (b1:List Fl) (b2 b3:Int) (b4 b5:List Fl) (b6 b7 b8:Fl) (b9:List Fl) (k:Fl->Bool->Bool):Ni N x y o b1 b2 b3 b4 b5 b6 b7 b8 b9 k=k (aZ x y) o:=by unfold Ni aaL;rw[DK hx (O5 x y)]
theorem sn {N:Nat} {x:Fl} (hx:aw x=true) (hw:FW x) (o:Bool) (b1:List Fl) (b2 b3:Int) (b4 b5:List Fl) (b6 b7 b8:Fl) (b9 b10:List Fl) (k:Bool->Bool):sQ1 N x o b1 b2 b3 b4 b5 b6 b7 b8 b9 b10 k=k o:=by unfold sQ1 GQ1;rw[EG hx,sZ N hx hw]; rfl
theorem qW {N:Nat} {x y:Fl} (hx:aw (aZ x y)=true) (o:Bool) (b1:List Fl) (b2 b3:Int) (b4 b5:List Fl) (b6 b7 b8:Fl) (b9 b10:List Fl) (k:Fl->Bool->Bool):sQ0 N x y o b1 b2 b3 b4 b5 b6 b7 b8 b9 b10 k=k (aZ x y) o:=by unfold sQ0 GQ0;rw[sn hx (O5 x y)]
theorem zL {N:Nat} (hN:1000<=N) {x y:Fl} (hx:aw (aZ x y)=true) (hy:aw (cu (some 0) (aZ x y))=true) (o:Bool) (b1:List Fl) (b2 b3:Int) (b4 b5:List Fl) (b6 b7 b8:Fl) (b9:List Fl) (k:Fl->Bool->Bool):WX N [x] [y] o b1 b2 b3 b4 b5 b6 b7 b8 b9 k=k (cu (some 0) (aZ x y)) o:=by
 unfold WX aa7;refine tJ (cu (some 0) (aZ x y),1,o) hN (λK=>?_) (λK=>?_)
 ·simp only[Oj];show Ni N x y o b1 b2 b3 b4 b5 b6 b7 b8 b9 (λxr cr=>sQ4 N (cu (some 0) xr) cr b1 b2 b3 b4 b5 b6 b7 b8 b9 (λalT=>K (cu (some 0) xr,1,alT)))=_;rw[PB hx,DK hy (qm _ _)]
 ·rfl
theorem DE {N:Nat} (hN:1000<=N) {x y:Fl} (hx:aw (aZ x y)=true) (hy:aw (cu (some 0) (aZ x y))=true) (o:Bool) (b1:List Fl) (b2 b3:Int) (b4 b5:List Fl) (b6 b7 b8:Fl) (k:Fl->Bool->Bool):WV N [x] o b1 b2 b3 b4 b5 b6 b7 b8 [y] k=k (cu (some 0) (aZ x y)) o:=by
 unfold WV aa1;refine tJ (cu (some 0) (aZ x y),1,o) hN (λK=>?_) (λK=>?_)
 ·simp only[Oi];show Ni N x y o b1 b2 b3 b4 b5 b6 b7 b8 [y] (λxr cr=>sQ4 N (cu (some 0) xr) cr b1 b2 b3 b4 b5 b6 b7 b8 [y] (λalT=>K (cu (some 0) xr,1,alT)))=_;rw[PB hx,DK hy (qm _ _)]
 ·rfl
theorem zN {N:Nat} (hN:1000<=N) {x y:Fl} (hx:aw (aZ x y)=true) (hy:aw (cu (some 0) (aZ x y))=true) (o:Bool) (b1:List Fl) (b2 b3:Int) (b4 b5:List Fl) (b6 b7 b8:Fl) (b9 b10:List Fl) (k:Fl->Bool->Bool):ad9 N 0 1 o b1 b2 b3 b4 b5 b6 b7 b8 [x] [y] b9 b10 k=k (cu (some 0) (aZ x y)) o:=by
 unfold ad9 aaE;refine tJ (cu (some 0) (aZ x y),1,o) hN (λK=>?_) (λK=>?_)
 ·simp only[Oh];show sQ0 N x y o b1 b2 b3 b4 b5 b6 b7 b8 b9 b10 (λxr cr=>sQ1 N (cu (some 0) xr) cr b1 b2 b3 b4 b5 b6 b7 b8 b9 b10 (λalT=>K (cu (some 0) xr,1,alT)))=_;rw[qW hx,sn hy (qm _ _)]
 ·rfl
theorem zM {N:Nat} (hN:1000<=N) {x y:Fl} (hx:aw (aZ x y)=true) (hy:aw (cu (some 0) (aZ x y))=true) (o:Bool) (b1:List Fl) (b2 b3:Int) (b4 b5:List Fl) (b6 b7 b8:Fl) (b9 b10:List Fl) (k:Fl->Bool->Bool):aef N 0 1 0 1 o b1 b2 b3 b4 b5 b6 b7 b8 [x] [y] b9 b10 k=k (cu (some 0) (aZ x y)) o:=by
 unfold aef aa9;refine tJ (cu (some 0) (aZ x y),1,o) hN (λK=>?_) (λK=>?_)
 ·simp only[Og];show sQ0 N x y o b1 b2 b3 b4 b5 b6 b7 b8 b9 b10 (λxr cr=>sQ1 N (cu (some 0) xr) cr b1 b2 b3 b4 b5 b6 b7 b8 b9 b10 (λalT=>K (cu (some 0) xr,1,alT)))=_;rw[qW hx,sn hy (qm _ _)]
 ·rfl
theorem ajx (N:Nat) (x:Fl) (k:List Fl->Bool):qK N 1 1 [x] 0 k=k [x]:=rfl
theorem Nf (N:Nat) (x:Fl) (k:Nat->Nat->Bool):nY N 1 1 0 [x] k=k 0 1:=rfl
theorem aio {N:Nat} (hN:1000<=N) (x:Fl) (k:List Fl->Bool):qJ N 1 1 [x] 0 k=k [x]:=by unfold qJ qp;show al N _ _=_;exact tJ (1,[x]) hN (λK=>rfl) (λK=>rfl)
theorem Ta {N:Nat} (hN:1000<=N) {x y:Fl} (hx:aw (aZ x y)=true) (hy:aw (cu (some 0) (aZ x y))=true) (o:Bool) (b1:List Fl) (b2 b3:Int) (b4 b5:List Fl) (b6 b7 b8:Fl) (b9 b10:List Fl) (k:Bool->List Fl->Bool) :
  dh N 1 1 1 1 [y] o b1 b2 b3 b4 b5 b6 b7 b8 [x] b9 b10 k=k o [cu (some 0) (aZ x y)]:=by
 unfold dh eo;refine tJ (1,o,[cu (some 0) (aZ x y)]) hN (λK=>?_) (λK=>rfl);simp only[fw];refine tJ (1,o,[cu (some 0) (aZ x y)]) hN (λK'=>?_) (λK'=>rfl);simp only[fz];rw[Nf,aio hN,zN hN hx hy];rfl
theorem Sl {N:Nat} (hN:1000<=N) {x y k r:Fl} (h1:aw (aZ x y)=true) (h2:aw (cu (some 0) (aZ x y))=true) (h3:aw (aZ k r)=true) (h4:aw (aZ (aZ k r) k)=true) (h5:aw (cu (cu (some 0) (aZ x y)) (aZ (aZ k r) k))=true) (o:Bool) (b1:List Fl) (b2 b3:Int) (b4 b5:List Fl) (b7 b8:Fl) (b9:List Fl) (κ:Fl->Bool->Bool) :
  ba N 0 0 1 1 1 1 o b1 b2 b3 b4 b5 r b7 b8 [x] [y] b9 [k] κ=κ (cu (cu (some 0) (aZ x y)) (aZ (aZ k r) k)) o:=by
 unfold ba bC;rw[Nf,Nf,zM hN h1 h2];have g1:inR 0 ([k]:List Fl).length=true:=rfl;have g2:decide (Int.toNat 0<([k]:List Fl).length)=true:=rfl;have g3:([k]:List Fl).getD (Int.toNat 0) none=k:=rfl;simp only[g1,g2,g3,Bool.true_and];rw[qW h3,qW h4,sn h5 (qm _ _)]
theorem MW {N:Nat} (hN:1000<=N) {x y k r:Fl} (h1:aw (aZ x y)=true) (h2:aw (cu (some 0) (aZ x y))=true) (h3:aw (aZ k r)=true) (h4:aw (aZ (aZ k r) k)=true) (h5:aw (cu (cu (some 0) (aZ x y)) (aZ (aZ k r) k))=true) (o:Bool) (b1:List Fl) (b2 b3:Int) (b4 b5:List Fl) (b7 b8:Fl) (b9:List Fl) (κ:Bool->List Fl->Bool) :
  ca N 1 1 1 1 1 o b1 b2 b3 b4 b5 r b7 b8 [x] [y] b9 [k] κ=κ o [cu (cu (some 0) (aZ x y)) (aZ (aZ k r) k)]:=by
 unfold ca dy;show al N _ _=_;refine tJ (1,o,[cu (cu (some 0) (aZ x y)) (aZ (aZ k r) k)]) hN (λK=>?_) (λK=>rfl);simp only[dZ];show al N _ _=_;refine tJ (1,o,[cu (cu (some 0) (aZ x y)) (aZ (aZ k r) k)]) hN (λK'=>?_) (λK'=>rfl);simp only[eg];show ba N 0 0 1 1 1 1 o b1 b2 b3 b4 b5 r b7 b8 [x] [y] b9 [k] _=_;rw[Sl hN h1 h2 h3 h4 h5];rfl
theorem V_ {N:Nat} (hN:1000<=N) {a b c:Fl} {s:Rat} (u:Upd1 a b c s) (o:Bool) (b1:List Fl) (b7 b8:Fl) (b9:List Fl) (κ:Int->Int->Bool->List Fl->Bool) :
  dK N o b1 1 1 [a] [b] c b7 b8 b9 [K1 a b c] κ=κ 1 1 o [P1 a b c]:=by
 unfold dK dH;refine tJ (1,o,[A1 a b c]) hN (λK=>?_) (λK=>?_)
 ·simp only[dm];show al N _ _=_;refine tJ (1,o,[A1 a b c]) hN (λK'=>?_) (λK'=>rfl);simp only[e9];have g0:decide ((0:Int)<(([b]:List Fl).length:Nat))=true:=rfl;have g1:inR 0 ([K1 a b c]:List Fl).length=true:=rfl;have g2:decide (Int.toNat 0<([K1 a b c]:List Fl).length)=true:=rfl;have g3:([K1 a b c]:List Fl).getD (Int.toNat 0) none=K1 a b c:=rfl;have g4:inR 0 ([b]:List Fl).length=true:=rfl;have g5:([b]:List Fl).getD (Int.toNat 0) none=b:=rfl;have g6:((0:Int)==0)=true:=rfl;simp only[g0,g1,g2,g3,g4,g5,g6,Bool.true_and,cond_true];rw[qW u.fA.1];have e:dF (some 4607182418800017408) (aZ (K1 a b c) b)=A1 a b c:=rfl;rw[e,sn u.fA.2 (O6 _ _)];rfl
 ·simp only[dm];show dh N 1 1 1 1 [a] o b1 1 1 [a] [b] c b7 b8 [A1 a b c] b9 [K1 a b c] _=_;rw[Ta hN u.fD.1 u.fD.2.1];show ca N 1 1 1 1 1 o b1 1 1 [a] [b] c b7 b8 [B1 a b c] [A1 a b c] b9 [K1 a b c] _=_;rw[MW hN u.fD.2.2.1 u.fD.2.2.2 u.ff.1 u.ff.2 u.fP];rfl
theorem z9 (x:Fl):ji [x]=aw x:=by
 rw[Bool.eq_iff_iff,ji,pn];constructor
 ·intro h; exact h 0 (by show 0<1; omega)
 ·intro h i hi;obtain rfl:i=0:=by have:i<1:=hi; omega
  exact h
theorem aeI {x:Fl} (h:FW x):AllW [x]:=λy hy=>by simp at hy; subst hy; exact h
theorem ajL (l:List Fl):abG 1 l:=λa b ha hb=>by
 obtain rfl:a=0:=by omega
 obtain rfl:b=0:=by omega
 rfl
theorem ZM {x:Fl} (hx:aw x=true) (h:0<rv x):0<(ofE x).2:=by
 have hv:0<bN x:=by
  have e:rv x=((bN x:Int):Rat)*Ue Sp:=by
   obtain⟨b,s,m,i,rfl,hr⟩:=cR hx;rw[ne hr,Lx hr];have:(i+(Sc:Int)).toNat=(i+1074).toNat:=by have:=Jh; have:=TZ; omega
   rw[this]
  rw[e]at h;rcases Int.lt_or_le 0 (bN x)with k | k
  ·exact k
  ·have k2:=Rat.intCast_le_intCast.2 k;have:=Rat.mul_nonneg (show 0 <= -((bN x:Int):Rat) by have:((0:Int):Rat)=0:=rfl; rw[this]at k2; grind) (Rat.le_of_lt (iA Sp));generalize ((bN x:Int):Rat)=a at *;generalize Ue Sp=u at *;grind
 have h1:=(A4 hx).2;have h2:(0:Int)<2 ^ ((ofE x).1+(Sc:Int)).toNat:=Int.pow_pos (by decide);rw[<- h1]at hv;rcases Int.lt_or_le 0 (ofE x).2 with k | k
 ·exact k
 ·have:=Int.mul_le_mul_of_nonneg_right k (Int.le_of_lt h2);rw[Int.zero_mul]at this;omega
theorem WE {p:Int × Int} (h:0<p.2):0<zw p:=by
 unfold zw;split
 ·have h2:(0:Int)<((2 ^ p.1.toNat:Nat):Int):=by have:=Nat.two_pow_pos p.1.toNat; omega
  have h3:=Int.mul_pos h h2;rw[Rat.mkRat_one];exact Rat.intCast_lt_intCast.2 h3
 ·rw[Rat.mkRat_eq_div];have h2:(0:Rat)<((2 ^ (-p.1).toNat:Nat):Rat):=by have:=Nat.two_pow_pos (-p.1).toNat;exact Rat.natCast_lt_natCast.2 this
  have h3:(0:Rat)<(p.2:Rat):=Rat.intCast_lt_intCast.2 h;have e:=Rat.div_mul_cancel (a:=(p.2:Rat)) (b:=((2 ^ (-p.1).toNat:Nat):Rat)) (by grind);generalize (p.2:Rat) / ((2 ^ (-p.1).toNat:Nat):Rat)=q at *;rcases (Rat.le_total:q<=0\/0<=q)with k | k
  ·have:=Rat.mul_nonneg (show 0 <= -q by grind) (Rat.le_of_lt h2);grind
  ·rcases Rat.le_iff_lt_or_eq.1 k with k | k
   ·exact k
   ·rw[<- k]at e; grind
theorem ajv {x:Fl} (hx:aw x=true) (h:0<rv x):S9 1 [x]=true:=by
 have h1:0<fm 1 [x] 0 0:=WE (ZM hx h);unfold S9;have h2:AX 1 1 0 3 (fm 1 [x])=3:=by
  rw[AX,if_neg,if_neg]
  ·rfl
  ·intro h; rw[h]at h1; exact absurd h1 (by decide)
  ·have:=Rat.num_nonneg.2 (Rat.le_of_lt h1);omega
 rw[h2]; rfl
theorem S_ {N:Nat} (hF:Fuel N) {x:Fl} (hx:aw x=true) (hw:FW x) (h:0<rv x) (k:Bool->Bool):gV N 1 1 [x] k=k true:=by have:=AC hF (n:=1) (l:=[x]) (by decide) rfl (by rw[z9]; exact hx) (aeI hw) (ajL _) k;rw[ajv hx h]at this;exact this
theorem afO {N:Nat} (hF:Fuel N) {x:Fl} (hx:aw x=true) (hw:FW x) (h:0<rv x) (k:Int->Bool):jR N [some 0] 1 1 [x] k=k 0:=by
 rw[MG hF _ _ _ _ (aeI hw)];have h1:chk 1 1 [x]=0:=Ae.2 ⟨by decide,rfl,by rw[z9]; exact hx⟩;have h2:ji [some 0]=true:=by decide
 have h3:IY (1:Int).toNat [x]=true:=by
  unfold IY;rw[pn]; intro i hi;rw[pn]; intro j hj;have hi:i<1:=hi;obtain rfl:i=0:=by omega
  omega
 have h4:S9 (1:Int).toNat [x]=true:=ajv hx h;unfold agy;rw[if_neg (by simpa using h1),if_neg (by decide),if_neg (by decide),if_neg (by rw[h2]; decide),if_neg (by rw[h3]; decide),if_neg (by rw[h4]; decide)]
theorem ajD {N:Nat} (hN:1000<=N) {b c:Fl} (hb:aw b=true) (hc:aw c=true) (h:0<rv c) (k:Int->Bool):mT N 1 [b] c k=k 0:=by
 unfold mT pb;have o1:∀ x:Fl,PC N [x].length:=λx=>⟨by show 1<N; omega,by show 1<=17592186044416; omega⟩
 rw[rA [b] (o1 b),rA [c] (o1 c),z9,z9,hb,hc];have hz:aw (some 0)=true/\rv (some 0)=0:=zz;have hle:fle c (some 0)=false:=by
  unfold fle;rw[Dt hc hz.1];rcases Int.lt_trichotomy (vl c) (vl (some 0))with k | k | k
  ·exfalso;have h2:rv c<rv (some 0):=by unfold rv;have k2:=Rat.intCast_lt_intCast.2 k;have:=Rat.mul_pos ((Rat.lt_iff_sub_pos _ _).1 k2) (iA Sp);generalize ((vl c:Int):Rat)=a at *;generalize ((vl (some 0):Int):Rat)=b at *;generalize Ue Sp=u at *;grind
   rw[hz.2]at h2;grind
  ·exfalso;have h2:rv c=rv (some 0):=by unfold rv; rw[k]
   rw[hz.2]at h2;grind
  ·rw[Int.compare_eq_gt.2 k]; rfl
 rw[hle]; rfl
theorem Mh {x:Fl} (hx:aw x=true) (h:0<rv x):fgt x (some 0)=true:=by
 have hz:aw (some 0)=true/\rv (some 0)=0:=zz;unfold fgt;rw[Dt hx hz.1];rcases Int.lt_trichotomy (vl x) (vl (some 0))with k | k | k
 ·exfalso;have h2:rv x<rv (some 0):=by unfold rv;have k2:=Rat.intCast_lt_intCast.2 k;have:=Rat.mul_pos ((Rat.lt_iff_sub_pos _ _).1 k2) (iA Sp);generalize ((vl x:Int):Rat)=a at *;generalize ((vl (some 0):Int):Rat)=b at *;generalize Ue Sp=u at *;grind
  rw[hz.2]at h2;grind
 ·exfalso;have h2:rv x=rv (some 0):=by unfold rv; rw[k]
  rw[hz.2]at h2;grind
 ·rw[Int.compare_eq_gt.2 k]; rfl
theorem ZK (N:Nat) (o:Bool) (b1:List Fl) (b2 b3:Int) (b4 b5:List Fl) (b6 b7 b8:Fl) (b9 b10:List Fl) (k:Bool):im N o b1 b2 b3 b4 b5 b6 b7 b8 b9 b10 k=k:=rfl
def M1 (b:Fl):Fl:=cu (some 0) (aZ b (some 0))
theorem R9 {N:Nat} (hF:Fuel N) {a b c:Fl} {s:Rat} (u:Upd1 a b c s) (ha:aw a=true) (hb:aw b=true) (hc:aw c=true) (wa:FW a) (pa:0<rv a) (pc:0<rv c) (m1:aw (aZ b (some 0))=true) (m2:aw (M1 b)=true) (k0:Int->Bool) (k1:Int->Bool->Fl->Fl->List Fl->Bool) :
  l_ N [some 0] 1 1 [a] [b] c k0 k1=k1 0 false (M1 b) (S1 a b c) [V1 a b]:=by
 have hN:1000<=N:=by have:=hF.lt; omega
 unfold l_ lO;rw[afO hF ha wa pa];show mT N 1 [b] c _=_;rw[ajD hN hb hc pc];show al N _ _=_;refine tJ (1,false,[V1 a b]) hN (λK=>?_) (λK=>?_)
 ·simp only[jG];show qK N 1 1 [a] 0 _=_;rw[ajx,zL hN u.fv.1 u.fv.2];rfl
 ·simp only[jG];show WX N [b] [some 0] false _ _ _ _ _ _ _ _ _ _=_;rw[zL hN m1 m2];show WV N [b] false _ _ _ _ _ _ _ _ [V1 a b] _=_;rw[DE hN u.fS.1 u.fS.2.1];show sQ4 N (S1 a b c) false _ _ _ _ _ _ _ _ _ _=_;rw[DK u.fS.2.2 (qm _ _)];show cond (!(fgt (S1 a b c) (some 0))) _ _=_;rw[Mh u.fS.2.2 u.S0.pos];rfl
theorem ZL {N:Nat} (hF:Fuel N) {a b c z:Fl} {s:Rat} (u:Upd1 a b c s) (ha:aw a=true) (hb:aw b=true) (hc:aw c=true) (hz:aw z=true) (wa:FW a) (pa:0<rv a) (pc:0<rv c) (m1:aw (aZ b (some 0))=true) (m2:aw (M1 b)=true)
  (hy:aw (dF z (M1 b))=true) (hky:aw (aZ (K1 a b c) (dF z (M1 b)))=true) (hx:aw (cu (some 0) (aZ (K1 a b c) (dF z (M1 b))))=true)
  (hyy:aw (aZ (dF z (M1 b)) (dF z (M1 b)))=true) (hs:aw (fdiv (aZ (dF z (M1 b)) (dF z (M1 b))) (S1 a b c))=true)
  (k0:Int->Int->Fl->Fl->Fl->Int->Bool) (k1:Int->Int->Fl->Fl->Fl->Int->List Fl->Bool) (k2:Int->Int->Fl->Fl->Fl->Int->List Fl->List Fl->List Fl->Bool) :
  kz N [some 0] 1 1 [a] [b] c z k0 k1 k2=k2 1 1 (dF z (M1 b)) (S1 a b c) (fdiv (aZ (dF z (M1 b)) (dF z (M1 b))) (S1 a b c)) 0 [cu (some 0) (aZ (K1 a b c) (dF z (M1 b)))] [P1 a b c] [K1 a b c]:=by
 have hN:1000<=N:=by have:=hF.lt; omega
 unfold kz mY nZ gL;rw[R9 hF u ha hb hc wa pa pc m1 m2];have o1:∀ x:Fl,PC N [x].length:=λx=>⟨by show 1<N; omega,by show 1<=17592186044416; omega⟩
 show K9 N [z] _=_;rw[rA [z] (o1 z),z9,hz];rw[Bool.not_true,cond_false];unfold js;rw[show((0:Int) != 0)=false from rfl,cond_false];show sQ4 N (dF z (M1 b)) false _ _ _ _ _ _ _ _ _ _=_;rw[DK hy (O6 _ _)];show al N _ _=_;refine tJ (1,false,[cu (some 0) (aZ (K1 a b c) (dF z (M1 b)))],[K1 a b c]) hN (λK=>?_) (λK=>?_)
 ·simp only[gG];have d0:decide ((0:Int)<(((List.replicate (Int.toNat ((([b]:List Fl).length:Nat):Int)) (some 0:Fl)).length:Nat):Int))=true:=rfl;have d1:inR 0 ([V1 a b]:List Fl).length=true:=rfl;have d2:decide (Int.toNat 0<([V1 a b]:List Fl).length)=true:=rfl;have d3:fdiv (([V1 a b]:List Fl).getD (Int.toNat 0) none) (S1 a b c)=K1 a b c:=rfl;have d4:decide ((([]:List Fl)++[K1 a b c]).length*8<=140737488355328)=true:=rfl;have d5:inR 0 ([some 0]:List Fl).length=true:=rfl;have d6:inR 0 (([]:List Fl)++[K1 a b c]).length=true:=rfl;have d7:decide (Int.toNat 0<(([]:List Fl)++[K1 a b c]).length)=true:=rfl;have d8:(([]:List Fl)++[K1 a b c]).getD (Int.toNat 0) none=K1 a b c:=rfl;have d9:([some 0]:List Fl).getD (Int.toNat 0) none=some 0:=rfl;rw[d0,cond_true,d1,Bool.true_and,d2,Bool.true_and,d3,sn u.fk (O4 _ _),d4,Bool.true_and,d5,Bool.true_and,d6,Bool.true_and,d7,Bool.true_and,d8,qW hky,d9,sn hx (qm _ _)];rfl
 ·simp only[gG];show sQ0 N (dF z (M1 b)) (dF z (M1 b)) false _ _ _ _ _ _ _ _ _ _ _=_;rw[qW hyy];show sQ1 N (fdiv (aZ (dF z (M1 b)) (dF z (M1 b))) (S1 a b c)) false _ _ _ _ _ _ _ _ _ _ _=_;rw[sn hs (O4 _ _)];rw[ZK,V_ hN u];unfold gB dP agM abi;rw[cond_false,S_ hF u.fP (qm _ _) u.P0,Bool.not_true,cond_false];dsimp only;rw[show((0:Int) != 0)=false from rfl,cond_false];unfold mm;rfl
theorem KP {x y z:Fl} (hy:aw y=true) (hz:aw z=true) (h1:fge x y=true) (h2:fle x z=true):aw x=true:=by
 obtain⟨b,s,m,i,rfl,hb⟩:=cR hy;obtain⟨c,t,n,j,rfl,hc⟩:=cR hz;cases x with
 | none=>exact absurd h1 Bool.false_ne_true
 | some a=>
  have f1:vq (some a) (some b)=(Ieee.double.read a).order (.number s m i):=by show(Ieee.double.read a).order (Ieee.double.read b)=_; rw[hb]
  have f2:vq (some a) (some c)=(Ieee.double.read a).order (.number t n j):=by show(Ieee.double.read a).order (Ieee.double.read c)=_; rw[hc]
  unfold fge at h1;unfold fle at h2;rw[f1]at h1;rw[f2]at h2;cases hr:Ieee.double.read a with
  | number s' m' i'=>exact sw hr
  | nan s' f=>rw[hr]at h1; exact absurd h1 (by simp[Datum.order])
  | infinity s'=>
   rw[hr]at h1 h2;cases s'
   ·exact absurd h2 (by simp[Datum.order])
   ·exact absurd h1 (by simp[Datum.order])
theorem GW {x:Fl} (h:aw (oJ x)=true):aw x=true:=by
 cases x with
 | none=>exact absurd h (by decide)
 | some b=>
  have h':aw (ir (b%9223372036854775808))=true:=h;unfold ir at h';cases hn:isNaN (b%9223372036854775808)with
  | true=>rw[hn]at h'; exact absurd h' Bool.false_ne_true
  | false=>
   rw[hn,cond_false,EI]at h';rw[EI];have:=of_decide_eq_true h';exact decide_eq_true (by omega)
theorem WK {x:Fl} (hx:aw x=true) (hw:FW x):rv (oJ x)=rv x\/rv (oJ x) = -(rv x):=by
 obtain⟨b,s,m,i,rfl,h⟩:=cR hx;unfold rv;rw[ZN hx hw rfl h,Cm h,jh,Rat.intCast_natCast];cases s
 ·left; rfl
 ·right;rw[if_pos rfl,Rat.neg_mul,Rat.neg_neg]
theorem Qf {b:Nat} {i:Int} (h:Ieee.double.read b=.number false 4503599627370496 i) {n:Nat} (hi:(i+1074).toNat+52=n+1074):aw (some b)=true/\rv (some b)=2 ^ n:=by
 refine⟨sw h,?_⟩;rw[ne h,jh,if_neg (by decide),Rat.natCast_mul,Rat.natCast_pow];have h3:((4503599627370496:Nat):Rat)=(2:Rat) ^ 52:=by decide +kernel
 rw[h3];generalize (i+1074).toNat=a at *;rw[<- DL]at hi;have h5:(2:Rat) ^ 52*((2:Nat):Rat) ^ a=2 ^ (n+Sp):=by rw[<- hi,Nat.add_comm,lC]; rfl
 rw[h5,lC,Rat.mul_assoc,nB,Rat.mul_one]
def KH:Fl:=some 4156822456062967808
def CM:Fl:=some 5057542381537067008
def adO:Fl:=some 4382002437431492608
def adx:Fl:=some 4832362400168542208
theorem AM:Ieee.double.read 4607182418800017408=.number false 4503599627370496 (-52):=by decide
theorem Wn:Nr (some 4607182418800017408) (-100)=KH:=by rw[w6 AM]; decide
theorem V5:Nr (some 4607182418800017408) 100=CM:=by rw[w6 AM]; decide
theorem adP:Nr (some 4607182418800017408) (-50)=adO:=by rw[w6 AM]; decide
theorem ady:Nr (some 4607182418800017408) 50=adx:=by rw[w6 AM]; decide
theorem Hu:aw KH=true/\rv KH=Ue 100:=IA (i:=-152) (by decide) (by decide)
theorem Wo:aw adO=true/\rv adO=Ue 50:=IA (i:=-102) (by decide) (by decide)
theorem xD:aw CM=true/\rv CM=2 ^ 100:=Qf (i:=48) (by decide) (by decide)
theorem V6:aw adx=true/\rv adx=2 ^ 50:=Qf (i:=-2) (by decide) (by decide)
theorem ae2 {x y:Fl} (g:vl x<=vl y):rv x<=rv y:=by unfold rv;have h:=iA Sp;have g2:=Rat.intCast_le_intCast.2 g;have:=Rat.mul_nonneg ((Rat.le_iff_sub_nonneg _ _).1 g2) (Rat.le_of_lt h);generalize ((vl x:Int):Rat)=a at *;generalize ((vl y:Int):Rat)=b at *;generalize Ue Sp=u at *;grind
theorem Vb {x y:Fl} (hx:aw x=true) (hy:aw y=true) (h:fle x y=true):rv x<=rv y:=by refine ae2 ?_;unfold fle at h;rw[Dt hx hy,Bool.or_eq_true,beq_iff_eq,beq_iff_eq,Option.some.injEq,Option.some.injEq,Int.compare_eq_eq,Int.compare_eq_lt]at h;omega
theorem afX {x y:Fl} (hx:aw x=true) (hy:aw y=true) (h:fge x y=true):rv y<=rv x:=by refine ae2 ?_;rw[afY hx hy,decide_eq_true_iff]at h;exact h
theorem HV {x y z:Fl} {m n:Nat} (hy:aw y=true/\rv y=Ue m) (hz:aw z=true/\rv z=2 ^ n) (h1:fge x y=true) (h2:fle x z=true):aw x=true/\In2 (rv x) m n:=by have hx:=KP hy.1 hz.1 h1 h2;have a:=afX hx hy.1 h1;have b:=Vb hx hz.1 h2;rw[hy.2]at a;rw[hz.2]at b;exact⟨hx,a,b⟩
theorem T5 {x:Fl} (hx:aw (oJ x)=true) (hw:FW x) {m n:Nat} (h:In2 (rv (oJ x)) m n):aw x=true /\ ∃ s,Sd s/\In2 (s*rv x) m n:=by
 have hf:=GW hx;refine⟨hf,?_⟩;rcases WK hf hw with e | e
 ·exact⟨1,.inl rfl,by rw[Rat.one_mul,<- e]; exact h⟩
 ·exact⟨-1,.inr rfl,by rw[show -1*rv x = -(rv x) by grind,<- e]; exact h⟩
theorem Wa {N:Nat} (b:Bool) (n:Nat) (hN:ll N (aM n)) (k:Bool->List Int->Bool):Qg N false b (aM n) k=k false (aM n):=by unfold Qg O7 W6 TW;obtain⟨h1,h2⟩:=hN;rw[List.nil_append,decide_eq_true (by omega),Bool.true_and,xJ _ (by omega) (by omega),Em];simp only[List.drop_zero,List.take_length];rw[decide_eq_true (by omega:0+(aM n).length<=(aM n).length),Bool.true_and];rfl
theorem Sn {N:Nat} (hN:1000<=N) {E B:Nat} {x:Int × Int} (hx:Ex E B x) (hB:B<=31000) (k:Bool->List Int->Bool):aed N x.1 (decide (x.2<0)) (aM x.2.natAbs) k=k false (aM x.2.natAbs):=by unfold aed aa4;rw[Wa _ _ (m_ hN hB hx.2.2)]
theorem So {N:Nat} (hN:1000<=N) {E B:Nat} {x:Int × Int} (hx:Ex E B x) (hB:B<=31000) (k:Bool->List Int->Bool):Th N x.1 (decide (x.2<0)) (aM x.2.natAbs) k=vF (Hb x).2 k:=by unfold Th TR;rw[Hl _ _ _ (m_ hN hB hx.2.2),rz];rfl
theorem Ws {a b c z:Fl} {s:Rat} (hs:Sd s) (u:Upd1 a b c s) (hb:aw b=true) (hz:aw z=true) (hzr:Bd (rv z) (2 ^ 100)) :
  aw (aZ b (some 0))=true/\aw (M1 b)=true/\aw (dF z (M1 b))=true/\aw (aZ (K1 a b c) (dF z (M1 b)))=true/\aw (cu (some 0) (aZ (K1 a b c) (dF z (M1 b))))=true /\
   aw (aZ (dF z (M1 b)) (dF z (M1 b)))=true/\aw (fdiv (aZ (dF z (M1 b)) (dF z (M1 b))) (S1 a b c))=true:=by
 have B0:=ae3;have z0:rv b*rv (some 0)=0:=by rw[zz.2,Rat.mul_zero]
 obtain⟨f1,r1,-⟩:=AJ hb zz.1 (by rw[z0]; exact⟨by grind,by grind⟩);have r1:=r1 z0;have z1:rv (some 0)+rv (aZ b (some 0))=0:=by rw[zz.2,r1,Rat.add_zero]
 obtain⟨f2,r2⟩:=D9 zz.1 f1 (by rw[z1]; exact⟨by grind,by grind⟩);change aw (M1 b)=true at f2;have r2:rv (M1 b)=0:=by have:=r2 0 (by rw[z1]; exact⟨by grind,by grind⟩);rw[z1]at this;obtain⟨p1,p2⟩:=this;unfold M1;grind
 have b100:(2:Rat) ^ 100<=Bg:=by unfold Bg; exact l9 (by decide)
 have z2:rv z - rv (M1 b)=rv z:=by rw[r2]; grind
 obtain⟨f3,r3⟩:=Lt hz f2 (by rw[z2]; exact hzr.le' b100);have r3:Bd (rv (dF z (M1 b))) (2 ^ 101):=by
  have:=r3 (2 ^ 100) (by rw[z2]; exact hzr);rw[z2]at this;have e:(2:Rat) ^ 101=2 ^ 100*2:=by rw[show(101:Nat)=100+1 from rfl,lC]; congr 1
  rw[e];obtain⟨p1,p2⟩:=this;obtain⟨q1,q2⟩:=hzr;have:=uP 100;generalize (2:Rat) ^ 100=w at *;unfold uu at p1 p2;constructor <;> grind
 have hk:Bd (rv (K1 a b c)) (2 ^ 254):=AW hs (Rat.le_of_lt u.k0.pos) u.k0.2;have m1:=hk.prod r3;rw[<- lC]at m1;obtain⟨f4,-,r4⟩:=AJ u.fk f3 (m1.le' (by unfold Bg; exact l9 (by decide)));have r4:=r4 _ m1;have hb4:Bd (rv (aZ (K1 a b c) (dF z (M1 b)))) (2 ^ 400):=by
  have e1:(2:Rat) ^ (254+101)*4<=2 ^ 400:=by
   have:(4:Rat)=2 ^ 2:=by decide +kernel
   rw[this,<- lC]; exact l9 (by decide)
  have e2:eta<=1:=by
   have:Ue 0=1:=by unfold Ue; decide +kernel
   rw[<- this]; unfold eta; exact T3 (by omega)
  have e3:(1:Rat)<=2 ^ (254+101):=by
   have:(2:Rat) ^ 0=1:=by decide +kernel
   rw[<- this]; exact l9 (by decide)
  obtain⟨p1,p2⟩:=r4;obtain⟨q1,q2⟩:=m1;generalize (2:Rat) ^ (254+101)=w at *;generalize (2:Rat) ^ 400=v at *;generalize rv (K1 a b c)*rv (dF z (M1 b))=y at *;unfold uu at p1 p2;constructor <;> grind
 have z3:rv (some 0)+rv (aZ (K1 a b c) (dF z (M1 b)))=rv (aZ (K1 a b c) (dF z (M1 b))):=by rw[zz.2]; grind
 obtain⟨f5,-⟩:=D9 zz.1 f4 (by rw[z3]; exact hb4.le' (by unfold Bg; exact l9 (by decide)));have m2:=r3.prod r3;rw[<- lC]at m2;obtain⟨f6,-,r6⟩:=AJ f3 f3 (m2.le' (by unfold Bg; exact l9 (by decide)));have r6:=r6 _ m2;have hb6:Bd (rv (aZ (dF z (M1 b)) (dF z (M1 b)))) (2 ^ 210):=by
  have e1:(2:Rat) ^ (101+101)*4<=2 ^ 210:=by
   have:(4:Rat)=2 ^ 2:=by decide +kernel
   rw[this,<- lC]; exact l9 (by decide)
  have e2:eta<=1:=by
   have:Ue 0=1:=by unfold Ue; decide +kernel
   rw[<- this]; unfold eta; exact T3 (by omega)
  have e3:(1:Rat)<=2 ^ (101+101):=by
   have:(2:Rat) ^ 0=1:=by decide +kernel
   rw[<- this]; exact l9 (by decide)
  obtain⟨p1,p2⟩:=r6;obtain⟨q1,q2⟩:=m2;generalize (2:Rat) ^ (101+101)=w at *;generalize (2:Rat) ^ 210=v at *;generalize rv (dF z (M1 b))*rv (dF z (M1 b))=y at *;unfold uu at p1 p2;constructor <;> grind
 have s0:=u.S0.pos;have q1:In2 (1 / rv (S1 a b c)) 207 101:=by
  have:In2 (1:Rat) 0 0:=by
   refine⟨?_,?_⟩
   ·have:Ue 0=1:=by unfold Ue; decide +kernel
    rw[this]; exact Rat.le_refl
   ·have:(2:Rat) ^ 0=1:=by decide +kernel
    rw[this]; exact Rat.le_refl
  have:=this.div u.S0;rw[Nat.zero_add,Nat.zero_add]at this;exact this
 have q2:Bd (rv (aZ (dF z (M1 b)) (dF z (M1 b))) / rv (S1 a b c)) (Bg / 2):=by
  have e:rv (aZ (dF z (M1 b)) (dF z (M1 b))) / rv (S1 a b c)=rv (aZ (dF z (M1 b)) (dF z (M1 b)))*(1 / rv (S1 a b c)):=by rw[Rat.div_def,Rat.div_def,Rat.one_mul]
  rw[e];have g:Bd (1 / rv (S1 a b c)) (2 ^ 101):=⟨by have:=q1.pos; have:=uP 101; grind,q1.2⟩
  have:=hb6.prod g;rw[<- lC]at this;refine this.le' ?_;have e:Bg / 2=2 ^ 899:=by unfold Bg; decide +kernel
  rw[e]; exact l9 (by decide)
 obtain⟨f7,-⟩:=J4 f6 u.fS.2.2 (by grind) q2;exact⟨f1,f2,f3,f4,f5,f6,f7⟩
theorem ot {x:Fl} (hx:aw x=true):rv x=((bN x:Int):Rat)*Ue Sp:=by
 obtain⟨b,s,m,i,rfl,h⟩:=cR hx;rw[ne h,Lx h];have:(i+(Sc:Int)).toNat=(i+1074).toNat:=by have:=Jh; have:=TZ; omega
 rw[this]
def w2:Int:=2 ^ (Sc+Sc)
theorem ZO:((w2:Int):Rat)*(Ue Sp*Ue Sp)=1:=by
 have e:Sc=Sp:=by rw[DL]; have:=Jh; have:=TZ; omega
 unfold w2;rw[e,<- q_];have:((2 ^ (Sp+Sp):Int):Rat)=2 ^ (Sp+Sp):=by rw[Rat.intCast_pow]; rfl
 rw[this];exact nB _
theorem Uz {a b c:Fl} (ha:aw a=true) (hb:aw b=true) (hc:aw c=true) (h:bN b*bN b*bN a - bN c*1048576*w2<=0):rv a*rv b*rv b<=1048576*rv c:=by
 rw[ot ha,ot hb,ot hc];have h2:=Rat.intCast_le_intCast.2 h;rw[Rat.intCast_sub,Rat.intCast_mul,Rat.intCast_mul,Rat.intCast_mul,Rat.intCast_mul]at h2;have w:=ZO;have u:=iA Sp;have e1:(((1048576:Int)):Rat)=1048576:=rfl;have e0:(((0:Int)):Rat)=0:=rfl;rw[e1,e0]at h2;generalize ((bN a:Int):Rat)=x at *;generalize ((bN b:Int):Rat)=y at *;generalize ((bN c:Int):Rat)=z at *;generalize ((w2:Int):Rat)=W at *;generalize Ue Sp=U at *;have k:=Rat.mul_nonneg (show 0<=z*1048576*W - y*y*x by grind) (Rat.le_of_lt (Rat.mul_pos (Rat.mul_pos u u) u));have e:(z*1048576*W - y*y*x)*(U*U*U)=1048576*(z*U)*(W*(U*U)) - x*U*(y*U)*(y*U):=by grind
 rw[e,w]at k;grind
theorem Wx {a b c P:Fl} (ha:aw a=true) (hb:aw b=true) (hc:aw c=true) (hP:aw P=true) (pa:0<rv a) (pc:0<rv c) (h:Bd (rv P*(rv a*rv b*rv b+rv c) - rv a*rv c) (10*u1*(rv a*rv c))) :
  ((bN P*(bN b*bN b*bN a+bN c*w2) - bN a*bN c*w2).natAbs:Int)*562949953421312<=bN a*bN c*w2:=by
 have hpr:=Rat.mul_pos pa pc;rw[ot ha,ot hb,ot hc,ot hP]at h;rw[ot ha,ot hc]at hpr;have w:=ZO;have u:=iA Sp;have key:∀ s:Int,(s=1\/s = -1)->s*(bN P*(bN b*bN b*bN a+bN c*w2) - bN a*bN c*w2)*562949953421312<=bN a*bN c*w2:=by
  intro s hs;rcases Int.lt_or_le (bN a*bN c*w2) (s*(bN P*(bN b*bN b*bN a+bN c*w2) - bN a*bN c*w2)*562949953421312)with k | k
  ·exfalso;have h2:=Rat.intCast_lt_intCast.2 k;simp only[Rat.intCast_mul,Rat.intCast_sub,Rat.intCast_add]at h2;have e1:(((562949953421312:Int)):Rat)=562949953421312:=rfl;rw[e1]at h2;have es:((s:Int):Rat)=1\/((s:Int):Rat) = -1:=by
    rcases hs with rfl | rfl
    ·left; rfl
    ·right; rfl
   generalize ((bN a:Int):Rat)=x at *;generalize ((bN b:Int):Rat)=y at *;generalize ((bN c:Int):Rat)=z at *;generalize ((bN P:Int):Rat)=p at *;generalize ((w2:Int):Rat)=W at *;generalize ((s:Int):Rat)=S at *;generalize Ue Sp=U at *;have u4:=Rat.mul_pos (Rat.mul_pos u u) (Rat.mul_pos u u);have k2:=Rat.mul_pos (show 0<S*(p*(y*y*x+z*W) - x*z*W)*562949953421312 - x*z*W by grind) u4;have e2:(S*(p*(y*y*x+z*W) - x*z*W)*562949953421312 - x*z*W)*(U*U*(U*U))=S*(p*U*(x*U*(y*U)*(y*U)+z*U*(W*(U*U))) - x*U*(z*U)*(W*(U*U)))*562949953421312 - x*U*(z*U)*(W*(U*U)):=by grind
   rw[e2,w]at k2;obtain⟨b1,b2⟩:=h;rw[Rat.mul_one,Rat.mul_one]at k2;generalize p*U*(x*U*(y*U)*(y*U)+z*U) - x*U*(z*U)=d at *;generalize x*U*(z*U)=q at *;unfold u1 at b1 b2;rcases es with rfl | rfl <;> grind
  ·exact k
 have k1:=key 1 (.inl rfl);have k2:=key (-1) (.inr rfl);generalize bN P*(bN b*bN b*bN a+bN c*w2) - bN a*bN c*w2=d at *;generalize bN a*bN c*w2=q at *;omega
theorem aet {z:Int}:(decide (vK z>0)==false)=decide (z<=0):=by
 unfold vK;split
 ·subst z; rfl
 ·split
  ·rw[decide_eq_true (show z<=0 by omega)]; rfl
  ·rw[decide_eq_false (show ¬ z<=0 by omega)]; rfl
theorem agT {z:Int} (h:z<=0):decide (vK z<=0)=true:=by
 unfold vK;split
 ·rfl
 ·split
  ·rfl
  ·omega
theorem afm {y:Fl} (hw:FW y) (h:fle (oJ y) CM=true):aw y=true/\Bd (rv y) (2 ^ 100):=by
 have key:aw y=true:=by
  cases y with
  | none=>exact absurd h (by decide)
  | some b=>
   refine GW ?_;have e:oJ (some b)=ir (b%9223372036854775808):=rfl;rw[e]at h ⊢;unfold ir at h ⊢;cases hn:isNaN (b%9223372036854775808)with
   | true=>rw[hn,cond_true]at h; exact absurd h (by decide)
   | false=>
    rw[hn,cond_false]at h;rw[cond_false];have hc:b%9223372036854775808<9223372036854775808:=by omega
    generalize b%9223372036854775808=c at *;have hi:Ieee.double.read 5057542381537067008=.number false 4503599627370496 48:=by decide
    have f2:vq (some c) CM=(Ieee.double.read c).order (.number false 4503599627370496 48):=by show(Ieee.double.read c).order (Ieee.double.read 5057542381537067008)=_; rw[hi]
    unfold fle at h;rw[f2]at h;cases hr:Ieee.double.read c with
    | number s' m' i'=>exact sw hr
    | nan s' f=>rw[hr]at h; exact absurd h (by simp[Datum.order])
    | infinity s'=>
     rw[hr]at h;cases s'
     ·exact absurd h (by simp[Datum.order])
     ·exfalso;have hs:(c / 9223372036854775808%2==1)=false:=by have:c / 9223372036854775808=0:=Nat.div_eq_of_lt hc;rw[this]; rfl
      unfold Format.read at hr;simp only[cE,jM,fN,hs]at hr;split at hr
      ·cases hr
      ·split at hr
       ·cases hr
       ·split at hr <;> cases hr
 refine⟨key,?_⟩;have hfa:=T4 key hw;have hle:=Vb hfa xD.1 h;rw[xD.2]at hle;have h0:0<=rv (oJ y):=by obtain⟨b,s,m,i,rfl,hr⟩:=cR key;have:=ZN key hw rfl hr;unfold rv;rw[this];refine Rat.mul_nonneg ?_ (Rat.le_of_lt (iA Sp));rw[Rat.intCast_natCast];exact Rat.natCast_nonneg
 rcases WK key hw with e | e
 ·rw[e]at hle h0; constructor <;> grind
 ·rw[e]at hle h0; constructor <;> grind
theorem E4 {N:Nat} (hF:Fuel N) (p h r z:Int) (hp:p.toNat<18446744073709551616) (hh:h.toNat<18446744073709551616) (hr:r.toNat<18446744073709551616) (hz:z.toNat<18446744073709551616) (k:Bool->Bool):agK N p h r z k=k true:=by
 have hN:1000<=N:=by have:=hF.lt; omega
 have hf:∀ b k,agO N b k=k (ir b.toNat):=λ_ _=>rfl
 have haw:∀ k,aee N k=k true:=λk=>SB hN k
 have hab:∀ x k,sF N x k=k (oJ x):=λ_ _=>rfl
 have hone:aw (some 4607182418800017408)=true:=by decide
 have wone:FW (some 4607182418800017408):=λb h=>by cases h; decide
 have w0:=Ad hp;have w1:=Ad hh;have w2':=Ad hr;have w3:=Ad hz;unfold agK abg;simp only[hf,hab,haw];simp only[xH N hone wone (show(-5000:Int) <= -100 by decide) (show(-100:Int)<=5000 by decide),xH N hone wone (show(-5000:Int)<=100 by decide) (show(100:Int)<=5000 by decide),xH N hone wone (show(-5000:Int) <= -50 by decide) (show(-50:Int)<=5000 by decide),xH N hone wone (show(-5000:Int)<=50 by decide) (show(50:Int)<=5000 by decide),Wn,V5,adP,ady];generalize ir p.toNat=a at *;generalize ir h.toNat=b at *;generalize ir r.toNat=c at *;generalize ir z.toNat=y at *;have t0:((false:Bool)==true)=false:=rfl;have t1:((true:Bool)==true)=true:=rfl;cases c1:fge a KH with
 | false=>rw[t0,cond_false]
 | true=>
 rw[t1,cond_true];cases c2:fle a CM with
 | false=>rw[t0,cond_false]
 | true=>
 rw[t1,cond_true];cases c3:fge c KH with
 | false=>rw[t0,cond_false]
 | true=>
 rw[t1,cond_true];cases c4:fle c CM with
 | false=>rw[t0,cond_false]
 | true=>
 rw[t1,cond_true];cases c5:fge (oJ b) adO with
 | false=>rw[t0,cond_false]
 | true=>
 rw[t1,cond_true];cases c6:fle (oJ b) adx with
 | false=>rw[Bool.not_false,cond_true]
 | true=>
 rw[Bool.not_true,cond_false];obtain⟨fa,ia⟩:=HV Hu xD c1 c2;obtain⟨fc,ic⟩:=HV Hu xD c3 c4;obtain⟨fab,iab⟩:=HV Wo V6 c5 c6;obtain⟨fb,s,hs,ib⟩:=T5 fab w1 iab;have xa:=Cb fa;have xb:=Cb fb;have xc:=Cb fc;have va:=A4 fa;have vb:=A4 fb;have vc:=A4 fc;rw[E6 hN fa w0]; unfold exK; dsimp only;rw[E6 hN fc w2']; unfold exK; dsimp only;rw[E6 hN fb w1]; unfold exK; dsimp only;rw[E6 hN fb w1]; unfold exK; dsimp only;have hpow:∀(e:Int) k,WO N e k=k false (aM 1):=λ_ _=>Ku hN _
 have xbb:=Ex.mul xb xb;have xh:=Ex.mul xbb (xa.mono (show 1100<=1100+1100 by decide) (show 53<=53+53 by decide));have ex20:Ex 1100 53 ((20:Int),(1:Int)):=⟨by decide,by decide,by unfold cP; decide⟩
 have xy:=Ex.mul xc ex20;refine Eq.trans (qQ hN xb xb (by decide) (by decide) _) ?_;unfold exK; dsimp only;refine Eq.trans (qQ hN xbb (xa.mono (show 1100<=1100+1100 by decide) (show 53<=53+53 by decide)) (by decide) (by decide) _) ?_;unfold exK; dsimp only;rw[hpow];refine Eq.trans (qQ (x:=ofE c) (y:=(20,1)) hN xc ex20 (by decide) (by decide) _) ?_;unfold exK; dsimp only;refine Eq.trans (Hk (x:=jY (jY (ofE b) (ofE b)) (ofE a)) (y:=jY (ofE c) (20,1)) hN (xh.mono (show _<=4400 by decide) (show _<=212 by decide)) (xy.mono (show _<=4400 by decide) (show _<=212 by decide)) (by decide) _) ?_;have vh:=(vb.mul vb).mul va;have e20:EV ((20:Int),(1:Int)) 1048576 0:=⟨by decide,by decide⟩
 have vy0:=(vc.mul e20).up (Sc+Sc);have esc:Sc+0+(Sc+Sc)=Sc+Sc+Sc:=by omega
 rw[esc]at vy0;have hsg:=EV.sgn (vh.add vy0.neg);have hw2:(2:Int) ^ (Sc+Sc)=w2:=rfl;rw[hw2]at hsg;rw[hsg,aet];have ez:bN b*bN b*bN a + -(bN c*1048576*w2)=bN b*bN b*bN a - bN c*1048576*w2:=by omega
 rw[ez];by_cases hle:¬ bN b*bN b*bN a - bN c*1048576*w2<=0
 ·rw[decide_eq_false hle,cond_false]
 have hle:bN b*bN b*bN a - bN c*1048576*w2<=0:=Decidable.not_not.1 hle;rw[decide_eq_true hle,cond_true];have hH:=Uz fa fb fc hle;cases c7:fle (oJ y) CM with
 | false=>rw[Bool.not_false,cond_true]
 | true=>
 rw[Bool.not_true,cond_false];have u:=ak4 fa fb fc hs ia ib ic hH;obtain⟨fy,hyr⟩:=afm w3 c7;obtain⟨g1,g2,g3,g4,g5,g6,g7⟩:=Ws hs u fb fy hyr;rw[ZL hF u fa fb fc fy w0 ia.pos ic.pos g1 g2 g3 g4 g5 g6 g7];have n0:(((0:Int) != 0)==false)=true:=rfl;have n1:(((((([P1 a b c]:List Fl).length:Nat):Int) != 1))==false)=true:=rfl;rw[n0,cond_true,n1,cond_true,cond_false];have fP:=u.fP;have wP:FW (P1 a b c):=qm _ _;have hnear:=Wx fa fb fc fP ia.pos ic.pos u.near;have xP:=Cb fP;have vP:=A4 fP;clear g3 g4 g5 g6 g7 u;generalize P1 a b c=P at *;have xh3:=Ex.mul xbb xa;have xc3:=xc.mono (show 1100<=1100+1100+1100 by decide) (show 53<=53+53+53 by decide);have xal:=Ex.add xh3 xc3;have xw:=Ex.mul xa xc;have xpa:=Ex.mul xP xal;have xw4:=xw.mono (show 1100+1100<=1100+(1100+1100+1100) by decide) (show 53+53<=53+(53+53+53+2*(1100+1100+1100)+1) by decide);have xd:=Ex.add xpa xw4.neg;have ex49:Ex (1100+1100) (53+53) ((-49:Int),(1:Int)):=⟨by decide,by decide,by unfold cP; decide⟩
 have xl:=Ex.mul xw ex49;refine Eq.trans (B4 (x:=jY (jY (ofE b) (ofE b)) (ofE a)) (y:=ofE c) hN xh3 xc3 (by decide) _ _ _ ?_ ?_) ?_
 ·rfl
 ·rfl
 unfold exK; dsimp only;refine Eq.trans (qQ hN xa xc (by decide) (by decide) _) ?_;unfold exK; dsimp only;have q1:inR 0 ([P]:List Fl).length=true:=rfl;have q2:decide (0<([P]:List Fl).length)=true:=rfl;have q3:([P]:List Fl).getD 0 none=P:=rfl;rw[q1,Bool.true_and,q2,Bool.true_and,q3,E6 hN fP wP];unfold exK; dsimp only;refine Eq.trans (qQ hN (xP.mono (show 1100<=1100+1100+1100 by decide) (show 53<=53+53+53+2*(1100+1100+1100)+1 by decide)) xal (by decide) (by decide) _) ?_;unfold exK; dsimp only;refine Eq.trans (So (x:=jY (ofE a) (ofE c)) hN xw (by decide) _) ?_;unfold vF;refine Eq.trans (B4 (x:=jY (ofE P) (yB (jY (jY (ofE b) (ofE b)) (ofE a)) (ofE c))) (y:=Hb (jY (ofE a) (ofE c))) hN xpa xw4.neg (by decide) _ _ _ ?_ ?_) ?_
 ·rfl
 ·rfl
 unfold exK; dsimp only;refine Eq.trans (Sn hN xd (by decide) _) ?_;rw[hpow];refine Eq.trans (qQ (x:=jY (ofE a) (ofE c)) (y:=(-49,1)) hN xw ex49 (by decide) (by decide) _) ?_;unfold exK; dsimp only;have vall:=vh.add (by have:=vc.up (Sc+Sc); rw[show Sc+(Sc+Sc)=Sc+Sc+Sc by omega]at this; exact this);have vpa:=vP.mul vall;have vw:=(va.mul vc)
 have vwup:=vw.up (Sc+Sc);rw[show Sc+Sc+(Sc+Sc)=Sc+(Sc+Sc+Sc) by omega]at vwup;have vd:=vpa.add vwup.neg;have vab:=vd.abs.up 49;have e49:EV ((-49:Int),(1:Int)) 1 49:=⟨by decide,by decide⟩
 have vl:=(vw.mul e49).up (Sc+Sc);rw[show Sc+Sc+49+(Sc+Sc)=Sc+(Sc+Sc+Sc)+49 by omega]at vl;have hs2:=EV.sgn (vab.add vl.neg);generalize hD:yB (jY (ofE P) (yB (jY (jY (ofE b) (ofE b)) (ofE a)) (ofE c))) (Hb (jY (ofE a) (ofE c)))=D at *;have xab:Ex (1100+(1100+1100+1100)) (53+(53+53+53+2*(1100+1100+1100)+1)+2*(1100+(1100+1100+1100))+1) (D.1,((D.2.natAbs:Nat):Int)):=⟨xd.1,xd.2.1,xd.2.2⟩
 have hcmp:=Hk (y:=jY (jY (ofE a) (ofE c)) (-49,1)) hN xab (xl.mono (by decide) (by decide)) (by decide) (λnr=>k (decide (nr<=0)));rw[show decide ((D.1,((D.2.natAbs:Nat):Int)).2<0)=false from decide_eq_false (by show ¬((D.2.natAbs:Nat):Int)<0; omega)]at hcmp;refine Eq.trans hcmp ?_;rw[hs2];have e51:(2:Int) ^ 49=562949953421312:=by decide
 rw[hw2,e51,Int.mul_one];have e52:bN P*(bN b*bN b*bN a+bN c*w2) + -(bN a*bN c*w2)=bN P*(bN b*bN b*bN a+bN c*w2) - bN a*bN c*w2:=rfl;rw[e52,agT (by generalize (((bN P*(bN b*bN b*bN a+bN c*w2) - bN a*bN c*w2).natAbs:Nat):Int)*562949953421312=x at *;generalize bN a*bN c*w2=y at *;omega)]
end Go.Proofs.YtldenpmpmifnlaaGreatDoor
end
