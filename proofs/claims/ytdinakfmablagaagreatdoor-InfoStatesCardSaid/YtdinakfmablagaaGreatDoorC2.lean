/- Laws in plain Lean. Conditions: none. -/
import Derived.Test.YtdinakfmablagaaGreatDoorC1
set_option linter.unusedVariables false
section
namespace Go.Proofs.YtdinakfmablagaaGreatDoor
open Go Go.Mach
theorem AZ (N:Nat) {x:Nat} (hx:x<18446744073709551616) (k:Kz5):Ry N (x:Int) k=k (bl x:Int):=by
 have key:∀(z:Int) (m:Nat),z=(m:Int)->m<256 -> ∀ c:Nat,c<=56->((inR z 256)&&((af .i64 (List.getD az (Int.toNat z) 0))&&((af .i64 ((c:Int)+(List.getD az (Int.toNat z) 0)))&&k ((c:Int)+List.getD az (Int.toNat z) 0))))=k ((c+bl m:Nat):Int):=by intro z m hz hm c hc;subst hz;have:=EP hm;rw[afV,PH hm,aa afN,aa afM,aa afM];rfl
 have j1:∀(y z c:Nat),z<65536->c<=48->IV N (y:Int) (z:Int) (c:Int) k=k ((c+bl z:Nat):Int):=by
  intro y z c hz hc;unfold IV;simp only[R6,Sx];by_cases h8:256<=z
  ·have e8:=mq (n:=z) 8 (by simpa using h8);rw[show(2:Nat) ^ 8=256 by decide]at e8;have h:=key ((z:Int) / 256%256) (z / 256) (by omega) (by omega) (c+8) (by omega);rw[show((c+8:Nat):Int)=(c:Int)+8 by omega]at h;rw[afO (by omega:(z:Int)>=256),afR,aa afM,h];congr 1; omega
  ·rw[afP (by omega:¬(z:Int)>=256),afQ,key ((z:Int)%256) z (by omega) (by omega) c (by omega)]
 have j0:∀(y z c:Nat),z<4294967296->c<=32->IU N (y:Int) (z:Int) (c:Int) k=k ((c+bl z:Nat):Int):=by
  intro y z c hz hc;unfold IU;simp only[NV];by_cases h16:65536<=z
  ·have e16:=mq (n:=z) 16 (by simpa using h16);rw[show(2:Nat) ^ 16=65536 by decide]at e16;have h:=j1 y (z / 65536) (c+16) (by omega) (by omega);rw[show((c+16:Nat):Int)=(c:Int)+16 by omega,show((z / 65536:Nat):Int)=(z:Int) / 65536 by omega]at h;rw[afO (by omega:(z:Int)>=65536),afR,aa afM,h];congr 1; omega
  ·rw[afP (by omega:¬(z:Int)>=65536),afQ,j1 y z c (by omega) (by omega)]
 (unfold Ry; rw[ac]; unfold S8)
 simp only[kz];by_cases h32:4294967296<=x
 ·have e32:=mq (n:=x) 32 (by rw[show(2:Nat) ^ 32=4294967296 by decide]; exact h32);rw[show(2:Nat) ^ 32=4294967296 by decide]at e32;have h:=j0 x (x / 4294967296) 32 (by omega) (by omega);rw[show((x / 4294967296:Nat):Int)=(x:Int) / 4294967296 by omega,show((32:Nat):Int)=32 from rfl]at h;rw[afO (by omega:(x:Int)>=4294967296),afR,h];congr 1; omega
 ·have h:=j0 x x 0 (by omega) (by omega);rw[show((0:Nat):Int)=0 from rfl]at h;rw[afP (by omega:¬(x:Int)>=4294967296),afQ,h];congr 1; omega
theorem wm {n j:Nat} (h:n<2 ^ j):bl n<=j:=by
 unfold bl;split
 ·omega
 ·rename_i h0;have:=(Nat.log2_lt h0).2 h;omega
theorem yp (n:Nat):n<2 ^ bl n:=by
 unfold bl;split
 ·rename_i h; subst h; decide
 ·exact Nat.lt_log2_self
theorem Nq {n:Nat} (h:n ≠ 0):0<bl n/\2 ^ (bl n - 1)<=n:=by unfold bl;rw[if_neg h];exact⟨by omega,by rw[aih]; exact Nat.log2_self_le h⟩
theorem oj:(2:Nat) ^ 64=18446744073709551616:=by decide
theorem FK (N:Nat) {x:Nat} (hx:x<18446744073709551616) (k:Kz5):Ro N (x:Int) k=k ((64 - bl x:Nat):Int):=by unfold Ro Wo;have:=wm (n:=x) (j:=64) (by rw[oj]; exact hx);rw[AZ N hx,aa afM];congr 1; omega
theorem J1 {y:Nat} (h0:y ≠ 0) (hy:y<18446744073709551616):64 - bl y<64/\9223372036854775808<=y*2 ^ (64 - bl y)/\y*2 ^ (64 - bl y)<18446744073709551616:=by
 have h1:=wm (n:=y) (j:=64) (by rw[oj]; exact hy);obtain⟨h2,h3⟩:=Nq h0;have h4:=yp y;have hp:0<2 ^ (64 - bl y):=af3 _;refine⟨by omega,?_,?_⟩
 ·have:=afT (2 ^ (64 - bl y)) h3;rw[<- af8,show bl y - 1+(64 - bl y)=63 by omega]at this;exact this
 ·have:=agE h4 hp;rw[<- af8,show bl y+(64 - bl y)=64 by omega]at this;exact this
theorem AJ {a c u u1 p r:Nat} (hc:c<4294967296) (hp:p<=4294967296) (hu:(p+1)*a+r=u) (hb:4294967296<=r+a):p*(a*4294967296+c)<=u*4294967296+u1:=by
 have e1:u*4294967296+u1=p*a*4294967296+(r+a)*4294967296+u1:=by rw[<- hu,ahm,agk,agk,agk]; omega
 have e2:p*(a*4294967296+c)=p*a*4294967296+p*c:=by rw[af6,af0]
 have:=agG hp (Nat.le_of_lt_succ hc:c<=4294967295);rw[e1,e2]; omega
theorem zE {a c u u1:Nat} (hu1:u1<4294967296) (hD:u<a*4294967296+c):(u*4294967296+u1) / (a*4294967296+c)<4294967296:=by rw[afY (by omega)]; omega
theorem HI {N:Nat} {y s un0:Int} {a c u u1:Nat} (ha2:a<4294967296) (hc:c<4294967296) (hu1:u1<4294967296) (hD:u<a*4294967296+c) {d:Nat} (hd:∀ p,p<=d↔p*(a*4294967296+c)<=u*4294967296+u1) (hlt:d<4294967296) (e0:Int->Bool) :
  ∀ q r M,q<M->q<=4294967297->q*a+r=u->r<4294967296->d<=q ->
   ai M (x_ N y s (a:Int) (c:Int) (u:Int) (u1:Int) un0 e0) ((q:Int),(r:Int))=e0 (d:Int):=by
 intro q;induction q using Nat.strongRecOn with
 | ind q ih=>
 intro r M hM hqb hu hr hle;obtain⟨M,rfl⟩:∃ m,M=m+1:=⟨M - 1,by omega⟩
 show x_ N y s a c u u1 un0 e0 ((q:Int),(r:Int)) (ai M _)=_;have hY:0<a*4294967296+c:=by omega
 have hdec:d<q->cond (decide ((IntKind.wrap .u64 ((r:Int)+(a:Int)))>=4294967296)) (e0 (IntKind.wrap .u64 ((q:Int) - 1))) (ai M (x_ N y s (a:Int) (c:Int) (u:Int) (u1:Int) un0 e0) ((IntKind.wrap .u64 ((q:Int) - 1)),(IntKind.wrap .u64 ((r:Int)+(a:Int)))))=e0 (d:Int):=by
  intro hlq;obtain⟨p,rfl⟩:∃ p,q=p+1:=⟨q - 1,by omega⟩
  have w1:IntKind.wrap .u64 (((p+1:Nat):Int) - 1)=(p:Int):=by rw[am]; omega
  have w2:IntKind.wrap .u64 ((r:Int)+(a:Int))=((r+a:Nat):Int):=by rw[am]; omega
  rw[w1,w2];by_cases hb:4294967296<=r+a
  ·rw[afO (by omega),afR];have h1:=AJ (u1:=u1) hc (by omega) hu hb;rw[<- hd]at h1;rw[show d=p by omega]
  ·rw[afP (by omega),afQ];exact ih p (by omega) (r+a) M (by omega) (by omega) (by rw[<- hu,ahm]; omega) (by omega) (by omega)
 simp only[x_];by_cases hq:4294967296<=q
 ·rw[afO (by omega:(q:Int)>=4294967296),show(true==false)=false from rfl,afQ];exact hdec (by omega)
 ·have e1:u*4294967296+u1=q*a*4294967296+r*4294967296+u1:=by rw[<- hu,agk]
  have e2:q*(a*4294967296+c)=q*a*4294967296+q*c:=by rw[af6,af0]
  have hqc:q*c<=4294967295*4294967295:=agG (by omega) (by omega);have w1:IntKind.wrap .u64 ((q:Int)*(c:Int))=((q*c:Nat):Int):=by rw[<- aga,am]; omega
  have w2:IntKind.wrap .u64 ((IntKind.wrap .u64 (4294967296*(r:Int)))+(u1:Int))=((r*4294967296+u1:Nat):Int):=by rw[am,am]; omega
  rw[afP (by omega:¬(q:Int)>=4294967296),show(false==false)=true from rfl,afR,w1,w2];by_cases ht:r*4294967296+u1<q*c
  ·rw[afO (by omega),afR];refine hdec ?_;rw[<- Nat.not_le,hd]; omega
  ·rw[afP (by omega),afQ];have h1:q*(a*4294967296+c)<=u*4294967296+u1:=by omega
   rw[<- hd]at h1;rw[show d=q by omega]
theorem HJ {N:Nat} {y s q1:Int} {x21:Int} {a c u u1:Nat} (ha2:a<4294967296) (hc:c<4294967296) (hu1:u1<4294967296) (hD:u<a*4294967296+c) {d:Nat} (hd:∀ p,p<=d↔p*(a*4294967296+c)<=u*4294967296+u1) (hlt:d<4294967296) (e0:Int->Bool) :
  ∀ q r M,q<M->q<=4294967297->q*a+r=u->r<4294967296->d<=q ->
   ai M (ya N y s (a:Int) (c:Int) (u1:Int) q1 x21 e0) ((r:Int),(q:Int))=e0 (d:Int):=by
 intro q;induction q using Nat.strongRecOn with
 | ind q ih=>
 intro r M hM hqb hu hr hle;obtain⟨M,rfl⟩:∃ m,M=m+1:=⟨M - 1,by omega⟩
 show ya N y s a c u1 q1 x21 e0 ((r:Int),(q:Int)) (ai M _)=_;have hY:0<a*4294967296+c:=by omega
 have hdec:d<q->cond (decide ((IntKind.wrap .u64 ((r:Int)+(a:Int)))>=4294967296)) (e0 (IntKind.wrap .u64 ((q:Int) - 1))) (ai M (ya N y s (a:Int) (c:Int) (u1:Int) q1 x21 e0) ((IntKind.wrap .u64 ((r:Int)+(a:Int))),(IntKind.wrap .u64 ((q:Int) - 1))))=e0 (d:Int):=by
  intro hlq;obtain⟨p,rfl⟩:∃ p,q=p+1:=⟨q - 1,by omega⟩
  have w1:IntKind.wrap .u64 (((p+1:Nat):Int) - 1)=(p:Int):=by rw[am]; omega
  have w2:IntKind.wrap .u64 ((r:Int)+(a:Int))=((r+a:Nat):Int):=by rw[am]; omega
  rw[w1,w2];by_cases hb:4294967296<=r+a
  ·rw[afO (by omega),afR];have h1:=AJ (u1:=u1) hc (by omega) hu hb;rw[<- hd]at h1;rw[show d=p by omega]
  ·rw[afP (by omega),afQ];exact ih p (by omega) (r+a) M (by omega) (by omega) (by rw[<- hu,ahm]; omega) (by omega) (by omega)
 simp only[ya];by_cases hq:4294967296<=q
 ·rw[afO (by omega:(q:Int)>=4294967296),show(true==false)=false from rfl,afQ];exact hdec (by omega)
 ·have e1:u*4294967296+u1=q*a*4294967296+r*4294967296+u1:=by rw[<- hu,agk]
  have e2:q*(a*4294967296+c)=q*a*4294967296+q*c:=by rw[af6,af0]
  have hqc:q*c<=4294967295*4294967295:=agG (by omega) (by omega);have w1:IntKind.wrap .u64 ((q:Int)*(c:Int))=((q*c:Nat):Int):=by rw[<- aga,am]; omega
  have w2:IntKind.wrap .u64 ((IntKind.wrap .u64 (4294967296*(r:Int)))+(u1:Int))=((r*4294967296+u1:Nat):Int):=by rw[am,am]; omega
  rw[afP (by omega:¬(q:Int)>=4294967296),show(false==false)=true from rfl,afR,w1,w2];by_cases ht:r*4294967296+u1<q*c
  ·rw[afO (by omega),afR];refine hdec ?_;rw[<- Nat.not_le,hd]; omega
  ·rw[afP (by omega),afQ];have h1:q*(a*4294967296+c)<=u*4294967296+u1:=by omega
   rw[<- hd]at h1;rw[show d=q by omega]
theorem AL {a c u u1:Nat} (ha:2147483648<=a) (ha2:a<4294967296) (hc:c<4294967296) (hD:u<a*4294967296+c) (hu1:u1<4294967296) :
  u / a<=4294967297/\u / a*a+u%a=u/\u%a<4294967296/\(u*4294967296+u1) / (a*4294967296+c)<=u / a:=by
 have h0:0<a:=by omega
 refine⟨?_,agM u a,ahD (af4 _ h0) ha2,?_⟩
 ·have:u / a<4294967298:=by rw[afY h0]; omega
  omega
 ·have h1:(u*4294967296+u1) / (a*4294967296)=u / a:=by rw[afS a,<- afX];congr 1; omega
  rw[<- h1];exact Nat.div_le_div_left (ah_ _ _) (by omega)
theorem Ks {m p y s:Nat} (u L b D1 q1 R1 u1 u0 q0 R0 Y:Nat) (hb:b=4294967296) (hT:m*2 ^ s=u*18446744073709551616+L) (hL:L=u1*b+u0) (hY:Y=y*2 ^ s) (hY0:0<Y)
  (h1:D1=u*b+u1) (hq1:q1=D1 / Y) (hR1:R1=D1%Y) (hq0:q0=(R1*b+u0) / Y) (hR0:R0=(R1*b+u0)%Y):m / y=q1*b+q0/\m%y=R0 / 2 ^ s:=by
 have hs:0<2 ^ s:=af3 s;have e1:=agJ D1 Y;have e0:=agJ (R1*b+u0) Y;rw[<- hq1,<- hR1]at e1;rw[<- hq0,<- hR0]at e0;have hlt:R0<Y:=by rw[hR0]; exact af4 _ hY0
 have hm:m*2 ^ s=Y*(q1*b+q0)+R0:=by
  rw[hT,hL];have e2:u*18446744073709551616+(u1*b+u0)=(u*b+u1)*b+u0:=by subst hb; omega
  rw[e2,<- h1,<- e1,af6,agk,agx,<- e0,af0,agx]
 have d1:m / y=(m*2 ^ s) / Y:=by rw[hY,aiv _ _ hs]
 have d2:(m%y)*2 ^ s=(m*2 ^ s)%Y:=by rw[hY,aiw]
 constructor
 ·rw[d1,hm,aiM hY0,agm hlt,agn]
 ·have:(m%y)*2 ^ s=R0:=by rw[d2,hm,ah1,afZ hlt]
  rw[<- this,ahy _ hs]
theorem CN {N:Nat} (hN:8589934592<=N) {hi lo y:Nat} (hy:y<18446744073709551616) (hlo:lo<18446744073709551616) (hhi:hi<y) (k:Ky5) :
  Gm N (hi:Int) (lo:Int) (y:Int) k=k (((hi*18446744073709551616+lo) / y:Nat):Int) (((hi*18446744073709551616+lo)%y:Nat):Int):=by
 (unfold Gm; rw[ac]; unfold Mm)
 have y0:((y:Int)==0)=false:=by simp; omega
 have y1:(!decide ((y:Int)=0))=true:=by simp; omega
 rw[y0,afQ,afP (by omega:¬(y:Int)<=hi),afQ];by_cases h0:hi=0
 ·subst h0;rw[show(((0:Nat):Int)==0)=true from rfl,afR,aa y1,aa y1,ahe,agl];have e1:Int.tdiv (lo:Int) (y:Int)=((lo / y:Nat):Int):=rfl;have e2:Int.tmod (lo:Int) (y:Int)=((lo%y:Nat):Int):=rfl;have:=aho lo y;rw[e1,e2];generalize lo / y=d at *;rw[am];congr 1; omega
 ·have hne:((hi:Int)==0)=false:=by simp; omega
  obtain⟨hs64,hYlo,hYhi⟩:=J1 (y:=y) (by omega) hy;rw[hne,afQ,FK N hy];generalize hs:64 - bl y=s at *;have hs0:0<2 ^ s:=af3 s;have hs1:2 ^ s*2 ^ (64 - s)=18446744073709551616:=by rw[<- af8,show s+(64 - s)=64 by omega]
  have cp:((2:Int) ^ s)=((2 ^ s:Nat):Int):=by rw[ahg]; rfl
  have cp2:((2:Int) ^ (64 - s))=((2 ^ (64 - s):Nat):Int):=by rw[ahg]; rfl
  have ew:IntKind.wrap .u64 ((s:Nat):Int)=(s:Int):=by rw[am]; omega
  have ew2:IntKind.wrap .u64 (64 - ((s:Nat):Int))=((64 - s:Nat):Int):=by rw[am]; omega
  have em:min s 64=s:=by omega
  have em2:min (64 - s) 64=64 - s:=by omega
  simp only[ew,ew2,afV,em,em2];rw[cp,cp2];have eY:IntKind.wrap .u64 ((y:Int)*((2 ^ s:Nat):Int))=((y*2 ^ s:Nat):Int):=by rw[<- aga,am]; omega
  have hm:hi*2 ^ s<y*2 ^ s:=agE hhi hs0;have eH:IntKind.wrap .u64 ((hi:Int)*((2 ^ s:Nat):Int))=((2 ^ s*hi:Nat):Int):=by rw[<- aga,afS hi,am]; rw[afS hi]at hm; generalize 2 ^ s*hi=H at *; generalize y*2 ^ s=Y at *; omega
  have hlo2:lo / 2 ^ (64 - s)<2 ^ s:=by rw[afY (af3 _),hs1]; exact hlo
  have hlo3:=agJ lo (2 ^ (64 - s));have eT:(hi*18446744073709551616+lo)*2 ^ s=(2 ^ s*hi+lo / 2 ^ (64 - s))*18446744073709551616+lo*2 ^ s%18446744073709551616:=by
   have e1:lo*2 ^ s / 18446744073709551616=lo / 2 ^ (64 - s):=by rw[<- hs1,afS lo,Nat.mul_div_mul_left _ _ hs0]
   have e2:=agJ (lo*2 ^ s) 18446744073709551616;rw[e1]at e2;rw[agk,<- e2,agk,aiR,afS hi];omega
  have hD:2 ^ s*hi+lo / 2 ^ (64 - s)<y*2 ^ s:=by have:2 ^ s*(hi+1)<=2 ^ s*y:=afW _ hhi;rw[af6,afS _ y]at this;omega
  have eU:aB .or .u64 ((2 ^ s*hi:Nat):Int) (Int.fdiv (lo:Int) ((2 ^ (64 - s):Nat):Int))=((2 ^ s*hi+lo / 2 ^ (64 - s):Nat):Int):=by rw[kH,uF,co _ _ s hlo2 (by omega)]
  have eL:IntKind.wrap .u64 ((lo:Int)*((2 ^ s:Nat):Int))=((lo*2 ^ s%18446744073709551616:Nat):Int):=by rw[<- aga,am]; omega
  simp only[eY,eH,eU,eL,EO,kz];have hLlt:lo*2 ^ s%18446744073709551616<18446744073709551616:=af4 _ (by decide);obtain⟨d1,d2⟩:=Ks (m:=hi*18446744073709551616+lo) (p:=0) (y:=y) (s:=s) (2 ^ s*hi+lo / 2 ^ (64 - s)) (lo*2 ^ s%18446744073709551616) 4294967296 _ _ _ (lo*2 ^ s%18446744073709551616 / 4294967296) (lo*2 ^ s%18446744073709551616%4294967296) _ _ (y*2 ^ s) rfl eT (by omega) rfl (by omega) rfl rfl rfl rfl rfl;rw[d1,d2];generalize y*2 ^ s=Y at *;generalize 2 ^ s*hi+lo / 2 ^ (64 - s)=u at *;generalize lo*2 ^ s%18446744073709551616=L at *;have hu1:L / 4294967296<4294967296:=by omega
  have hu0:L%4294967296<4294967296:=by omega
  have eL1:((L:Int) / 4294967296)=((L / 4294967296:Nat):Int):=by omega
  have ea:((Y:Int) / 4294967296)=((Y / 4294967296:Nat):Int):=by omega
  have eY2:Y=Y / 4294967296*4294967296+Y%4294967296:=by omega
  rw[eL1,ea];generalize hu1':L / 4294967296=u1 at *;generalize hu0':L%4294967296=u0 at *;have ha1:2147483648<=Y / 4294967296:=by omega
  have ha2:Y / 4294967296<4294967296:=by omega
  have hc:Y%4294967296<4294967296:=by omega
  generalize Y / 4294967296=a at *;generalize Y%4294967296=c at *;have a0:(!decide ((a:Int)=0))=true:=by simp; omega
  have hD':u<a*4294967296+c:=by omega
  have hY0':0<a*4294967296+c:=by omega
  rw[aa (afO (by omega)),aa (afO (by omega)),aa (afO (by omega)),aa (afO (by omega)),aa a0];have start:∀ v:Nat,v<18446744073709551616->IntKind.wrap .u64 (Int.tdiv (v:Int) (a:Int))=((v / a:Nat):Int)/\IntKind.wrap .u64 ((v:Int) - (IntKind.wrap .u64 (((v / a:Nat):Int)*(a:Int))))=((v%a:Nat):Int):=by
   intro v hv;have e1:Int.tdiv (v:Int) (a:Int)=((v / a:Nat):Int):=rfl;have h1:=aho v a;have h2:=agM v a;rw[e1,<- aga];generalize v / a*a=P at *;generalize v / a=Q at *;generalize v%a=Z at *;constructor
   ·rw[am]; omega
   ·rw[am,am]; omega
  obtain⟨g1,g2,g3,g4⟩:=AL ha1 ha2 hc hD' hu1;obtain⟨s1,s2⟩:=start u (by omega);rw[s1,s2,HI ha2 hc hu1 hD' (λp=>ahx hY0') (zE hu1 hD') _ (u / a) (u%a) N (by omega) g1 g2 g3 g4];rw[aa a0];rw[<- eY2];have hY0:0<Y:=by omega
  have hR1:=af4 (u*4294967296+u1) hY0;have hE1:=agM (u*4294967296+u1) Y;have e21:IntKind.wrap .u64 ((IntKind.wrap .u64 ((IntKind.wrap .u64 ((u:Int)*4294967296))+(u1:Int))) - (IntKind.wrap .u64 ((((u*4294967296+u1) / Y:Nat):Int)*(Y:Int))))=(((u*4294967296+u1)%Y:Nat):Int):=by rw[<- aga];generalize (u*4294967296+u1) / Y*Y=P at *;rw[am,am,am,am]; omega
  simp only[e21];have hq1:(u*4294967296+u1) / Y<4294967296:=by rw[eY2]; exact zE hu1 hD'
  obtain⟨q1,hq1e⟩:∃ q,q=(u*4294967296+u1) / Y:=⟨_,rfl⟩
  obtain⟨R1,hR1e⟩:∃ q,q=(u*4294967296+u1)%Y:=⟨_,rfl⟩
  rw[<- hq1e,<- hR1e];rw[<- hq1e]at hq1;rw[<- hR1e]at hR1;have hD2:R1<a*4294967296+c:=by omega
  obtain⟨g1,g2,g3,g4⟩:=AL ha1 ha2 hc hD2 hu0;obtain⟨s1,s2⟩:=start R1 (by omega);rw[s1,s2,HJ ha2 hc hu0 hD2 (λp=>ahx hY0') (zE hu0 hD2) _ (R1 / a) (R1%a) N (by omega) g1 g2 g3 g4,<- eY2];rw[aa (afO (by omega))];have hR0:=af4 (R1*4294967296+u0) hY0;have hE0:=agM (R1*4294967296+u0) Y;have hq0:(R1*4294967296+u0) / Y<4294967296:=by rw[eY2]; exact zE hu0 hD2
  have e20:IntKind.wrap .u64 ((IntKind.wrap .u64 ((IntKind.wrap .u64 ((R1:Int)*4294967296))+(u0:Int))) - (IntKind.wrap .u64 ((((R1*4294967296+u0) / Y:Nat):Int)*(Y:Int))))=(((R1*4294967296+u0)%Y:Nat):Int):=by
   rw[<- aga];obtain⟨P,hP⟩:∃ q,q=(R1*4294967296+u0) / Y*Y:=⟨_,rfl⟩
   obtain⟨Z,hZ⟩:∃ q,q=(R1*4294967296+u0)%Y:=⟨_,rfl⟩
   rw[<- hP,<- hZ]at hE0;rw[<- hZ]at hR0;rw[<- hP,<- hZ];rw[am,am,am,am]; omega
  rw[e20,kH];obtain⟨q0,hq0e⟩:∃ q,q=(R1*4294967296+u0) / Y:=⟨_,rfl⟩
  rw[<- hq0e]at hq0;rw[<- hq0e];congr 1;rw[am,am]; omega
theorem JD (Q n m:Nat) (h:m<n):(List.replicate (m+1) (0:Int)++(dlq Q n).drop (m+1)).set m ((Q / 18446744073709551616 ^ m%18446744073709551616:Nat):Int)=List.replicate m 0++(dlq Q n).drop m:=by rw[ahp,af7,List.singleton_append,be _ _ _ _ _ (by simp),cW (n:=m) (by rw[ak]; exact h),sy Q h]
theorem Dj {A d:Nat} (hd:0<d):(A / 18446744073709551616%d*18446744073709551616+A%18446744073709551616)%d=A%d/\(A / 18446744073709551616%d*18446744073709551616+A%18446744073709551616) / d=A / d%18446744073709551616:=by
 have h1:=agJ A 18446744073709551616;have h2:=agJ (A / 18446744073709551616) d;have h3:=af4 (A / 18446744073709551616) hd;have h4:A%18446744073709551616<18446744073709551616:=af4 _ (by decide);obtain⟨a,ha⟩:∃ a,a=A / 18446744073709551616:=⟨_,rfl⟩
 obtain⟨e,he⟩:∃ e,e=A%18446744073709551616:=⟨_,rfl⟩
 rw[<- ha]at h1 h2 h3 ⊢;rw[<- he]at h1 h4 ⊢;obtain⟨c,hc⟩:∃ c,c=a / d:=⟨_,rfl⟩
 obtain⟨r,hr⟩:∃ r,r=a%d:=⟨_,rfl⟩
 rw[<- hc,<- hr]at h2;rw[<- hr]at h3 ⊢;have h5:A=d*(c*18446744073709551616)+(r*18446744073709551616+e):=by rw[<- h1,<- h2,<- af0,af6,afS 18446744073709551616,afS 18446744073709551616]; omega
 constructor
 ·rw[h5,ah1]
 ·rw[h5,aiM hd,afS c,ah1];refine(afZ ?_).symm;rw[afY hd];have:=afT 18446744073709551616 h3;rw[ahm]at this;rw[afS _ d,afS d];rw[afS d]at this;omega
theorem jW (x:Nat):x<18446744073709551616 ^ (ae x).length:=by have:=iM (aX x); rwa [aC]at this
theorem Ll {N:Nat} (hN:8589934592<=N) {x d:Nat} (hd0:0<d) (hd:d<18446744073709551616) (hs:lK N (ae x)) (k:List Int->Int->Bool):oV N (ae x) (d:Int) k=k (ae (x / d)) ((x%d:Nat):Int):=by
 (unfold oV; rw[ac]; unfold rQ)
 obtain⟨s1,s2⟩:=hs;have hx:=jW x;generalize hn:(ae x).length=n at *;rw[aa (bE (by omega) (by omega) (by omega) (by omega)),aa afM,afV];refine aH (λi=>(((x / 18446744073709551616 ^ (n - i)%d:Nat):Int),((n:Int) - 1 - (i:Int)),List.replicate (n - i) (0:Int)++(dlq (x / d) n).drop (n - i))) n ?_ (by omega) (λi hi K=>?_) (λK=>?_)
 ·rw[ahW,agm hx,Nat.zero_mod,agB (by rw[ak]; omega),agp];simp
 ·obtain⟨m,hm⟩:∃ m,n - i=m+1:=⟨n - i - 1,by omega⟩
  have hm2:n - (i+1)=m:=by omega
  have ei:(n:Int) - 1 - (i:Int)=(m:Int):=by omega
  have ei2:(n:Int) - 1 - ((i+1:Nat):Int)=(m:Int) - 1:=by omega
  have hp:x / 18446744073709551616 ^ (m+1)=x / 18446744073709551616 ^ m / 18446744073709551616:=by rw[af2,afX]
  have hdg:x / d / 18446744073709551616 ^ m%18446744073709551616=x / 18446744073709551616 ^ m / d%18446744073709551616:=by rw[afX,afX,afS d]
  obtain⟨n1,n2⟩:=Dj (A:=x / 18446744073709551616 ^ m) hd0;rw[hm,hm2,ei,ei2,hp];simp only[k8,afV];have hl:(List.replicate (m+1) (0:Int)++(dlq (x / d) n).drop (m+1)).length=n:=by simp[ak]; omega
  rw[afO (by omega:(m:Int)>=0),afR,hn,aa afN,nR,CN hN hd (af4 _ (by decide)) (af4 _ hd0),n1,n2,<- hdg,hl,aa afN,aa (afO (by omega)),aa afM,JD _ _ _ (by omega)]
 ·simp only[k8];have e0:(n:Int) - 1 - (n:Int) = -1:=by omega
  rw[e0,afP (by omega),afQ,agq,ahL,ahI];rw[agt,agD,ahh];have hq:x / d<18446744073709551616 ^ n:=ahn (aho _ _) hx;rw[kF _ (gM _ _) (by rw[ak]; omega) (by rw[ak]; omega) (λz=>k z ((x%d:Nat):Int)),mv hq]
theorem DN {P A B U3 V2 U V g:Nat} (hA:A<P) (hU:U=A+P*U3) (hV:V=B+P*V2) (hV0:0<V) (h:U3<g*V2):U / V<g:=by rw[afY hV0,hU,hV,af6,agi g P V2];have:=afW P h;rw[ai7]at this;omega
theorem Jh {W P A B U V u0 u1 u2 v0 v1:Nat} (hA:A<P) (hU:U=A+P*(u0+W*(u2*W+u1))) (hV:V=B+P*(v0+W*v1)) (hV0:0<V) (hv1:0<v1) (hu0:u0<W):U / V<=(u2*W+u1) / v1:=by
 refine Nat.le_of_lt_succ (DN hA hU hV hV0 ?_);have h1:=aif (u2*W+u1) hv1;rw[afS v1]at h1;have h2:=afW W h1;rw[ai7]at h2;have e:((u2*W+u1) / v1).succ*(v0+W*v1)=((u2*W+u1) / v1).succ*v0+W*(((u2*W+u1) / v1+1)*v1):=by rw[af6,agi]
 rw[e];omega
theorem HH {N:Nat} {o n u0 v0 v1 T d:Nat} {b c:List Int} (hn:2<=n) (hc1:c.getD (n - 2) 0=(v0:Int)) (hc2:c.getD (n - 1) 0=(v1:Int)) (hb:b.getD (o+(n - 2)) 0=(u0:Int)) (hcl:n<=c.length) (hbl:o+n+1<=b.length) (hbs:b.length<=1099511627780)
  (hv0:v0<18446744073709551616) (hv1:v1<18446744073709551616) (hu0:u0<18446744073709551616) (hd:∀ g,u0+18446744073709551616*T<g*(v0+18446744073709551616*v1)->d<g) :
  ∀ q r M,q<M->q<18446744073709551616->q*v1+r=T->r<18446744073709551616->d<=q ->
   ∃ g,d<=g/\g<18446744073709551616 /\ ∀ e0,ai M (tI N o (n+1) 0 n (n:Int) b c e0) ((q:Int),(r:Int))=e0 (g:Int):=by
 intro q;induction q using Nat.strongRecOn with
 | ind q ih=>
 intro r M hM hq hT hr hdq;obtain⟨M,rfl⟩:∃ m,M=m+1:=⟨M - 1,by omega⟩
 have i2:0+Int.toNat ((n:Int) - 2)=n - 2:=by omega
 have i1:0+Int.toNat ((n:Int) - 1)=n - 1:=by omega
 have j2:o+Int.toNat ((n:Int) - 2)=o+(n - 2):=by omega
 have hqv:=agJ (q*v0) 18446744073709551616;have hlo:q*v0%18446744073709551616<18446744073709551616:=af4 _ (by decide);by_cases hex:q*v0<=r*18446744073709551616+u0
 ·refine⟨q,hdq,hq,λe0=>?_⟩;show tI N o (n+1) 0 n (n:Int) b c e0 ((q:Int),(r:Int)) (ai M _)=_;simp only[tI,i2,i1,j2,hc1,hc2,hb];rw[aa afM,aa afN,aa (afO (by omega)),xD N hq hv0];generalize q*v0%18446744073709551616=lo at *;generalize q*v0 / 18446744073709551616=hi at *;rcases aip hi r with h | h | h
  ·rw[afO (by omega:(hi:Int)<r),show(true==false)=false from rfl,afQ]
  ·subst h;rw[afP (by omega:¬(hi:Int)<hi),show(false==false)=true from rfl,afR,show((hi:Int)==hi)=true by simp,show(true==true)=true from rfl,afR,aa afM,aa afN,aa (afO (by omega)),afO (by omega:(lo:Int)<=u0),afR]
  ·exfalso; omega
 ·have hgt:=hd q (by rw[af6,agi,<- hT]; rw[af6]; omega);obtain⟨p,rfl⟩:∃ p,q=p+1:=⟨q - 1,by omega⟩
  have w1:IntKind.wrap .u64 (((p+1:Nat):Int) - 1)=(p:Int):=by rw[am]; omega
  have step:∀ e0:Int->Bool,ai (M+1) (tI N o (n+1) 0 n (n:Int) b c e0) (((p+1:Nat):Int),(r:Int))
    = cond (decide (18446744073709551616<=r+v1)) (e0 (p:Int)) (ai M (tI N o (n+1) 0 n (n:Int) b c e0) ((p:Int),((r+v1:Nat):Int))):=by
   intro e0;show tI N o (n+1) 0 n (n:Int) b c e0 (((p+1:Nat):Int),(r:Int)) (ai M _)=_;simp only[tI,i2,i1,j2,hc1,hc2,hb];have tail:(af .i64 ((n:Int) - 1)&&((inR ((n:Int) - 1) n)&&((decide (n - 1<c.length))&&(sQ2 N (r:Int) (v1:Int) 0 (λ(ZC:Int) (n5:Int)=>(cond (n5 != 0) (e0 (IntKind.wrap .u64 (((p+1:Nat):Int) - 1))) (ai M (tI N o (n+1) 0 n (n:Int) b c e0) ((IntKind.wrap .u64 (((p+1:Nat):Int) - 1)),ZC))))))))
     = cond (decide (18446744073709551616<=r+v1)) (e0 (p:Int)) (ai M (tI N o (n+1) 0 n (n:Int) b c e0) ((p:Int),((r+v1:Nat):Int))):=by
    rw[aa afM,aa afN,aa (afO (by omega)),nz N (c:=0) (a:=r) (b:=v1) (d:=0) rfl rfl rfl (by omega),w1];by_cases hb2:18446744073709551616<=r+v1
    ·have:(((r+v1+0) / 18446744073709551616:Nat):Int)=1:=by omega
     rw[this,afO hb2]; rfl
    ·have:(((r+v1+0) / 18446744073709551616:Nat):Int)=0:=by omega
     have e2:(r+v1+0)%18446744073709551616=r+v1:=by omega
     rw[this,e2,afP hb2]; rfl
   rw[aa afM,aa afN,aa (afO (by omega)),xD N hq hv0];generalize (p+1)*v0%18446744073709551616=lo at *;generalize (p+1)*v0 / 18446744073709551616=hi at *;rcases aip hi r with h | h | h
   ·exfalso; omega
   ·subst h;rw[afP (by omega:¬(hi:Int)<hi),show(false==false)=true from rfl,afR,show((hi:Int)==hi)=true by simp,show(true==true)=true from rfl,afR,aa afM,aa afN,aa (afO (by omega)),afP (by omega:¬(lo:Int)<=u0),afQ];exact tail
   ·rw[afP (by omega:¬(hi:Int)<r),show(false==false)=true from rfl,afR,show((hi:Int)==r)=false by simp; omega,show(false==true)=false from rfl,afQ];exact tail
  by_cases hb2:18446744073709551616<=r+v1
  ·exact⟨p,by omega,by omega,λe0=>by rw[step,afO hb2,afR]⟩
  ·obtain⟨g,g1,g2,g3⟩:=ih p (by omega) (r+v1) M (by omega) (by omega) (by rw[<- hT,ahm]; omega) (by omega) (by omega);exact⟨g,g1,g2,λe0=>by rw[step,afP hb2,afQ]; exact g3 e0⟩
theorem kg {b:List Int} (o i:Nat):(b.drop o).getD i 0=b.getD (o+i) 0:=by rw[List.getD_eq_getElem?_getD,List.getD_eq_getElem?_getD,List.getElem?_drop]
theorem Zd (c:List Int) (m:Nat):av (c.take (m+3))=av (c.take m)+18446744073709551616 ^ m*((c.getD m 0).toNat+18446744073709551616*((c.getD (m+2) 0).toNat*18446744073709551616+(c.getD (m+1) 0).toNat)):=by rw[show m+3=m+2+1 by omega,aM,show m+2=m+1+1 by omega,aM,aM];simp only[af2];generalize 18446744073709551616 ^ m=P;grind
theorem Zc (c:List Int) (m:Nat):av (c.take (m+2))=av (c.take m)+18446744073709551616 ^ m*((c.getD m 0).toNat+18446744073709551616*(c.getD (m+1) 0).toNat):=by rw[show m+2=m+1+1 by omega,aM,aM];simp only[af2];generalize 18446744073709551616 ^ m=P;grind
theorem K3 {N:Nat} (hN:1180591620717411303424<=N) {o n:Nat} {b c:List Int} (hn:2<=n) (hb:InWq b) (hc:InWq c) (hcl:n<=c.length) (hbl:o+n+1<=b.length) (hbs:b.length<=1099511627780)
  (htop:0<(c.getD (n - 1) 0).toNat) (hU:av ((b.drop o).take (n+1))<av (c.take n)*18446744073709551616) :
  ∃ g:Nat,av ((b.drop o).take (n+1)) / av (c.take n)<=g/\g<18446744073709551616 /\ ∀ k,Rz N o (n+1) 0 n b c k=k (g:Int):=by
 obtain⟨m,rfl⟩:∃ m,n=m+2:=⟨n - 2,by omega⟩
 have hU3:=Zd (b.drop o) m;have hV2:=Zc c m;rw[kg,kg,kg]at hU3;have a0:=hb.at (i:=o+m);have a1:=hb.at (i:=o+(m+1));have a2:=hb.at (i:=o+(m+2));have c0:=hc.at (i:=m);have c1:=hc.at (i:=m+1);have hA:=aR (hb.drop o) m;have hB:=aR hc m;rw[show m+2 - 1=m+1 by omega]at htop;obtain⟨u0,hu0⟩:∃ u,u=(b.getD (o+m) 0).toNat:=⟨_,rfl⟩
 obtain⟨u1,hu1⟩:∃ u,u=(b.getD (o+(m+1)) 0).toNat:=⟨_,rfl⟩
 obtain⟨u2,hu2⟩:∃ u,u=(b.getD (o+(m+2)) 0).toNat:=⟨_,rfl⟩
 obtain⟨v0,hv0⟩:∃ u,u=(c.getD m 0).toNat:=⟨_,rfl⟩
 obtain⟨v1,hv1⟩:∃ u,u=(c.getD (m+1) 0).toNat:=⟨_,rfl⟩
 have g0:b.getD (o+m) 0=(u0:Int):=by omega
 have g1:b.getD (o+(m+1)) 0=(u1:Int):=by omega
 have g2:b.getD (o+(m+2)) 0=(u2:Int):=by omega
 have k0:c.getD m 0=(v0:Int):=by omega
 have k1:c.getD (m+1) 0=(v1:Int):=by omega
 rw[<- hu0,<- hu1,<- hu2]at hU3;rw[<- hv0,<- hv1]at hV2;rw[<- hv1]at htop;rw[show m+2+1=m+3 by omega];rw[show m+2+1=m+3 by omega]at hU;generalize av ((b.drop o).take (m+3))=U at *;generalize av (c.take (m+2))=V at *;have hV0:0<V:=by
  rcases ag_ V with h | h
  ·rw[h,ahe]at hU; omega
  ·exact h
 have hq:U / V<18446744073709551616:=by rw[afY hV0,afS]; exact hU
 have i2:o+Int.toNat (((m+2:Nat):Int))=o+(m+2):=by omega
 have i1:o+Int.toNat (((m+2:Nat):Int) - 1)=o+(m+1):=by omega
 have j1:0+Int.toNat (((m+2:Nat):Int) - 1)=m+1:=by omega
 by_cases h0:v1<=u2
 ·refine⟨18446744073709551615,by omega,by omega,λk=>?_⟩
  (unfold Rz; rw[ac]; unfold PX)
  simp only[i2,i1,j1,g2,g1,k1];rw[aa afN,aa (afO (by omega)),aa afM,aa afN,aa (afO (by omega)),afO (by omega:(u2:Int)>=v1),afR];rfl
 ·have hT:(u2*18446744073709551616+u1) / v1<18446744073709551616:=by rw[afY htop];have:=afW 18446744073709551616 (Nat.lt_of_not_le h0);rw[ai7]at this;omega
  obtain⟨g,e1,e2,e3⟩:=HH (N:=N) (o:=o) (n:=m+2) (T:=u2*18446744073709551616+u1) (d:=U / V) (u0:=u0) (v0:=v0) (v1:=v1) (by omega) (by rw[show m+2 - 2=m by omega]; exact k0) (by rw[show m+2 - 1=m+1 by omega]; exact k1) (by rw[show m+2 - 2=m by omega]; exact g0) hcl hbl hbs (by omega) (by omega) (by omega)
   (λg hg=>DN hA hU3 hV2 hV0 hg)
   ((u2*18446744073709551616+u1) / v1) ((u2*18446744073709551616+u1)%v1) N (by omega) hT (agM _ _) (ahD (af4 _ htop) (by omega)) (Jh hA hU3 hV2 hV0 htop (by omega))
  refine⟨g,e1,e2,λk=>?_⟩
  (unfold Rz; rw[ac]; unfold PX)
  simp only[i2,i1,j1,g2,g1,k1];rw[aa afN,aa (afO (by omega)),aa afM,aa afN,aa (afO (by omega)),afP (by omega:¬(u2:Int)>=v1),afQ];rw[aa afN,aa (afO (by omega)),aa afM,aa afN,aa (afO (by omega)),aa afM,aa afN,aa (afO (by omega))];rw[CN (by omega) (by omega) (by omega) (by omega),e3]
theorem Ka {b:List Int} {o i:Nat} (D:Nat) (h:o+i<=b.length):(b.take o++(dlq D i++b.drop (o+i))).length=b.length:=by simp[ak]; omega
theorem J_ {b:List Int} {o i:Nat} (D:Nat) (h:o+i<b.length):(b.take o++(dlq D i++b.drop (o+i))).getD (o+i) 0=b.getD (o+i) 0:=by rw[<- af7,cW h,bT (by simp[ak]; omega)]
theorem Kb {b:List Int} {o i:Nat} (D:Nat) (h:o+i<b.length):(b.take o++(dlq D i++b.drop (o+i))).set (o+i) ((D / 18446744073709551616 ^ i%18446744073709551616:Nat):Int)=b.take o++(dlq D (i+1)++b.drop (o+(i+1))):=by rw[<- af7,cW h,be _ _ _ _ _ (by simp[ak]; omega),dlq];simp[agx]
theorem J8 {b:List Int} {o i n:Nat} (D E:Nat) (hi:i<=n) (h:o+n<=b.length):(b.take o++(dlq E i++((dlq D n).drop i++b.drop (o+n)))).length=b.length:=by simp[ak]; omega
theorem J7 {b:List Int} {o i n:Nat} (D E:Nat) (hi:i<n) (h:o+n<=b.length):(b.take o++(dlq E i++((dlq D n).drop i++b.drop (o+n)))).getD (o+i) 0=((D / 18446744073709551616 ^ i%18446744073709551616:Nat):Int):=by rw[<- af7,cW (n:=i) (by rw[ak]; exact hi),ahA,bT (by simp[ak]; omega),sy D hi]
theorem J9 {b:List Int} {o i n:Nat} (D E:Nat) (hi:i<n) (h:o+n<=b.length):(b.take o++(dlq E i++((dlq D n).drop i++b.drop (o+n)))).set (o+i) ((E / 18446744073709551616 ^ i%18446744073709551616:Nat):Int)=b.take o++(dlq E (i+1)++((dlq D n).drop (i+1)++b.drop (o+n))):=by rw[<- af7,cW (n:=i) (by rw[ak]; exact hi),ahA,be _ _ _ _ _ (by simp[ak]; omega),dlq];simp
theorem I7 {m:Nat} (S X:Nat):∀ n,n<=m->dlq (S+18446744073709551616 ^ m*X) n=dlq S n
 | 0,_=>rfl
 | n+1,h=>by rw[dlq,dlq,I7 S X n (by omega)];congr 3;refine iS (R:=18446744073709551616 ^ (m - (n+1))*X) ?_;rw[<- af0,<- af8,show n+1+(m - (n+1))=m by omega]
theorem Dl {w:List Int} {n i U Q:Nat} (hw:InWq w) (hl:w.length=n+1) (hU:U=av w) (hi:i<=n) (hQ:Q<18446744073709551616 ^ (n+1)) :
  (((w.getD i 0).toNat+18446744073709551616 - Q / 18446744073709551616 ^ i%18446744073709551616 - (if av (w.take i)<Q%18446744073709551616 ^ i then 1 else 0))%18446744073709551616=(U+18446744073709551616 ^ (n+1) - Q) / 18446744073709551616 ^ i%18446744073709551616)
  /\ (if (w.getD i 0).toNat<Q / 18446744073709551616 ^ i%18446744073709551616+(if av (w.take i)<Q%18446744073709551616 ^ i then 1 else 0)then 1 else 0)=(if av (w.take (i+1))<Q%18446744073709551616 ^ (i+1)then 1 else(0:Nat)):=by
 have hx:=hw.at (i:=i);have hA:=aM (m:=w) i;have hAl:=aR hw i;have hp:=ba i;have hBl:=af4 Q hp;have hPs:18446744073709551616 ^ (i+1)=18446744073709551616 ^ i*18446744073709551616:=af2 ..;have hmm:Q%18446744073709551616 ^ (i+1)=Q%18446744073709551616 ^ i+18446744073709551616 ^ i*(Q / 18446744073709551616 ^ i%18446744073709551616):=by rw[hPs,aiG]
 have hyl:Q / 18446744073709551616 ^ i%18446744073709551616<18446744073709551616:=af4 _ (by decide);constructor
 ·obtain⟨R1,h1⟩:=bF w (i+1);have hW:18446744073709551616 ^ (n+1)=18446744073709551616 ^ i*18446744073709551616*18446744073709551616 ^ (n - i):=by rw[<- hPs,<- af8,show i+1+(n - i)=n+1 by omega]
  have hq:=CA (D:=U+18446744073709551616 ^ (n+1) - Q) (a:=U+18446744073709551616 ^ (n+1)) (b:=Q) (x:=(w.getD i 0).toNat) (y:=Q / 18446744073709551616 ^ i%18446744073709551616) (R1:=R1+18446744073709551616 ^ (n - i)) (R2:=Q / (18446744073709551616 ^ i*18446744073709551616)) hAl hBl rfl
   (by rw[hU,h1,hA,hW,hPs,af6]; omega)
   (by rw[<- hmm,hPs]; exact(ah0 _ _).symm)
   (by omega)
  generalize (U+18446744073709551616 ^ (n+1) - Q) / 18446744073709551616 ^ i=Z at *;generalize Q / 18446744073709551616 ^ i%18446744073709551616=y at *;generalize (w.getD i 0).toNat=x at *;generalize ((R1+18446744073709551616 ^ (n - i):Nat):Int) - ((Q / (18446744073709551616 ^ i*18446744073709551616):Nat):Int)=RR at *;split at hq <;> rename_i hh <;> simp only[hh,ahr,ago] <;> omega
 ·rw[hA,hmm];exact(oD _ _ _ _ _ hAl hBl).symm
theorem kI (i:Nat):(i:Int)+1=((i+1:Nat):Int):=rfl
theorem EZ (p:Prop) [Decidable p]:(if p then(1:Int)else 0)=((if p then 1 else 0:Nat):Int):=by split <;> rfl
theorem G0 (p:Nat) (h:p<18446744073709551616):IntKind.wrap .u64 (((p+1:Nat):Int) - 1)=(p:Int):=by rw[am]; omega
theorem Cr {D V c v i:Nat} (hc:c=(D%18446744073709551616 ^ i+V) / 18446744073709551616 ^ i) :
  (D%18446744073709551616 ^ (i+1)+(V+18446744073709551616 ^ i*v)) / 18446744073709551616 ^ (i+1)=(D / 18446744073709551616 ^ i%18446744073709551616+v+c) / 18446744073709551616 /\
  ∀ R,(D+(V+18446744073709551616 ^ i*v+18446744073709551616 ^ (i+1)*R)) / 18446744073709551616 ^ i%18446744073709551616=(D / 18446744073709551616 ^ i%18446744073709551616+v+c)%18446744073709551616:=by
 have hp:=ba i;have hPs:18446744073709551616 ^ (i+1)=18446744073709551616 ^ i*18446744073709551616:=af2 ..;have hmm:D%18446744073709551616 ^ (i+1)=D%18446744073709551616 ^ i+18446744073709551616 ^ i*(D / 18446744073709551616 ^ i%18446744073709551616):=by rw[hPs,aiG]
 have e:D%18446744073709551616 ^ (i+1)+(V+18446744073709551616 ^ i*v)=(D%18446744073709551616 ^ i+V)+18446744073709551616 ^ i*(D / 18446744073709551616 ^ i%18446744073709551616+v):=by rw[hmm,af6]; omega
 have e2:(D%18446744073709551616 ^ (i+1)+(V+18446744073709551616 ^ i*v)) / 18446744073709551616 ^ i=D / 18446744073709551616 ^ i%18446744073709551616+v+c:=by rw[e,cE,<- hc]; omega
 constructor
 ·rw[hPs,<- afX,<- hPs,e2]
 ·intro R;have e3:D+(V+18446744073709551616 ^ i*v+18446744073709551616 ^ (i+1)*R)=(D%18446744073709551616 ^ (i+1)+(V+18446744073709551616 ^ i*v))+18446744073709551616 ^ (i+1)*(D / 18446744073709551616 ^ (i+1)+R):=by have:=ah0 D (18446744073709551616 ^ (i+1));rw[af6]; omega
  rw[iS e3,e2]
theorem G_ {D V c i:Nat} (hc:c=(D%18446744073709551616 ^ i+V) / 18446744073709551616 ^ i) :
  (D%18446744073709551616 ^ (i+1)+V) / 18446744073709551616 ^ (i+1)=(D / 18446744073709551616 ^ i%18446744073709551616+0+c) / 18446744073709551616 /\
  (D+V) / 18446744073709551616 ^ i%18446744073709551616=(D / 18446744073709551616 ^ i%18446744073709551616+0+c)%18446744073709551616:=by
 obtain⟨a1,a2⟩:=Cr (v:=0) hc;have a3:=a2 0;rw[ahb,agn V]at a1;rw[ahb,ahb,agn V]at a3;exact⟨a1,a3⟩
theorem Kk {N:Nat} (hN:1180591620717411303424<=N) {o n U V d:Nat} {b c:List Int} (hn:1<=n) (hc:InWq c) (hcl:n<=c.length) (hbl:o+(n+1)<=b.length) (hbs:b.length<=1099511627780) (hV:V=av (c.take n)) (hUW:U<18446744073709551616 ^ (n+1)) (hd:∀ g,g<=d↔g*V<=U) (e0:Int->List Int->Bool) :
  ∀ g M,g<M->g<18446744073709551616->d<=g->g*V<18446744073709551616 ^ (n+1) ->
   ai M (ze N o (n+1) 0 n (n:Int) c e0) ((g:Int),((if U<g*V then 1 else 0:Nat):Int),b.take o++(dlq (U+18446744073709551616 ^ (n+1) - g*V) (n+1)++b.drop (o+(n+1))))=e0 (d:Int) (b.take o++(dlq (U+18446744073709551616 ^ (n+1) - d*V) (n+1)++b.drop (o+(n+1)))):=by
 intro g;induction g with
 | zero=>
  intro M hM _ hdg _;obtain⟨M,rfl⟩:∃ m,M=m+1:=⟨M - 1,by omega⟩
  have:d=0:=by omega
  subst this;show ze N o (n+1) 0 n (n:Int) c e0 (_,_,_) (ai M _)=_;simp only[ze,ahe];rw[if_neg (by omega:¬ U<0),show(((0:Nat):Int) != 0)=false from rfl,afQ]
 | succ p ih=>
  intro M hM hg hdg hgW;obtain⟨M,rfl⟩:∃ m,M=m+1:=⟨M - 1,by omega⟩
  show ze N o (n+1) 0 n (n:Int) c e0 (_,_,_) (ai M _)=_;have hps:(p+1)*V=p*V+V:=ahm _ _;by_cases hlt:U<(p+1)*V
  ·have hdp:d<=p:=by
    rcases agP p d with h | h
    ·have:=(hd (p+1)).1 h; omega
    ·exact h
   simp only[ze];rw[if_pos hlt,show(((1:Nat):Int) != 0)=true from rfl,afR];obtain⟨D,hD⟩:∃ D,D=U+18446744073709551616 ^ (n+1) - (p+1)*V:=⟨_,rfl⟩
   obtain⟨E,hE⟩:∃ E,E=U+18446744073709551616 ^ (n+1) - p*V:=⟨_,rfl⟩
   have hDE:E=D+V:=by omega
   have hDl:D<18446744073709551616 ^ (n+1):=by omega
   rw[<- hD];refine aH (λi=>((((D%18446744073709551616 ^ i+av (c.take i)) / 18446744073709551616 ^ i:Nat):Int),(i:Int),b.take o++(dlq E i++((dlq D (n+1)).drop i++b.drop (o+(n+1)))))) n ?_ (by omega) (λi hi K=>?_) (λK=>?_)
   ·simp[dlq,av,aiF]
   ·have hx:=hc.at (i:=i);have hcv:=aM (m:=c) i;have hVl:=aR hc i;have hp:=ba i;have hml:=af4 D hp;obtain⟨cy,hcy⟩:∃ cy,cy=(D%18446744073709551616 ^ i+av (c.take i)) / 18446744073709551616 ^ i:=⟨_,rfl⟩
    have hcl1:cy<=1:=by
     have:cy<2:=by rw[hcy,afY hp]; omega
     omega
    obtain⟨a1,a2⟩:=Cr (D:=D) (V:=av (c.take i)) (v:=(c.getD i 0).toNat) hcy;obtain⟨R,hR⟩:=bF (c.take n) (i+1);rw[aiT,ahf (by omega),<- hV,hcv]at hR;have a3:=a2 R;rw[<- hR,<- hDE]at a3;have hdl:D / 18446744073709551616 ^ i%18446744073709551616<18446744073709551616:=af4 _ (by decide);simp only[g8,afV,agl];rw[J8 D E (by omega) (by omega),J7 D E (by omega) (by omega)];rw[afO (by omega:(i:Int)<n),afR,aa afN,aa (afO (by omega)),aa afN,aa (afO (by omega)),<- hcy,
     nz N (a:=D / 18446744073709551616 ^ i%18446744073709551616) (b:=(c.getD i 0).toNat) (d:=cy) rfl (by omega) rfl hcl1,aa afN,aa (afO (by omega)),aa afM,<- a3,J9 D E (by omega) (by omega),<- a1,hcv,kI]
   ·have hp:=ba n;have hml:=af4 D hp;have hVl:V<18446744073709551616 ^ n:=by rw[hV]; exact aR hc n
    obtain⟨cy,hcy⟩:∃ cy,cy=(D%18446744073709551616 ^ n+V) / 18446744073709551616 ^ n:=⟨_,rfl⟩
    have hcl1:cy<=1:=by
     have:cy<2:=by rw[hcy,afY hp]; omega
     omega
    obtain⟨a1,a3⟩:=G_ (D:=D) (V:=V) (i:=n) hcy;rw[afZ hDl,<- hDE]at a1;rw[<- hDE]at a3;simp only[g8,afV];rw[afP (by omega:¬(n:Int)<n),afQ,J8 D E (by omega) (by omega),J7 D E (by omega) (by omega),<- hV,<- hcy,aa afN,aa (afO (by omega)),
     nz N (y:=0) (c:=((cy:Nat):Int)) (a:=D / 18446744073709551616 ^ n%18446744073709551616) (b:=0) (d:=cy) rfl rfl rfl hcl1,aa afN,aa (afO (by omega)),<- a3,<- a1,J9 D E (by omega) (by omega),G0 p (by omega)]
    rw[agB (by rw[ak]; omega),agD];have eb:IntKind.wrap .u64 (((1:Nat):Int) - ((E / 18446744073709551616 ^ (n+1):Nat):Int))=((if U<p*V then 1 else 0:Nat):Int):=by
     have hp1:=ba (n+1);by_cases h:U<p*V
     ·rw[if_pos h,agm (by omega),am]; omega
     ·rw[if_neg h];have:E / 18446744073709551616 ^ (n+1)=1:=by refine Nat.div_eq_of_lt_le ?_ ?_ <;> omega
      rw[this,am]; omega
    rw[eb,hE];exact ih M (by omega) (by omega) hdp (by omega)
  ·have:d=p+1:=by have:=(hd (p+1)).2 (by omega);omega
   subst this;simp only[ze];rw[if_neg hlt,show(((0:Nat):Int) != 0)=false from rfl,afQ]
theorem ON {N:Nat} (hN:1180591620717411303424<=N) {o n:Nat} {b c:List Int} (hn:2<=n) (hb:InWq b) (hc:InWq c) (hcl:n<=c.length) (hbl:o+(n+1)<=b.length) (hbs:b.length<=1099511627780)
  (htop:0<(c.getD (n - 1) 0).toNat) (hU:av ((b.drop o).take (n+1))<av (c.take n)*18446744073709551616) (k:Kz0) :
  Pa N o (n+1) 0 n b c k=k ((av ((b.drop o).take (n+1)) / av (c.take n):Nat):Int) (b.take o++(dlq (av ((b.drop o).take (n+1))%av (c.take n)) (n+1)++b.drop (o+(n+1)))):=by
 obtain⟨g,g1,g2,g3⟩:=K3 hN hn hb hc hcl (by omega) hbs htop hU
 (unfold Pa; rw[ac]; unfold MG)
 rw[g3];have hw:InWq ((b.drop o).take (n+1)):=(hb.drop o).take _;have hwl:((b.drop o).take (n+1)).length=n+1:=by rw[agv,ahq]; omega
 have hwg:∀ i,i<=n->((b.drop o).take (n+1)).getD i 0=b.getD (o+i) 0:=λi hi=>by rw[uc (by omega),kg]
 generalize (b.drop o).take (n+1)=w at *;obtain⟨U,hUe⟩:∃ U,U=av w:=⟨_,rfl⟩
 obtain⟨V,hVe⟩:∃ V,V=av (c.take n):=⟨_,rfl⟩
 rw[<- hUe,<- hVe]at hU g1 ⊢;have hV0:0<V:=by
  rcases ag_ V with h | h
  ·rw[h,ahe]at hU; omega
  ·exact h
 have hVl:V<18446744073709551616 ^ n:=by rw[hVe]; exact aR hc n
 have hUW:U<18446744073709551616 ^ (n+1):=by rw[hUe]; have:=iM hw; rwa [hwl]at this
 have hgV:g*V<18446744073709551616 ^ (n+1):=by rw[af2,afS];exact agV hVl g2
 have hres:b.take o++(dlq (U%V) (n+1)++b.drop (o+(n+1)))=b.take o++(dlq (U+18446744073709551616 ^ (n+1) - (U / V)*V) (n+1)++b.drop (o+(n+1))):=by
  have e:U+18446744073709551616 ^ (n+1) - (U / V)*V=U%V+18446744073709551616 ^ (n+1)*1:=by have:=agM U V;omega
  rw[e,I7 _ _ _ (af1 _)]
 rw[hres];obtain⟨D,hD⟩:∃ D,D=U+18446744073709551616 ^ (n+1) - g*V:=⟨_,rfl⟩
 obtain⟨Q,hQ⟩:∃ Q,Q=g*V:=⟨_,rfl⟩
 have hQW:Q<18446744073709551616 ^ (n+1):=by rw[hQ]; exact hgV
 refine aH (λi=>(((g*av (c.take i) / 18446744073709551616 ^ i:Nat):Int),((if av (w.take i)<Q%18446744073709551616 ^ i then 1 else 0:Nat):Int),(i:Int),b.take o++(dlq D i++b.drop (o+i)))) n ?_ (by omega) (λi hi K=>?_) (λK=>?_)
 ·simp[dlq,av,aiF]
 ·have hx:=hb.at (i:=o+i);have hy:=hc.at (i:=i);have hcv:=aM (m:=c) i;have hp:=ba i;have hVi:=aR hc i;obtain⟨s1,s2⟩:=Dl hw hwl hUe (by omega:i<=n) (by rw[hQ]; exact hgV:Q<_);rw[hwg i (by omega)]at s1 s2;rw[hQ,<- hD,<- hQ]at s1;obtain⟨cy,hcy⟩:∃ cy,cy=g*av (c.take i) / 18446744073709551616 ^ i:=⟨_,rfl⟩
  have hcyl:cy<18446744073709551616:=by rw[hcy,afY hp];exact agV g2 hVi
  have e1:g*av (c.take (i+1))=g*av (c.take i)+18446744073709551616 ^ i*(g*(c.getD i 0).toNat):=by rw[hcv,af6,agi g]
  have ecy:g*av (c.take (i+1)) / 18446744073709551616 ^ (i+1)=(g*(c.getD i 0).toNat+0+cy) / 18446744073709551616:=by rw[af2,<- afX,e1,cE,<- hcy];congr 1; omega
  obtain⟨R,hR⟩:=bF (c.take n) (i+1);rw[aiT,ahf (by omega),<- hVe]at hR;have elo:Q / 18446744073709551616 ^ i%18446744073709551616=(g*(c.getD i 0).toNat+0+cy)%18446744073709551616:=by
   have:Q=g*av (c.take (i+1))+18446744073709551616 ^ (i+1)*(g*R):=by rw[hQ,hR,af6,agi g]
   rw[iS this,e1,cE,<- hcy];congr 1; omega
  simp only[gZ,afV,agl];rw[Ka D (by omega),J_ D (by omega),afO (by omega:(i:Int)<n),afR,aa afN,aa (afO (by omega)),<- hcy,
   A8 N (c:=0) (a:=g) (b:=(c.getD i 0).toNat) (e:=0) (f:=cy) rfl (by omega) rfl rfl g2 (by omega) (by omega) hcyl,aa afN,aa (afO (by omega)),<- elo,<- ecy,
   xE N (a:=(b.getD (o+i) 0).toNat) (b:=Q / 18446744073709551616 ^ i%18446744073709551616) (d:=if av (w.take i)<Q%18446744073709551616 ^ i then 1 else 0) (by omega) rfl rfl (by split <;> omega),aa afN,aa (afO (by omega)),aa afM,s1,Kb D (by omega)]
  have s3:(if (b.getD (o+i) 0).toNat<Q / 18446744073709551616 ^ i%18446744073709551616+(if av (w.take i)<Q%18446744073709551616 ^ i then 1 else 0)then(1:Int)else 0)=((if av (w.take (i+1))<Q%18446744073709551616 ^ (i+1)then 1 else 0:Nat):Int):=by rw[EZ,s2]
  rw[s3];rfl
 ·have hx:=hb.at (i:=o+n);obtain⟨s1,s2⟩:=Dl hw hwl hUe (af1 n) (by rw[hQ]; exact hgV:Q<_);rw[hwg n (by omega)]at s1 s2;rw[hQ,<- hD,<- hQ]at s1;have hql:Q / 18446744073709551616 ^ n<18446744073709551616:=by rw[afY (ba n),afS,<- af2,hQ]; exact hgV
  rw[afZ hql]at s1 s2;have hwt:w.take (n+1)=w:=agb (by omega);rw[hwt,<- hUe,afZ hQW]at s2;simp only[gZ,afV];rw[afP (by omega:¬(n:Int)<n),afQ,<- hVe,<- hQ,Ka D (by omega),J_ D (by omega),aa afN,aa (afO (by omega)),
   xE N (a:=(b.getD (o+n) 0).toNat) (b:=Q / 18446744073709551616 ^ n) (d:=if av (w.take n)<Q%18446744073709551616 ^ n then 1 else 0) (by omega) rfl rfl (by split <;> omega),aa afN,aa (afO (by omega)),s1,Kb D (by omega)]
  have s3:(if (b.getD (o+n) 0).toNat<Q / 18446744073709551616 ^ n+(if av (w.take n)<Q%18446744073709551616 ^ n then 1 else 0)then(1:Int)else 0)=((if U<g*V then 1 else 0:Nat):Int):=by rw[<- hQ,EZ,s2]
  rw[s3,hD];exact Kk hN (by omega) hc hcl hbl hbs hVe hUW (λp=>ahx hV0) _ g N (by omega) g2 g1 hgV
theorem HZ {N:Nat} (b:List Int) (m:Nat) (hm:m<=b.length) (hN:m<N) (hs:m<9223372036854775807) (k:Kz6):qU N 0 m b k=k (bM b m):=by
 (unfold qU; rw[ac]; unfold p7)
 have key:∀ n,n<=m -> ∀ M,n<M->ai M (vV N 0 m b λZV=>((decide (0<=ZV/\ZV<=((m:Nat):Int)))&&(k ((Int.toNat ZV) - 0)))) (n:Int)=k (bM b n):=by
  intro n;induction n with
  | zero=>
   intro _ M hM;obtain⟨M,rfl⟩:∃ m,M=m+1:=⟨M - 1,by omega⟩
   show vV N 0 m b _ ((0:Nat):Int) _=_;simp only[vV,bM];rw[afP (by omega:¬((0:Nat):Int)>0),show(false==true)=false from rfl,afQ,afO (by omega),agW];rfl
  | succ n ih=>
   intro hn M hM;obtain⟨M,rfl⟩:∃ m,M=m+1:=⟨M - 1,by omega⟩
   show vV N 0 m b _ ((n+1:Nat):Int) (ai M _)=_;have e:0+Int.toNat (((n+1:Nat):Int) - 1)=n:=by omega
   have e2:((n+1:Nat):Int) - 1=(n:Int):=by omega
   simp only[vV,e];rw[afO (by omega:((n+1:Nat):Int)>0),show(true==true)=true from rfl,afR,aa afM,aa afN,aa (afO (by omega)),aa afM,e2,ih (by omega) M (by omega),oG];by_cases h0:b.getD n 0=0
   ·have:(b.getD n 0==0)=true:=by simpa using h0
    rw[this,if_pos h0]; rfl
   ·have:(b.getD n 0==0)=false:=by simpa using h0
    rw[this,if_neg h0,afQ,afO (by omega),agW];rfl
 exact key m (af1 _) N hN
theorem yL (N:Nat) (b:List Int) (m i:Nat) (hm:m<=b.length) (hi:i<9223372036854775807) (k:Kz5):JP N 0 m (i:Int) b k=k ((b.take m).getD i 0):=by
 unfold JP RU;by_cases h:i<m
 ·rw[afO (by omega),afR,aa afN,aa (afO (by omega)),uc h];simp
 ·rw[afP (by omega),afQ,dY (by rw[agv]; omega)]
theorem F0 {N:Nat} (b:List Int) (hb:InWq b) (m s:Nat) (hm:m<=b.length) (hs:s<64) (hN:m+3<N) (hms:m<=1099511627780):∃ lost:Bool,∀ k,JK N 0 m (s:Int) b k=k (ae (av (b.take m) / 2 ^ s)) lost:=by
 have ew:IntKind.wrap .u64 (Int.tdiv (s:Int) 64)=0:=by rw[am,agU (by omega)]; omega
 have es:Int.tmod (s:Int) 64=(s:Int):=by rw[agI (by omega)]; omega
 have eml:IntKind.wrap .u64 ((m:Nat):Int)=(m:Int):=by rw[am]; omega
 have hs0:0<2 ^ s:=af3 _;by_cases h0:m=0
 ·subst h0;refine⟨false,λk=>?_⟩
  (unfold JK; rw[ac]; unfold IK)
  rw[ew,ah8,show av []=0 from rfl,Nat.zero_div,bg];rfl
 ·refine⟨aB .and .u64 (b.getD 0 0) (IntKind.wrap .u64 ((IntKind.wrap .u64 ((1:Int)*2 ^ s)) - 1)) != 0,λk=>?_⟩
  (unfold JK; rw[ac]; unfold IK)
  have emin:min s 64=s:=by omega
  have e64:min (Int.toNat (IntKind.wrap .u64 (64 - (s:Int)))) 64=64 - s:=by rw[am]; omega
  have z0:0+Int.toNat (0:Int)=0:=rfl;have z1:Int.toNat (0:Int) - 0=0:=rfl;rw[ew,es,eml,afP (by omega:¬(0:Int)>=(m:Int)),afQ,aa afM,aa afN,z0,z1,aa (afO (by omega)),aa (afO (by omega)),aa (afO (by omega)),afV,emin];refine aH (λi=>(aB .and .u64 (b.getD 0 0) (IntKind.wrap .u64 ((IntKind.wrap .u64 ((1:Int)*2 ^ s)) - 1)),(i:Int))) 0 rfl (by omega) (λi hi K=>by omega) (λK=>?_);simp only[l7];rw[afP (by omega:¬((0:Nat):Int)<((0:Nat):Int)),afQ];generalize aB .and .u64 (b.getD 0 0) (IntKind.wrap .u64 ((IntKind.wrap .u64 ((1:Int)*2 ^ s)) - 1))=lo;have hw:InWq (b.take m):=hb.take m;have hwl:(b.take m).length=m:=by rw[agv]; omega
  obtain⟨X,hX⟩:∃ X,X=av (b.take m) / 2 ^ s:=⟨_,rfl⟩
  have elen:Int.toNat ((m:Int) - 0)=m:=by omega
  have elen2:(m:Int) - 0=(m:Int):=by omega
  rw[elen2,aa afM,aa (bE (by omega) (by omega) (by omega) (by omega)),aha,afV,<- hX];refine aH (λi=>((i:Int),dlq X i++List.replicate (m - i) 0)) m (by simp[dlq]) (by omega) (λi hi K=>?_) (λK=>?_)
  ·have hx:=hw.at (i:=i);have hy:=hw.at (i:=i+1);have hset:=ua X i m (by omega);have hl:(dlq X i++List.replicate (m - i) (0:Int)).length=m:=by simp[ak]; omega
   obtain⟨R,hR⟩:=Aq hw i;have hdig:X / 18446744073709551616 ^ i%18446744073709551616=(((b.take m).getD i 0).toNat+18446744073709551616*((b.take m).getD (i+1) 0).toNat) / 2 ^ s%18446744073709551616:=by
    rw[hX,afX,afS (2 ^ s),<- afX,hR];have e2:18446744073709551616*18446744073709551616*R=2 ^ s*(18446744073709551616*(2 ^ (64 - s)*R)):=by
     have hs1:2 ^ s*2 ^ (64 - s)=18446744073709551616:=by rw[<- af8,show s+(64 - s)=64 by omega]
     rw[agi (2 ^ s),<- af0 (2 ^ s),hs1,af0]
    rw[e2,agL _ _ hs0,ag7]
   have ea:(0:Int)+(i:Int)=(i:Int):=by omega
   have eb:(i:Int)+1=((i+1:Nat):Int):=by omega
   simp only[i6,afV,ea,eb,emin,e64,hl];rw[afO (by omega:(i:Int)<(m:Int)),afR,aa afM,yL N b m i hm (by omega),aa (afO (by omega)),aa afM,aa afM,yL N b m (i+1) hm (by omega),aa (afO (by rw[am]; omega)),aa afN,aa (afO (by omega)),aa afM];have ex:(b.take m).getD i 0=((((b.take m).getD i 0).toNat:Nat):Int):=by omega
   have ey:(b.take m).getD (i+1) 0=((((b.take m).getD (i+1) 0).toNat:Nat):Int):=by omega
   rw[ex,ey,Dm (by omega) (by omega) (by omega),<- hdig,hset]
  ·simp only[i6];rw[afP (by omega:¬(m:Int)<(m:Int)),afQ,agq,agt,agp];have hXl:X<18446744073709551616 ^ m:=by have h1:=iM hw;rw[hwl]at h1;rw[hX];exact ahn (aho _ _) h1
   have:=kF (N:=N) _ (gM X m) (by rw[ak]; omega) (by rw[ak]; omega) (λl=>k l (lo != 0));rw[this,mv hXl]
theorem Lo {N:Nat} (m:List Int) (hm:InWq m) (n:Nat) (hn:n<4294967296) (hN:m.length+n / 64+4<N) (hs:m.length<=1099511627776) (e0:List Int->Bool) :
  ai N (eD N ((n / 64:Nat):Int) ((n%64:Nat):Int) m ((m.length:Nat):Int) e0) (0,List.replicate (n / 64+m.length+1) (0:Int))=e0 (dlq (av m*2 ^ n) (n / 64+m.length+1)):=by
 have hw6:n / 64<67108864:=by omega
 generalize hw:n / 64=w at *;generalize hsh:n%64=s at *;have hs32:s<64:=by omega
 have hp2:2 ^ n=18446744073709551616 ^ w*2 ^ s:=by rw[Ea,hw,hsh]
 have hs0:0<2 ^ s:=af3 s;have hs1:2 ^ s*2 ^ (64 - s)=18446744073709551616:=by rw[<- af8,show s+(64 - s)=64 by omega]
 let V:=av m*2 ^ n
 let X:=av m*2 ^ s
 have hVX:V=18446744073709551616 ^ w*X:=by simp only[V,X]; rw[hp2,agi]
 let T:=λi=>av (m.take i)*2 ^ s
 let c:=λi=>T i / 18446744073709551616 ^ i
 have hcl:∀ i,c i<2 ^ s:=by intro i;simp only[c,T];rw[afY (ba i),afS];exact ag0 (aR hm i) hs0
 refine aH (N:=N) (λi=>((i:Int),dlq V (w+i)++((c i:Nat):Int)::List.replicate (m.length - i) 0)) m.length ?_ (by omega) (λi hi K=>?_) (λK=>?_)
 ·congr 1;show List.replicate (w+m.length+1) (0:Int)=dlq V w++((c 0:Nat):Int)::List.replicate m.length 0;rw[hVX,sA];have hc0:c 0=0:=by simp[c,T,av]
  rw[hc0];have:w+m.length+1=w+(m.length+1):=by omega
  rw[this,<- ahu,agA]; rfl
 ·have hx:=hm.at (i:=i);have hT:T (i+1)=T i+18446744073709551616 ^ i*((m.getD i 0).toNat*2 ^ s):=by simp only[T,aM,agk,af0]
  have hq:T (i+1) / 18446744073709551616 ^ i=c i+(m.getD i 0).toNat*2 ^ s:=by rw[hT,cE]
  have hci:c i<2 ^ s:=hcl i;have hc1:c (i+1)=(c i+(m.getD i 0).toNat*2 ^ s) / 18446744073709551616:=by rw[<- hq]; simp only[c]; rw[af2,afX]
  have hdig:V / 18446744073709551616 ^ (w+i)%18446744073709551616=(c i+(m.getD i 0).toNat*2 ^ s)%18446744073709551616:=by rw[<- hq,hVX,af8,<- afX,agr _ (ba w)];obtain⟨R,hR⟩:=bF m (i+1);refine iS (R:=R*2 ^ s) ?_;simp only[X,T];rw[hR,agk,af0]
  have hrep:List.replicate (m.length - i) (0:Int)=0::List.replicate (m.length - (i+1)) 0:=by rw[show m.length - i=(m.length - (i+1))+1 by omega,agA]
  have hdl:=ak V (w+i);have ei:Int.toNat ((w:Int)+(i:Int))=w+i:=by omega
  have ei1:Int.toNat ((w:Int)+(i:Int)+1)=w+i+1:=by omega
  have emin:min s 64=s:=by omega
  have e64:min (Int.toNat (IntKind.wrap .u64 (64 - (s:Int)))) 64=64 - s:=by rw[am]; omega
  simp only[eD,afV,ei,ei1,emin,e64];rw[hrep,bT hdl.symm,be _ _ _ _ _ hdl.symm];have hmx:m.getD i 0=(((m.getD i 0).toNat:Nat):Int):=by omega
  rw[hmx];generalize hxx:(m.getD i 0).toNat=x at *;have hx32:x<18446744073709551616:=by omega
  have hlow:x*2 ^ s%18446744073709551616=2 ^ s*(x%2 ^ (64 - s)):=by
   have e:x*2 ^ s%(2 ^ s*2 ^ (64 - s))=2 ^ s*(x%2 ^ (64 - s)):=by rw[afS x]; exact ahB _ _ _
   rwa [hs1]at e
  have hsum:2 ^ s*(x%2 ^ (64 - s))+c i<18446744073709551616:=by have h1:x%2 ^ (64 - s)+1<=2 ^ (64 - s):=af4 _ (af3 _);have h2:=afW (2 ^ s) h1;rw[hs1,af6]at h2;omega
  have epw:(x:Int)*2 ^ s=((x*2 ^ s:Nat):Int):=by rw[aga,ahg]; rfl
  have eor:aB .or .u64 ((c i:Nat):Int) (IntKind.wrap .u64 ((x:Int)*2 ^ s))=((V / 18446744073709551616 ^ (w+i)%18446744073709551616:Nat):Int):=by
   have e1:IntKind.wrap .u64 ((x*2 ^ s:Nat):Int)=((2 ^ s*(x%2 ^ (64 - s)):Nat):Int):=by rw[<- hlow,am]; omega
   rw[epw,e1,co _ _ s hci hsum,hdig];omega
  have ehi:Int.fdiv (x:Int) (2 ^ (64 - s))=((c (i+1):Nat):Int):=by
   have e2:(2:Int) ^ (64 - s)=((2 ^ (64 - s):Nat):Int):=by rw[ahg]; rfl
   rw[e2,kH,hc1];have:(c i+x*2 ^ s) / 18446744073709551616=x / 2 ^ (64 - s):=by rw[<- hs1,<- afX,afS x,agL _ _ hs0,agm hci,agl]
   rw[this]
  rw[eor,ehi];have hl1:∀(a b:Int) (ys:List Int),(dlq V (w+i)++a::b::ys).length=w+i+2+ys.length:=by intro a b ys; simp[hdl]; omega
  have hset2:(dlq V (w+i)++((V / 18446744073709551616 ^ (w+i)%18446744073709551616:Nat):Int)::0::List.replicate (m.length - (i+1)) 0).set (w+i+1) ((c (i+1):Nat):Int)=dlq V (w+(i+1))++((c (i+1):Nat):Int)::List.replicate (m.length - (i+1)) 0:=by
   have:dlq V (w+i)++((V / 18446744073709551616 ^ (w+i)%18446744073709551616:Nat):Int)::0::List.replicate (m.length - (i+1)) 0=dlq V (w+(i+1))++0::List.replicate (m.length - (i+1)) 0:=by rw[<- agx,dlq]; simp
   rw[this];exact be _ _ _ _ _ (by rw[ak]; omega)
  rw[hset2,hl1,hl1];simp only[aha];rw[afO (by omega:(i:Int)<((m.length:Nat):Int)),afR,aa afN,aa afM,aa afN,aa (afO (by omega)),aa (afO (by omega)),aa afN,aa (afO (by omega)),aa afM,aa afM,aa (afO (by rw[am]; omega)),aa afN,aa (afO (by omega)),aa afM];rfl
 ·simp only[eD];rw[afP (by omega:¬(m.length:Int)<m.length),afQ,agq,agt];have hV:V<18446744073709551616 ^ (w+m.length+1):=by
   have h1:=iM hm;simp only[V];rw[hp2,af2,af8,agi,af0];refine ag0 ?_ (ba w);have hs2:2 ^ s<=18446744073709551616:=by rw[<- hs1]; exact agN _ (af3 _)
   exact agz h1 hs2 (by decide)
  have hT:T m.length=X:=by simp only[T,X]; rw[agy]
  have hend:dlq V (w+m.length)++[((c m.length:Nat):Int)]=dlq V (w+m.length+1):=by
   rw[dlq];have:c m.length=V / 18446744073709551616 ^ (w+m.length)%18446744073709551616:=by
    have hX:V / 18446744073709551616 ^ (w+m.length)=X / 18446744073709551616 ^ m.length:=by rw[hVX,af8,<- afX,agr _ (ba w)]
    have h2:=hcl m.length;have hs2:2 ^ s<=18446744073709551616:=by rw[<- hs1]; exact agN _ (af3 _)
    rw[hX,<- hT];exact(afZ (by show c m.length<_; omega)).symm
   rw[this]
  rw[hend]
theorem Fh (n:Nat):dlq n (ae n).length=ae n:=by refine List.ext_getElem (ak n _) (λi h1 h2=>?_);have e1:=sy n h2;have e2:=nR i n;rw[List.getD_eq_getElem?_getD,List.getElem?_eq_getElem h1,agC]at e1;rw[List.getD_eq_getElem?_getD,List.getElem?_eq_getElem h2,agC]at e2;rw[e1,e2]
theorem DC {X L:Nat} (hX:X<18446744073709551616 ^ L):∀ k,dlq X (L+k)=dlq X L++List.replicate k 0
 | 0=>by simp
 | k+1=>by rw[<- agx,dlq,DC hX k,agm (af9 hX (af5 (by decide) (ah_ _ _))),ahp,af7];rfl
theorem sB (S:Nat):∀{m n:Nat},n<=m->(dlq S m).take n=dlq S n
 | 0,n,h=>by
  have:n=0:=by omega
  subst this; rfl
 | m+1,n,h=>by
  by_cases e:n=m+1
  ·subst e; rw[agb (by rw[ak]; omega)]
  ·rw[dlq,agT (by rw[ak]; omega),sB S (by omega)]
theorem CC (S a:Nat):∀ c,dlq S (a+c)=dlq S a++dlq (S / 18446744073709551616 ^ a) c
 | 0=>by simp[dlq]
 | c+1=>by rw[<- agx,dlq,CC S a c,dlq,afX,<- af8,af7]
theorem Hq {V m:Nat} (h:V<18446744073709551616 ^ m):bM (dlq V m) m=(ae V).length:=by have h1:=xd (gM V m);rw[ak,pM,afZ h]at h1;rw[<- h1,agv,ak];have:=kf (dlq V m) m;omega
theorem Vq {V m:Nat} (h1:18446744073709551616 ^ m<=V) (h2:V<18446744073709551616 ^ (m+1)):(ae V).length=m+1:=by have a:=f9 (m+1) V h2;have b:=Vp (V:=V) (w:=m) (by have:=aie h1 (ba m); omega);omega
theorem uN {N:Nat} {m s:Nat} (hm:m ≠ 0) (hs:s<64) (hN:(ae m).length+4<N) (hl:(ae m).length<=1099511627776) (k0:Bool) (k1:Nat->List Int->Bool) :
  Ps N (ae m) (s:Int) k0 k1=k1 (ae (m*2 ^ s)).length (dlq (m*2 ^ s) ((ae m).length+1)):=by
 have hlp:(ae m).length ≠ 0:=by rw[bN hm]; simp
 have hV:m*2 ^ s<18446744073709551616 ^ ((ae m).length+1):=by
  rw[af2];have h2:2 ^ s<18446744073709551616:=by rw[<- oj]; exact Nat.pow_lt_pow_right (by decide) hs
  exact agV (jW m) h2
 (unfold Ps; rw[ac]; unfold Tl)
 have e0:((((ae m).length:Nat):Int)==0)=false:=by simp; intro h; rw[h]at hlp; simp at hlp
 have ew:IntKind.wrap .u64 (Int.tdiv (s:Int) 64)=((s / 64:Nat):Int):=by rw[am,agU (by omega)]; omega
 have es:Int.tmod (s:Int) 64=((s%64:Nat):Int):=by rw[agI (by omega)]; rfl
 have elen:Int.toNat (((s / 64:Nat):Int)+(((ae m).length:Nat):Int)+1)=s / 64+(ae m).length+1:=by omega
 rw[e0,afQ,ew,es,aa afM,aa afM,aa afM,aa (bE (by omega) (by omega) (by omega) (by omega)),elen];have:=Lo (N:=N) (ae m) (aX m) s (by omega) (by omega) hl (λz_1=>wW N z_1 λmr=>k1 mr z_1);rw[aC,show s / 64=0 by omega,agl]at this;rw[show s / 64=0 by omega,agl];refine Eq.trans this ?_;rw[A9 _ (by rw[ak]; omega) (by rw[ak]; omega),ak,Hq hV]
theorem Ls (xs:List Int) (k:Nat):av (xs++List.replicate k 0)=av xs:=by rw[np,zr]; simp
theorem wH {N:Nat} (hN:1180591620717411303424<=N) {x y:Nat} (hxy:y<=x) (hy2:2<=(ae y).length) (hxl:(ae x).length<=1099511627000) (k:Kz3) :
  BA N (ae x) (ae y) k=k (ae (x / y)) (ae (x%y)):=by
 have hy0:y ≠ 0:=by intro h; rw[h,bg]at hy2; simp at hy2
 have hyx:=dc hxy;have hylt:=jW y;have hxlt:=jW x;have hylo:18446744073709551616 ^ ((ae y).length - 1)<=y:=by
  rcases agP y (18446744073709551616 ^ ((ae y).length - 1))with h | h
  ·have:=f9 _ _ h; omega
  ·exact h
 (unfold BA; rw[ac]; unfold MR)
 rw[iV x y ⟨by omega,by omega⟩ ⟨by omega,by omega⟩];have hc:decide (dx x y<0)=false:=by unfold dx; rw[if_neg (by omega)]; split <;> rfl
 obtain⟨n,hn⟩:∃ n,(ae y).length=n+2:=⟨(ae y).length - 2,by omega⟩
 obtain⟨lx,hlx⟩:∃ lx,(ae x).length=lx:=⟨_,rfl⟩
 have htd:(ae y).getD (n+1) 0=((y / 18446744073709551616 ^ (n+1):Nat):Int):=by rw[nR,afZ];rw[afY (ba _),afS,<- af2];rw[hn]at hylt; exact hylt
 rw[hn]at hylt hylo;rw[hlx]at hxlt;rw[show n+2 - 1=n+1 by omega]at hylo;obtain⟨t,ht⟩:∃ t,t=y / 18446744073709551616 ^ (n+1):=⟨_,rfl⟩
 rw[<- ht]at htd;have htl:t<18446744073709551616:=by rw[ht,afY (ba _),afS,<- af2]; exact hylt
 have ht0:t ≠ 0:=by have:=aie hylo (ba (n+1)); omega
 obtain⟨g1,g2,g3⟩:=J1 ht0 htl;have ein:Int.toNat (((n+2:Nat):Int) - 1)=n+1:=by omega
 have e1':(((n+2:Nat):Int)==1)=false:=by simp; omega
 rw[hc,afQ,hn,hlx,e1',afQ,aa afM,aa afN,ein,htd,FK N htl];obtain⟨s,hs⟩:∃ s,s=64 - bl t:=⟨_,rfl⟩
 rw[<- hs]at g1 g2 g3 ⊢;have hs0:0<2 ^ s:=af3 s;have ews:IntKind.wrap .u64 ((s:Nat):Int)=(s:Int):=by rw[am]; omega
 rw[ews];obtain⟨V,hV⟩:∃ V,V=y*2 ^ s:=⟨_,rfl⟩
 obtain⟨X,hX⟩:∃ X,X=x*2 ^ s:=⟨_,rfl⟩
 have hVlt:V<18446744073709551616 ^ (n+2):=by
  have h1:=aif y (ba (n+1));rw[<- ht]at h1;have h2:y*2 ^ s<18446744073709551616 ^ (n+1)*(t+1)*2 ^ s:=agE h1 hs0;have h3:(t+1)*2 ^ s<=18446744073709551616:=by
   have hd:2 ^ s*2 ^ (64 - s)=18446744073709551616:=by rw[<- af8,show s+(64 - s)=64 by omega]
   have h4:t<2 ^ (64 - s):=by rw[afS]at g3;rw[<- hd]at g3;exact ah9 g3
   rw[<- hd,afS];exact afW _ h4
  have h5:=afW (18446744073709551616 ^ (n+1)) h3;rw[hV,show n+2=n+1+1 by omega,af2];rw[af0]at h2;omega
 have hVge:18446744073709551616 ^ (n+1)<=V:=by rw[hV]; exact age hylo (agN _ hs0)
 have hVlen:(ae V).length=n+2:=Vq hVge hVlt;have hV0:0<V:=af9 (ba _) hVge;have hx0:x ≠ 0:=by omega
 rw[uN hy0 g1 (by omega) (by omega),hn,<- hV,hVlen,uN hx0 g1 (by omega) (by omega),hlx,<- hX];have hs2:2 ^ s<=18446744073709551616:=by rw[<- oj]; exact af5 (by decide) (by omega)
 have hXlt:X<18446744073709551616 ^ (lx+1):=by rw[hX,af2]; exact agz hxlt hs2 (by decide)
 have hXlen1:(ae X).length<=lx+1:=f9 _ _ hXlt;have hXlen2:lx<=(ae X).length:=by rw[<- hlx,hX]; exact dc (agN _ hs0)
 have etk:(dlq X (lx+1)).take (ae X).length=ae X:=by rw[sB X hXlen1,Fh]
 have ebl:(ae X++[0,0]).length=(ae X).length+2:=by simp
 obtain⟨M,hM⟩:∃ M,lx+1=M+(n+2):=⟨lx+1 - (n+2),by omega⟩
 have eu1:Int.toNat ((lx:Int)+1) - 0=lx+1:=by omega
 have eM:(((lx+1:Nat):Int) - ((n+2:Nat):Int))=(M:Int):=by omega
 rw[ahh,etk,ebl,eu1,eM];rw[aa (afO (by rw[ak]; omega)),aa (afO (by omega)),aa afM,aa (afO (by omega)),aa afM,aa (bE (by omega) (by omega) (by omega) (by omega)),aa afM,aa afM,afV];obtain⟨tail,htail⟩:∃ tail,tail=(ae X++[(0:Int),0]).drop (lx+1):=⟨_,rfl⟩
 have htw:InWq tail:=by
  rw[htail];refine InWq.drop (λz hz=>?_) _;rcases List.mem_append.1 hz with h | h
  ·exact aX X z h
  ·simp only[ahc,ahS,or_false,or_self]at h; subst h; omega
 have htlen:tail.length<=2:=by rw[htail,ahq,ebl]; omega
 have hstart:ae X++[(0:Int),0]=dlq X M++(dlq (X / 18446744073709551616 ^ M%V) (n+2)++(List.replicate 0 0++tail)):=by
  have hXM:X / 18446744073709551616 ^ M<V:=by
   rw[afY (ba M),hX,hV];have h1:x*2 ^ s<18446744073709551616 ^ lx*2 ^ s:=agE hxlt hs0;have h2:18446744073709551616 ^ lx=18446744073709551616 ^ (n+1)*18446744073709551616 ^ M:=by rw[<- af8]; congr 1; omega
   have h3:=afT (18446744073709551616 ^ M*2 ^ s) hylo;rw[h2,af0]at h1;have e:y*2 ^ s*18446744073709551616 ^ M=y*(18446744073709551616 ^ M*2 ^ s):=by rw[af0,afS (2 ^ s)]
   rw[e]; omega
  rw[afZ hXM,agt,agD,<- af7,<- CC,<- hM];rw[htail];have hpad:(ae X++[(0:Int),0]).take (lx+1)=dlq X (lx+1):=by
   have:ae X++[(0:Int),0]=dlq X ((ae X).length+2):=by rw[DC (jW X) 2,Fh]; rfl
   rw[this,sB X (by omega)]
  rw[<- hpad,aiu]
 rw[hstart];have hQlt:X / V<18446744073709551616 ^ M:=by
  rw[afY hV0];have h1:x*2 ^ s<18446744073709551616 ^ lx*2 ^ s:=agE hxlt hs0;have h2:18446744073709551616 ^ lx=18446744073709551616 ^ M*18446744073709551616 ^ (n+1):=by rw[<- af8]; congr 1; omega
  have h3:=afW (18446744073709551616 ^ M) (afT (2 ^ s) hylo);rw[hX,hV];rw[h2,af0]at h1;omega
 have hmk:M<=1099511627001:=by omega
 refine aH (λi=>((M:Int) - 1 - (i:Int),dlq X (M - i)++(dlq (X / 18446744073709551616 ^ (M - i)%V) (n+2)++(List.replicate i 0++tail)),List.replicate (M - i) (0:Int)++(dlq (X / V) M).drop (M - i))) M ?_ (by omega) (λi hi K=>?_) (λK=>?_)
 ·rw[ahW,agB (by rw[ak]; omega),agp];congr 1;omega
 ·obtain⟨j,hj⟩:∃ j,M - i=j+1:=⟨M - i - 1,by omega⟩
  have hj2:M - (i+1)=j:=by omega
  have ei:(M:Int) - 1 - (i:Int)=(j:Int):=by omega
  have ei2:(M:Int) - 1 - ((i+1:Nat):Int)=(j:Int) - 1:=by omega
  rw[hj,hj2,ei,ei2];obtain⟨A,hA⟩:∃ A,A=X / 18446744073709551616 ^ j:=⟨_,rfl⟩
  have hA1:X / 18446744073709551616 ^ (j+1)=A / 18446744073709551616:=by rw[hA,af2,afX]
  obtain⟨n1,n2⟩:=Dj (A:=A) hV0;obtain⟨R,hR⟩:∃ R,R=A / 18446744073709551616%V:=⟨_,rfl⟩
  have hRV:R<V:=by rw[hR]; exact af4 _ hV0
  rw[hA1,<- hR];rw[<- hR]at n1 n2;obtain⟨b,hb⟩:∃ b,b=dlq X (j+1)++(dlq R (n+2)++(List.replicate i 0++tail)):=⟨_,rfl⟩
  have hblen:b.length=j+1+(n+2)+i+tail.length:=by rw[hb]; simp[ak]; omega
  have hbw:InWq b:=by
   rw[hb];intro z hz;rcases List.mem_append.1 hz with h | h
   ·exact gM _ _ z h
   ·rcases List.mem_append.1 h with h | h
    ·exact gM _ _ z h
    ·rcases List.mem_append.1 h with h | h
     ·have:=(List.mem_replicate.1 h).2; subst this; omega
     ·exact htw z h
  have hbt:b.take j=dlq X j:=by rw[hb,agT (by rw[ak]; omega),sB X (by omega)]
  have hbd:b.drop j=((A%18446744073709551616:Nat):Int)::(dlq R (n+2)++(List.replicate i 0++tail)):=by rw[hb,dlq,af7,agS (by rw[ak]; omega),agB (by rw[ak]; omega),agD,hA];rfl
  have hwv:av ((b.drop j).take (n+2+1))=R*18446744073709551616+A%18446744073709551616:=by rw[hbd,aiE,agT (by rw[ak]; omega),agb (by rw[ak]; omega),av,pM,afZ (ahD hRV hVlt),afV];omega
  have hbd2:b.drop (j+(n+2+1))=List.replicate i 0++tail:=by rw[<- List.drop_drop,hbd,List.drop_succ_cons,agS (by rw[ak]; omega),agB (by rw[ak]; omega),agD]
  have hcv:av ((dlq V (n+2+1)).take (n+2))=V:=by rw[sB V (by omega),pM,afZ hVlt]
  have hctop:0<((dlq V (n+2+1)).getD (n+2 - 1) 0).toNat:=by
   rw[sy V (by omega),afV,show n+2 - 1=n+1 by omega,afZ]
   ·exact aie hVge (ba _)
   ·rw[afY (ba _),afS,<- af2]; exact hVlt
  have hAm:A%18446744073709551616<18446744073709551616:=af4 _ (by decide);have hstep:=λkk=>ON hN (o:=j) (n:=n+2) (b:=b) (c:=dlq V (n+2+1)) (by omega) hbw (gM _ _) (by rw[ak]; omega) (by omega) (by omega) hctop (by rw[hwv,hcv];have:=afT 18446744073709551616 hRV;rw[ahm]at this;omega) kk
  rw[hwv,hcv,n1,n2,hbt,hbd2]at hstep;have hnext:dlq X j++(dlq (A%V) (n+2+1)++(List.replicate i 0++tail))=dlq X j++(dlq (A%V) (n+2)++(List.replicate (i+1) 0++tail)):=by rw[DC (ahD (af4 A hV0) hVlt) 1,af7,agA];rfl
  have hdg:X / V / 18446744073709551616 ^ j%18446744073709551616=A / V%18446744073709551616:=by rw[hA,afX,afX,afS V]
  have ej:0+Int.toNat (j:Int)=j:=by omega
  have ej2:Int.toNat ((j:Int)+((n+2:Nat):Int)+1) - Int.toNat (j:Int)=n+2+1:=by omega
  rw[<- hb];simp only[BI,ej,ej2];rw[afO (by omega:(j:Int)>=0),afR,aa afM,aa afM,aa (afO (by omega))];rw[hstep];have hql:(List.replicate (j+1) (0:Int)++(dlq (X / V) M).drop (j+1)).length=M:=by simp[ak]; omega
  rw[hql,aa afN,aa (afO (by omega)),aa afM,afV,<- hdg,JD _ _ _ (by omega),hnext,<- hA]
 ·simp only[BI];have e0:(M:Int) - 1 - (M:Int) = -1:=by omega
  rw[e0,afP (by omega),afQ,agq,ahL,ahI,agt,agD,ahh];obtain⟨L,hL⟩:∃ L,L=dlq X 0++(dlq (X%V) (n+2)++(List.replicate M 0++tail)):=⟨_,rfl⟩
  have hRlt:X%V<18446744073709551616 ^ (n+2):=ahD (af4 _ hV0) hVlt;have hLt:L.take (lx+1)=dlq (X%V) (n+2)++List.replicate M 0:=by rw[hL,hM,show dlq X 0=[] from rfl,agD,<- af7,agT (by simp[ak]; omega),agb (by simp[ak]; omega)]
  have hLw:InWq L:=by
   rw[hL];intro z hz;rcases List.mem_append.1 hz with h | h
   ·cases h
   ·rcases List.mem_append.1 h with h | h
    ·exact gM _ _ z h
    ·rcases List.mem_append.1 h with h | h
     ·have:=(List.mem_replicate.1 h).2; subst this; omega
     ·exact htw z h
  have hLlen:lx+1<=L.length:=by rw[hL]; simp[ak]; omega
  rw[<- hL];unfold Nb;rw[HZ L (lx+1) hLlen (by omega) (by omega)];have hcl:=kf L (lx+1);obtain⟨lost,hlost⟩:=F0 (N:=N) L hLw (bM L (lx+1)) s (by omega) g1 (by omega) (by omega);rw[hlost,qp,hLt,Ls,pM,afZ hRlt];have:=kF (N:=N) (dlq (X / V) M) (gM _ _) (by rw[ak]; omega) (by rw[ak]; omega) (λz=>k z (ae (X%V / 2 ^ s)));rw[this,mv hQlt,hX,hV,aiv _ _ hs0,aiw,ahy _ hs0]
theorem kG {N:Nat} (hN:1180591620717411303424<=N) {x y:Nat} (hy:0<y) (hxl:(ae x).length<=1099511627000) (hyl:(ae y).length<=1099511627000) (k:Kz3) :
  BA N (ae x) (ae y) k=k (ae (x / y)) (ae (x%y)):=by
 by_cases hxy:y<=x
 ·by_cases h2:2<=(ae y).length
  ·exact wH hN hxy h2 hxl k
  ·have hylt:=jW y;have hl1:(ae y).length=1:=by rw[bN (by omega)]at h2 ⊢; simp at h2 ⊢; exact h2
   rw[hl1,aiN]at hylt;have hd:=qu (by omega:y ≠ 0) hylt;have hc:decide (dx x y<0)=false:=by unfold dx; rw[if_neg (by omega)]; split <;> rfl
   (unfold BA; rw[ac]; unfold MR)
   rw[iV x y ⟨by omega,by omega⟩ ⟨by omega,by omega⟩,hc,afQ,hd];show cond (((1:Nat):Int)==1) _ _=_;rw[show(((1:Nat):Int)==1)=true from rfl,afR,aa (ah (by omega) (by simp))];show oV N (ae x) (y:Int) _=_;have hm:x%y<18446744073709551616:=ahD (af4 _ hy) hylt;rw[Ll (by omega) hy hylt ⟨by omega,by omega⟩,ui (by omega) _ hm]
 ·have hc:decide (dx x y<0)=true:=by unfold dx; rw[if_pos (by omega)]; rfl
  (unfold BA; rw[ac]; unfold MR)
  rw[iV x y ⟨by omega,by omega⟩ ⟨by omega,by omega⟩,hc,afR,xH _ (by omega),agm (by omega),afZ (by omega),bg]
theorem zl:∀ n,n ≠ 0->bl n=64*((ae n).length - 1)+bl ((ae n).getD ((ae n).length - 1) 0).toNat/\0<(ae n).length:=by
 intro n;induction n using Nat.strongRecOn with
 | ind n ih=>
  intro h;rw[bN h];by_cases h1:n / 18446744073709551616=0
  ·rw[h1,bg];have:n%18446744073709551616=n:=afZ (by omega);simp[this]
  ·obtain⟨i1,i2⟩:=ih (n / 18446744073709551616) (by omega) h1;have e:=mq (n:=n) 64 (by rw[oj]; omega);rw[oj]at e;refine⟨?_,by simp⟩;have e2:(((n%18446744073709551616:Nat):Int)::ae (n / 18446744073709551616)).getD ((((n%18446744073709551616:Nat):Int)::ae (n / 18446744073709551616)).length - 1) 0=(ae (n / 18446744073709551616)).getD ((ae (n / 18446744073709551616)).length - 1) 0:=by
    simp only[ags,aih];generalize ae (n / 18446744073709551616)=l at i2 ⊢;cases l with
    | nil=>simp at i2
    | cons y l=>simp
   rw[e2,e,i1];simp only[ags];omega
theorem FO {N:Nat} {n:Nat} (hs:(ae n).length<=1099511627776) (k:Kz5):qT N (ae n) k=k (bl n:Int):=by
 (unfold qT; rw[ac]; unfold p6)
 by_cases h:n=0
 ·subst h; rw[bg]; rfl
 ·obtain⟨e1,e2⟩:=zl n h;have e0:(((ae n).length:Int)==0)=false:=by simp; intro h'; rw[h']at e2; simp at e2
  have e3:Int.toNat (((ae n).length:Int) - 1)=(ae n).length - 1:=by omega
  have hw:=(aX n).at (i:=(ae n).length - 1);have e4:(ae n).getD ((ae n).length - 1) 0=((((ae n).getD ((ae n).length - 1) 0).toNat:Nat):Int):=by omega
  have hb:=wm (n:=((ae n).getD ((ae n).length - 1) 0).toNat) (j:=64) (by rw[oj]; omega);rw[e0,afQ,aa afM,aa afM,aa afM,aa afN,e3,e4,AZ N (by omega),aa afM,e1];congr 1;omega
theorem Jq {N:Nat} {x f:Nat} (hf:f<140737488355328) (k:Kz5):ux N (ae x) (f:Int) k=k ((x / 2 ^ f%18446744073709551616:Nat):Int):=by
 (unfold ux; rw[ac]; unfold xh)
 have e1:Int.tdiv (f:Int) 64=((f / 64:Nat):Int):=by rw[agU (by omega)]; rfl
 have e2:IntKind.wrap .u64 (Int.tmod (f:Int) 64)=((f%64:Nat):Int):=by rw[am,agI (by omega)]; omega
 have e3:min (f%64) 64=f%64:=by omega
 have e4:min (Int.toNat (IntKind.wrap .u64 (64 - ((f%64:Nat):Int)))) 64=64 - f%64:=by rw[am]; omega
 have e5:((f / 64:Nat):Int)+1=((f / 64+1:Nat):Int):=by omega
 have hx:=(aX x).at (i:=f / 64);have hy:=(aX x).at (i:=f / 64+1);have ex:(ae x).getD (f / 64) 0=((((ae x).getD (f / 64) 0).toNat:Nat):Int):=by omega
 have ey:(ae x).getD (f / 64+1) 0=((((ae x).getD (f / 64+1) 0).toNat:Nat):Int):=by omega
 rw[e1,e2,e5,aa afM,nB N _ (f / 64) (by omega),aa (afO (by omega)),aa afM,nB N _ (f / 64+1) (by omega),aa (afO (by rw[am]; omega)),afV,e3,e4,ex,ey,Dm (by omega) (by omega) (by omega)];obtain⟨R,hR⟩:=Aq (aX x) (f / 64);rw[aC]at hR;have hp:2 ^ f=18446744073709551616 ^ (f / 64)*2 ^ (f%64):=Ea f;have hs0:0<2 ^ (f%64):=af3 _;rw[hp,<- afX,hR];have e6:18446744073709551616*18446744073709551616*R=2 ^ (f%64)*(18446744073709551616*(2 ^ (64 - f%64)*R)):=by
  have hs1:2 ^ (f%64)*2 ^ (64 - f%64)=18446744073709551616:=by rw[<- af8,show f%64+(64 - f%64)=64 by omega]
  rw[agi (2 ^ (f%64)),<- af0 (2 ^ (f%64)),hs1,af0]
 rw[e6,agL _ _ hs0,ag7]
theorem FX {N:Nat} {x d e:Nat} (hd:d<18446744073709551616) (he:e<18446744073709551616) (hs:lK N (ae x)) (k:Kz9):uQ N (ae x) (d:Int) (e:Int) k=k (ae (x*d+e)):=by
 (unfold uQ; rw[ac]; unfold ME)
 obtain⟨s1,s2⟩:=hs;obtain⟨L,hL⟩:∃ L,(ae x).length=L:=⟨_,rfl⟩
 have hx:=jW x;rw[hL]at hx;have eL:Int.toNat ((L:Int)+1)=L+1:=by omega
 rw[hL,aa afM,aa (bE (by omega) (by omega) (by omega) (by omega)),eL];obtain⟨m,hm⟩:∃ m,m=ae x:=⟨_,rfl⟩
 have hmw:InWq m:=by rw[hm]; exact aX x
 have hmv:av m=x:=by rw[hm]; exact aC x
 have hml:m.length=L:=by rw[hm]; exact hL
 rw[<- hm];obtain⟨S,hS⟩:∃ S,S=x*d+e:=⟨_,rfl⟩
 rw[<- hS];refine aH (λi=>((((av (m.take i)*d+e) / 18446744073709551616 ^ i:Nat):Int),(i:Int),dlq S i++List.replicate (L+1 - i) 0)) L (by simp[av,dlq]) (by omega) (λi hi K=>?_) (λK=>?_)
 ·have hz:=hmw.at (i:=i);have hp:=ba i;have hXi:=aR hmw i;have hcv:=aM (m:=m) i;obtain⟨cy,hcy⟩:∃ cy,cy=(av (m.take i)*d+e) / 18446744073709551616 ^ i:=⟨_,rfl⟩
  have e1:av (m.take (i+1))*d+e=(av (m.take i)*d+e)+18446744073709551616 ^ i*((m.getD i 0).toNat*d):=by rw[hcv,agk,af0]; omega
  have hcyl:cy<18446744073709551616:=by
   rw[hcy,afY hp];have:=agG (ah7 hXi) (ah7 hd);have h1:1<=18446744073709551616 ^ i:=hp;have h2:(18446744073709551616 ^ i - 1)*(18446744073709551616 - 1)+18446744073709551615=18446744073709551616 ^ i*18446744073709551615:=by
    obtain⟨P,hP⟩:∃ P,18446744073709551616 ^ i=P+1:=⟨18446744073709551616 ^ i - 1,by omega⟩
    rw[hP]; omega
   omega
  have ecy:(av (m.take (i+1))*d+e) / 18446744073709551616 ^ (i+1)=((m.getD i 0).toNat*d+0+cy) / 18446744073709551616:=by rw[af2,<- afX,e1,cE,<- hcy];congr 1; omega
  obtain⟨R,hR⟩:=bF m (i+1);have elo:S / 18446744073709551616 ^ i%18446744073709551616=((m.getD i 0).toNat*d+0+cy)%18446744073709551616:=by
   have:S=(av (m.take (i+1))*d+e)+18446744073709551616 ^ (i+1)*(R*d):=by rw[hS,<- hmv,hR,agk,af0]; omega
   rw[iS this,e1,cE,<- hcy];congr 1; omega
  have hset:=ua S i (L+1) (by omega);have hl:(dlq S i++List.replicate (L+1 - i) (0:Int)).length=L+1:=by simp[ak]; omega
  simp only[mj,afV];rw[afO (by omega:(i:Int)<(L:Int)),afR,hml,aa afN,<- hcy,A8 N (c:=0) (a:=(m.getD i 0).toNat) (b:=d) (e:=0) (f:=cy) (by omega) rfl rfl rfl (by omega) hd (by omega) hcyl,hl,aa afN,aa (afO (by omega)),aa afM,<- elo,<- ecy,hset,kI]
 ·simp only[mj];have hl:(dlq S L++List.replicate (L+1 - L) (0:Int)).length=L+1:=by simp[ak]
  have hSl:S<18446744073709551616 ^ (L+1):=by
   rw[hS,af2];have h1:=agG (ah7 hx) (ah7 hd);obtain⟨P,hP⟩:∃ P,18446744073709551616 ^ L=P+1:=⟨18446744073709551616 ^ L - 1,by have:=ba L; omega⟩
   rw[hP]at h1 ⊢;omega
  have ee:(av (m.take L)*d+e) / 18446744073709551616 ^ L=S / 18446744073709551616 ^ L%18446744073709551616:=by rw[agb (by omega),hmv,<- hS,afZ];rw[afY (ba L),afS,<- af2]; exact hSl
  rw[afP (by omega:¬(L:Int)<(L:Int)),afQ,hl,ee,afV,ua S L (L+1) (by omega),aa afN,aa (afO (by omega)),agq,agt,agp,kF _ (gM _ _) (by rw[ak]; omega) (by rw[ak]; omega),mv hSl]
def zZ (x0 y0 a b c d:Nat) (odd:Bool):Prop:=
 ∃ p q,x0=d*p+b*q/\y0=c*p+a*q/\(cond odd (b*c=a*d+1) (a*d=b*c+1))/\a<=b/\c<=d/\d<=q/\q+b+d<=p/\1<=b/\1<=c/\b<18446744073709551616/\d<18446744073709551616
theorem IC {N:Nat} {x0 y0:Nat} (hx0:x0<18446744073709551616) (hy0:y0<18446744073709551616) (t1 t2 t3 t4:Int) (t5:Bool) :
  ∀ y x u v a b c d odd M,y<M->y<=x->x0=v*x+d*y->y0=u*x+c*y->(cond odd (c*v=d*u+1) (d*u=c*v+1))->1<=v ->
   ((d=0/\u=0/\b=0/\c=1/\v=1)\/(1<=u/\c<=d/\u<=v/\(b=0\/zZ x0 y0 a b c d odd))) ->
   ∃ a' b' c' d':Nat,∃ odd',(b'=0\/zZ x0 y0 a' b' c' d' odd') /\ ∀ e0,ai M (ou N t1 t2 t3 t4 t5 e0) ((x:Int),(y:Int),(u:Int),(v:Int),(a:Int),(b:Int),(c:Int),(d:Int),odd)=e0 (a':Int) (b':Int) (c':Int) (d':Int) odd':=by
 intro y;induction y using Nat.strongRecOn with
 | ind y ih=>
 intro x u v a b c d odd M hM hyx h1 h2 hdet hv hor;obtain⟨M,rfl⟩:∃ m,M=m+1:=⟨M - 1,by omega⟩
 have hend:b=0\/zZ x0 y0 a b c d odd:=by
  rcases hor with h | h
  ·exact .inl h.2.2.1
  ·exact h.2.2.2
 by_cases c1:v<=y
 ·have hy1:1<=y:=by omega
  have b1:v*1<=v*x:=afW _ (by omega);have b2:d*1<=d*y:=afW _ hy1;have w1:IntKind.wrap .u64 ((x:Int) - (y:Int))=((x - y:Nat):Int):=by have:1*x<=v*x:=afT _ hv;rw[am]; omega
  have w2:IntKind.wrap .u64 ((d:Int)+(v:Int))=((d+v:Nat):Int):=by rw[am]; omega
  by_cases c2:d+v<=x - y
  ·-- one step more
   obtain⟨q,hq⟩:∃ q,q=x / y:=⟨_,rfl⟩
   obtain⟨r,hr⟩:∃ r,r=x%y:=⟨_,rfl⟩
   have hxq:x=q*y+r:=by rw[hq,hr]; exact(agM x y).symm
   have hry:r<y:=by rw[hr]; exact af4 _ hy1
   have hq1:1<=q:=by rw[hq]; exact aie hyx hy1
   have n1:x0=(d+q*v)*y+v*r:=by rw[h1,hxq]; grind
   have n2:y0=(c+q*u)*y+u*r:=by rw[h2,hxq]; grind
   have m1:(d+q*v)*1<=(d+q*v)*y:=afW _ hy1;have m2:(c+q*u)*1<=(c+q*u)*y:=afW _ hy1;have hvq:v<=d+q*v:=by have:=afT v hq1;omega
   have hg:∀(e0:Int->Int->Int->Int->Bool->Bool),ai (M+1) (ou N t1 t2 t3 t4 t5 e0) ((x:Int),(y:Int),(u:Int),(v:Int),(a:Int),(b:Int),(c:Int),(d:Int),odd)=ai M (ou N t1 t2 t3 t4 t5 e0) ((y:Int),(r:Int),((c+q*u:Nat):Int),((d+q*v:Nat):Int),(c:Int),(d:Int),(u:Int),(v:Int),!odd):=by
    intro e0;show ou N t1 t2 t3 t4 t5 e0 _ (ai M _)=_;simp only[ou];have y1:(!decide ((y:Int)=0))=true:=by simp; omega
    have ediv:Int.tdiv (x:Int) (y:Int)=(q:Int):=by rw[hq]; rfl
    have emod:Int.tmod (x:Int) (y:Int)=(r:Int):=by rw[hr]; rfl
    have wq:IntKind.wrap .u64 (q:Int)=(q:Int):=by have:q*1<=q*v:=afW _ hv;rw[am]; omega
    have wu:IntKind.wrap .u64 ((c:Int)+IntKind.wrap .u64 ((q:Int)*(u:Int)))=((c+q*u:Nat):Int):=by rw[<- aga,am,am]; omega
    have wv:IntKind.wrap .u64 ((d:Int)+IntKind.wrap .u64 ((q:Int)*(v:Int)))=((d+q*v:Nat):Int):=by rw[<- aga,am,am]; omega
    rw[afO (by omega:(y:Int)>=v),show(true==true)=true from rfl,afR,w1,w2,afO (by omega),afR,aa y1,aa y1,ediv,emod,wq,wu,wv]
   have hstep:=ih r hry y (c+q*u) (d+q*v) c d u v (!odd) M (by omega) (by omega) n1 n2 (by
    cases odd with
    | true=>
     simp only[afR,agH,afQ]at hdet ⊢;have:v*(c+q*u)=v*c+q*u*v:=by grind
     have:u*(d+q*v)=u*d+q*u*v:=by grind
     have:c*v=v*c:=afS _ _;have:d*u=u*d:=afS _ _;omega
    | false=>
     simp only[afR,agw,afQ]at hdet ⊢;have:u*(d+q*v)=u*d+q*u*v:=by grind
     have:v*(c+q*u)=v*c+q*u*v:=by grind
     have:c*v=v*c:=afS _ _;have:d*u=u*d:=afS _ _;omega) (by omega) (by
    refine .inr ?_;rcases hor with⟨k1,k2,k3,k4,k5⟩ | ⟨k1,k2,k3,k4⟩
    ·subst k1 k2 k4 k5;exact⟨by omega,by omega,by omega,.inl rfl⟩
    ·have hu1:u<=c+q*u:=by have:=afT u hq1;omega
     refine⟨by omega,k3,?_,?_⟩
     ·have:=afW q k3;omega
     ·rcases ag_ d with hd0 | hd0
      ·exact .inl hd0
      ·refine .inr ⟨x,y,h1,h2,?_,k2,k3,c1,by omega,hd0,k1,by omega,by omega⟩;cases odd with
       | true=>simp only[agH,afQ,afR]at hdet ⊢; exact hdet
       | false=>simp only[agw,afR,afQ]at hdet ⊢; exact hdet)
   obtain⟨a',b',c',d',odd',g1,g2⟩:=hstep;exact⟨a',b',c',d',odd',g1,λe0=>by rw[hg,g2]⟩
  ·refine⟨a,b,c,d,odd,hend,λe0=>?_⟩;show ou N t1 t2 t3 t4 t5 e0 _ (ai M _)=_;simp only[ou];rw[afO (by omega:(y:Int)>=v),show(true==true)=true from rfl,afR,w1,w2,afP (by omega),afQ]
 ·refine⟨a,b,c,d,odd,hend,λe0=>?_⟩;show ou N t1 t2 t3 t4 t5 e0 _ (ai M _)=_;simp only[ou];rw[afP (by omega:¬(y:Int)>=v),show(false==true)=false from rfl,afQ]
theorem Lm {N:Nat} (hN:1180591620717411303424<=N) {x0 y0:Nat} (hx0:x0<18446744073709551616) (hyx:y0<=x0):∃ a b c d:Nat,∃ odd,(b=0\/zZ x0 y0 a b c d odd) /\ ∀ k,ti N (x0:Int) (y0:Int) k=k (a:Int) (b:Int) (c:Int) (d:Int) odd:=by obtain⟨a,b,c,d,odd,h1,h2⟩:=IC (N:=N) (x0:=x0) (y0:=y0) hx0 (by omega) 0 0 0 0 false y0 x0 0 1 0 0 1 0 true N (by omega) hyx (by omega) (by omega) rfl (af1 _) (.inl ⟨rfl,rfl,rfl,rfl,rfl⟩);exact⟨a,b,c,d,odd,h1,λk=>by unfold ti; rw[ac]; exact h2 _⟩
theorem Kh {x0 y0 a b c d F rx ry X Y:Nat} (h:zZ x0 y0 a b c d true) (hrx:rx<F) (hry:ry<F) (hX:X=x0*F+rx) (hY:Y=y0*F+ry) :
  a*X<=b*Y/\d*Y<=c*X/\c*X - d*Y<=b*Y - a*X/\X=d*(b*Y - a*X)+b*(c*X - d*Y)/\Y=c*(b*Y - a*X)+a*(c*X - d*Y):=by
 obtain⟨p,q,h1,h2,hdet,hab,hcd,hdq,hpq,hb1,hc1,hbl,hdl⟩:=h;simp only[afR]at hdet;have e1:b*Y+a*rx=a*X+(p*F+b*ry):=by
  subst h1 h2 hX hY;have:b*(c*p*F)=(a*d+1)*(p*F):=by rw[<- hdet]; grind
  grind
 have e2:c*X+d*ry=d*Y+(q*F+c*rx):=by
  subst h1 h2 hX hY;have:b*c*(q*F)=(a*d+1)*(q*F):=by rw[<- hdet]
  grind
 have m1:a*rx<=a*F:=afW _ (by omega);have m2:a*F<=b*F:=afT _ hab;have m3:d*ry<=d*F:=afW _ (by omega);have m4:d*F<=q*F:=afT _ hdq;have m5:(q+b+d)*F<=p*F:=afT _ hpq;rw[agk,agk]at m5;have m6:c*rx<=c*F:=afW _ (by omega);have m7:c*F<=d*F:=afT _ hcd;have g1:a*X<=b*Y:=by omega
 have g2:d*Y<=c*X:=by omega
 refine⟨g1,g2,by omega,?_,?_⟩
 ·obtain⟨U,hU⟩:=ahv g1;obtain⟨V,hV⟩:=ahv g2;rw[<- hU,<- hV,agu,agu];have t1:d*(b*Y)=d*(a*X)+d*U:=by rw[<- hU,af6]
  have t2:b*(c*X)=b*(d*Y)+b*V:=by rw[<- hV,af6]
  have t3:b*(c*X)=(a*d+1)*X:=by rw[<- hdet,af0]
  have t4:(a*d+1)*X=d*(a*X)+X:=by grind
  have t5:d*(b*Y)=b*(d*Y):=by grind
  omega
 ·obtain⟨U,hU⟩:=ahv g1;obtain⟨V,hV⟩:=ahv g2;rw[<- hU,<- hV,agu,agu];have t1:c*(b*Y)=c*(a*X)+c*U:=by rw[<- hU,af6]
  have t2:a*(c*X)=a*(d*Y)+a*V:=by rw[<- hV,af6]
  have t3:c*(b*Y)=(a*d+1)*Y:=by rw[<- hdet]; grind
  have t4:(a*d+1)*Y=a*(d*Y)+Y:=by grind
  have t5:c*(a*X)=a*(c*X):=by grind
  omega
theorem Hb {x0 y0 a b c d F rx ry X Y:Nat} (h:zZ x0 y0 a b c d false) (hrx:rx<F) (hry:ry<F) (hX:X=x0*F+rx) (hY:Y=y0*F+ry) :
  b*Y<=a*X/\c*X<=d*Y/\d*Y - c*X<=a*X - b*Y/\X=d*(a*X - b*Y)+b*(d*Y - c*X)/\Y=c*(a*X - b*Y)+a*(d*Y - c*X):=by
 obtain⟨p,q,h1,h2,hdet,hab,hcd,hdq,hpq,hb1,hc1,hbl,hdl⟩:=h;simp only[afQ]at hdet;have e1:a*X+b*ry=b*Y+(p*F+a*rx):=by
  subst h1 h2 hX hY;have:a*d*(p*F)=(b*c+1)*(p*F):=by rw[<- hdet]
  grind
 have e2:d*Y+c*rx=c*X+(q*F+d*ry):=by
  subst h1 h2 hX hY;have:a*d*(q*F)=(b*c+1)*(q*F):=by rw[<- hdet]
  grind
 have m1:b*ry<=b*F:=afW _ (by omega);have m3:c*rx<=c*F:=afW _ (by omega);have m4:d*F<=q*F:=afT _ hdq;have m5:(q+b+d)*F<=p*F:=afT _ hpq;rw[agk,agk]at m5;have m6:d*ry<=d*F:=afW _ (by omega);have m7:c*F<=d*F:=afT _ hcd;have g1:b*Y<=a*X:=by omega
 have g2:c*X<=d*Y:=by omega
 refine⟨g1,g2,by omega,?_,?_⟩
 ·obtain⟨U,hU⟩:=ahv g1;obtain⟨V,hV⟩:=ahv g2;rw[<- hU,<- hV,agu,agu];have t1:d*(a*X)=d*(b*Y)+d*U:=by rw[<- hU,af6]
  have t2:b*(d*Y)=b*(c*X)+b*V:=by rw[<- hV,af6]
  have t3:d*(a*X)=(b*c+1)*X:=by rw[<- hdet]; grind
  have t4:(b*c+1)*X=b*(c*X)+X:=by grind
  have t5:d*(b*Y)=b*(d*Y):=by grind
  omega
 ·obtain⟨U,hU⟩:=ahv g1;obtain⟨V,hV⟩:=ahv g2;rw[<- hU,<- hV,agu,agu];have t1:c*(a*X)=c*(b*Y)+c*U:=by rw[<- hU,af6]
  have t2:a*(d*Y)=a*(c*X)+a*V:=by rw[<- hV,af6]
  have t3:a*(d*Y)=(b*c+1)*Y:=by rw[<- hdet]; grind
  have t4:(b*c+1)*Y=c*(b*Y)+Y:=by grind
  have t5:c*(a*X)=a*(c*X):=by grind
  omega
theorem ww {X Y U V a b c d:Nat} (h1:X=d*U+b*V) (h2:Y=c*U+a*V) (hU:Nat.gcd X Y∣U) (hV:Nat.gcd X Y∣V):Nat.gcd U V=Nat.gcd X Y:=by
 refine Nat.dvd_antisymm (Nat.dvd_gcd ?_ ?_) (Nat.dvd_gcd hU hV)
 ·rw[h1];exact Nat.dvd_add (agd (agF _ _) _) (agd (ag3 _ _) _)
 ·rw[h2];exact Nat.dvd_add (agd (agF _ _) _) (agd (ag3 _ _) _)
theorem KY {N:Nat} {x0 y0 a b c d F rx ry X Y:Nat} {odd:Bool} (h:zZ x0 y0 a b c d odd) (hrx:rx<F) (hry:ry<F) (hX:X=x0*F+rx) (hY:Y=y0*F+ry) (hY0:0<Y) (sX:(ae X).length+10<N/\(ae X).length<=1099511627000) (sY:(ae Y).length+10<N/\(ae Y).length<=1099511627000) :
  ∃ U V,V<=U/\U+V<X+Y/\U<=X/\Nat.gcd U V=Nat.gcd X Y /\ ∀ k,eh N (a:Int) (b:Int) (c:Int) (d:Int) odd (ae X) (ae Y) k=k (ae U) (ae V):=by
 have hb:=h;obtain⟨p,q,h1,h2,hdet,hab,hcd,hdq,hpq,hb1,hc1,hbl,hdl⟩:=hb;have len1:∀ z e:Nat,(ae z).length+10<N/\(ae z).length<=1099511627000->e<18446744073709551616->lK N (ae (z*e+0)):=by
  intro z e hz he;have:=f9 ((ae z).length+1) (z*e+0) (by rw[agn,af2]; exact agV (jW z) he)
  exact⟨by omega,by omega⟩
 have fin:∀ U V:Nat,X=d*U+b*V->Y=c*U+a*V->V<=U->U+V<X+Y/\U<=X:=by
  intro U V hx hy hvu;have k1:1*U<=d*U:=afT _ (by omega);have k2:1*V<=b*V:=afT _ hb1;have k3:1*U<=c*U:=afT _ hc1;have hU0:0<U:=by
   rcases ag_ U with hu | hu
   ·exfalso;have hv:V=0:=by omega
    rw[hu,hv,ahb,ahb]at hy;omega
   ·exact hu
  exact⟨by omega,by omega⟩
 cases odd with
 | true=>
  obtain⟨g1,g2,g3,g4,g5⟩:=Kh h hrx hry hX hY;obtain⟨f1,f2⟩:=fin _ _ g4 g5 g3;refine⟨b*Y - a*X,c*X - d*Y,g3,f1,f2,ww g4 g5 ?_ ?_,λk=>?_⟩
  ·exact aig (agd (ag3 _ _) _) (agd (agF _ _) _)
  ·exact aig (agd (agF _ _) _) (agd (ag3 _ _) _)
  ·(unfold eh; rw[ac]; unfold dQ)
   have m:=λ(z e:Nat) (he:e<18446744073709551616) (hz:lK N (ae z)) (kk:List Int->Bool)=>FX (N:=N) (e:=0) he (by decide) hz kk
   rw[show((0:Nat):Int)=0 from rfl]at m;rw[afR,m Y b hbl ⟨by omega,by omega⟩,m X a (by omega) ⟨by omega,by omega⟩,nA _ _ (aX _) (aX _) (by rw[aC,aC,agn,agn,afS X,afS Y]; exact g1) (len1 Y b sY hbl),m X c (by omega) ⟨by omega,by omega⟩,m Y d hdl ⟨by omega,by omega⟩,nA _ _ (aX _) (aX _) (by rw[aC,aC,agn,agn,afS X,afS Y]; exact g2) (len1 X c sX (by omega)),aC,aC,aC,aC,agn,agn,agn,agn,afS Y b,afS X a,afS X c,afS Y d]
 | false=>
  obtain⟨g1,g2,g3,g4,g5⟩:=Hb h hrx hry hX hY;obtain⟨f1,f2⟩:=fin _ _ g4 g5 g3;refine⟨a*X - b*Y,d*Y - c*X,g3,f1,f2,ww g4 g5 ?_ ?_,λk=>?_⟩
  ·exact aig (agd (agF _ _) _) (agd (ag3 _ _) _)
  ·exact aig (agd (ag3 _ _) _) (agd (agF _ _) _)
  ·(unfold eh; rw[ac]; unfold dQ)
   have m:=λ(z e:Nat) (he:e<18446744073709551616) (hz:lK N (ae z)) (kk:List Int->Bool)=>FX (N:=N) (e:=0) he (by decide) hz kk
   rw[show((0:Nat):Int)=0 from rfl]at m;rw[afQ,m X a (by omega) ⟨by omega,by omega⟩,m Y b hbl ⟨by omega,by omega⟩,nA _ _ (aX _) (aX _) (by rw[aC,aC,agn,agn,afS X,afS Y]; exact g1) (len1 X a sX (by omega)),m Y d hdl ⟨by omega,by omega⟩,m X c (by omega) ⟨by omega,by omega⟩,nA _ _ (aX _) (aX _) (by rw[aC,aC,agn,agn,afS X,afS Y]; exact g2) (len1 Y d sY hdl),aC,aC,aC,aC,agn,agn,agn,agn,afS Y b,afS X a,afS X c,afS Y d]
theorem Jl (N x:Nat) (k:Kz5):uw N (ae x) k=k ((x%18446744073709551616:Nat):Int):=by unfold uw Cn;have:=nB N (ae x) 0 (by omega) k;rw[show((0:Nat):Int)=0 from rfl]at this;rw[this,nR,ahL,ahI]
theorem Fp {N:Nat} (e0:Int->Bool):∀(b a M:Nat),b<M->ai M (fD N e0) ((a:Int),(b:Int))=e0 ((Nat.gcd a b:Nat):Int):=by
 intro b;induction b using Nat.strongRecOn with
 | ind b ih=>
 intro a M hM;obtain⟨M,rfl⟩:∃ m,M=m+1:=⟨M - 1,by omega⟩
 show fD N e0 ((a:Int),(b:Int)) (ai M _)=_;simp only[fD];by_cases h:b=0
 ·subst h;rw[afP (by omega),afQ,aim]
 ·have y1:(!decide ((b:Int)=0))=true:=by simp; omega
  have emod:Int.tmod (a:Int) (b:Int)=((a%b:Nat):Int):=rfl;rw[afO (by omega),afR,aa y1,emod,ih (a%b) (af4 _ (by omega)) b M (by have:=af4 a (by omega:b>0); omega),ag6 b,<- aiO,ag6]
theorem vC {y:Nat} (h:(ae y).length<=1):y<18446744073709551616:=by have:=jW y;have h2:18446744073709551616 ^ (ae y).length<=18446744073709551616 ^ 1:=af5 (by decide) h;rw[aiN]at h2;omega
theorem Ap {N:Nat} (hN:1180591620717411303424<=N) {u v:List Int} {x y:Nat} (hy:(ae y).length<=1) (hx:y=0\/(ae x).length<=1) (k:Kz9) :
  yl N u v (ae x) (ae y) k=k (ae (Nat.gcd x y)):=by
 unfold yl;have hyl:=vC hy;by_cases h:y=0
 ·subst h;rw[bg,aim]; rfl
 ·have e0:((((ae y).length:Nat):Int)==0)=false:=by rw[bN h]; simp; omega
  have hxl:=vC (hx.resolve_left h);rw[e0,afQ,Jl,Jl,afZ hxl,afZ hyl,Fp _ y x N (by omega)];refine ui (by omega) _ ?_ k;have:=ahT x (ain h);omega
theorem Fg {N:Nat} (hN:1180591620717411303424<=N) {u v:List Int} (k:Kz9) :
  ∀ s x y,x+y=s->s<N->y<=x->(ae x).length<=1099511626000 ->
   PY N u v (ae x) (ae y) k=k (ae (Nat.gcd x y)):=by
 intro s x y hs hsN hyx hxl;unfold PY;have main:∀ s x y M,x+y=s->s<M->M<=N->y<=x->(ae x).length<=1099511626000 ->
   ai M (GP N (λ(ZT:List Int) (y_3:List Int)=>(cond ((decide ((((List.length y_3):Nat):Int)>0))==true) (cond (decide ((((List.length ZT):Nat):Int)>1)) (BA N ZT y_3 (λ(Zz:List Int) (Zx:List Int)=>(yl N u v y_3 Zx k))) (yl N u v ZT y_3 k)) (yl N u v ZT y_3 k)))) (ae x,ae y)=k (ae (Nat.gcd x y)):=by
  intro s;induction s using Nat.strongRecOn with
  | ind s ih=>
  intro x y M hs hsM hMN hyx hxl;obtain⟨M,rfl⟩:∃ m,M=m+1:=⟨M - 1,by omega⟩
  have hyl:=dc hyx;show GP N _ (ae x,ae y) (ai M _)=_;simp only[GP];by_cases h2:2<=(ae y).length
  ·have hyge:18446744073709551616<=y:=by
    rcases agP y 18446744073709551616 with h | h
    ·have:=f9 1 y (by rw[aiN]; exact h); omega
    ·exact h
   have hblx:64<bl x:=by
    rcases agP 64 (bl x)with h | h
    ·exact h
    ·have h1:=yp x;have h3:2 ^ bl x<=2 ^ 64:=af5 (by decide) h;rw[oj]at h3;omega
   have hblu:bl x<=64*(ae x).length:=by refine wm ?_;rw[aiI,oj]; exact jW x
   obtain⟨f,hf⟩:∃ f,bl x=f+64:=⟨bl x - 64,by omega⟩
   have ef:(bl x:Int) - 64=(f:Int):=by omega
   have hF0:0<2 ^ f:=af3 f;have hx0l:x / 2 ^ f<18446744073709551616:=by rw[afY hF0,<- oj,<- af8,ahK,<- hf]; exact yp x
   have hy0l:y / 2 ^ f<=x / 2 ^ f:=ah6 hyx;rw[afO (by omega),afR,FO (by omega),ef,aa afM,Jq (by omega),Jq (by omega),afZ hx0l,afZ (by omega)];obtain⟨a,b,c,d,odd,g1,g2⟩:=Lm hN hx0l hy0l;rw[g2];by_cases hb:b=0
   ·subst hb;rw[show(((0:Nat):Int) != 0)=false from rfl,afQ,kG hN (by omega) (by omega) (by omega)];have hm:=af4 x (by omega:y>0);rw[ih (y+x%y) (by omega) y (x%y) M rfl (by omega) (by omega) (by omega) (by omega),ag6 y,<- aiO,ag6]
   ·have hbn:((b:Int) != 0)=true:=by simp; omega
    rw[hbn,afR];obtain⟨U,V,k1,k2,k3,k4,k5⟩:=KY (N:=N) (g1.resolve_left hb) (af4 x hF0) (af4 y hF0) (agM x (2 ^ f)).symm (agM y (2 ^ f)).symm (by omega) ⟨by omega,by omega⟩ ⟨by omega,by omega⟩;have hUl:=dc k3;rw[k5,ih (U+V) (by omega) U V M rfl (by omega) (by omega) k1 (by omega),k4]
  ·rw[afP (by omega),afQ];by_cases h0:y=0
   ·have:(((ae y).length:Nat):Int)=0:=by rw[h0,bg]; rfl
    rw[this,afP (by omega),show(false==true)=false from rfl,afQ,Ap hN (by omega) (.inl h0)]
   ·have hpos:0<(ae y).length:=by rw[bN h0]; simp
    rw[afO (by omega),show(true==true)=true from rfl,afR];by_cases h1:1<(ae x).length
    ·have hm:=af4 x (ain h0);have hml:=dc (Nat.le_of_lt hm);rw[afO (by omega),afR,kG hN (ain h0) (by omega) (by omega),Ap hN (by omega) (.inr (by omega)),ag6 y,<- aiO,ag6]
    ·rw[afP (by omega),afQ,Ap hN (by omega) (.inr (by omega))]
 exact main s x y N hs hsN (af1 _) hyx hxl
theorem FP {N:Nat} (hN:1180591620717411303424<=N) {x y:Nat} (hf:x+y<N) (hxl:(ae x).length<=1099511626000) (hyl:(ae y).length<=1099511626000) (k:Kz9):Ch N (ae x) (ae y) k=k (ae (Nat.gcd x y)):=by
 (unfold Ch; rw[ac]; unfold SY)
 rw[iV x y ⟨by omega,by omega⟩ ⟨by omega,by omega⟩];by_cases h:x<y
 ·have hc:decide (dx x y<0)=true:=by unfold dx; rw[if_pos h]; rfl
  rw[hc,afR,Fg hN _ (y+x) y x rfl (by omega) (by omega) hyl,ag6]
 ·have hc:decide (dx x y<0)=false:=by unfold dx; rw[if_neg h]; split <;> rfl
  rw[hc,afQ,Fg hN _ (x+y) x y rfl hf (by omega) hxl]
def Fuel (N:Nat):Prop:=∃ E,4398046511104<=E/\2 ^ E<=N
theorem Fuel.lt {N:Nat} (h:Fuel N):4398046511104<N:=by obtain⟨E,h1,h2⟩:=h;have:E<2 ^ E:=Nat.lt_two_pow_self;omega
theorem Fuel.sum {N C x y:Nat} (h:Fuel N) (hC:C<=4398046511000) (hx:aT C x) (hy:aT C y):x+y<N:=by obtain⟨E,h1,h2⟩:=h;have h3:2 ^ (C+1)<=2 ^ E:=af5 (by decide) (by omega);rw[af2]at h3;unfold aT at hx hy;omega
theorem Fuel.big {N:Nat} (h:Fuel N):1180591620717411303424<=N:=by
 obtain⟨E,h1,h2⟩:=h;have h3:2 ^ 70<=2 ^ E:=af5 (by decide) (by omega);have e:(2:Nat) ^ 70=1180591620717411303424:=by decide
 rw[e]at h3;exact age h3 h2
theorem zq {B n:Nat} (hB:B<=2000000000100) (h:aT B n):(ae n).length<=31250000003:=by have:=Kl h; omega
def kr (z:Int) (d:Nat) (k:Kx5):Bool:=k (decide (z<0)) (ae z.natAbs) false (ae d)
def kq (x:Rat) (k:Kx5):Bool:=kr x.num x.den k
theorem FG (g:Bool) (n d:Nat) (k:Kx5):k (sg g n) (ae n) false (ae d)=kr (aY g n) d k:=Gj g n (λa b=>k a b false (ae d))
theorem DV {N:Nat} (g:Bool) (n:Nat) (l:List Int) (b1 b2:Bool) (k:Ky3):LH N g (ae n) l b1 b2 k=k (sg g n) false:=by
 (unfold LH; rw[ac]; unfold SO LD PU Rt SX)
 cases g
 ·rfl
 ·simp only[pw,sg,agW]; rfl
theorem K7 {N:Nat} (g b:Bool) (n:Nat) (k:Kz4):Ee N g (ae n) b k=k (sg g n):=by
 unfold Ee Wk;cases g
 ·rfl
 ·simp only[pw,sg,agW]; rfl
theorem Qu (g:Bool) (n:Nat):aY (sg g n) n=aY g n:=by
 unfold aY sg;cases g
 ·rfl
 ·by_cases h:n=0
  ·subst h; rfl
  ·rw[afO h]; rfl
theorem K9 {N:Nat} (g1:Bool) (n1:Nat) (g2:Bool) (n2:Nat) (h1:lK N (ae n1)) (h2:lK N (ae n2)) (k:Ky4) :
  Rp N g2 (ae n2) g1 (ae n1) k=sG (aY g1 n1+aY g2 n2) k:=by
 (unfold Rp; rw[ac]; unfold SS)
 rw[Ot _ _ (aX _) (aX _) h1 h2,iV _ _ h1 h2,aC,aC,ob g2 _ _ (n1+n2) k,<- IE];congr 1;by_cases h:n2<=n1
 ·rw[nA _ _ (aX _) (aX _) (by rw[aC,aC]; exact h) h1,aC,aC,ob g1 _ _ (n1 - n2) k,tY,afO h];rfl
 ·rw[nA _ _ (aX n2) (aX n1) (by rw[aC,aC]; omega) h2,aC,aC,ob g2 _ _ (n2 - n1) k,tY,afP h];rfl
theorem OE {N:Nat} (hF:Fuel N) {x y:Nat} (hy:0<y) (hxl:(ae x).length<=1099511627000) (hyl:(ae y).length<=1099511627000) (k:Kz9):vL N (ae x) (ae y) k=k (ae (x / y)):=by
 have hj:ng N (ae x) (ae y) k=k (ae (x / y)):=by unfold ng;rw[kG hF.big hy hxl hyl]
 (unfold vL; rw[ac]; unfold Tm)
 by_cases h1:(ae y).length=1
 ·have e:((((ae y).length:Nat):Int)==1)=true:=by rw[h1]; rfl
  rw[e,show(true==true)=true from rfl,afR,aa afN];have hyw:=qu (by omega:y ≠ 0) (vC (by omega));by_cases h2:y=1
  ·have:((ae y).getD 0 0==1)=true:=by rw[hyw,h2]; rfl
   rw[this,afR,h2,ahI]
  ·have:((ae y).getD 0 0==1)=false:=by rw[hyw]; simp; omega
   rw[this,afQ,hj]
 ·have e:((((ae y).length:Nat):Int)==1)=false:=by simp; omega
  rw[e,show(false==true)=false from rfl,afQ,hj]
theorem gH {N:Nat} (a:Bool) (l:List Int) (b:Bool) {d:Nat} (hd:d ≠ 0) (k:Kz9):Cg N a l b (ae d) k=k (ae d):=by
 unfold Cg Wq;have:((((ae d).length:Nat):Int)==0)=false:=by rw[bN hd]; simp; omega
 rw[this]; rfl
theorem F1 {N:Nat} (a:Bool) (l:List Int) (b:Bool) {d:Nat} (hd:d ≠ 0) (k:Kz9):VU N a l b (ae d) k=k (ae d):=by
 unfold VU WA;have:((((ae d).length:Nat):Int)==0)=false:=by rw[bN hd]; simp; omega
 rw[this]; rfl
theorem um {N B:Nat} (hF:Fuel N) (hB:B<=2000000000100) {a b:Nat} (ha:aT B a) (hb:aT B b) (k:Kz9):zu N (ae a) (ae b) k=k (ae (a*b)):=by have h1:=zq hB ha;have h2:=zq hB hb;have:=hF.lt;rw[HT _ _ (aX _) (aX _) (by omega) (by omega),aC,aC]
theorem wF {N B:Nat} (hF:Fuel N) (hB:B<=2000000000100) {a b:Nat} (ha:aT B a) (hb:aT B b) (k:Kz9):Ch N (ae a) (ae b) k=k (ae (Nat.gcd a b)):=by have h1:=zq hB ha;have h2:=zq hB hb;rw[FP hF.big (hF.sum (by omega) ha hb) (by omega) (by omega)]
theorem oT {N B:Nat} (hF:Fuel N) (hB:B<=2000000000100) {a b:Nat} (h0:0<b) (ha:aT B a) (hb:aT B b) (k:Kz9):vL N (ae a) (ae b) k=k (ae (a / b)):=by have h1:=zq hB ha;have h2:=zq hB hb;rw[OE hF h0 (by omega) (by omega)]
theorem qD {N B:Nat} (hB:B<=2000000000100) {a:Nat} (ha:aT B a) (k:Kz9):rG N (ae a) k=k (ae a):=by have h1:=zq hB ha;rw[xH _ (by omega)]
theorem bR {B a b:Nat} (h:aT B a):aT B (a / b):=l_ h (aho _ _)
theorem Py {N B n:Nat} (hF:Fuel N) (hB:B<=2000000000100) (h:aT B n):lK N (ae n):=by have h1:=zq hB h;have:=hF.lt;exact⟨by omega,by omega⟩
def Bq (B:Nat) (x:Rat):Prop:=aT B x.num.natAbs/\aT B x.den
theorem Bq.mono {A B:Nat} {x:Rat} (h:Bq A x) (hAB:A<=B):Bq B x:=⟨bK h.1 hAB,bK h.2 hAB⟩
theorem sH (z:Int) (f:Nat):aY (decide (z<0)) (z.natAbs*f)=z*f:=by
 unfold aY;by_cases h:z<0
 ·rw[afO h,if_pos rfl];have:(z.natAbs:Int) = -z:=by omega
  rw[aga,this,aiZ,Int.neg_neg]
 ·rw[afP h,if_neg (by decide)];have:(z.natAbs:Int)=z:=by omega
  rw[aga,this]
theorem AQ {z:Int} {h:Nat} (h0:0<h) (hd:h∣z.natAbs):aY (decide (z<0)) (z.natAbs / h)=z / (h:Int):=by
 obtain⟨q,hq⟩:=hd;rw[hq,agr _ h0];unfold aY;have hh:(h:Int) ≠ 0:=by omega
 by_cases hz:z<0
 ·rw[afO hz,if_pos rfl];have:z=(h:Int)*(-(q:Int)):=by
   have e:(z.natAbs:Int)=(h:Int)*q:=by rw[hq,aga]
   rw[aiJ,<- e]; omega
  rw[this,ahP _ hh]
 ·rw[afP hz,if_neg (by decide)];have:z=(h:Int)*(q:Int):=by
   have e:(z.natAbs:Int)=(h:Int)*q:=by rw[hq,aga]
   rw[<- e]; omega
  rw[this,ahP _ hh]
theorem Nl (x y:Rat):(x+y).num=(x.num*((y.den / Nat.gcd x.den y.den:Nat):Int)+y.num*((x.den / Nat.gcd x.den y.den:Nat):Int)) / ((Nat.gcd (x.num*((y.den / Nat.gcd x.den y.den:Nat):Int)+y.num*((x.den / Nat.gcd x.den y.den:Nat):Int)).natAbs (Nat.gcd x.den y.den):Nat):Int)
  /\ (x+y).den=x.den / Nat.gcd x.den y.den*(y.den / Nat.gcd (x.num*((y.den / Nat.gcd x.den y.den:Nat):Int)+y.num*((x.den / Nat.gcd x.den y.den:Nat):Int)).natAbs (Nat.gcd x.den y.den)):=by
 have aux:=Rat.add.aux x y (g:=Nat.gcd x.den y.den) rfl rfl rfl;simp only at aux;have hx:=x.den_pos;have hy:=y.den_pos;obtain⟨g,hg⟩:∃ g,g=Nat.gcd x.den y.den:=⟨_,rfl⟩
 rw[<- hg]at aux ⊢;have hg0:0<g:=by rw[hg]; exact Nat.gcd_pos_of_pos_left _ hx
 have hgx:g∣x.den:=by rw[hg]; exact agF _ _
 have hgy:g∣y.den:=by rw[hg]; exact ag3 _ _
 obtain⟨e,he⟩:∃ e,e=x.den / g:=⟨_,rfl⟩
 obtain⟨f,hf⟩:∃ f,f=y.den / g:=⟨_,rfl⟩
 rw[<- he,<- hf]at aux ⊢;have ex:x.den=e*g:=by rw[he,Nat.div_mul_cancel hgx]
 have ey:y.den=f*g:=by rw[hf,Nat.div_mul_cancel hgy]
 obtain⟨n,hn⟩:∃ n,n=x.num*(f:Int)+y.num*(e:Int):=⟨_,rfl⟩
 rw[<- hn]at aux ⊢;have hsum:x+y=mkRat n (e*y.den):=by
  rw[Rat.add_def'];have e1:x.num*(y.den:Int)+y.num*(x.den:Int)=n*(g:Int):=by rw[ex,ey,hn]; simp only[aga]; grind
  have e2:x.den*y.den=e*y.den*g:=by rw[ex]; grind
  rw[e1,e2,Rat.mkRat_mul_right (by omega)]
 have he0:0<e:=by
  rcases ag_ e with h | h
  ·rw[h,ahe]at ex; omega
  ·exact h
 have hd0:e*y.den ≠ 0:=by have:=ahR he0 hy; omega
 have hhy:Nat.gcd n.natAbs g∣y.den:=Nat.dvd_trans (ag3 _ _) hgy;constructor
 ·rw[hsum,ai0,if_neg hd0,ag6,<- aux]
 ·rw[hsum,ai1,if_neg hd0,ag6,<- aux,Nat.mul_div_assoc _ hhy]
theorem Cs {A:Nat} {z w:Int} (hz:aT A z.natAbs) (hw:aT A w.natAbs):aT (A+1) (z+w).natAbs:=l_ (wl hz hw) (by omega)
theorem tX {A B:Nat} {z:Int} {n:Nat} (hz:aT A z.natAbs) (hn:aT B n):aT (A+B) (z*(n:Int)).natAbs:=by rw[ahE,agK]; exact dw hz hn
theorem A1 {N B:Nat} (hF:Fuel N) (hB:B<=1000000000000) {x y:Rat} (hx:Bq B x) (hy:Bq B y) (b1 b2:Bool) (k:Kx5) :
  Rr N (decide (x.num<0)) (ae x.num.natAbs) false (ae x.den) (decide (y.num<0)) (ae y.num.natAbs) false (ae y.den) b1 b2 k=kq (x+y) k:=by
 (unfold Rr; rw[ac]; unfold PV)
 obtain⟨m1,m2⟩:=Nl x y;have hB2:B<=2000000000100:=by omega
 have hxd:=x.den_pos;have hyd:=y.den_pos;rw[gH _ _ _ x.den_nz,gH _ _ _ y.den_nz,wF hF hB2 hx.2 hy.2];obtain⟨g,hg⟩:∃ g,g=Nat.gcd x.den y.den:=⟨_,rfl⟩
 rw[<- hg]at m1 m2 ⊢;have hg0:0<g:=by rw[hg]; exact Nat.gcd_pos_of_pos_left _ hxd
 have hgb:aT B g:=by rw[hg]; exact l_ hx.2 (Nat.gcd_le_left _ hxd)
 have hgy:g∣y.den:=by rw[hg]; exact ag3 _ _
 rw[oT hF hB2 hg0 hx.2 hgb,oT hF hB2 hg0 hy.2 hgb,um hF hB2 hx.1 (bR hy.2),K7,um hF hB2 hy.1 (bR hx.2)];have hb1:=dw hx.1 (bR (b:=g) hy.2);have hb2:=dw hy.1 (bR (b:=g) hx.2);rw[K9 _ _ _ _ (Py hF (by omega) hb1) (Py hF (by omega) hb2),Qu,sH,sH];have hnb:aT (B+B+1) (x.num*((y.den / g:Nat):Int)+y.num*((x.den / g:Nat):Int)).natAbs:=Cs (tX hx.1 (bR hy.2)) (tX hy.1 (bR hx.2));obtain⟨n,hn⟩:∃ n,n=x.num*((y.den / g:Nat):Int)+y.num*((x.den / g:Nat):Int):=⟨_,rfl⟩
 rw[<- hn]at m1 m2 hnb ⊢;have hB3:B+B+1<=2000000000100:=by omega
 unfold sG;dsimp only;rw[wF hF hB3 hnb (bK hgb (by omega))];obtain⟨h,hh⟩:∃ h,h=Nat.gcd n.natAbs g:=⟨_,rfl⟩
 rw[<- hh]at m1 m2 ⊢;have hh0:0<h:=by rw[hh]; exact agX _ hg0
 have hhb:aT B h:=by rw[hh]; exact l_ hgb (ahT _ hg0)
 rw[oT hF hB3 hh0 hnb (bK hhb (by omega)),qD hB3 (bR hnb),oT hF hB2 hh0 hy.2 hhb,um hF hB2 (bR hx.2) (bR hy.2),DV,FG _ _ _ k,AQ hh0 (by rw[hh]; exact agF _ _),<- m1,<- m2];rfl
theorem FL {N B:Nat} (hF:Fuel N) (hB:B<=1000000000000) {x y:Rat} (hx:Bq B x) (hy:Bq B y) (b1 b2:Bool) (k:Kx5) :
  VK N (decide (x.num<0)) (ae x.num.natAbs) false (ae x.den) b1 b2 (decide (y.num<0)) (ae y.num.natAbs) false (ae y.den) k=kq (x+y) k:=by
 rw[<- A1 hF hB hx hy b1 b2 k]
 (unfold VK; rw[ac]; unfold SQ; unfold Rr; rw[ac]; unfold PV)
 rw[gH _ _ _ x.den_nz,F1 _ _ _ y.den_nz,gH _ _ _ x.den_nz,gH _ _ _ y.den_nz]
theorem Oc (g:Bool) (n:Nat):aY (!g) n = -(aY g n):=by unfold aY; cases g <;> simp
theorem iU (z:Int):aY (decide (z<0)) z.natAbs=z:=Ob z
theorem HR {N B:Nat} (hB:B<=2000000000100) {y:Rat} (hy:Bq B y) (b1 b2:Bool) (k:Kx5) :
  VX N (decide (y.num<0)) (ae y.num.natAbs) false (ae y.den) b1 b2 k=kq (-y) k:=by
 (unfold VX; rw[ac]; unfold Te)
 rw[qD hB hy.1,gH _ _ _ y.den_nz,qD hB hy.2,DV,FG _ _ _ k,Oc,iU];rfl
theorem FU {N B:Nat} (hF:Fuel N) (hB:B<=1000000000000) {x y:Rat} (hx:Bq B x) (hy:Bq B y) (k:Kx5) :
  cF N (decide (x.num<0)) (ae x.num.natAbs) false (ae x.den) (decide (y.num<0)) (ae y.num.natAbs) false (ae y.den) k=kq (x - y) k:=by
 (unfold cF jz; unfold Sk; rw[ac]; unfold Ml)
 rw[HR (by omega) hy];unfold kq kr;dsimp only;have hny:Bq B (-y):=⟨by rw[Rat.neg_num,ais]; exact hy.1,hy.2⟩
 rw[FL hF hB hx hny,Rat.sub_eq_add_neg];rfl
theorem QA {N B:Nat} (hF:Fuel N) (hB:B<=1000000000000) {x y:Rat} (hx:Bq B x) (hy:Bq B y) (k:Kx5) :
  eC N (decide (x.num<0)) (ae x.num.natAbs) false (ae x.den) (decide (y.num<0)) (ae y.num.natAbs) false (ae y.den) k=kq (x+y) k:=by
 unfold eC jB;rw[A1 hF hB hx hy]
theorem OU (x w:Rat):(x*w).num=aY (decide (x.num<0)) (x.num.natAbs / Nat.gcd x.num.natAbs w.den)*aY (decide (w.num<0)) (w.num.natAbs / Nat.gcd w.num.natAbs x.den)
  /\ (x*w).den=x.den / Nat.gcd w.num.natAbs x.den*(w.den / Nat.gcd x.num.natAbs w.den):=by
 have H1:0<x.num.natAbs.gcd w.den:=agX _ w.den_pos;have H2:0<w.num.natAbs.gcd x.den:=agX _ x.den_pos;have d1:Nat.gcd x.num.natAbs w.den∣x.num.natAbs:=agF _ _;have d2:Nat.gcd w.num.natAbs x.den∣w.num.natAbs:=agF _ _;rw[AQ H1 d1,AQ H2 d2];have e1:(x*w).num=x.num.tdiv (Nat.gcd x.num.natAbs w.den:Nat)*w.num.tdiv (Nat.gcd w.num.natAbs x.den:Nat):=by
  show(Rat.mul x w).num=_
  delta Rat.mul
  simp only[Int.divExact_eq_tdiv]
 have e2:(x*w).den=x.den / Nat.gcd w.num.natAbs x.den*(w.den / Nat.gcd x.num.natAbs w.den):=by
  show(Rat.mul x w).den=_
  delta Rat.mul
  simp only[Nat.divExact_eq_div]
 refine⟨?_,e2⟩;rw[e1,Int.tdiv_eq_ediv_of_dvd (Int.ofNat_dvd_left.2 d1),Int.tdiv_eq_ediv_of_dvd (Int.ofNat_dvd_left.2 d2)]
theorem FY {N B:Nat} (hF:Fuel N) (hB:B<=1000000000000) {x w:Rat} (hx:Bq B x) (hw:Bq B w) (b1 b2:Bool) (k:Kx5) :
  Rm N (decide (x.num<0) != decide (w.num<0)) (ae x.num.natAbs) (ae x.den) (ae w.num.natAbs) (ae w.den) b1 b2 k=kq (x*w) k:=by
 (unfold Rm; rw[ac]; unfold SL)
 have hB2:B<=2000000000100:=by omega
 obtain⟨m1,m2⟩:=OU x w;have H1:0<x.num.natAbs.gcd w.den:=agX _ w.den_pos;have H2:0<w.num.natAbs.gcd x.den:=agX _ x.den_pos;have L1:aT B (x.num.natAbs.gcd w.den):=l_ hw.2 (ahT _ w.den_pos);have L2:aT B (w.num.natAbs.gcd x.den):=l_ hx.2 (ahT _ x.den_pos);rw[wF hF hB2 hx.1 hw.2,wF hF hB2 hw.1 hx.2,oT hF hB2 H1 hx.1 L1,oT hF hB2 H2 hw.1 L2,um hF hB2 (bR hx.1) (bR hw.1),oT hF hB2 H2 hx.2 L2,oT hF hB2 H1 hw.2 L1,um hF hB2 (bR hx.2) (bR hw.2),DV,FG _ _ _ k,AR,<- m1,<- m2];rfl
theorem QF {N B:Nat} (hF:Fuel N) (hB:B<=1000000000000) {x y:Rat} (hx:Bq B x) (hy:Bq B y) (k:Kx5) :
  dN N (decide (x.num<0)) (ae x.num.natAbs) false (ae x.den) (decide (y.num<0)) (ae y.num.natAbs) false (ae y.den) k=kq (x*y) k:=by
 (unfold dN jh; unfold Si; rw[ac]; unfold Mj)
 rw[gH _ _ _ x.den_nz,gH _ _ _ y.den_nz,FY hF hB hx hy]
theorem AN {y:Rat} (h:y.num ≠ 0):(y⁻¹).num.natAbs=y.den/\(y⁻¹).den=y.num.natAbs/\decide ((y⁻¹).num<0)=decide (y.num<0):=by
 have hd:=y.den_pos;refine⟨?_,?_,?_⟩
 ·rw[Rat.num_inv,ahE,agK,Int.natAbs_sign,if_neg h,ahQ]
 ·rw[Rat.den_inv,if_neg h]
 ·rw[Rat.num_inv];rcases Int.lt_trichotomy y.num 0 with h1 | h1 | h1
  ·rw[Int.sign_eq_neg_one_of_neg h1,afO h1,afO (by omega)]
  ·exact absurd h1 h
  ·rw[Int.sign_eq_one_of_pos h1,afP (by omega),afP (by omega)]
theorem QJ {N B:Nat} (hF:Fuel N) (hB:B<=1000000000000) {x y:Rat} (hx:Bq B x) (hy:Bq B y) (h0:y.num ≠ 0) (k:Kx5) :
  eB N (decide (x.num<0)) (ae x.num.natAbs) false (ae x.den) (decide (y.num<0)) (ae y.num.natAbs) false (ae y.den) k=kq (x / y) k:=by
 obtain⟨i1,i2,i3⟩:=AN h0
 (unfold eB jA; unfold Sj; rw[ac]; unfold Mk)
 have hw:Bq B (y⁻¹):=⟨by rw[i1]; exact hy.2,by rw[i2]; exact hy.1⟩
 have hp:=λkk=>FY (b1:=false) (b2:=false) hF hB hx hw kk
 rw[i1,i2,i3]at hp;rw[gH _ _ _ x.den_nz,gH _ _ _ y.den_nz,hp,Rat.div_def]
theorem yI {N B:Nat} (hF:Fuel N) (hB:B<=2000000000000) (g:Bool) {n d:Nat} (hn:aT B n) (hd:aT B d) (h0:0<d) (b1 b2:Bool) (k:Kx5) :
  VP N g (ae n) (ae d) b1 b2 k=kq (mkRat (aY g n) d) k:=by
 have hB2:B<=2000000000100:=by omega
 have hl:=hF.lt;have hnum:(mkRat (aY g n) d).num=aY g (n / Nat.gcd n d):=by
  rw[ai0,if_neg (by omega)];have e:(aY g n).natAbs=n:=by unfold aY; cases g <;> simp
  have hg:0<Nat.gcd n d:=agX _ h0;rw[e,ag6];obtain⟨q,hq⟩:=agF n d;have hh:((Nat.gcd n d:Nat):Int) ≠ 0:=by omega
  have e2:aY g n=((Nat.gcd n d:Nat):Int)*aY g (n / Nat.gcd n d):=by
   have hnn:n=Nat.gcd n d*(n / Nat.gcd n d):=(Nat.mul_div_cancel' (agF n d)).symm;have hc:(n:Int)=((Nat.gcd n d:Nat):Int)*((n / Nat.gcd n d:Nat):Int):=by rw[<- aga,<- hnn]
   unfold aY;cases g
   ·simpa using hc
   ·simp only[ahr]; rw[hc,aiJ]
  rw[e2,ahP _ hh]
 have hden:(mkRat (aY g n) d).den=d / Nat.gcd n d:=by
  rw[ai1,if_neg (by omega)];have e:(aY g n).natAbs=n:=by unfold aY; cases g <;> simp
  rw[e,ag6]
 have hj:∀ m e:Nat,aT B m->aT B e->IR N g (ae n) (ae d) b1 b2 (ae m) (ae e) k=k (sg g m) (ae m) false (ae e):=by
  intro m e hm he;unfold IR;rw[qD hB2 hm];unfold LD PU;dsimp only;rw[qD hB2 he,qD hB2 he];unfold Rt SX;cases g
  ·rfl
  ·simp only[pw,sg,agW]; rfl
 have hg0:0<Nat.gcd n d:=agX _ h0;have hgb:aT B (Nat.gcd n d):=l_ hd (ahT _ h0);have h1:=zq hB2 hn;have h2:=zq hB2 hd;have h3:=zq hB2 hgb;have e1:ae 1=[1]:=qu (by decide) (by decide)
 (unfold VP; rw[ac]; unfold S4)
 rw[wF hF hB2 hn hd,<- e1,iV _ 1 ⟨by omega,by omega⟩ ⟨by rw[e1]; simp; omega,by rw[e1]; simp⟩];by_cases hc:Nat.gcd n d=1
 ·have:(dx (Nat.gcd n d) 1 != 0)=false:=by rw[hc]; rfl
  rw[this,afQ,hj n d hn hd,FG _ _ _ k];rw[hc,ahI]at hnum hden;unfold kq;rw[hnum,hden]
 ·have:(dx (Nat.gcd n d) 1 != 0)=true:=by unfold dx; rw[if_neg (by omega),if_neg hc]; rfl
  rw[this,afR,kG hF.big hg0 (by omega) (by omega),kG hF.big hg0 (by omega) (by omega),hj _ _ (bR hn) (bR hd),FG _ _ _ k,<- hnum,<- hden];rfl
theorem H_ {N:Nat} (hF:Fuel N) (k:Kx5):lZ N 0 k=kq 0 k:=by
 have:=hF.lt
 (unfold lZ po; unfold wX; rw[ac]; unfold pZ)
 have n0:=λkk=>sI (N:=N) (by omega) 0 (by decide) kk
 have n1:=λkk=>sI (N:=N) (by omega) 1 (by decide) kk
 rw[show((0:Nat):Int)=0 from rfl]at n0;rw[show((1:Nat):Int)=1 from rfl]at n1;unfold Rk SE;rw[n0,n1,yI hF (B:=10) (by decide) _ (by unfold aT; decide) (by unfold aT; decide) (by decide)];rfl
theorem mE {N:Nat} (x:Rat) (k:Kz5):bw N (decide (x.num<0)) (ae x.num.natAbs) false (ae x.den) k=k (w8 x.num):=by
 (unfold bw jC th rP; unfold Sp; rw[ac]; unfold M4 w8)
 by_cases h:x.num<0
 ·rw[afO h,afR,if_neg (by omega),if_pos h]
 ·rw[afP h,afQ,if_neg h];by_cases h0:x.num=0
  ·rw[h0,if_pos rfl];have:ae (0:Int).natAbs=[]:=bg;rw[this]; rfl
  ·have:((((ae x.num.natAbs).length:Nat):Int)==0)=false:=by rw[bN (by omega)]; simp; omega
   rw[this,afQ,if_neg h0]
end Go.Proofs.YtdinakfmablagaaGreatDoor
end
