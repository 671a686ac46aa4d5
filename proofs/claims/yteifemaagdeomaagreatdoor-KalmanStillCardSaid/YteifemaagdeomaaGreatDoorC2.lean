/-
  PURE: bit lengths, leading noughts, math/bits.Div64: a quotient of two words by one.
  Conditions: N is great.
-/
import Derived.Test.YteifemaagdeomaaGreatDoorC1
set_option linter.unusedVariables false
section
namespace Go.Proofs.YteifemaagdeomaaGreatDoor
open Go Go.Mach
theorem Ep (N:Nat) {x:Nat} (hx:x<18446744073709551616) (k:Ky9):Vs N (x:Int) k=k (bl x:Int):=by
 have key:∀(z:Int) (m:Nat),z=(m:Int)->m<256 -> ∀ c:Nat,c<=56->((inR z 256)&&((ah .i64 (List.getD aA (Int.toNat z) 0))&&((ah .i64 ((c:Int)+(List.getD aA (Int.toNat z) 0)))&&k ((c:Int)+List.getD aA (Int.toNat z) 0))))=k ((c+bl m:Nat):Int):=by intro z m hz hm c hc;subst hz;have:=Is hm;rw[ajD,T6 hm,aa ajw,aa ajv,aa ajv];rfl
 have j1:∀(y z c:Nat),z<65536->c<=48->Q5 N (y:Int) (z:Int) (c:Int) k=k ((c+bl z:Nat):Int):=by
  intro y z c hz hc;unfold Q5;simp only[Wr,WV];by_cases h8:256<=z
  ·have e8:=ov (n:=z) 8 (by simpa using h8);rw[show(2:Nat) ^ 8=256 by decide]at e8;have h:=key ((z:Int) / 256%256) (z / 256) (by omega) (by omega) (c+8) (by omega);rw[show((c+8:Nat):Int)=(c:Int)+8 by omega]at h;rw[ajx (by omega:(z:Int)>=256),ajA,aa ajv,h];congr 1; omega
  ·rw[ajy (by omega:¬(z:Int)>=256),ajz,key ((z:Int)%256) z (by omega) (by omega) c (by omega)]
 have j0:∀(y z c:Nat),z<4294967296->c<=32->Q3 N (y:Int) (z:Int) (c:Int) k=k ((c+bl z:Nat):Int):=by
  intro y z c hz hc;unfold Q3;simp only[Sc];by_cases h16:65536<=z
  ·have e16:=ov (n:=z) 16 (by simpa using h16);rw[show(2:Nat) ^ 16=65536 by decide]at e16;have h:=j1 y (z / 65536) (c+16) (by omega) (by omega);rw[show((c+16:Nat):Int)=(c:Int)+16 by omega,show((z / 65536:Nat):Int)=(z:Int) / 65536 by omega]at h;rw[ajx (by omega:(z:Int)>=65536),ajA,aa ajv,h];congr 1; omega
  ·rw[ajy (by omega:¬(z:Int)>=65536),ajz,j1 y z c (by omega) (by omega)]
 (unfold Vs; rw[af]; unfold QW)
 simp only[l8];by_cases h32:4294967296<=x
 ·have e32:=ov (n:=x) 32 (by rw[show(2:Nat) ^ 32=4294967296 by decide]; exact h32);rw[show(2:Nat) ^ 32=4294967296 by decide]at e32;have h:=j0 x (x / 4294967296) 32 (by omega) (by omega);rw[show((x / 4294967296:Nat):Int)=(x:Int) / 4294967296 by omega,show((32:Nat):Int)=32 from rfl]at h;rw[ajx (by omega:(x:Int)>=4294967296),ajA,h];congr 1; omega
 ·have h:=j0 x x 0 (by omega) (by omega);rw[show((0:Nat):Int)=0 from rfl]at h;rw[ajy (by omega:¬(x:Int)>=4294967296),ajz,h];congr 1; omega
theorem Ax {n j:Nat} (h:n<2 ^ j):bl n<=j:=by
 unfold bl;split
 ·omega
 ·rename_i h0;have:=(Nat.log2_lt h0).2 h;omega
theorem Cn (n:Nat):n<2 ^ bl n:=by
 unfold bl;split
 ·rename_i h; subst h; decide
 ·exact Nat.lt_log2_self
theorem RM {n:Nat} (h:n ≠ 0):0<bl n/\2 ^ (bl n - 1)<=n:=by unfold bl;rw[if_neg h];exact⟨by omega,by rw[al1]; exact Nat.log2_self_le h⟩
theorem rI:(2:Nat) ^ 64=18446744073709551616:=by decide
theorem Jj (N:Nat) {x:Nat} (hx:x<18446744073709551616) (k:Ky9):TN N (x:Int) k=k ((64 - bl x:Nat):Int):=by unfold TN Zk;have:=Ax (n:=x) (j:=64) (by rw[rI]; exact hx);rw[Ep N hx,aa ajv];congr 1; omega
theorem Oa {y:Nat} (h0:y ≠ 0) (hy:y<18446744073709551616):64 - bl y<64/\9223372036854775808<=y*2 ^ (64 - bl y)/\y*2 ^ (64 - bl y)<18446744073709551616:=by
 have h1:=Ax (n:=y) (j:=64) (by rw[rI]; exact hy);obtain⟨h2,h3⟩:=RM h0;have h4:=Cn y;have hp:0<2 ^ (64 - bl y):=ajM _;refine⟨by omega,?_,?_⟩
 ·have:=ajE (2 ^ (64 - bl y)) h3;rw[<- ajR,show bl y - 1+(64 - bl y)=63 by omega]at this;exact this
 ·have:=akm h4 hp;rw[<- ajR,show bl y+(64 - bl y)=64 by omega]at this;exact this
theorem Eb {a c u u1 p r:Nat} (hc:c<4294967296) (hp:p<=4294967296) (hu:(p+1)*a+r=u) (hb:4294967296<=r+a):p*(a*4294967296+c)<=u*4294967296+u1:=by
 have e1:u*4294967296+u1=p*a*4294967296+(r+a)*4294967296+u1:=by rw[<- hu,ak5,aj2,aj2,aj2]; omega
 have e2:p*(a*4294967296+c)=p*a*4294967296+p*c:=by rw[ajP,ajI]
 have:=ako hp (Nat.le_of_lt_succ hc:c<=4294967295);rw[e1,e2]; omega
theorem Dj {a c u u1:Nat} (hu1:u1<4294967296) (hD:u<a*4294967296+c):(u*4294967296+u1) / (a*4294967296+c)<4294967296:=by rw[ajH (by omega)]; omega
theorem Lw {N:Nat} {y s un0:Int} {a c u u1:Nat} (ha2:a<4294967296) (hc:c<4294967296) (hu1:u1<4294967296) (hD:u<a*4294967296+c) {d:Nat} (hd:∀ p,p<=d↔p*(a*4294967296+c)<=u*4294967296+u1) (hlt:d<4294967296) (e0:Int->Bool) :
  ∀ q r M,q<M->q<=4294967297->q*a+r=u->r<4294967296->d<=q ->
   al M (B2 N y s (a:Int) (c:Int) (u:Int) (u1:Int) un0 e0) ((q:Int),(r:Int))=e0 (d:Int):=by
 intro q;induction q using Nat.strongRecOn with
 | ind q ih=>
 intro r M hM hqb hu hr hle;obtain⟨M,rfl⟩:∃ m,M=m+1:=⟨M - 1,by omega⟩
 show B2 N y s a c u u1 un0 e0 ((q:Int),(r:Int)) (al M _)=_;have hY:0<a*4294967296+c:=by omega
 have hdec:d<q->cond (decide ((IntKind.wrap .u64 ((r:Int)+(a:Int)))>=4294967296)) (e0 (IntKind.wrap .u64 ((q:Int) - 1))) (al M (B2 N y s (a:Int) (c:Int) (u:Int) (u1:Int) un0 e0) ((IntKind.wrap .u64 ((q:Int) - 1)),(IntKind.wrap .u64 ((r:Int)+(a:Int)))))=e0 (d:Int):=by
  intro hlq;obtain⟨p,rfl⟩:∃ p,q=p+1:=⟨q - 1,by omega⟩
  have w1:IntKind.wrap .u64 (((p+1:Nat):Int) - 1)=(p:Int):=by rw[aq]; omega
  have w2:IntKind.wrap .u64 ((r:Int)+(a:Int))=((r+a:Nat):Int):=by rw[aq]; omega
  rw[w1,w2];by_cases hb:4294967296<=r+a
  ·rw[ajx (by omega),ajA];have h1:=Eb (u1:=u1) hc (by omega) hu hb;rw[<- hd]at h1;rw[show d=p by omega]
  ·rw[ajy (by omega),ajz];exact ih p (by omega) (r+a) M (by omega) (by omega) (by rw[<- hu,ak5]; omega) (by omega) (by omega)
 simp only[B2];by_cases hq:4294967296<=q
 ·rw[ajx (by omega:(q:Int)>=4294967296),show(true==false)=false from rfl,ajz];exact hdec (by omega)
 ·have e1:u*4294967296+u1=q*a*4294967296+r*4294967296+u1:=by rw[<- hu,aj2]
  have e2:q*(a*4294967296+c)=q*a*4294967296+q*c:=by rw[ajP,ajI]
  have hqc:q*c<=4294967295*4294967295:=ako (by omega) (by omega);have w1:IntKind.wrap .u64 ((q:Int)*(c:Int))=((q*c:Nat):Int):=by rw[<- ajU,aq]; omega
  have w2:IntKind.wrap .u64 ((IntKind.wrap .u64 (4294967296*(r:Int)))+(u1:Int))=((r*4294967296+u1:Nat):Int):=by rw[aq,aq]; omega
  rw[ajy (by omega:¬(q:Int)>=4294967296),show(false==false)=true from rfl,ajA,w1,w2];by_cases ht:r*4294967296+u1<q*c
  ·rw[ajx (by omega),ajA];refine hdec ?_;rw[<- Nat.not_le,hd]; omega
  ·rw[ajy (by omega),ajz];have h1:q*(a*4294967296+c)<=u*4294967296+u1:=by omega
   rw[<- hd]at h1;rw[show d=q by omega]
theorem Lx {N:Nat} {y s q1:Int} {x21:Int} {a c u u1:Nat} (ha2:a<4294967296) (hc:c<4294967296) (hu1:u1<4294967296) (hD:u<a*4294967296+c) {d:Nat} (hd:∀ p,p<=d↔p*(a*4294967296+c)<=u*4294967296+u1) (hlt:d<4294967296) (e0:Int->Bool) :
  ∀ q r M,q<M->q<=4294967297->q*a+r=u->r<4294967296->d<=q ->
   al M (B3 N y s (a:Int) (c:Int) (u1:Int) q1 x21 e0) ((r:Int),(q:Int))=e0 (d:Int):=by
 intro q;induction q using Nat.strongRecOn with
 | ind q ih=>
 intro r M hM hqb hu hr hle;obtain⟨M,rfl⟩:∃ m,M=m+1:=⟨M - 1,by omega⟩
 show B3 N y s a c u1 q1 x21 e0 ((r:Int),(q:Int)) (al M _)=_;have hY:0<a*4294967296+c:=by omega
 have hdec:d<q->cond (decide ((IntKind.wrap .u64 ((r:Int)+(a:Int)))>=4294967296)) (e0 (IntKind.wrap .u64 ((q:Int) - 1))) (al M (B3 N y s (a:Int) (c:Int) (u1:Int) q1 x21 e0) ((IntKind.wrap .u64 ((r:Int)+(a:Int))),(IntKind.wrap .u64 ((q:Int) - 1))))=e0 (d:Int):=by
  intro hlq;obtain⟨p,rfl⟩:∃ p,q=p+1:=⟨q - 1,by omega⟩
  have w1:IntKind.wrap .u64 (((p+1:Nat):Int) - 1)=(p:Int):=by rw[aq]; omega
  have w2:IntKind.wrap .u64 ((r:Int)+(a:Int))=((r+a:Nat):Int):=by rw[aq]; omega
  rw[w1,w2];by_cases hb:4294967296<=r+a
  ·rw[ajx (by omega),ajA];have h1:=Eb (u1:=u1) hc (by omega) hu hb;rw[<- hd]at h1;rw[show d=p by omega]
  ·rw[ajy (by omega),ajz];exact ih p (by omega) (r+a) M (by omega) (by omega) (by rw[<- hu,ak5]; omega) (by omega) (by omega)
 simp only[B3];by_cases hq:4294967296<=q
 ·rw[ajx (by omega:(q:Int)>=4294967296),show(true==false)=false from rfl,ajz];exact hdec (by omega)
 ·have e1:u*4294967296+u1=q*a*4294967296+r*4294967296+u1:=by rw[<- hu,aj2]
  have e2:q*(a*4294967296+c)=q*a*4294967296+q*c:=by rw[ajP,ajI]
  have hqc:q*c<=4294967295*4294967295:=ako (by omega) (by omega);have w1:IntKind.wrap .u64 ((q:Int)*(c:Int))=((q*c:Nat):Int):=by rw[<- ajU,aq]; omega
  have w2:IntKind.wrap .u64 ((IntKind.wrap .u64 (4294967296*(r:Int)))+(u1:Int))=((r*4294967296+u1:Nat):Int):=by rw[aq,aq]; omega
  rw[ajy (by omega:¬(q:Int)>=4294967296),show(false==false)=true from rfl,ajA,w1,w2];by_cases ht:r*4294967296+u1<q*c
  ·rw[ajx (by omega),ajA];refine hdec ?_;rw[<- Nat.not_le,hd]; omega
  ·rw[ajy (by omega),ajz];have h1:q*(a*4294967296+c)<=u*4294967296+u1:=by omega
   rw[<- hd]at h1;rw[show d=q by omega]
theorem Ec {a c u u1:Nat} (ha:2147483648<=a) (ha2:a<4294967296) (hc:c<4294967296) (hD:u<a*4294967296+c) (hu1:u1<4294967296) :
  u / a<=4294967297/\u / a*a+u%a=u/\u%a<4294967296/\(u*4294967296+u1) / (a*4294967296+c)<=u / a:=by
 have h0:0<a:=by omega
 refine⟨?_,aku u a,ali (ajN _ h0) ha2,?_⟩
 ·have:u / a<4294967298:=by rw[ajH h0]; omega
  omega
 ·have h1:(u*4294967296+u1) / (a*4294967296)=u / a:=by rw[ajB a,<- ajF];congr 1; omega
  rw[<- h1];exact Nat.div_le_div_left (alU _ _) (by omega)
theorem OJ {m p y s:Nat} (u L b D1 q1 R1 u1 u0 q0 R0 Y:Nat) (hb:b=4294967296) (hT:m*2 ^ s=u*18446744073709551616+L) (hL:L=u1*b+u0) (hY:Y=y*2 ^ s) (hY0:0<Y)
  (h1:D1=u*b+u1) (hq1:q1=D1 / Y) (hR1:R1=D1%Y) (hq0:q0=(R1*b+u0) / Y) (hR0:R0=(R1*b+u0)%Y):m / y=q1*b+q0/\m%y=R0 / 2 ^ s:=by
 have hs:0<2 ^ s:=ajM s;have e1:=aks D1 Y;have e0:=aks (R1*b+u0) Y;rw[<- hq1,<- hR1]at e1;rw[<- hq0,<- hR0]at e0;have hlt:R0<Y:=by rw[hR0]; exact ajN _ hY0
 have hm:m*2 ^ s=Y*(q1*b+q0)+R0:=by
  rw[hT,hL];have e2:u*18446744073709551616+(u1*b+u0)=(u*b+u1)*b+u0:=by subst hb; omega
  rw[e2,<- h1,<- e1,ajP,aj2,akf,<- e0,ajI,akf]
 have d1:m / y=(m*2 ^ s) / Y:=by rw[hY,amd _ _ hs]
 have d2:(m%y)*2 ^ s=(m*2 ^ s)%Y:=by rw[hY,ame]
 constructor
 ·rw[d1,hm,amx hY0,aj3 hlt,aj4]
 ·have:(m%y)*2 ^ s=R0:=by rw[d2,hm,alK,ajJ hlt]
  rw[<- this,alf _ hs]
theorem Gc {N:Nat} (hN:8589934592<=N) {hi lo y:Nat} (hy:y<18446744073709551616) (hlo:lo<18446744073709551616) (hhi:hi<y) (k:Ky1) :
  TR N (hi:Int) (lo:Int) (y:Int) k=k (((hi*18446744073709551616+lo) / y:Nat):Int) (((hi*18446744073709551616+lo)%y:Nat):Int):=by
 (unfold TR; rw[af]; unfold XE)
 have y0:((y:Int)==0)=false:=by simp; omega
 have y1:(!decide ((y:Int)=0))=true:=by simp; omega
 rw[y0,ajz,ajy (by omega:¬(y:Int)<=hi),ajz];by_cases h0:hi=0
 ·subst h0;rw[show(((0:Nat):Int)==0)=true from rfl,ajA,aa y1,aa y1,akW,aj1];have e1:Int.tdiv (lo:Int) (y:Int)=((lo / y:Nat):Int):=rfl;have e2:Int.tmod (lo:Int) (y:Int)=((lo%y:Nat):Int):=rfl;have:=ak8 lo y;rw[e1,e2];generalize lo / y=d at *;rw[aq];congr 1; omega
 ·have hne:((hi:Int)==0)=false:=by simp; omega
  obtain⟨hs64,hYlo,hYhi⟩:=Oa (y:=y) (by omega) hy;rw[hne,ajz,Jj N hy];generalize hs:64 - bl y=s at *;have hs0:0<2 ^ s:=ajM s;have hs1:2 ^ s*2 ^ (64 - s)=18446744073709551616:=by rw[<- ajR,show s+(64 - s)=64 by omega]
  have cp:((2:Int) ^ s)=((2 ^ s:Nat):Int):=by rw[ak1]; rfl
  have cp2:((2:Int) ^ (64 - s))=((2 ^ (64 - s):Nat):Int):=by rw[ak1]; rfl
  have ew:IntKind.wrap .u64 ((s:Nat):Int)=(s:Int):=by rw[aq]; omega
  have ew2:IntKind.wrap .u64 (64 - ((s:Nat):Int))=((64 - s:Nat):Int):=by rw[aq]; omega
  have em:min s 64=s:=by omega
  have em2:min (64 - s) 64=64 - s:=by omega
  simp only[ew,ew2,ajD,em,em2];rw[cp,cp2];have eY:IntKind.wrap .u64 ((y:Int)*((2 ^ s:Nat):Int))=((y*2 ^ s:Nat):Int):=by rw[<- ajU,aq]; omega
  have hm:hi*2 ^ s<y*2 ^ s:=akm hhi hs0;have eH:IntKind.wrap .u64 ((hi:Int)*((2 ^ s:Nat):Int))=((2 ^ s*hi:Nat):Int):=by rw[<- ajU,ajB hi,aq]; rw[ajB hi]at hm; generalize 2 ^ s*hi=H at *; generalize y*2 ^ s=Y at *; omega
  have hlo2:lo / 2 ^ (64 - s)<2 ^ s:=by rw[ajH (ajM _),hs1]; exact hlo
  have hlo3:=aks lo (2 ^ (64 - s));have eT:(hi*18446744073709551616+lo)*2 ^ s=(2 ^ s*hi+lo / 2 ^ (64 - s))*18446744073709551616+lo*2 ^ s%18446744073709551616:=by
   have e1:lo*2 ^ s / 18446744073709551616=lo / 2 ^ (64 - s):=by rw[<- hs1,ajB lo,Nat.mul_div_mul_left _ _ hs0]
   have e2:=aks (lo*2 ^ s) 18446744073709551616;rw[e1]at e2;rw[aj2,<- e2,aj2,amC,ajB hi];omega
  have hD:2 ^ s*hi+lo / 2 ^ (64 - s)<y*2 ^ s:=by have:2 ^ s*(hi+1)<=2 ^ s*y:=ajG _ hhi;rw[ajP,ajB _ y]at this;omega
  have eU:aE .or .u64 ((2 ^ s*hi:Nat):Int) (Int.fdiv (lo:Int) ((2 ^ (64 - s):Nat):Int))=((2 ^ s*hi+lo / 2 ^ (64 - s):Nat):Int):=by rw[mp,zb,cE _ _ s hlo2 (by omega)]
  have eL:IntKind.wrap .u64 ((lo:Int)*((2 ^ s:Nat):Int))=((lo*2 ^ s%18446744073709551616:Nat):Int):=by rw[<- ajU,aq]; omega
  simp only[eY,eH,eU,eL,Ir,l8];have hLlt:lo*2 ^ s%18446744073709551616<18446744073709551616:=ajN _ (by decide);obtain⟨d1,d2⟩:=OJ (m:=hi*18446744073709551616+lo) (p:=0) (y:=y) (s:=s) (2 ^ s*hi+lo / 2 ^ (64 - s)) (lo*2 ^ s%18446744073709551616) 4294967296 _ _ _ (lo*2 ^ s%18446744073709551616 / 4294967296) (lo*2 ^ s%18446744073709551616%4294967296) _ _ (y*2 ^ s) rfl eT (by omega) rfl (by omega) rfl rfl rfl rfl rfl;rw[d1,d2];generalize y*2 ^ s=Y at *;generalize 2 ^ s*hi+lo / 2 ^ (64 - s)=u at *;generalize lo*2 ^ s%18446744073709551616=L at *;have hu1:L / 4294967296<4294967296:=by omega
  have hu0:L%4294967296<4294967296:=by omega
  have eL1:((L:Int) / 4294967296)=((L / 4294967296:Nat):Int):=by omega
  have ea:((Y:Int) / 4294967296)=((Y / 4294967296:Nat):Int):=by omega
  have eY2:Y=Y / 4294967296*4294967296+Y%4294967296:=by omega
  rw[eL1,ea];generalize hu1':L / 4294967296=u1 at *;generalize hu0':L%4294967296=u0 at *;have ha1:2147483648<=Y / 4294967296:=by omega
  have ha2:Y / 4294967296<4294967296:=by omega
  have hc:Y%4294967296<4294967296:=by omega
  generalize Y / 4294967296=a at *;generalize Y%4294967296=c at *;have a0:(!decide ((a:Int)=0))=true:=by simp; omega
  have hD':u<a*4294967296+c:=by omega
  have hY0':0<a*4294967296+c:=by omega
  rw[aa (ajx (by omega)),aa (ajx (by omega)),aa (ajx (by omega)),aa (ajx (by omega)),aa a0];have start:∀ v:Nat,v<18446744073709551616->IntKind.wrap .u64 (Int.tdiv (v:Int) (a:Int))=((v / a:Nat):Int)/\IntKind.wrap .u64 ((v:Int) - (IntKind.wrap .u64 (((v / a:Nat):Int)*(a:Int))))=((v%a:Nat):Int):=by
   intro v hv;have e1:Int.tdiv (v:Int) (a:Int)=((v / a:Nat):Int):=rfl;have h1:=ak8 v a;have h2:=aku v a;rw[e1,<- ajU];generalize v / a*a=P at *;generalize v / a=Q at *;generalize v%a=Z at *;constructor
   ·rw[aq]; omega
   ·rw[aq,aq]; omega
  obtain⟨g1,g2,g3,g4⟩:=Ec ha1 ha2 hc hD' hu1;obtain⟨s1,s2⟩:=start u (by omega);rw[s1,s2,Lw ha2 hc hu1 hD' (λp=>ale hY0') (Dj hu1 hD') _ (u / a) (u%a) N (by omega) g1 g2 g3 g4];rw[aa a0];rw[<- eY2];have hY0:0<Y:=by omega
  have hR1:=ajN (u*4294967296+u1) hY0;have hE1:=aku (u*4294967296+u1) Y;have e21:IntKind.wrap .u64 ((IntKind.wrap .u64 ((IntKind.wrap .u64 ((u:Int)*4294967296))+(u1:Int))) - (IntKind.wrap .u64 ((((u*4294967296+u1) / Y:Nat):Int)*(Y:Int))))=(((u*4294967296+u1)%Y:Nat):Int):=by rw[<- ajU];generalize (u*4294967296+u1) / Y*Y=P at *;rw[aq,aq,aq,aq]; omega
  simp only[e21];have hq1:(u*4294967296+u1) / Y<4294967296:=by rw[eY2]; exact Dj hu1 hD'
  obtain⟨q1,hq1e⟩:∃ q,q=(u*4294967296+u1) / Y:=⟨_,rfl⟩
  obtain⟨R1,hR1e⟩:∃ q,q=(u*4294967296+u1)%Y:=⟨_,rfl⟩
  rw[<- hq1e,<- hR1e];rw[<- hq1e]at hq1;rw[<- hR1e]at hR1;have hD2:R1<a*4294967296+c:=by omega
  obtain⟨g1,g2,g3,g4⟩:=Ec ha1 ha2 hc hD2 hu0;obtain⟨s1,s2⟩:=start R1 (by omega);rw[s1,s2,Lx ha2 hc hu0 hD2 (λp=>ale hY0') (Dj hu0 hD2) _ (R1 / a) (R1%a) N (by omega) g1 g2 g3 g4,<- eY2];rw[aa (ajx (by omega))];have hR0:=ajN (R1*4294967296+u0) hY0;have hE0:=aku (R1*4294967296+u0) Y;have hq0:(R1*4294967296+u0) / Y<4294967296:=by rw[eY2]; exact Dj hu0 hD2
  have e20:IntKind.wrap .u64 ((IntKind.wrap .u64 ((IntKind.wrap .u64 ((R1:Int)*4294967296))+(u0:Int))) - (IntKind.wrap .u64 ((((R1*4294967296+u0) / Y:Nat):Int)*(Y:Int))))=(((R1*4294967296+u0)%Y:Nat):Int):=by
   rw[<- ajU];obtain⟨P,hP⟩:∃ q,q=(R1*4294967296+u0) / Y*Y:=⟨_,rfl⟩
   obtain⟨Z,hZ⟩:∃ q,q=(R1*4294967296+u0)%Y:=⟨_,rfl⟩
   rw[<- hP,<- hZ]at hE0;rw[<- hZ]at hR0;rw[<- hP,<- hZ];rw[aq,aq,aq,aq]; omega
  rw[e20,mp];obtain⟨q0,hq0e⟩:∃ q,q=(R1*4294967296+u0) / Y:=⟨_,rfl⟩
  rw[<- hq0e]at hq0;rw[<- hq0e];congr 1;rw[aq,aq]; omega
theorem NT (Q n m:Nat) (h:m<n):(List.replicate (m+1) (0:Int)++(dlq Q n).drop (m+1)).set m ((Q / 18446744073709551616 ^ m%18446744073709551616:Nat):Int)=List.replicate m 0++(dlq Q n).drop m:=by rw[ak9,ajQ,List.singleton_append,be _ _ _ _ _ (by simp),dp (n:=m) (by rw[ak]; exact h),wM Q h]
theorem GJ {A d:Nat} (hd:0<d):(A / 18446744073709551616%d*18446744073709551616+A%18446744073709551616)%d=A%d/\(A / 18446744073709551616%d*18446744073709551616+A%18446744073709551616) / d=A / d%18446744073709551616:=by
 have h1:=aks A 18446744073709551616;have h2:=aks (A / 18446744073709551616) d;have h3:=ajN (A / 18446744073709551616) hd;have h4:A%18446744073709551616<18446744073709551616:=ajN _ (by decide);obtain⟨a,ha⟩:∃ a,a=A / 18446744073709551616:=⟨_,rfl⟩
 obtain⟨e,he⟩:∃ e,e=A%18446744073709551616:=⟨_,rfl⟩
 rw[<- ha]at h1 h2 h3 ⊢;rw[<- he]at h1 h4 ⊢;obtain⟨c,hc⟩:∃ c,c=a / d:=⟨_,rfl⟩
 obtain⟨r,hr⟩:∃ r,r=a%d:=⟨_,rfl⟩
 rw[<- hc,<- hr]at h2;rw[<- hr]at h3 ⊢;have h5:A=d*(c*18446744073709551616)+(r*18446744073709551616+e):=by rw[<- h1,<- h2,<- ajI,ajP,ajB 18446744073709551616,ajB 18446744073709551616]; omega
 constructor
 ·rw[h5,alK]
 ·rw[h5,amx hd,ajB c,alK];refine(ajJ ?_).symm;rw[ajH hd];have:=ajE 18446744073709551616 h3;rw[ak5]at this;rw[ajB _ d,ajB d];rw[ajB d]at this;omega
theorem kZ (x:Nat):x<18446744073709551616 ^ (ae x).length:=by have:=ju (aY x); rwa [aF]at this
theorem Ps {N:Nat} (hN:8589934592<=N) {x d:Nat} (hd0:0<d) (hd:d<18446744073709551616) (hs:ny N (ae x)) (k:List Int->Int->Bool):J8 N (ae x) (d:Int) k=k (ae (x / d)) ((x%d:Nat):Int):=by
 (unfold J8; rw[af]; unfold QC)
 obtain⟨s1,s2⟩:=hs;have hx:=kZ x;generalize hn:(ae x).length=n at *;rw[aa (bR (by omega) (by omega) (by omega) (by omega)),aa ajv,ajD];refine aH (λi=>(((x / 18446744073709551616 ^ (n - i)%d:Nat):Int),((n:Int) - 1 - (i:Int)),List.replicate (n - i) (0:Int)++(dlq (x / d) n).drop (n - i))) n ?_ (by omega) (λi hi K=>?_) (λK=>?_)
 ·rw[alD,aj3 hx,Nat.zero_mod,aki (by rw[ak]; omega),aj6];simp
 ·obtain⟨m,hm⟩:∃ m,n - i=m+1:=⟨n - i - 1,by omega⟩
  have hm2:n - (i+1)=m:=by omega
  have ei:(n:Int) - 1 - (i:Int)=(m:Int):=by omega
  have ei2:(n:Int) - 1 - ((i+1:Nat):Int)=(m:Int) - 1:=by omega
  have hp:x / 18446744073709551616 ^ (m+1)=x / 18446744073709551616 ^ m / 18446744073709551616:=by rw[ajK,ajF]
  have hdg:x / d / 18446744073709551616 ^ m%18446744073709551616=x / 18446744073709551616 ^ m / d%18446744073709551616:=by rw[ajF,ajF,ajB d]
  obtain⟨n1,n2⟩:=GJ (A:=x / 18446744073709551616 ^ m) hd0;rw[hm,hm2,ei,ei2,hp];simp only[mI,ajD];have hl:(List.replicate (m+1) (0:Int)++(dlq (x / d) n).drop (m+1)).length=n:=by simp[ak]; omega
  rw[ajx (by omega:(m:Int)>=0),ajA,hn,aa ajw,q_,Gc hN hd (ajN _ (by decide)) (ajN _ hd0),n1,n2,<- hdg,hl,aa ajw,aa (ajx (by omega)),aa ajv,NT _ _ _ (by omega)]
 ·simp only[mI];have e0:(n:Int) - 1 - (n:Int) = -1:=by omega
  rw[e0,ajy (by omega),ajz,aj8,alq,aln];rw[aka,akl,ak2];have hq:x / d<18446744073709551616 ^ n:=ak7 (ak8 _ _) hx;rw[mn _ (il _ _) (by rw[ak]; omega) (by rw[ak]; omega) (λz=>k z ((x%d:Nat):Int)),oy hq]
theorem Hn {P A B U3 V2 U V g:Nat} (hA:A<P) (hU:U=A+P*U3) (hV:V=B+P*V2) (hV0:0<V) (h:U3<g*V2):U / V<g:=by rw[ajH hV0,hU,hV,ajP,ajZ g P V2];have:=ajG P h;rw[amQ]at this;omega
theorem Np {W P A B U V u0 u1 u2 v0 v1:Nat} (hA:A<P) (hU:U=A+P*(u0+W*(u2*W+u1))) (hV:V=B+P*(v0+W*v1)) (hV0:0<V) (hv1:0<v1) (hu0:u0<W):U / V<=(u2*W+u1) / v1:=by
 refine Nat.le_of_lt_succ (Hn hA hU hV hV0 ?_);have h1:=alZ (u2*W+u1) hv1;rw[ajB v1]at h1;have h2:=ajG W h1;rw[amQ]at h2;have e:((u2*W+u1) / v1).succ*(v0+W*v1)=((u2*W+u1) / v1).succ*v0+W*(((u2*W+u1) / v1+1)*v1):=by rw[ajP,ajZ]
 rw[e];omega
theorem Lv {N:Nat} {o n u0 v0 v1 T d:Nat} {b c:List Int} (hn:2<=n) (hc1:c.getD (n - 2) 0=(v0:Int)) (hc2:c.getD (n - 1) 0=(v1:Int)) (hb:b.getD (o+(n - 2)) 0=(u0:Int)) (hcl:n<=c.length) (hbl:o+n+1<=b.length) (hbs:b.length<=1099511627780)
  (hv0:v0<18446744073709551616) (hv1:v1<18446744073709551616) (hu0:u0<18446744073709551616) (hd:∀ g,u0+18446744073709551616*T<g*(v0+18446744073709551616*v1)->d<g) :
  ∀ q r M,q<M->q<18446744073709551616->q*v1+r=T->r<18446744073709551616->d<=q ->
   ∃ g,d<=g/\g<18446744073709551616 /\ ∀ e0,al M (xI N o (n+1) 0 n (n:Int) b c e0) ((q:Int),(r:Int))=e0 (g:Int):=by
 intro q;induction q using Nat.strongRecOn with
 | ind q ih=>
 intro r M hM hq hT hr hdq;obtain⟨M,rfl⟩:∃ m,M=m+1:=⟨M - 1,by omega⟩
 have i2:0+Int.toNat ((n:Int) - 2)=n - 2:=by omega
 have i1:0+Int.toNat ((n:Int) - 1)=n - 1:=by omega
 have j2:o+Int.toNat ((n:Int) - 2)=o+(n - 2):=by omega
 have hqv:=aks (q*v0) 18446744073709551616;have hlo:q*v0%18446744073709551616<18446744073709551616:=ajN _ (by decide);by_cases hex:q*v0<=r*18446744073709551616+u0
 ·refine⟨q,hdq,hq,λe0=>?_⟩;show xI N o (n+1) 0 n (n:Int) b c e0 ((q:Int),(r:Int)) (al M _)=_;simp only[xI,i2,i1,j2,hc1,hc2,hb];rw[aa ajv,aa ajw,aa (ajx (by omega)),BO N hq hv0];generalize q*v0%18446744073709551616=lo at *;generalize q*v0 / 18446744073709551616=hi at *;rcases ama hi r with h | h | h
  ·rw[ajx (by omega:(hi:Int)<r),show(true==false)=false from rfl,ajz]
  ·subst h;rw[ajy (by omega:¬(hi:Int)<hi),show(false==false)=true from rfl,ajA,show((hi:Int)==hi)=true by simp,show(true==true)=true from rfl,ajA,aa ajv,aa ajw,aa (ajx (by omega)),ajx (by omega:(lo:Int)<=u0),ajA]
  ·exfalso; omega
 ·have hgt:=hd q (by rw[ajP,ajZ,<- hT]; rw[ajP]; omega);obtain⟨p,rfl⟩:∃ p,q=p+1:=⟨q - 1,by omega⟩
  have w1:IntKind.wrap .u64 (((p+1:Nat):Int) - 1)=(p:Int):=by rw[aq]; omega
  have step:∀ e0:Int->Bool,al (M+1) (xI N o (n+1) 0 n (n:Int) b c e0) (((p+1:Nat):Int),(r:Int))
    = cond (decide (18446744073709551616<=r+v1)) (e0 (p:Int)) (al M (xI N o (n+1) 0 n (n:Int) b c e0) ((p:Int),((r+v1:Nat):Int))):=by
   intro e0;show xI N o (n+1) 0 n (n:Int) b c e0 (((p+1:Nat):Int),(r:Int)) (al M _)=_;simp only[xI,i2,i1,j2,hc1,hc2,hb];have tail:(ah .i64 ((n:Int) - 1)&&((inR ((n:Int) - 1) n)&&((decide (n - 1<c.length))&&(sQ6 N (r:Int) (v1:Int) 0 (λ(acP:Int) (n5:Int)=>(cond (n5 != 0) (e0 (IntKind.wrap .u64 (((p+1:Nat):Int) - 1))) (al M (xI N o (n+1) 0 n (n:Int) b c e0) ((IntKind.wrap .u64 (((p+1:Nat):Int) - 1)),acP))))))))
     = cond (decide (18446744073709551616<=r+v1)) (e0 (p:Int)) (al M (xI N o (n+1) 0 n (n:Int) b c e0) ((p:Int),((r+v1:Nat):Int))):=by
    rw[aa ajv,aa ajw,aa (ajx (by omega)),qS N (c:=0) (a:=r) (b:=v1) (d:=0) rfl rfl rfl (by omega),w1];by_cases hb2:18446744073709551616<=r+v1
    ·have:(((r+v1+0) / 18446744073709551616:Nat):Int)=1:=by omega
     rw[this,ajx hb2]; rfl
    ·have:(((r+v1+0) / 18446744073709551616:Nat):Int)=0:=by omega
     have e2:(r+v1+0)%18446744073709551616=r+v1:=by omega
     rw[this,e2,ajy hb2]; rfl
   rw[aa ajv,aa ajw,aa (ajx (by omega)),BO N hq hv0];generalize (p+1)*v0%18446744073709551616=lo at *;generalize (p+1)*v0 / 18446744073709551616=hi at *;rcases ama hi r with h | h | h
   ·exfalso; omega
   ·subst h;rw[ajy (by omega:¬(hi:Int)<hi),show(false==false)=true from rfl,ajA,show((hi:Int)==hi)=true by simp,show(true==true)=true from rfl,ajA,aa ajv,aa ajw,aa (ajx (by omega)),ajy (by omega:¬(lo:Int)<=u0),ajz];exact tail
   ·rw[ajy (by omega:¬(hi:Int)<r),show(false==false)=true from rfl,ajA,show((hi:Int)==r)=false by simp; omega,show(false==true)=false from rfl,ajz];exact tail
  by_cases hb2:18446744073709551616<=r+v1
  ·exact⟨p,by omega,by omega,λe0=>by rw[step,ajx hb2,ajA]⟩
  ·obtain⟨g,g1,g2,g3⟩:=ih p (by omega) (r+v1) M (by omega) (by omega) (by rw[<- hT,ak5]; omega) (by omega) (by omega);exact⟨g,g1,g2,λe0=>by rw[step,ajy hb2,ajz]; exact g3 e0⟩
theorem lH {b:List Int} (o i:Nat):(b.drop o).getD i 0=b.getD (o+i) 0:=by rw[List.getD_eq_getElem?_getD,List.getD_eq_getElem?_getD,List.getElem?_drop]
theorem acb (c:List Int) (m:Nat):ax (c.take (m+3))=ax (c.take m)+18446744073709551616 ^ m*((c.getD m 0).toNat+18446744073709551616*((c.getD (m+2) 0).toNat*18446744073709551616+(c.getD (m+1) 0).toNat)):=by rw[show m+3=m+2+1 by omega,aN,show m+2=m+1+1 by omega,aN,aN];simp only[ajK];generalize 18446744073709551616 ^ m=P;grind
theorem aca (c:List Int) (m:Nat):ax (c.take (m+2))=ax (c.take m)+18446744073709551616 ^ m*((c.getD m 0).toNat+18446744073709551616*(c.getD (m+1) 0).toNat):=by rw[show m+2=m+1+1 by omega,aN,aN];simp only[ajK];generalize 18446744073709551616 ^ m=P;grind
theorem Pf {N:Nat} (hN:1180591620717411303424<=N) {o n:Nat} {b c:List Int} (hn:2<=n) (hb:InWq b) (hc:InWq c) (hcl:n<=c.length) (hbl:o+n+1<=b.length) (hbs:b.length<=1099511627780)
  (htop:0<(c.getD (n - 1) 0).toNat) (hU:ax ((b.drop o).take (n+1))<ax (c.take n)*18446744073709551616) :
  ∃ g:Nat,ax ((b.drop o).take (n+1)) / ax (c.take n)<=g/\g<18446744073709551616 /\ ∀ k,Vz N o (n+1) 0 n b c k=k (g:Int):=by
 obtain⟨m,rfl⟩:∃ m,n=m+2:=⟨n - 2,by omega⟩
 have hU3:=acb (b.drop o) m;have hV2:=aca c m;rw[lH,lH,lH]at hU3;have a0:=hb.at (i:=o+m);have a1:=hb.at (i:=o+(m+1));have a2:=hb.at (i:=o+(m+2));have c0:=hc.at (i:=m);have c1:=hc.at (i:=m+1);have hA:=aS (hb.drop o) m;have hB:=aS hc m;rw[show m+2 - 1=m+1 by omega]at htop;obtain⟨u0,hu0⟩:∃ u,u=(b.getD (o+m) 0).toNat:=⟨_,rfl⟩
 obtain⟨u1,hu1⟩:∃ u,u=(b.getD (o+(m+1)) 0).toNat:=⟨_,rfl⟩
 obtain⟨u2,hu2⟩:∃ u,u=(b.getD (o+(m+2)) 0).toNat:=⟨_,rfl⟩
 obtain⟨v0,hv0⟩:∃ u,u=(c.getD m 0).toNat:=⟨_,rfl⟩
 obtain⟨v1,hv1⟩:∃ u,u=(c.getD (m+1) 0).toNat:=⟨_,rfl⟩
 have g0:b.getD (o+m) 0=(u0:Int):=by omega
 have g1:b.getD (o+(m+1)) 0=(u1:Int):=by omega
 have g2:b.getD (o+(m+2)) 0=(u2:Int):=by omega
 have k0:c.getD m 0=(v0:Int):=by omega
 have k1:c.getD (m+1) 0=(v1:Int):=by omega
 rw[<- hu0,<- hu1,<- hu2]at hU3;rw[<- hv0,<- hv1]at hV2;rw[<- hv1]at htop;rw[show m+2+1=m+3 by omega];rw[show m+2+1=m+3 by omega]at hU;generalize ax ((b.drop o).take (m+3))=U at *;generalize ax (c.take (m+2))=V at *;have hV0:0<V:=by
  rcases akT V with h | h
  ·rw[h,akW]at hU; omega
  ·exact h
 have hq:U / V<18446744073709551616:=by rw[ajH hV0,ajB]; exact hU
 have i2:o+Int.toNat (((m+2:Nat):Int))=o+(m+2):=by omega
 have i1:o+Int.toNat (((m+2:Nat):Int) - 1)=o+(m+1):=by omega
 have j1:0+Int.toNat (((m+2:Nat):Int) - 1)=m+1:=by omega
 by_cases h0:v1<=u2
 ·refine⟨18446744073709551615,by omega,by omega,λk=>?_⟩
  (unfold Vz; rw[af]; unfold Uk)
  simp only[i2,i1,j1,g2,g1,k1];rw[aa ajw,aa (ajx (by omega)),aa ajv,aa ajw,aa (ajx (by omega)),ajx (by omega:(u2:Int)>=v1),ajA];rfl
 ·have hT:(u2*18446744073709551616+u1) / v1<18446744073709551616:=by rw[ajH htop];have:=ajG 18446744073709551616 (Nat.lt_of_not_le h0);rw[amQ]at this;omega
  obtain⟨g,e1,e2,e3⟩:=Lv (N:=N) (o:=o) (n:=m+2) (T:=u2*18446744073709551616+u1) (d:=U / V) (u0:=u0) (v0:=v0) (v1:=v1) (by omega) (by rw[show m+2 - 2=m by omega]; exact k0) (by rw[show m+2 - 1=m+1 by omega]; exact k1) (by rw[show m+2 - 2=m by omega]; exact g0) hcl hbl hbs (by omega) (by omega) (by omega)
   (λg hg=>Hn hA hU3 hV2 hV0 hg)
   ((u2*18446744073709551616+u1) / v1) ((u2*18446744073709551616+u1)%v1) N (by omega) hT (aku _ _) (ali (ajN _ htop) (by omega)) (Np hA hU3 hV2 hV0 htop (by omega))
  refine⟨g,e1,e2,λk=>?_⟩
  (unfold Vz; rw[af]; unfold Uk)
  simp only[i2,i1,j1,g2,g1,k1];rw[aa ajw,aa (ajx (by omega)),aa ajv,aa ajw,aa (ajx (by omega)),ajy (by omega:¬(u2:Int)>=v1),ajz];rw[aa ajw,aa (ajx (by omega)),aa ajv,aa ajw,aa (ajx (by omega)),aa ajv,aa ajw,aa (ajx (by omega))];rw[Gc (by omega) (by omega) (by omega) (by omega),e3]
theorem Oi {b:List Int} {o i:Nat} (D:Nat) (h:o+i<=b.length):(b.take o++(dlq D i++b.drop (o+i))).length=b.length:=by simp[ak]; omega
theorem Oh {b:List Int} {o i:Nat} (D:Nat) (h:o+i<b.length):(b.take o++(dlq D i++b.drop (o+i))).getD (o+i) 0=b.getD (o+i) 0:=by rw[<- ajQ,dp h,bX (by simp[ak]; omega)]
theorem Oj {b:List Int} {o i:Nat} (D:Nat) (h:o+i<b.length):(b.take o++(dlq D i++b.drop (o+i))).set (o+i) ((D / 18446744073709551616 ^ i%18446744073709551616:Nat):Int)=b.take o++(dlq D (i+1)++b.drop (o+(i+1))):=by rw[<- ajQ,dp h,be _ _ _ _ _ (by simp[ak]; omega),dlq];simp[akf]
theorem Of {b:List Int} {o i n:Nat} (D E:Nat) (hi:i<=n) (h:o+n<=b.length):(b.take o++(dlq E i++((dlq D n).drop i++b.drop (o+n)))).length=b.length:=by simp[ak]; omega
theorem Oe {b:List Int} {o i n:Nat} (D E:Nat) (hi:i<n) (h:o+n<=b.length):(b.take o++(dlq E i++((dlq D n).drop i++b.drop (o+n)))).getD (o+i) 0=((D / 18446744073709551616 ^ i%18446744073709551616:Nat):Int):=by rw[<- ajQ,dp (n:=i) (by rw[ak]; exact hi),alh,bX (by simp[ak]; omega),wM D hi]
theorem Og {b:List Int} {o i n:Nat} (D E:Nat) (hi:i<n) (h:o+n<=b.length):(b.take o++(dlq E i++((dlq D n).drop i++b.drop (o+n)))).set (o+i) ((E / 18446744073709551616 ^ i%18446744073709551616:Nat):Int)=b.take o++(dlq E (i+1)++((dlq D n).drop (i+1)++b.drop (o+n))):=by rw[<- ajQ,dp (n:=i) (by rw[ak]; exact hi),alh,be _ _ _ _ _ (by simp[ak]; omega),dlq];simp
theorem Nf {m:Nat} (S X:Nat):∀ n,n<=m->dlq (S+18446744073709551616 ^ m*X) n=dlq S n
 | 0,_=>rfl
 | n+1,h=>by rw[dlq,dlq,Nf S X n (by omega)];congr 3;refine jL (R:=18446744073709551616 ^ (m - (n+1))*X) ?_;rw[<- ajI,<- ajR,show n+1+(m - (n+1))=m by omega]
theorem GM {w:List Int} {n i U Q:Nat} (hw:InWq w) (hl:w.length=n+1) (hU:U=ax w) (hi:i<=n) (hQ:Q<18446744073709551616 ^ (n+1)) :
  (((w.getD i 0).toNat+18446744073709551616 - Q / 18446744073709551616 ^ i%18446744073709551616 - (if ax (w.take i)<Q%18446744073709551616 ^ i then 1 else 0))%18446744073709551616=(U+18446744073709551616 ^ (n+1) - Q) / 18446744073709551616 ^ i%18446744073709551616)
  /\ (if (w.getD i 0).toNat<Q / 18446744073709551616 ^ i%18446744073709551616+(if ax (w.take i)<Q%18446744073709551616 ^ i then 1 else 0)then 1 else 0)=(if ax (w.take (i+1))<Q%18446744073709551616 ^ (i+1)then 1 else(0:Nat)):=by
 have hx:=hw.at (i:=i);have hA:=aN (m:=w) i;have hAl:=aS hw i;have hp:=bb i;have hBl:=ajN Q hp;have hPs:18446744073709551616 ^ (i+1)=18446744073709551616 ^ i*18446744073709551616:=ajK ..;have hmm:Q%18446744073709551616 ^ (i+1)=Q%18446744073709551616 ^ i+18446744073709551616 ^ i*(Q / 18446744073709551616 ^ i%18446744073709551616):=by rw[hPs,amr]
 have hyl:Q / 18446744073709551616 ^ i%18446744073709551616<18446744073709551616:=ajN _ (by decide);constructor
 ·obtain⟨R1,h1⟩:=bF w (i+1);have hW:18446744073709551616 ^ (n+1)=18446744073709551616 ^ i*18446744073709551616*18446744073709551616 ^ (n - i):=by rw[<- hPs,<- ajR,show i+1+(n - i)=n+1 by omega]
  have hq:=F2 (D:=U+18446744073709551616 ^ (n+1) - Q) (a:=U+18446744073709551616 ^ (n+1)) (b:=Q) (x:=(w.getD i 0).toNat) (y:=Q / 18446744073709551616 ^ i%18446744073709551616) (R1:=R1+18446744073709551616 ^ (n - i)) (R2:=Q / (18446744073709551616 ^ i*18446744073709551616)) hAl hBl rfl
   (by rw[hU,h1,hA,hW,hPs,ajP]; omega)
   (by rw[<- hmm,hPs]; exact(alJ _ _).symm)
   (by omega)
  generalize (U+18446744073709551616 ^ (n+1) - Q) / 18446744073709551616 ^ i=Z at *;generalize Q / 18446744073709551616 ^ i%18446744073709551616=y at *;generalize (w.getD i 0).toNat=x at *;generalize ((R1+18446744073709551616 ^ (n - i):Nat):Int) - ((Q / (18446744073709551616 ^ i*18446744073709551616):Nat):Int)=RR at *;split at hq <;> rename_i hh <;> simp only[hh,ak6,aj5] <;> omega
 ·rw[hA,hmm];exact(sA _ _ _ _ _ hAl hBl).symm
theorem mq (i:Nat):(i:Int)+1=((i+1:Nat):Int):=rfl
theorem IA (p:Prop) [Decidable p]:(if p then(1:Int)else 0)=((if p then 1 else 0:Nat):Int):=by split <;> rfl
theorem KE (p:Nat) (h:p<18446744073709551616):IntKind.wrap .u64 (((p+1:Nat):Int) - 1)=(p:Int):=by rw[aq]; omega
theorem FT {D V c v i:Nat} (hc:c=(D%18446744073709551616 ^ i+V) / 18446744073709551616 ^ i) :
  (D%18446744073709551616 ^ (i+1)+(V+18446744073709551616 ^ i*v)) / 18446744073709551616 ^ (i+1)=(D / 18446744073709551616 ^ i%18446744073709551616+v+c) / 18446744073709551616 /\
  ∀ R,(D+(V+18446744073709551616 ^ i*v+18446744073709551616 ^ (i+1)*R)) / 18446744073709551616 ^ i%18446744073709551616=(D / 18446744073709551616 ^ i%18446744073709551616+v+c)%18446744073709551616:=by
 have hp:=bb i;have hPs:18446744073709551616 ^ (i+1)=18446744073709551616 ^ i*18446744073709551616:=ajK ..;have hmm:D%18446744073709551616 ^ (i+1)=D%18446744073709551616 ^ i+18446744073709551616 ^ i*(D / 18446744073709551616 ^ i%18446744073709551616):=by rw[hPs,amr]
 have e:D%18446744073709551616 ^ (i+1)+(V+18446744073709551616 ^ i*v)=(D%18446744073709551616 ^ i+V)+18446744073709551616 ^ i*(D / 18446744073709551616 ^ i%18446744073709551616+v):=by rw[hmm,ajP]; omega
 have e2:(D%18446744073709551616 ^ (i+1)+(V+18446744073709551616 ^ i*v)) / 18446744073709551616 ^ i=D / 18446744073709551616 ^ i%18446744073709551616+v+c:=by rw[e,cO,<- hc]; omega
 constructor
 ·rw[hPs,<- ajF,<- hPs,e2]
 ·intro R;have e3:D+(V+18446744073709551616 ^ i*v+18446744073709551616 ^ (i+1)*R)=(D%18446744073709551616 ^ (i+1)+(V+18446744073709551616 ^ i*v))+18446744073709551616 ^ (i+1)*(D / 18446744073709551616 ^ (i+1)+R):=by have:=alJ D (18446744073709551616 ^ (i+1));rw[ajP]; omega
  rw[jL e3,e2]
theorem KX {D V c i:Nat} (hc:c=(D%18446744073709551616 ^ i+V) / 18446744073709551616 ^ i) :
  (D%18446744073709551616 ^ (i+1)+V) / 18446744073709551616 ^ (i+1)=(D / 18446744073709551616 ^ i%18446744073709551616+0+c) / 18446744073709551616 /\
  (D+V) / 18446744073709551616 ^ i%18446744073709551616=(D / 18446744073709551616 ^ i%18446744073709551616+0+c)%18446744073709551616:=by
 obtain⟨a1,a2⟩:=FT (v:=0) hc;have a3:=a2 0;rw[akQ,aj4 V]at a1;rw[akQ,akQ,aj4 V]at a3;exact⟨a1,a3⟩
theorem OB {N:Nat} (hN:1180591620717411303424<=N) {o n U V d:Nat} {b c:List Int} (hn:1<=n) (hc:InWq c) (hcl:n<=c.length) (hbl:o+(n+1)<=b.length) (hbs:b.length<=1099511627780) (hV:V=ax (c.take n)) (hUW:U<18446744073709551616 ^ (n+1)) (hd:∀ g,g<=d↔g*V<=U) (e0:Int->List Int->Bool) :
  ∀ g M,g<M->g<18446744073709551616->d<=g->g*V<18446744073709551616 ^ (n+1) ->
   al M (xH N o (n+1) 0 n (n:Int) c e0) ((g:Int),((if U<g*V then 1 else 0:Nat):Int),b.take o++(dlq (U+18446744073709551616 ^ (n+1) - g*V) (n+1)++b.drop (o+(n+1))))=e0 (d:Int) (b.take o++(dlq (U+18446744073709551616 ^ (n+1) - d*V) (n+1)++b.drop (o+(n+1)))):=by
 intro g;induction g with
 | zero=>
  intro M hM _ hdg _;obtain⟨M,rfl⟩:∃ m,M=m+1:=⟨M - 1,by omega⟩
  have:d=0:=by omega
  subst this;show xH N o (n+1) 0 n (n:Int) c e0 (_,_,_) (al M _)=_;simp only[xH,akW];rw[if_neg (by omega:¬ U<0),show(((0:Nat):Int) != 0)=false from rfl,ajz]
 | succ p ih=>
  intro M hM hg hdg hgW;obtain⟨M,rfl⟩:∃ m,M=m+1:=⟨M - 1,by omega⟩
  show xH N o (n+1) 0 n (n:Int) c e0 (_,_,_) (al M _)=_;have hps:(p+1)*V=p*V+V:=ak5 _ _;by_cases hlt:U<(p+1)*V
  ·have hdp:d<=p:=by
    rcases akv p d with h | h
    ·have:=(hd (p+1)).1 h; omega
    ·exact h
   simp only[xH];rw[if_pos hlt,show(((1:Nat):Int) != 0)=true from rfl,ajA];obtain⟨D,hD⟩:∃ D,D=U+18446744073709551616 ^ (n+1) - (p+1)*V:=⟨_,rfl⟩
   obtain⟨E,hE⟩:∃ E,E=U+18446744073709551616 ^ (n+1) - p*V:=⟨_,rfl⟩
   have hDE:E=D+V:=by omega
   have hDl:D<18446744073709551616 ^ (n+1):=by omega
   rw[<- hD];refine aH (λi=>((((D%18446744073709551616 ^ i+ax (c.take i)) / 18446744073709551616 ^ i:Nat):Int),(i:Int),b.take o++(dlq E i++((dlq D (n+1)).drop i++b.drop (o+(n+1)))))) n ?_ (by omega) (λi hi K=>?_) (λK=>?_)
   ·simp[dlq,ax,al_]
   ·have hx:=hc.at (i:=i);have hcv:=aN (m:=c) i;have hVl:=aS hc i;have hp:=bb i;have hml:=ajN D hp;obtain⟨cy,hcy⟩:∃ cy,cy=(D%18446744073709551616 ^ i+ax (c.take i)) / 18446744073709551616 ^ i:=⟨_,rfl⟩
    have hcl1:cy<=1:=by
     have:cy<2:=by rw[hcy,ajH hp]; omega
     omega
    obtain⟨a1,a2⟩:=FT (D:=D) (V:=ax (c.take i)) (v:=(c.getD i 0).toNat) hcy;obtain⟨R,hR⟩:=bF (c.take n) (i+1);rw[amE,akS (by omega),<- hV,hcv]at hR;have a3:=a2 R;rw[<- hR,<- hDE]at a3;have hdl:D / 18446744073709551616 ^ i%18446744073709551616<18446744073709551616:=ajN _ (by decide);simp only[iO,ajD,aj1];rw[Of D E (by omega) (by omega),Oe D E (by omega) (by omega)];rw[ajx (by omega:(i:Int)<n),ajA,aa ajw,aa (ajx (by omega)),aa ajw,aa (ajx (by omega)),<- hcy,
     qS N (a:=D / 18446744073709551616 ^ i%18446744073709551616) (b:=(c.getD i 0).toNat) (d:=cy) rfl (by omega) rfl hcl1,aa ajw,aa (ajx (by omega)),aa ajv,<- a3,Og D E (by omega) (by omega),<- a1,hcv,mq]
   ·have hp:=bb n;have hml:=ajN D hp;have hVl:V<18446744073709551616 ^ n:=by rw[hV]; exact aS hc n
    obtain⟨cy,hcy⟩:∃ cy,cy=(D%18446744073709551616 ^ n+V) / 18446744073709551616 ^ n:=⟨_,rfl⟩
    have hcl1:cy<=1:=by
     have:cy<2:=by rw[hcy,ajH hp]; omega
     omega
    obtain⟨a1,a3⟩:=KX (D:=D) (V:=V) (i:=n) hcy;rw[ajJ hDl,<- hDE]at a1;rw[<- hDE]at a3;simp only[iO,ajD];rw[ajy (by omega:¬(n:Int)<n),ajz,Of D E (by omega) (by omega),Oe D E (by omega) (by omega),<- hV,<- hcy,aa ajw,aa (ajx (by omega)),
     qS N (y:=0) (c:=((cy:Nat):Int)) (a:=D / 18446744073709551616 ^ n%18446744073709551616) (b:=0) (d:=cy) rfl rfl rfl hcl1,aa ajw,aa (ajx (by omega)),<- a3,<- a1,Og D E (by omega) (by omega),KE p (by omega)]
    rw[aki (by rw[ak]; omega),akl];have eb:IntKind.wrap .u64 (((1:Nat):Int) - ((E / 18446744073709551616 ^ (n+1):Nat):Int))=((if U<p*V then 1 else 0:Nat):Int):=by
     have hp1:=bb (n+1);by_cases h:U<p*V
     ·rw[if_pos h,aj3 (by omega),aq]; omega
     ·rw[if_neg h];have:E / 18446744073709551616 ^ (n+1)=1:=by refine Nat.div_eq_of_lt_le ?_ ?_ <;> omega
      rw[this,aq]; omega
    rw[eb,hE];exact ih M (by omega) (by omega) hdp (by omega)
  ·have:d=p+1:=by have:=(hd (p+1)).2 (by omega);omega
   subst this;simp only[xH];rw[if_neg hlt,show(((0:Nat):Int) != 0)=false from rfl,ajz]
theorem SR {N:Nat} (hN:1180591620717411303424<=N) {o n:Nat} {b c:List Int} (hn:2<=n) (hb:InWq b) (hc:InWq c) (hcl:n<=c.length) (hbl:o+(n+1)<=b.length) (hbs:b.length<=1099511627780)
  (htop:0<(c.getD (n - 1) 0).toNat) (hU:ax ((b.drop o).take (n+1))<ax (c.take n)*18446744073709551616) (k:Ky5) :
  Tm N o (n+1) 0 n b c k=k ((ax ((b.drop o).take (n+1)) / ax (c.take n):Nat):Int) (b.take o++(dlq (ax ((b.drop o).take (n+1))%ax (c.take n)) (n+1)++b.drop (o+(n+1)))):=by
 obtain⟨g,g1,g2,g3⟩:=Pf hN hn hb hc hcl (by omega) hbs htop hU
 (unfold Tm; rw[af]; unfold Qb)
 rw[g3];have hw:InWq ((b.drop o).take (n+1)):=(hb.drop o).take _;have hwl:((b.drop o).take (n+1)).length=n+1:=by rw[akc,ala]; omega
 have hwg:∀ i,i<=n->((b.drop o).take (n+1)).getD i 0=b.getD (o+i) 0:=λi hi=>by rw[yk (by omega),lH]
 generalize (b.drop o).take (n+1)=w at *;obtain⟨U,hUe⟩:∃ U,U=ax w:=⟨_,rfl⟩
 obtain⟨V,hVe⟩:∃ V,V=ax (c.take n):=⟨_,rfl⟩
 rw[<- hUe,<- hVe]at hU g1 ⊢;have hV0:0<V:=by
  rcases akT V with h | h
  ·rw[h,akW]at hU; omega
  ·exact h
 have hVl:V<18446744073709551616 ^ n:=by rw[hVe]; exact aS hc n
 have hUW:U<18446744073709551616 ^ (n+1):=by rw[hUe]; have:=ju hw; rwa [hwl]at this
 have hgV:g*V<18446744073709551616 ^ (n+1):=by rw[ajK,ajB];exact akz hVl g2
 have hres:b.take o++(dlq (U%V) (n+1)++b.drop (o+(n+1)))=b.take o++(dlq (U+18446744073709551616 ^ (n+1) - (U / V)*V) (n+1)++b.drop (o+(n+1))):=by
  have e:U+18446744073709551616 ^ (n+1) - (U / V)*V=U%V+18446744073709551616 ^ (n+1)*1:=by have:=aku U V;omega
  rw[e,Nf _ _ _ (ajL _)]
 rw[hres];obtain⟨D,hD⟩:∃ D,D=U+18446744073709551616 ^ (n+1) - g*V:=⟨_,rfl⟩
 obtain⟨Q,hQ⟩:∃ Q,Q=g*V:=⟨_,rfl⟩
 have hQW:Q<18446744073709551616 ^ (n+1):=by rw[hQ]; exact hgV
 refine aH (λi=>(((g*ax (c.take i) / 18446744073709551616 ^ i:Nat):Int),((if ax (w.take i)<Q%18446744073709551616 ^ i then 1 else 0:Nat):Int),(i:Int),b.take o++(dlq D i++b.drop (o+i)))) n ?_ (by omega) (λi hi K=>?_) (λK=>?_)
 ·simp[dlq,ax,al_]
 ·have hx:=hb.at (i:=o+i);have hy:=hc.at (i:=i);have hcv:=aN (m:=c) i;have hp:=bb i;have hVi:=aS hc i;obtain⟨s1,s2⟩:=GM hw hwl hUe (by omega:i<=n) (by rw[hQ]; exact hgV:Q<_);rw[hwg i (by omega)]at s1 s2;rw[hQ,<- hD,<- hQ]at s1;obtain⟨cy,hcy⟩:∃ cy,cy=g*ax (c.take i) / 18446744073709551616 ^ i:=⟨_,rfl⟩
  have hcyl:cy<18446744073709551616:=by rw[hcy,ajH hp];exact akz g2 hVi
  have e1:g*ax (c.take (i+1))=g*ax (c.take i)+18446744073709551616 ^ i*(g*(c.getD i 0).toNat):=by rw[hcv,ajP,ajZ g]
  have ecy:g*ax (c.take (i+1)) / 18446744073709551616 ^ (i+1)=(g*(c.getD i 0).toNat+0+cy) / 18446744073709551616:=by rw[ajK,<- ajF,e1,cO,<- hcy];congr 1; omega
  obtain⟨R,hR⟩:=bF (c.take n) (i+1);rw[amE,akS (by omega),<- hVe]at hR;have elo:Q / 18446744073709551616 ^ i%18446744073709551616=(g*(c.getD i 0).toNat+0+cy)%18446744073709551616:=by
   have:Q=g*ax (c.take (i+1))+18446744073709551616 ^ (i+1)*(g*R):=by rw[hQ,hR,ajP,ajZ g]
   rw[jL this,e1,cO,<- hcy];congr 1; omega
  simp only[iN,ajD,aj1];rw[Oi D (by omega),Oh D (by omega),ajx (by omega:(i:Int)<n),ajA,aa ajw,aa (ajx (by omega)),<- hcy,
   Ev N (c:=0) (a:=g) (b:=(c.getD i 0).toNat) (e:=0) (f:=cy) rfl (by omega) rfl rfl g2 (by omega) (by omega) hcyl,aa ajw,aa (ajx (by omega)),<- elo,<- ecy,
   BP N (a:=(b.getD (o+i) 0).toNat) (b:=Q / 18446744073709551616 ^ i%18446744073709551616) (d:=if ax (w.take i)<Q%18446744073709551616 ^ i then 1 else 0) (by omega) rfl rfl (by split <;> omega),aa ajw,aa (ajx (by omega)),aa ajv,s1,Oj D (by omega)]
  have s3:(if (b.getD (o+i) 0).toNat<Q / 18446744073709551616 ^ i%18446744073709551616+(if ax (w.take i)<Q%18446744073709551616 ^ i then 1 else 0)then(1:Int)else 0)=((if ax (w.take (i+1))<Q%18446744073709551616 ^ (i+1)then 1 else 0:Nat):Int):=by rw[IA,s2]
  rw[s3];rfl
 ·have hx:=hb.at (i:=o+n);obtain⟨s1,s2⟩:=GM hw hwl hUe (ajL n) (by rw[hQ]; exact hgV:Q<_);rw[hwg n (by omega)]at s1 s2;rw[hQ,<- hD,<- hQ]at s1;have hql:Q / 18446744073709551616 ^ n<18446744073709551616:=by rw[ajH (bb n),ajB,<- ajK,hQ]; exact hgV
  rw[ajJ hql]at s1 s2;have hwt:w.take (n+1)=w:=ajV (by omega);rw[hwt,<- hUe,ajJ hQW]at s2;simp only[iN,ajD];rw[ajy (by omega:¬(n:Int)<n),ajz,<- hVe,<- hQ,Oi D (by omega),Oh D (by omega),aa ajw,aa (ajx (by omega)),
   BP N (a:=(b.getD (o+n) 0).toNat) (b:=Q / 18446744073709551616 ^ n) (d:=if ax (w.take n)<Q%18446744073709551616 ^ n then 1 else 0) (by omega) rfl rfl (by split <;> omega),aa ajw,aa (ajx (by omega)),s1,Oj D (by omega)]
  have s3:(if (b.getD (o+n) 0).toNat<Q / 18446744073709551616 ^ n+(if ax (w.take n)<Q%18446744073709551616 ^ n then 1 else 0)then(1:Int)else 0)=((if U<g*V then 1 else 0:Nat):Int):=by rw[<- hQ,IA,s2]
  rw[s3,hD];exact OB hN (by omega) hc hcl hbl hbs hVe hUW (λp=>ale hV0) _ g N (by omega) g2 g1 hgV
theorem LR {N:Nat} (b:List Int) (m:Nat) (hm:m<=b.length) (hN:m<N) (hs:m<9223372036854775807) (k:Kz0):TB N 0 m b k=k (bQ b m):=by
 (unfold TB; rw[af]; unfold QG)
 have key:∀ n,n<=m -> ∀ M,n<M->al M (Aj N 0 m b λn_1=>((decide (0<=n_1/\n_1<=((m:Nat):Int)))&&(k ((Int.toNat n_1) - 0)))) (n:Int)=k (bQ b n):=by
  intro n;induction n with
  | zero=>
   intro _ M hM;obtain⟨M,rfl⟩:∃ m,M=m+1:=⟨M - 1,by omega⟩
   show Aj N 0 m b _ ((0:Nat):Int) _=_;simp only[Aj,bQ];rw[ajy (by omega:¬((0:Nat):Int)>0),show(false==true)=false from rfl,ajz,ajx (by omega),akA];rfl
  | succ n ih=>
   intro hn M hM;obtain⟨M,rfl⟩:∃ m,M=m+1:=⟨M - 1,by omega⟩
   show Aj N 0 m b _ ((n+1:Nat):Int) (al M _)=_;have e:0+Int.toNat (((n+1:Nat):Int) - 1)=n:=by omega
   have e2:((n+1:Nat):Int) - 1=(n:Int):=by omega
   simp only[Aj,e];rw[ajx (by omega:((n+1:Nat):Int)>0),show(true==true)=true from rfl,ajA,aa ajv,aa ajw,aa (ajx (by omega)),aa ajv,e2,ih (by omega) M (by omega),sC];by_cases h0:b.getD n 0=0
   ·have:(b.getD n 0==0)=true:=by simpa using h0
    rw[this,if_pos h0]; rfl
   ·have:(b.getD n 0==0)=false:=by simpa using h0
    rw[this,if_neg h0,ajz,ajx (by omega),akA];rfl
 exact key m (ajL _) N hN
theorem CB (N:Nat) (b:List Int) (m i:Nat) (hm:m<=b.length) (hi:i<9223372036854775807) (k:Ky9):N5 N 0 m (i:Int) b k=k ((b.take m).getD i 0):=by
 unfold N5 V6;by_cases h:i<m
 ·rw[ajx (by omega),ajA,aa ajw,aa (ajx (by omega)),yk h];simp
 ·rw[ajy (by omega),ajz,e_ (by rw[akc]; omega)]
theorem JA {N:Nat} (b:List Int) (hb:InWq b) (m s:Nat) (hm:m<=b.length) (hs:s<64) (hN:m+3<N) (hms:m<=1099511627780):∃ lost:Bool,∀ k,N0 N 0 m (s:Int) b k=k (ae (ax (b.take m) / 2 ^ s)) lost:=by
 have ew:IntKind.wrap .u64 (Int.tdiv (s:Int) 64)=0:=by rw[aq,aky (by omega)]; omega
 have es:Int.tmod (s:Int) 64=(s:Int):=by rw[akq (by omega)]; omega
 have eml:IntKind.wrap .u64 ((m:Nat):Int)=(m:Int):=by rw[aq]; omega
 have hs0:0<2 ^ s:=ajM _;by_cases h0:m=0
 ·subst h0;refine⟨false,λk=>?_⟩
  (unfold N0; rw[af]; unfold M0)
  rw[ew,alS,show ax []=0 from rfl,Nat.zero_div,bh];rfl
 ·refine⟨aE .and .u64 (b.getD 0 0) (IntKind.wrap .u64 ((IntKind.wrap .u64 ((1:Int)*2 ^ s)) - 1)) != 0,λk=>?_⟩
  (unfold N0; rw[af]; unfold M0)
  have emin:min s 64=s:=by omega
  have e64:min (Int.toNat (IntKind.wrap .u64 (64 - (s:Int)))) 64=64 - s:=by rw[aq]; omega
  have z0:0+Int.toNat (0:Int)=0:=rfl;have z1:Int.toNat (0:Int) - 0=0:=rfl;rw[ew,es,eml,ajy (by omega:¬(0:Int)>=(m:Int)),ajz,aa ajv,aa ajw,z0,z1,aa (ajx (by omega)),aa (ajx (by omega)),aa (ajx (by omega)),ajD,emin];refine aH (λi=>(aE .and .u64 (b.getD 0 0) (IntKind.wrap .u64 ((IntKind.wrap .u64 ((1:Int)*2 ^ s)) - 1)),(i:Int))) 0 rfl (by omega) (λi hi K=>by omega) (λK=>?_);simp only[nU];rw[ajy (by omega:¬((0:Nat):Int)<((0:Nat):Int)),ajz];generalize aE .and .u64 (b.getD 0 0) (IntKind.wrap .u64 ((IntKind.wrap .u64 ((1:Int)*2 ^ s)) - 1))=lo;have hw:InWq (b.take m):=hb.take m;have hwl:(b.take m).length=m:=by rw[akc]; omega
  obtain⟨X,hX⟩:∃ X,X=ax (b.take m) / 2 ^ s:=⟨_,rfl⟩
  have elen:Int.toNat ((m:Int) - 0)=m:=by omega
  have elen2:(m:Int) - 0=(m:Int):=by omega
  rw[elen2,aa ajv,aa (bR (by omega) (by omega) (by omega) (by omega)),akV,ajD,<- hX];refine aH (λi=>((i:Int),dlq X i++List.replicate (m - i) 0)) m (by simp[dlq]) (by omega) (λi hi K=>?_) (λK=>?_)
  ·have hx:=hw.at (i:=i);have hy:=hw.at (i:=i+1);have hset:=yg X i m (by omega);have hl:(dlq X i++List.replicate (m - i) (0:Int)).length=m:=by simp[ak]; omega
   obtain⟨R,hR⟩:=DW hw i;have hdig:X / 18446744073709551616 ^ i%18446744073709551616=(((b.take m).getD i 0).toNat+18446744073709551616*((b.take m).getD (i+1) 0).toNat) / 2 ^ s%18446744073709551616:=by
    rw[hX,ajF,ajB (2 ^ s),<- ajF,hR];have e2:18446744073709551616*18446744073709551616*R=2 ^ s*(18446744073709551616*(2 ^ (64 - s)*R)):=by
     have hs1:2 ^ s*2 ^ (64 - s)=18446744073709551616:=by rw[<- ajR,show s+(64 - s)=64 by omega]
     rw[ajZ (2 ^ s),<- ajI (2 ^ s),hs1,ajI]
    rw[e2,akt _ _ hs0,akO]
   have ea:(0:Int)+(i:Int)=(i:Int):=by omega
   have eb:(i:Int)+1=((i+1:Nat):Int):=by omega
   simp only[jW,ajD,ea,eb,emin,e64,hl];rw[ajx (by omega:(i:Int)<(m:Int)),ajA,aa ajv,CB N b m i hm (by omega),aa (ajx (by omega)),aa ajv,aa ajv,CB N b m (i+1) hm (by omega),aa (ajx (by rw[aq]; omega)),aa ajw,aa (ajx (by omega)),aa ajv];have ex:(b.take m).getD i 0=((((b.take m).getD i 0).toNat:Nat):Int):=by omega
   have ey:(b.take m).getD (i+1) 0=((((b.take m).getD (i+1) 0).toNat:Nat):Int):=by omega
   rw[ex,ey,GO (by omega) (by omega) (by omega),<- hdig,hset]
  ·simp only[jW];rw[ajy (by omega:¬(m:Int)<(m:Int)),ajz,aj8,aka,aj6];have hXl:X<18446744073709551616 ^ m:=by have h1:=ju hw;rw[hwl]at h1;rw[hX];exact ak7 (ak8 _ _) h1
   have:=mn (N:=N) _ (il X m) (by rw[ak]; omega) (by rw[ak]; omega) (λl=>k l (lo != 0));rw[this,oy hXl]
theorem Pv {N:Nat} (m:List Int) (hm:InWq m) (n:Nat) (hn:n<4294967296) (hN:m.length+n / 64+4<N) (hs:m.length<=1099511627776) (e0:List Int->Bool) :
  al N (fH N ((n / 64:Nat):Int) ((n%64:Nat):Int) m ((m.length:Nat):Int) e0) (0,List.replicate (n / 64+m.length+1) (0:Int))=e0 (dlq (ax m*2 ^ n) (n / 64+m.length+1)):=by
 have hw6:n / 64<67108864:=by omega
 generalize hw:n / 64=w at *;generalize hsh:n%64=s at *;have hs32:s<64:=by omega
 have hp2:2 ^ n=18446744073709551616 ^ w*2 ^ s:=by rw[HG,hw,hsh]
 have hs0:0<2 ^ s:=ajM s;have hs1:2 ^ s*2 ^ (64 - s)=18446744073709551616:=by rw[<- ajR,show s+(64 - s)=64 by omega]
 let V:=ax m*2 ^ n
 let X:=ax m*2 ^ s
 have hVX:V=18446744073709551616 ^ w*X:=by simp only[V,X]; rw[hp2,ajZ]
 let T:=λi=>ax (m.take i)*2 ^ s
 let c:=λi=>T i / 18446744073709551616 ^ i
 have hcl:∀ i,c i<2 ^ s:=by intro i;simp only[c,T];rw[ajH (bb i),ajB];exact akF (aS hm i) hs0
 refine aH (N:=N) (λi=>((i:Int),dlq V (w+i)++((c i:Nat):Int)::List.replicate (m.length - i) 0)) m.length ?_ (by omega) (λi hi K=>?_) (λK=>?_)
 ·congr 1;show List.replicate (w+m.length+1) (0:Int)=dlq V w++((c 0:Nat):Int)::List.replicate m.length 0;rw[hVX,wN];have hc0:c 0=0:=by simp[c,T,ax]
  rw[hc0];have:w+m.length+1=w+(m.length+1):=by omega
  rw[this,<- alc,akh]; rfl
 ·have hx:=hm.at (i:=i);have hT:T (i+1)=T i+18446744073709551616 ^ i*((m.getD i 0).toNat*2 ^ s):=by simp only[T,aN,aj2,ajI]
  have hq:T (i+1) / 18446744073709551616 ^ i=c i+(m.getD i 0).toNat*2 ^ s:=by rw[hT,cO]
  have hci:c i<2 ^ s:=hcl i;have hc1:c (i+1)=(c i+(m.getD i 0).toNat*2 ^ s) / 18446744073709551616:=by rw[<- hq]; simp only[c]; rw[ajK,ajF]
  have hdig:V / 18446744073709551616 ^ (w+i)%18446744073709551616=(c i+(m.getD i 0).toNat*2 ^ s)%18446744073709551616:=by rw[<- hq,hVX,ajR,<- ajF,aj7 _ (bb w)];obtain⟨R,hR⟩:=bF m (i+1);refine jL (R:=R*2 ^ s) ?_;simp only[X,T];rw[hR,aj2,ajI]
  have hrep:List.replicate (m.length - i) (0:Int)=0::List.replicate (m.length - (i+1)) 0:=by rw[show m.length - i=(m.length - (i+1))+1 by omega,akh]
  have hdl:=ak V (w+i);have ei:Int.toNat ((w:Int)+(i:Int))=w+i:=by omega
  have ei1:Int.toNat ((w:Int)+(i:Int)+1)=w+i+1:=by omega
  have emin:min s 64=s:=by omega
  have e64:min (Int.toNat (IntKind.wrap .u64 (64 - (s:Int)))) 64=64 - s:=by rw[aq]; omega
  simp only[fH,ajD,ei,ei1,emin,e64];rw[hrep,bX hdl.symm,be _ _ _ _ _ hdl.symm];have hmx:m.getD i 0=(((m.getD i 0).toNat:Nat):Int):=by omega
  rw[hmx];generalize hxx:(m.getD i 0).toNat=x at *;have hx32:x<18446744073709551616:=by omega
  have hlow:x*2 ^ s%18446744073709551616=2 ^ s*(x%2 ^ (64 - s)):=by
   have e:x*2 ^ s%(2 ^ s*2 ^ (64 - s))=2 ^ s*(x%2 ^ (64 - s)):=by rw[ajB x]; exact ak_ _ _ _
   rwa [hs1]at e
  have hsum:2 ^ s*(x%2 ^ (64 - s))+c i<18446744073709551616:=by have h1:x%2 ^ (64 - s)+1<=2 ^ (64 - s):=ajN _ (ajM _);have h2:=ajG (2 ^ s) h1;rw[hs1,ajP]at h2;omega
  have epw:(x:Int)*2 ^ s=((x*2 ^ s:Nat):Int):=by rw[ajU,ak1]; rfl
  have eor:aE .or .u64 ((c i:Nat):Int) (IntKind.wrap .u64 ((x:Int)*2 ^ s))=((V / 18446744073709551616 ^ (w+i)%18446744073709551616:Nat):Int):=by
   have e1:IntKind.wrap .u64 ((x*2 ^ s:Nat):Int)=((2 ^ s*(x%2 ^ (64 - s)):Nat):Int):=by rw[<- hlow,aq]; omega
   rw[epw,e1,cE _ _ s hci hsum,hdig];omega
  have ehi:Int.fdiv (x:Int) (2 ^ (64 - s))=((c (i+1):Nat):Int):=by
   have e2:(2:Int) ^ (64 - s)=((2 ^ (64 - s):Nat):Int):=by rw[ak1]; rfl
   rw[e2,mp,hc1];have:(c i+x*2 ^ s) / 18446744073709551616=x / 2 ^ (64 - s):=by rw[<- hs1,<- ajF,ajB x,akt _ _ hs0,aj3 hci,aj1]
   rw[this]
  rw[eor,ehi];have hl1:∀(a b:Int) (ys:List Int),(dlq V (w+i)++a::b::ys).length=w+i+2+ys.length:=by intro a b ys; simp[hdl]; omega
  have hset2:(dlq V (w+i)++((V / 18446744073709551616 ^ (w+i)%18446744073709551616:Nat):Int)::0::List.replicate (m.length - (i+1)) 0).set (w+i+1) ((c (i+1):Nat):Int)=dlq V (w+(i+1))++((c (i+1):Nat):Int)::List.replicate (m.length - (i+1)) 0:=by
   have:dlq V (w+i)++((V / 18446744073709551616 ^ (w+i)%18446744073709551616:Nat):Int)::0::List.replicate (m.length - (i+1)) 0=dlq V (w+(i+1))++0::List.replicate (m.length - (i+1)) 0:=by rw[<- akf,dlq]; simp
   rw[this];exact be _ _ _ _ _ (by rw[ak]; omega)
  rw[hset2,hl1,hl1];simp only[akV];rw[ajx (by omega:(i:Int)<((m.length:Nat):Int)),ajA,aa ajw,aa ajv,aa ajw,aa (ajx (by omega)),aa (ajx (by omega)),aa ajw,aa (ajx (by omega)),aa ajv,aa ajv,aa (ajx (by rw[aq]; omega)),aa ajw,aa (ajx (by omega)),aa ajv];rfl
 ·simp only[fH];rw[ajy (by omega:¬(m.length:Int)<m.length),ajz,aj8,aka];have hV:V<18446744073709551616 ^ (w+m.length+1):=by
   have h1:=ju hm;simp only[V];rw[hp2,ajK,ajR,ajZ,ajI];refine akF ?_ (bb w);have hs2:2 ^ s<=18446744073709551616:=by rw[<- hs1]; exact akk _ (ajM _)
   exact akg h1 hs2 (by decide)
  have hT:T m.length=X:=by simp only[T,X]; rw[akd]
  have hend:dlq V (w+m.length)++[((c m.length:Nat):Int)]=dlq V (w+m.length+1):=by
   rw[dlq];have:c m.length=V / 18446744073709551616 ^ (w+m.length)%18446744073709551616:=by
    have hX:V / 18446744073709551616 ^ (w+m.length)=X / 18446744073709551616 ^ m.length:=by rw[hVX,ajR,<- ajF,aj7 _ (bb w)]
    have h2:=hcl m.length;have hs2:2 ^ s<=18446744073709551616:=by rw[<- hs1]; exact akk _ (ajM _)
    rw[hX,<- hT];exact(ajJ (by show c m.length<_; omega)).symm
   rw[this]
  rw[hend]
theorem IV (n:Nat):dlq n (ae n).length=ae n:=by refine List.ext_getElem (ak n _) (λi h1 h2=>?_);have e1:=wM n h2;have e2:=q_ i n;rw[List.getD_eq_getElem?_getD,List.getElem?_eq_getElem h1,akj]at e1;rw[List.getD_eq_getElem?_getD,List.getElem?_eq_getElem h2,akj]at e2;rw[e1,e2]
theorem Hb {X L:Nat} (hX:X<18446744073709551616 ^ L):∀ k,dlq X (L+k)=dlq X L++List.replicate k 0
 | 0=>by simp
 | k+1=>by rw[<- akf,dlq,Hb hX k,aj3 (ajS hX (ajO (by decide) (alU _ _))),ak9,ajQ];rfl
theorem wO (S:Nat):∀{m n:Nat},n<=m->(dlq S m).take n=dlq S n
 | 0,n,h=>by
  have:n=0:=by omega
  subst this; rfl
 | m+1,n,h=>by
  by_cases e:n=m+1
  ·subst e; rw[ajV (by rw[ak]; omega)]
  ·rw[dlq,akx (by rw[ak]; omega),wO S (by omega)]
theorem F4 (S a:Nat):∀ c,dlq S (a+c)=dlq S a++dlq (S / 18446744073709551616 ^ a) c
 | 0=>by simp[dlq]
 | c+1=>by rw[<- akf,dlq,F4 S a c,dlq,ajF,<- ajR,ajQ]
theorem K_ {V m:Nat} (h:V<18446744073709551616 ^ m):bQ (dlq V m) m=(ae V).length:=by have h1:=Bi (il V m);rw[ak,tU,ajJ h]at h1;rw[<- h1,akc,ak];have:=lG (dlq V m) m;omega
theorem YK {V m:Nat} (h1:18446744073709551616 ^ m<=V) (h2:V<18446744073709551616 ^ (m+1)):(ae V).length=m+1:=by have a:=gF (m+1) V h2;have b:=YJ (V:=V) (w:=m) (by have:=alY h1 (bb m); omega);omega
theorem zj {N:Nat} {m s:Nat} (hm:m ≠ 0) (hs:s<64) (hN:(ae m).length+4<N) (hl:(ae m).length<=1099511627776) (k0:Bool) (k1:Nat->List Int->Bool) :
  Kd N (ae m) (s:Int) k0 k1=k1 (ae (m*2 ^ s)).length (dlq (m*2 ^ s) ((ae m).length+1)):=by
 have hlp:(ae m).length ≠ 0:=by rw[bS hm]; simp
 have hV:m*2 ^ s<18446744073709551616 ^ ((ae m).length+1):=by
  rw[ajK];have h2:2 ^ s<18446744073709551616:=by rw[<- rI]; exact Nat.pow_lt_pow_right (by decide) hs
  exact akz (kZ m) h2
 (unfold Kd; rw[af]; unfold Xj)
 have e0:((((ae m).length:Nat):Int)==0)=false:=by simp; intro h; rw[h]at hlp; simp at hlp
 have ew:IntKind.wrap .u64 (Int.tdiv (s:Int) 64)=((s / 64:Nat):Int):=by rw[aq,aky (by omega)]; omega
 have es:Int.tmod (s:Int) 64=((s%64:Nat):Int):=by rw[akq (by omega)]; rfl
 have elen:Int.toNat (((s / 64:Nat):Int)+(((ae m).length:Nat):Int)+1)=s / 64+(ae m).length+1:=by omega
 rw[e0,ajz,ew,es,aa ajv,aa ajv,aa ajv,aa (bR (by omega) (by omega) (by omega) (by omega)),elen];have:=Pv (N:=N) (ae m) (aY m) s (by omega) (by omega) hl (λz_1=>A9 N z_1 λmr=>k1 mr z_1);rw[aF,show s / 64=0 by omega,aj1]at this;rw[show s / 64=0 by omega,aj1];refine Eq.trans this ?_;rw[Ew _ (by rw[ak]; omega) (by rw[ak]; omega),ak,K_ hV]
theorem Py (xs:List Int) (k:Nat):ax (xs++List.replicate k 0)=ax xs:=by rw[qA,C7]; simp
theorem AV {N:Nat} (hN:1180591620717411303424<=N) {x y:Nat} (hxy:y<=x) (hy2:2<=(ae y).length) (hxl:(ae x).length<=1099511627000) (k:Ky7) :
  sQ5 N (ae x) (ae y) k=k (ae (x / y)) (ae (x%y)):=by
 have hy0:y ≠ 0:=by intro h; rw[h,bh]at hy2; simp at hy2
 have hyx:=dx hxy;have hylt:=kZ y;have hxlt:=kZ x;have hylo:18446744073709551616 ^ ((ae y).length - 1)<=y:=by
  rcases akv y (18446744073709551616 ^ ((ae y).length - 1))with h | h
  ·have:=gF _ _ h; omega
  ·exact h
 (unfold sQ5; rw[af]; unfold GQ5)
 rw[jN x y ⟨by omega,by omega⟩ ⟨by omega,by omega⟩];have hc:decide (d8 x y<0)=false:=by unfold d8; rw[if_neg (by omega)]; split <;> rfl
 obtain⟨n,hn⟩:∃ n,(ae y).length=n+2:=⟨(ae y).length - 2,by omega⟩
 obtain⟨lx,hlx⟩:∃ lx,(ae x).length=lx:=⟨_,rfl⟩
 have htd:(ae y).getD (n+1) 0=((y / 18446744073709551616 ^ (n+1):Nat):Int):=by rw[q_,ajJ];rw[ajH (bb _),ajB,<- ajK];rw[hn]at hylt; exact hylt
 rw[hn]at hylt hylo;rw[hlx]at hxlt;rw[show n+2 - 1=n+1 by omega]at hylo;obtain⟨t,ht⟩:∃ t,t=y / 18446744073709551616 ^ (n+1):=⟨_,rfl⟩
 rw[<- ht]at htd;have htl:t<18446744073709551616:=by rw[ht,ajH (bb _),ajB,<- ajK]; exact hylt
 have ht0:t ≠ 0:=by have:=alY hylo (bb (n+1)); omega
 obtain⟨g1,g2,g3⟩:=Oa ht0 htl;have ein:Int.toNat (((n+2:Nat):Int) - 1)=n+1:=by omega
 have e1':(((n+2:Nat):Int)==1)=false:=by simp; omega
 rw[hc,ajz,hn,hlx,e1',ajz,aa ajv,aa ajw,ein,htd,Jj N htl];obtain⟨s,hs⟩:∃ s,s=64 - bl t:=⟨_,rfl⟩
 rw[<- hs]at g1 g2 g3 ⊢;have hs0:0<2 ^ s:=ajM s;have ews:IntKind.wrap .u64 ((s:Nat):Int)=(s:Int):=by rw[aq]; omega
 rw[ews];obtain⟨V,hV⟩:∃ V,V=y*2 ^ s:=⟨_,rfl⟩
 obtain⟨X,hX⟩:∃ X,X=x*2 ^ s:=⟨_,rfl⟩
 have hVlt:V<18446744073709551616 ^ (n+2):=by
  have h1:=alZ y (bb (n+1));rw[<- ht]at h1;have h2:y*2 ^ s<18446744073709551616 ^ (n+1)*(t+1)*2 ^ s:=akm h1 hs0;have h3:(t+1)*2 ^ s<=18446744073709551616:=by
   have hd:2 ^ s*2 ^ (64 - s)=18446744073709551616:=by rw[<- ajR,show s+(64 - s)=64 by omega]
   have h4:t<2 ^ (64 - s):=by rw[ajB]at g3;rw[<- hd]at g3;exact alT g3
   rw[<- hd,ajB];exact ajG _ h4
  have h5:=ajG (18446744073709551616 ^ (n+1)) h3;rw[hV,show n+2=n+1+1 by omega,ajK];rw[ajI]at h2;omega
 have hVge:18446744073709551616 ^ (n+1)<=V:=by rw[hV]; exact aj0 hylo (akk _ hs0)
 have hVlen:(ae V).length=n+2:=YK hVge hVlt;have hV0:0<V:=ajS (bb _) hVge;have hx0:x ≠ 0:=by omega
 rw[zj hy0 g1 (by omega) (by omega),hn,<- hV,hVlen,zj hx0 g1 (by omega) (by omega),hlx,<- hX];have hs2:2 ^ s<=18446744073709551616:=by rw[<- rI]; exact ajO (by decide) (by omega)
 have hXlt:X<18446744073709551616 ^ (lx+1):=by rw[hX,ajK]; exact akg hxlt hs2 (by decide)
 have hXlen1:(ae X).length<=lx+1:=gF _ _ hXlt;have hXlen2:lx<=(ae X).length:=by rw[<- hlx,hX]; exact dx (akk _ hs0)
 have etk:(dlq X (lx+1)).take (ae X).length=ae X:=by rw[wO X hXlen1,IV]
 have ebl:(ae X++[0,0]).length=(ae X).length+2:=by simp
 obtain⟨M,hM⟩:∃ M,lx+1=M+(n+2):=⟨lx+1 - (n+2),by omega⟩
 have eu1:Int.toNat ((lx:Int)+1) - 0=lx+1:=by omega
 have eM:(((lx+1:Nat):Int) - ((n+2:Nat):Int))=(M:Int):=by omega
 rw[ak2,etk,ebl,eu1,eM];rw[aa (ajx (by rw[ak]; omega)),aa (ajx (by omega)),aa ajv,aa (ajx (by omega)),aa ajv,aa (bR (by omega) (by omega) (by omega) (by omega)),aa ajv,aa ajv,ajD];obtain⟨tail,htail⟩:∃ tail,tail=(ae X++[(0:Int),0]).drop (lx+1):=⟨_,rfl⟩
 have htw:InWq tail:=by
  rw[htail];refine InWq.drop (λz hz=>?_) _;rcases List.mem_append.1 hz with h | h
  ·exact aY X z h
  ·simp only[akY,alx,or_false,or_self]at h; subst h; omega
 have htlen:tail.length<=2:=by rw[htail,ala,ebl]; omega
 have hstart:ae X++[(0:Int),0]=dlq X M++(dlq (X / 18446744073709551616 ^ M%V) (n+2)++(List.replicate 0 0++tail)):=by
  have hXM:X / 18446744073709551616 ^ M<V:=by
   rw[ajH (bb M),hX,hV];have h1:x*2 ^ s<18446744073709551616 ^ lx*2 ^ s:=akm hxlt hs0;have h2:18446744073709551616 ^ lx=18446744073709551616 ^ (n+1)*18446744073709551616 ^ M:=by rw[<- ajR]; congr 1; omega
   have h3:=ajE (18446744073709551616 ^ M*2 ^ s) hylo;rw[h2,ajI]at h1;have e:y*2 ^ s*18446744073709551616 ^ M=y*(18446744073709551616 ^ M*2 ^ s):=by rw[ajI,ajB (2 ^ s)]
   rw[e]; omega
  rw[ajJ hXM,aka,akl,<- ajQ,<- F4,<- hM];rw[htail];have hpad:(ae X++[(0:Int),0]).take (lx+1)=dlq X (lx+1):=by
   have:ae X++[(0:Int),0]=dlq X ((ae X).length+2):=by rw[Hb (kZ X) 2,IV]; rfl
   rw[this,wO X (by omega)]
  rw[<- hpad,alH]
 rw[hstart];have hQlt:X / V<18446744073709551616 ^ M:=by
  rw[ajH hV0];have h1:x*2 ^ s<18446744073709551616 ^ lx*2 ^ s:=akm hxlt hs0;have h2:18446744073709551616 ^ lx=18446744073709551616 ^ M*18446744073709551616 ^ (n+1):=by rw[<- ajR]; congr 1; omega
  have h3:=ajG (18446744073709551616 ^ M) (ajE (2 ^ s) hylo);rw[hX,hV];rw[h2,ajI]at h1;omega
 have hmk:M<=1099511627001:=by omega
 refine aH (λi=>((M:Int) - 1 - (i:Int),dlq X (M - i)++(dlq (X / 18446744073709551616 ^ (M - i)%V) (n+2)++(List.replicate i 0++tail)),List.replicate (M - i) (0:Int)++(dlq (X / V) M).drop (M - i))) M ?_ (by omega) (λi hi K=>?_) (λK=>?_)
 ·rw[alD,aki (by rw[ak]; omega),aj6];congr 1;omega
 ·obtain⟨j,hj⟩:∃ j,M - i=j+1:=⟨M - i - 1,by omega⟩
  have hj2:M - (i+1)=j:=by omega
  have ei:(M:Int) - 1 - (i:Int)=(j:Int):=by omega
  have ei2:(M:Int) - 1 - ((i+1:Nat):Int)=(j:Int) - 1:=by omega
  rw[hj,hj2,ei,ei2];obtain⟨A,hA⟩:∃ A,A=X / 18446744073709551616 ^ j:=⟨_,rfl⟩
  have hA1:X / 18446744073709551616 ^ (j+1)=A / 18446744073709551616:=by rw[hA,ajK,ajF]
  obtain⟨n1,n2⟩:=GJ (A:=A) hV0;obtain⟨R,hR⟩:∃ R,R=A / 18446744073709551616%V:=⟨_,rfl⟩
  have hRV:R<V:=by rw[hR]; exact ajN _ hV0
  rw[hA1,<- hR];rw[<- hR]at n1 n2;obtain⟨b,hb⟩:∃ b,b=dlq X (j+1)++(dlq R (n+2)++(List.replicate i 0++tail)):=⟨_,rfl⟩
  have hblen:b.length=j+1+(n+2)+i+tail.length:=by rw[hb]; simp[ak]; omega
  have hbw:InWq b:=by
   rw[hb];intro z hz;rcases List.mem_append.1 hz with h | h
   ·exact il _ _ z h
   ·rcases List.mem_append.1 h with h | h
    ·exact il _ _ z h
    ·rcases List.mem_append.1 h with h | h
     ·have:=(List.mem_replicate.1 h).2; subst this; omega
     ·exact htw z h
  have hbt:b.take j=dlq X j:=by rw[hb,akx (by rw[ak]; omega),wO X (by omega)]
  have hbd:b.drop j=((A%18446744073709551616:Nat):Int)::(dlq R (n+2)++(List.replicate i 0++tail)):=by rw[hb,dlq,ajQ,akw (by rw[ak]; omega),aki (by rw[ak]; omega),akl,hA];rfl
  have hwv:ax ((b.drop j).take (n+2+1))=R*18446744073709551616+A%18446744073709551616:=by rw[hbd,amn,akx (by rw[ak]; omega),ajV (by rw[ak]; omega),ax,tU,ajJ (ali hRV hVlt),ajD];omega
  have hbd2:b.drop (j+(n+2+1))=List.replicate i 0++tail:=by rw[<- List.drop_drop,hbd,List.drop_succ_cons,akw (by rw[ak]; omega),aki (by rw[ak]; omega),akl]
  have hcv:ax ((dlq V (n+2+1)).take (n+2))=V:=by rw[wO V (by omega),tU,ajJ hVlt]
  have hctop:0<((dlq V (n+2+1)).getD (n+2 - 1) 0).toNat:=by
   rw[wM V (by omega),ajD,show n+2 - 1=n+1 by omega,ajJ]
   ·exact alY hVge (bb _)
   ·rw[ajH (bb _),ajB,<- ajK]; exact hVlt
  have hAm:A%18446744073709551616<18446744073709551616:=ajN _ (by decide);have hstep:=λkk=>SR hN (o:=j) (n:=n+2) (b:=b) (c:=dlq V (n+2+1)) (by omega) hbw (il _ _) (by rw[ak]; omega) (by omega) (by omega) hctop (by rw[hwv,hcv];have:=ajE 18446744073709551616 hRV;rw[ak5]at this;omega) kk
  rw[hwv,hcv,n1,n2,hbt,hbd2]at hstep;have hnext:dlq X j++(dlq (A%V) (n+2+1)++(List.replicate i 0++tail))=dlq X j++(dlq (A%V) (n+2)++(List.replicate (i+1) 0++tail)):=by rw[Hb (ali (ajN A hV0) hVlt) 1,ajQ,akh];rfl
  have hdg:X / V / 18446744073709551616 ^ j%18446744073709551616=A / V%18446744073709551616:=by rw[hA,ajF,ajF,ajB V]
  have ej:0+Int.toNat (j:Int)=j:=by omega
  have ej2:Int.toNat ((j:Int)+((n+2:Nat):Int)+1) - Int.toNat (j:Int)=n+2+1:=by omega
  rw[<- hb];simp only[Ae,ej,ej2];rw[ajx (by omega:(j:Int)>=0),ajA,aa ajv,aa ajv,aa (ajx (by omega))];rw[hstep];have hql:(List.replicate (j+1) (0:Int)++(dlq (X / V) M).drop (j+1)).length=M:=by simp[ak]; omega
  rw[hql,aa ajw,aa (ajx (by omega)),aa ajv,ajD,<- hdg,NT _ _ _ (by omega),hnext,<- hA]
 ·simp only[Ae];have e0:(M:Int) - 1 - (M:Int) = -1:=by omega
  rw[e0,ajy (by omega),ajz,aj8,alq,aln,aka,akl,ak2];obtain⟨L,hL⟩:∃ L,L=dlq X 0++(dlq (X%V) (n+2)++(List.replicate M 0++tail)):=⟨_,rfl⟩
  have hRlt:X%V<18446744073709551616 ^ (n+2):=ali (ajN _ hV0) hVlt;have hLt:L.take (lx+1)=dlq (X%V) (n+2)++List.replicate M 0:=by rw[hL,hM,show dlq X 0=[] from rfl,akl,<- ajQ,akx (by simp[ak]; omega),ajV (by simp[ak]; omega)]
  have hLw:InWq L:=by
   rw[hL];intro z hz;rcases List.mem_append.1 hz with h | h
   ·cases h
   ·rcases List.mem_append.1 h with h | h
    ·exact il _ _ z h
    ·rcases List.mem_append.1 h with h | h
     ·have:=(List.mem_replicate.1 h).2; subst this; omega
     ·exact htw z h
  have hLlen:lx+1<=L.length:=by rw[hL]; simp[ak]; omega
  rw[<- hL];unfold Ot;rw[LR L (lx+1) hLlen (by omega) (by omega)];have hcl:=lG L (lx+1);obtain⟨lost,hlost⟩:=JA (N:=N) L hLw (bQ L (lx+1)) s (by omega) g1 (by omega) (by omega);rw[hlost,uz,hLt,Py,tU,ajJ hRlt];have:=mn (N:=N) (dlq (X / V) M) (il _ _) (by rw[ak]; omega) (by rw[ak]; omega) (λz=>k z (ae (X%V / 2 ^ s)));rw[this,oy hQlt,hX,hV,amd _ _ hs0,ame,alf _ hs0]
theorem mo {N:Nat} (hN:1180591620717411303424<=N) {x y:Nat} (hy:0<y) (hxl:(ae x).length<=1099511627000) (hyl:(ae y).length<=1099511627000) (k:Ky7) :
  sQ5 N (ae x) (ae y) k=k (ae (x / y)) (ae (x%y)):=by
 by_cases hxy:y<=x
 ·by_cases h2:2<=(ae y).length
  ·exact AV hN hxy h2 hxl k
  ·have hylt:=kZ y;have hl1:(ae y).length=1:=by rw[bS (by omega)]at h2 ⊢; simp at h2 ⊢; exact h2
   rw[hl1,amy]at hylt;have hd:=uD (by omega:y ≠ 0) hylt;have hc:decide (d8 x y<0)=false:=by unfold d8; rw[if_neg (by omega)]; split <;> rfl
   (unfold sQ5; rw[af]; unfold GQ5)
   rw[jN x y ⟨by omega,by omega⟩ ⟨by omega,by omega⟩,hc,ajz,hd];show cond (((1:Nat):Int)==1) _ _=_;rw[show(((1:Nat):Int)==1)=true from rfl,ajA,aa (ai (by omega) (by simp))];show J8 N (ae x) (y:Int) _=_;have hm:x%y<18446744073709551616:=ali (ajN _ hy) hylt;rw[Ps (by omega) hy hylt ⟨by omega,by omega⟩,yq (by omega) _ hm]
 ·have hc:decide (d8 x y<0)=true:=by unfold d8; rw[if_pos (by omega)]; rfl
  (unfold sQ5; rw[af]; unfold GQ5)
  rw[jN x y ⟨by omega,by omega⟩ ⟨by omega,by omega⟩,hc,ajA,BQ _ (by omega),aj3 (by omega),ajJ (by omega),bh]
theorem CX:∀ n,n ≠ 0->bl n=64*((ae n).length - 1)+bl ((ae n).getD ((ae n).length - 1) 0).toNat/\0<(ae n).length:=by
 intro n;induction n using Nat.strongRecOn with
 | ind n ih=>
  intro h;rw[bS h];by_cases h1:n / 18446744073709551616=0
  ·rw[h1,bh];have:n%18446744073709551616=n:=ajJ (by omega);simp[this]
  ·obtain⟨i1,i2⟩:=ih (n / 18446744073709551616) (by omega) h1;have e:=ov (n:=n) 64 (by rw[rI]; omega);rw[rI]at e;refine⟨?_,by simp⟩;have e2:(((n%18446744073709551616:Nat):Int)::ae (n / 18446744073709551616)).getD ((((n%18446744073709551616:Nat):Int)::ae (n / 18446744073709551616)).length - 1) 0=(ae (n / 18446744073709551616)).getD ((ae (n / 18446744073709551616)).length - 1) 0:=by
    simp only[aj9,al1];generalize ae (n / 18446744073709551616)=l at i2 ⊢;cases l with
    | nil=>simp at i2
    | cons y l=>simp
   rw[e2,e,i1];simp only[aj9];omega
theorem Jp {N:Nat} {n:Nat} (hs:(ae n).length<=1099511627776) (k:Ky9):vp N (ae n) k=k (bl n:Int):=by
 (unfold vp; rw[af]; unfold uq)
 by_cases h:n=0
 ·subst h; rw[bh]; rfl
 ·obtain⟨e1,e2⟩:=CX n h;have e0:(((ae n).length:Int)==0)=false:=by simp; intro h'; rw[h']at e2; simp at e2
  have e3:Int.toNat (((ae n).length:Int) - 1)=(ae n).length - 1:=by omega
  have hw:=(aY n).at (i:=(ae n).length - 1);have e4:(ae n).getD ((ae n).length - 1) 0=((((ae n).getD ((ae n).length - 1) 0).toNat:Nat):Int):=by omega
  have hb:=Ax (n:=((ae n).getD ((ae n).length - 1) 0).toNat) (j:=64) (by rw[rI]; omega);rw[e0,ajz,aa ajv,aa ajv,aa ajv,aa ajw,e3,e4,Ep N (by omega),aa ajv,e1];congr 1;omega
theorem Nw {N:Nat} {x f:Nat} (hf:f<140737488355328) (k:Ky9):yF N (ae x) (f:Int) k=k ((x / 2 ^ f%18446744073709551616:Nat):Int):=by
 (unfold yF; rw[af]; unfold Bn)
 have e1:Int.tdiv (f:Int) 64=((f / 64:Nat):Int):=by rw[aky (by omega)]; rfl
 have e2:IntKind.wrap .u64 (Int.tmod (f:Int) 64)=((f%64:Nat):Int):=by rw[aq,akq (by omega)]; omega
 have e3:min (f%64) 64=f%64:=by omega
 have e4:min (Int.toNat (IntKind.wrap .u64 (64 - ((f%64:Nat):Int)))) 64=64 - f%64:=by rw[aq]; omega
 have e5:((f / 64:Nat):Int)+1=((f / 64+1:Nat):Int):=by omega
 have hx:=(aY x).at (i:=f / 64);have hy:=(aY x).at (i:=f / 64+1);have ex:(ae x).getD (f / 64) 0=((((ae x).getD (f / 64) 0).toNat:Nat):Int):=by omega
 have ey:(ae x).getD (f / 64+1) 0=((((ae x).getD (f / 64+1) 0).toNat:Nat):Int):=by omega
 rw[e1,e2,e5,aa ajv,qU N _ (f / 64) (by omega),aa (ajx (by omega)),aa ajv,qU N _ (f / 64+1) (by omega),aa (ajx (by rw[aq]; omega)),ajD,e3,e4,ex,ey,GO (by omega) (by omega) (by omega)];obtain⟨R,hR⟩:=DW (aY x) (f / 64);rw[aF]at hR;have hp:2 ^ f=18446744073709551616 ^ (f / 64)*2 ^ (f%64):=HG f;have hs0:0<2 ^ (f%64):=ajM _;rw[hp,<- ajF,hR];have e6:18446744073709551616*18446744073709551616*R=2 ^ (f%64)*(18446744073709551616*(2 ^ (64 - f%64)*R)):=by
  have hs1:2 ^ (f%64)*2 ^ (64 - f%64)=18446744073709551616:=by rw[<- ajR,show f%64+(64 - f%64)=64 by omega]
  rw[ajZ (2 ^ (f%64)),<- ajI (2 ^ (f%64)),hs1,ajI]
 rw[e6,akt _ _ hs0,akO]
theorem Jw {N:Nat} {x d e:Nat} (hd:d<18446744073709551616) (he:e<18446744073709551616) (hs:ny N (ae x)) (k:Kz3):zl N (ae x) (d:Int) (e:Int) k=k (ae (x*d+e)):=by
 (unfold zl; rw[af]; unfold Qu)
 obtain⟨s1,s2⟩:=hs;obtain⟨L,hL⟩:∃ L,(ae x).length=L:=⟨_,rfl⟩
 have hx:=kZ x;rw[hL]at hx;have eL:Int.toNat ((L:Int)+1)=L+1:=by omega
 rw[hL,aa ajv,aa (bR (by omega) (by omega) (by omega) (by omega)),eL];obtain⟨m,hm⟩:∃ m,m=ae x:=⟨_,rfl⟩
 have hmw:InWq m:=by rw[hm]; exact aY x
 have hmv:ax m=x:=by rw[hm]; exact aF x
 have hml:m.length=L:=by rw[hm]; exact hL
 rw[<- hm];obtain⟨S,hS⟩:∃ S,S=x*d+e:=⟨_,rfl⟩
 rw[<- hS];refine aH (λi=>((((ax (m.take i)*d+e) / 18446744073709551616 ^ i:Nat):Int),(i:Int),dlq S i++List.replicate (L+1 - i) 0)) L (by simp[ax,dlq]) (by omega) (λi hi K=>?_) (λK=>?_)
 ·have hz:=hmw.at (i:=i);have hp:=bb i;have hXi:=aS hmw i;have hcv:=aN (m:=m) i;obtain⟨cy,hcy⟩:∃ cy,cy=(ax (m.take i)*d+e) / 18446744073709551616 ^ i:=⟨_,rfl⟩
  have e1:ax (m.take (i+1))*d+e=(ax (m.take i)*d+e)+18446744073709551616 ^ i*((m.getD i 0).toNat*d):=by rw[hcv,aj2,ajI]; omega
  have hcyl:cy<18446744073709551616:=by
   rw[hcy,ajH hp];have:=ako (alQ hXi) (alQ hd);have h1:1<=18446744073709551616 ^ i:=hp;have h2:(18446744073709551616 ^ i - 1)*(18446744073709551616 - 1)+18446744073709551615=18446744073709551616 ^ i*18446744073709551615:=by
    obtain⟨P,hP⟩:∃ P,18446744073709551616 ^ i=P+1:=⟨18446744073709551616 ^ i - 1,by omega⟩
    rw[hP]; omega
   omega
  have ecy:(ax (m.take (i+1))*d+e) / 18446744073709551616 ^ (i+1)=((m.getD i 0).toNat*d+0+cy) / 18446744073709551616:=by rw[ajK,<- ajF,e1,cO,<- hcy];congr 1; omega
  obtain⟨R,hR⟩:=bF m (i+1);have elo:S / 18446744073709551616 ^ i%18446744073709551616=((m.getD i 0).toNat*d+0+cy)%18446744073709551616:=by
   have:S=(ax (m.take (i+1))*d+e)+18446744073709551616 ^ (i+1)*(R*d):=by rw[hS,<- hmv,hR,aj2,ajI]; omega
   rw[jL this,e1,cO,<- hcy];congr 1; omega
  have hset:=yg S i (L+1) (by omega);have hl:(dlq S i++List.replicate (L+1 - i) (0:Int)).length=L+1:=by simp[ak]; omega
  simp only[ol,ajD];rw[ajx (by omega:(i:Int)<(L:Int)),ajA,hml,aa ajw,<- hcy,Ev N (c:=0) (a:=(m.getD i 0).toNat) (b:=d) (e:=0) (f:=cy) (by omega) rfl rfl rfl (by omega) hd (by omega) hcyl,hl,aa ajw,aa (ajx (by omega)),aa ajv,<- elo,<- ecy,hset,mq]
 ·simp only[ol];have hl:(dlq S L++List.replicate (L+1 - L) (0:Int)).length=L+1:=by simp[ak]
  have hSl:S<18446744073709551616 ^ (L+1):=by
   rw[hS,ajK];have h1:=ako (alQ hx) (alQ hd);obtain⟨P,hP⟩:∃ P,18446744073709551616 ^ L=P+1:=⟨18446744073709551616 ^ L - 1,by have:=bb L; omega⟩
   rw[hP]at h1 ⊢;omega
  have ee:(ax (m.take L)*d+e) / 18446744073709551616 ^ L=S / 18446744073709551616 ^ L%18446744073709551616:=by rw[ajV (by omega),hmv,<- hS,ajJ];rw[ajH (bb L),ajB,<- ajK]; exact hSl
  rw[ajy (by omega:¬(L:Int)<(L:Int)),ajz,hl,ee,ajD,yg S L (L+1) (by omega),aa ajw,aa (ajx (by omega)),aj8,aka,aj6,mn _ (il _ _) (by rw[ak]; omega) (by rw[ak]; omega),oy hSl]
def Dz (x0 y0 a b c d:Nat) (odd:Bool):Prop:=
 ∃ p q,x0=d*p+b*q/\y0=c*p+a*q/\(cond odd (b*c=a*d+1) (a*d=b*c+1))/\a<=b/\c<=d/\d<=q/\q+b+d<=p/\1<=b/\1<=c/\b<18446744073709551616/\d<18446744073709551616
theorem MQ {N:Nat} {x0 y0:Nat} (hx0:x0<18446744073709551616) (hy0:y0<18446744073709551616) (t1 t2 t3 t4:Int) (t5:Bool) :
  ∀ y x u v a b c d odd M,y<M->y<=x->x0=v*x+d*y->y0=u*x+c*y->(cond odd (c*v=d*u+1) (d*u=c*v+1))->1<=v ->
   ((d=0/\u=0/\b=0/\c=1/\v=1)\/(1<=u/\c<=d/\u<=v/\(b=0\/Dz x0 y0 a b c d odd))) ->
   ∃ a' b' c' d':Nat,∃ odd',(b'=0\/Dz x0 y0 a' b' c' d' odd') /\ ∀ e0,al M (rV N t1 t2 t3 t4 t5 e0) ((x:Int),(y:Int),(u:Int),(v:Int),(a:Int),(b:Int),(c:Int),(d:Int),odd)=e0 (a':Int) (b':Int) (c':Int) (d':Int) odd':=by
 intro y;induction y using Nat.strongRecOn with
 | ind y ih=>
 intro x u v a b c d odd M hM hyx h1 h2 hdet hv hor;obtain⟨M,rfl⟩:∃ m,M=m+1:=⟨M - 1,by omega⟩
 have hend:b=0\/Dz x0 y0 a b c d odd:=by
  rcases hor with h | h
  ·exact .inl h.2.2.1
  ·exact h.2.2.2
 by_cases c1:v<=y
 ·have hy1:1<=y:=by omega
  have b1:v*1<=v*x:=ajG _ (by omega);have b2:d*1<=d*y:=ajG _ hy1;have w1:IntKind.wrap .u64 ((x:Int) - (y:Int))=((x - y:Nat):Int):=by have:1*x<=v*x:=ajE _ hv;rw[aq]; omega
  have w2:IntKind.wrap .u64 ((d:Int)+(v:Int))=((d+v:Nat):Int):=by rw[aq]; omega
  by_cases c2:d+v<=x - y
  ·-- one step more
   obtain⟨q,hq⟩:∃ q,q=x / y:=⟨_,rfl⟩
   obtain⟨r,hr⟩:∃ r,r=x%y:=⟨_,rfl⟩
   have hxq:x=q*y+r:=by rw[hq,hr]; exact(aku x y).symm
   have hry:r<y:=by rw[hr]; exact ajN _ hy1
   have hq1:1<=q:=by rw[hq]; exact alY hyx hy1
   have n1:x0=(d+q*v)*y+v*r:=by rw[h1,hxq]; grind
   have n2:y0=(c+q*u)*y+u*r:=by rw[h2,hxq]; grind
   have m1:(d+q*v)*1<=(d+q*v)*y:=ajG _ hy1;have m2:(c+q*u)*1<=(c+q*u)*y:=ajG _ hy1;have hvq:v<=d+q*v:=by have:=ajE v hq1;omega
   have hg:∀(e0:Int->Int->Int->Int->Bool->Bool),al (M+1) (rV N t1 t2 t3 t4 t5 e0) ((x:Int),(y:Int),(u:Int),(v:Int),(a:Int),(b:Int),(c:Int),(d:Int),odd)=al M (rV N t1 t2 t3 t4 t5 e0) ((y:Int),(r:Int),((c+q*u:Nat):Int),((d+q*v:Nat):Int),(c:Int),(d:Int),(u:Int),(v:Int),!odd):=by
    intro e0;show rV N t1 t2 t3 t4 t5 e0 _ (al M _)=_;simp only[rV];have y1:(!decide ((y:Int)=0))=true:=by simp; omega
    have ediv:Int.tdiv (x:Int) (y:Int)=(q:Int):=by rw[hq]; rfl
    have emod:Int.tmod (x:Int) (y:Int)=(r:Int):=by rw[hr]; rfl
    have wq:IntKind.wrap .u64 (q:Int)=(q:Int):=by have:q*1<=q*v:=ajG _ hv;rw[aq]; omega
    have wu:IntKind.wrap .u64 ((c:Int)+IntKind.wrap .u64 ((q:Int)*(u:Int)))=((c+q*u:Nat):Int):=by rw[<- ajU,aq,aq]; omega
    have wv:IntKind.wrap .u64 ((d:Int)+IntKind.wrap .u64 ((q:Int)*(v:Int)))=((d+q*v:Nat):Int):=by rw[<- ajU,aq,aq]; omega
    rw[ajx (by omega:(y:Int)>=v),show(true==true)=true from rfl,ajA,w1,w2,ajx (by omega),ajA,aa y1,aa y1,ediv,emod,wq,wu,wv]
   have hstep:=ih r hry y (c+q*u) (d+q*v) c d u v (!odd) M (by omega) (by omega) n1 n2 (by
    cases odd with
    | true=>
     simp only[ajA,akp,ajz]at hdet ⊢;have:v*(c+q*u)=v*c+q*u*v:=by grind
     have:u*(d+q*v)=u*d+q*u*v:=by grind
     have:c*v=v*c:=ajB _ _;have:d*u=u*d:=ajB _ _;omega
    | false=>
     simp only[ajA,aj_,ajz]at hdet ⊢;have:u*(d+q*v)=u*d+q*u*v:=by grind
     have:v*(c+q*u)=v*c+q*u*v:=by grind
     have:c*v=v*c:=ajB _ _;have:d*u=u*d:=ajB _ _;omega) (by omega) (by
    refine .inr ?_;rcases hor with⟨k1,k2,k3,k4,k5⟩ | ⟨k1,k2,k3,k4⟩
    ·subst k1 k2 k4 k5;exact⟨by omega,by omega,by omega,.inl rfl⟩
    ·have hu1:u<=c+q*u:=by have:=ajE u hq1;omega
     refine⟨by omega,k3,?_,?_⟩
     ·have:=ajG q k3;omega
     ·rcases akT d with hd0 | hd0
      ·exact .inl hd0
      ·refine .inr ⟨x,y,h1,h2,?_,k2,k3,c1,by omega,hd0,k1,by omega,by omega⟩;cases odd with
       | true=>simp only[akp,ajz,ajA]at hdet ⊢; exact hdet
       | false=>simp only[aj_,ajA,ajz]at hdet ⊢; exact hdet)
   obtain⟨a',b',c',d',odd',g1,g2⟩:=hstep;exact⟨a',b',c',d',odd',g1,λe0=>by rw[hg,g2]⟩
  ·refine⟨a,b,c,d,odd,hend,λe0=>?_⟩;show rV N t1 t2 t3 t4 t5 e0 _ (al M _)=_;simp only[rV];rw[ajx (by omega:(y:Int)>=v),show(true==true)=true from rfl,ajA,w1,w2,ajy (by omega),ajz]
 ·refine⟨a,b,c,d,odd,hend,λe0=>?_⟩;show rV N t1 t2 t3 t4 t5 e0 _ (al M _)=_;simp only[rV];rw[ajy (by omega:¬(y:Int)>=v),show(false==true)=false from rfl,ajz]
theorem Pt {N:Nat} (hN:1180591620717411303424<=N) {x0 y0:Nat} (hx0:x0<18446744073709551616) (hyx:y0<=x0):∃ a b c d:Nat,∃ odd,(b=0\/Dz x0 y0 a b c d odd) /\ ∀ k,xy N (x0:Int) (y0:Int) k=k (a:Int) (b:Int) (c:Int) (d:Int) odd:=by obtain⟨a,b,c,d,odd,h1,h2⟩:=MQ (N:=N) (x0:=x0) (y0:=y0) hx0 (by omega) 0 0 0 0 false y0 x0 0 1 0 0 1 0 true N (by omega) hyx (by omega) (by omega) rfl (ajL _) (.inl ⟨rfl,rfl,rfl,rfl,rfl⟩);exact⟨a,b,c,d,odd,h1,λk=>by unfold xy; rw[af]; exact h2 _⟩
theorem Oy {x0 y0 a b c d F rx ry X Y:Nat} (h:Dz x0 y0 a b c d true) (hrx:rx<F) (hry:ry<F) (hX:X=x0*F+rx) (hY:Y=y0*F+ry) :
  a*X<=b*Y/\d*Y<=c*X/\c*X - d*Y<=b*Y - a*X/\X=d*(b*Y - a*X)+b*(c*X - d*Y)/\Y=c*(b*Y - a*X)+a*(c*X - d*Y):=by
 obtain⟨p,q,h1,h2,hdet,hab,hcd,hdq,hpq,hb1,hc1,hbl,hdl⟩:=h;simp only[ajA]at hdet;have e1:b*Y+a*rx=a*X+(p*F+b*ry):=by
  subst h1 h2 hX hY;have:b*(c*p*F)=(a*d+1)*(p*F):=by rw[<- hdet]; grind
  grind
 have e2:c*X+d*ry=d*Y+(q*F+c*rx):=by
  subst h1 h2 hX hY;have:b*c*(q*F)=(a*d+1)*(q*F):=by rw[<- hdet]
  grind
 have m1:a*rx<=a*F:=ajG _ (by omega);have m2:a*F<=b*F:=ajE _ hab;have m3:d*ry<=d*F:=ajG _ (by omega);have m4:d*F<=q*F:=ajE _ hdq;have m5:(q+b+d)*F<=p*F:=ajE _ hpq;rw[aj2,aj2]at m5;have m6:c*rx<=c*F:=ajG _ (by omega);have m7:c*F<=d*F:=ajE _ hcd;have g1:a*X<=b*Y:=by omega
 have g2:d*Y<=c*X:=by omega
 refine⟨g1,g2,by omega,?_,?_⟩
 ·obtain⟨U,hU⟩:=ald g1;obtain⟨V,hV⟩:=ald g2;rw[<- hU,<- hV,akb,akb];have t1:d*(b*Y)=d*(a*X)+d*U:=by rw[<- hU,ajP]
  have t2:b*(c*X)=b*(d*Y)+b*V:=by rw[<- hV,ajP]
  have t3:b*(c*X)=(a*d+1)*X:=by rw[<- hdet,ajI]
  have t4:(a*d+1)*X=d*(a*X)+X:=by grind
  have t5:d*(b*Y)=b*(d*Y):=by grind
  omega
 ·obtain⟨U,hU⟩:=ald g1;obtain⟨V,hV⟩:=ald g2;rw[<- hU,<- hV,akb,akb];have t1:c*(b*Y)=c*(a*X)+c*U:=by rw[<- hU,ajP]
  have t2:a*(c*X)=a*(d*Y)+a*V:=by rw[<- hV,ajP]
  have t3:c*(b*Y)=(a*d+1)*Y:=by rw[<- hdet]; grind
  have t4:(a*d+1)*Y=a*(d*Y)+Y:=by grind
  have t5:c*(a*X)=a*(c*X):=by grind
  omega
theorem KZ {x0 y0 a b c d F rx ry X Y:Nat} (h:Dz x0 y0 a b c d false) (hrx:rx<F) (hry:ry<F) (hX:X=x0*F+rx) (hY:Y=y0*F+ry) :
  b*Y<=a*X/\c*X<=d*Y/\d*Y - c*X<=a*X - b*Y/\X=d*(a*X - b*Y)+b*(d*Y - c*X)/\Y=c*(a*X - b*Y)+a*(d*Y - c*X):=by
 obtain⟨p,q,h1,h2,hdet,hab,hcd,hdq,hpq,hb1,hc1,hbl,hdl⟩:=h;simp only[ajz]at hdet;have e1:a*X+b*ry=b*Y+(p*F+a*rx):=by
  subst h1 h2 hX hY;have:a*d*(p*F)=(b*c+1)*(p*F):=by rw[<- hdet]
  grind
 have e2:d*Y+c*rx=c*X+(q*F+d*ry):=by
  subst h1 h2 hX hY;have:a*d*(q*F)=(b*c+1)*(q*F):=by rw[<- hdet]
  grind
 have m1:b*ry<=b*F:=ajG _ (by omega);have m3:c*rx<=c*F:=ajG _ (by omega);have m4:d*F<=q*F:=ajE _ hdq;have m5:(q+b+d)*F<=p*F:=ajE _ hpq;rw[aj2,aj2]at m5;have m6:d*ry<=d*F:=ajG _ (by omega);have m7:c*F<=d*F:=ajE _ hcd;have g1:b*Y<=a*X:=by omega
 have g2:c*X<=d*Y:=by omega
 refine⟨g1,g2,by omega,?_,?_⟩
 ·obtain⟨U,hU⟩:=ald g1;obtain⟨V,hV⟩:=ald g2;rw[<- hU,<- hV,akb,akb];have t1:d*(a*X)=d*(b*Y)+d*U:=by rw[<- hU,ajP]
  have t2:b*(d*Y)=b*(c*X)+b*V:=by rw[<- hV,ajP]
  have t3:d*(a*X)=(b*c+1)*X:=by rw[<- hdet]; grind
  have t4:(b*c+1)*X=b*(c*X)+X:=by grind
  have t5:d*(b*Y)=b*(d*Y):=by grind
  omega
 ·obtain⟨U,hU⟩:=ald g1;obtain⟨V,hV⟩:=ald g2;rw[<- hU,<- hV,akb,akb];have t1:c*(a*X)=c*(b*Y)+c*U:=by rw[<- hU,ajP]
  have t2:a*(d*Y)=a*(c*X)+a*V:=by rw[<- hV,ajP]
  have t3:a*(d*Y)=(b*c+1)*Y:=by rw[<- hdet]; grind
  have t4:(b*c+1)*Y=c*(b*Y)+Y:=by grind
  have t5:c*(a*X)=a*(c*X):=by grind
  omega
theorem AE {X Y U V a b c d:Nat} (h1:X=d*U+b*V) (h2:Y=c*U+a*V) (hU:Nat.gcd X Y∣U) (hV:Nat.gcd X Y∣V):Nat.gcd U V=Nat.gcd X Y:=by
 refine Nat.dvd_antisymm (Nat.dvd_gcd ?_ ?_) (Nat.dvd_gcd hU hV)
 ·rw[h1];exact Nat.dvd_add (ajW (akn _ _) _) (ajW (akI _ _) _)
 ·rw[h2];exact Nat.dvd_add (ajW (akn _ _) _) (ajW (akI _ _) _)
theorem Pa {N:Nat} {x0 y0 a b c d F rx ry X Y:Nat} {odd:Bool} (h:Dz x0 y0 a b c d odd) (hrx:rx<F) (hry:ry<F) (hX:X=x0*F+rx) (hY:Y=y0*F+ry) (hY0:0<Y) (sX:(ae X).length+10<N/\(ae X).length<=1099511627000) (sY:(ae Y).length+10<N/\(ae Y).length<=1099511627000) :
  ∃ U V,V<=U/\U+V<X+Y/\U<=X/\Nat.gcd U V=Nat.gcd X Y /\ ∀ k,fo N (a:Int) (b:Int) (c:Int) (d:Int) odd (ae X) (ae Y) k=k (ae U) (ae V):=by
 have hb:=h;obtain⟨p,q,h1,h2,hdet,hab,hcd,hdq,hpq,hb1,hc1,hbl,hdl⟩:=hb;have len1:∀ z e:Nat,(ae z).length+10<N/\(ae z).length<=1099511627000->e<18446744073709551616->ny N (ae (z*e+0)):=by
  intro z e hz he;have:=gF ((ae z).length+1) (z*e+0) (by rw[aj4,ajK]; exact akz (kZ z) he)
  exact⟨by omega,by omega⟩
 have fin:∀ U V:Nat,X=d*U+b*V->Y=c*U+a*V->V<=U->U+V<X+Y/\U<=X:=by
  intro U V hx hy hvu;have k1:1*U<=d*U:=ajE _ (by omega);have k2:1*V<=b*V:=ajE _ hb1;have k3:1*U<=c*U:=ajE _ hc1;have hU0:0<U:=by
   rcases akT U with hu | hu
   ·exfalso;have hv:V=0:=by omega
    rw[hu,hv,akQ,akQ]at hy;omega
   ·exact hu
  exact⟨by omega,by omega⟩
 cases odd with
 | true=>
  obtain⟨g1,g2,g3,g4,g5⟩:=Oy h hrx hry hX hY;obtain⟨f1,f2⟩:=fin _ _ g4 g5 g3;refine⟨b*Y - a*X,c*X - d*Y,g3,f1,f2,AE g4 g5 ?_ ?_,λk=>?_⟩
  ·exact al0 (ajW (akI _ _) _) (ajW (akn _ _) _)
  ·exact al0 (ajW (akn _ _) _) (ajW (akI _ _) _)
  ·(unfold fo; rw[af]; unfold eV)
   have m:=λ(z e:Nat) (he:e<18446744073709551616) (hz:ny N (ae z)) (kk:List Int->Bool)=>Jw (N:=N) (e:=0) he (by decide) hz kk
   rw[show((0:Nat):Int)=0 from rfl]at m;rw[ajA,m Y b hbl ⟨by omega,by omega⟩,m X a (by omega) ⟨by omega,by omega⟩,qT _ _ (aY _) (aY _) (by rw[aF,aF,aj4,aj4,ajB X,ajB Y]; exact g1) (len1 Y b sY hbl),m X c (by omega) ⟨by omega,by omega⟩,m Y d hdl ⟨by omega,by omega⟩,qT _ _ (aY _) (aY _) (by rw[aF,aF,aj4,aj4,ajB X,ajB Y]; exact g2) (len1 X c sX (by omega)),aF,aF,aF,aF,aj4,aj4,aj4,aj4,ajB Y b,ajB X a,ajB X c,ajB Y d]
 | false=>
  obtain⟨g1,g2,g3,g4,g5⟩:=KZ h hrx hry hX hY;obtain⟨f1,f2⟩:=fin _ _ g4 g5 g3;refine⟨a*X - b*Y,d*Y - c*X,g3,f1,f2,AE g4 g5 ?_ ?_,λk=>?_⟩
  ·exact al0 (ajW (akn _ _) _) (ajW (akI _ _) _)
  ·exact al0 (ajW (akI _ _) _) (ajW (akn _ _) _)
  ·(unfold fo; rw[af]; unfold eV)
   have m:=λ(z e:Nat) (he:e<18446744073709551616) (hz:ny N (ae z)) (kk:List Int->Bool)=>Jw (N:=N) (e:=0) he (by decide) hz kk
   rw[show((0:Nat):Int)=0 from rfl]at m;rw[ajz,m X a (by omega) ⟨by omega,by omega⟩,m Y b hbl ⟨by omega,by omega⟩,qT _ _ (aY _) (aY _) (by rw[aF,aF,aj4,aj4,ajB X,ajB Y]; exact g1) (len1 X a sX (by omega)),m Y d hdl ⟨by omega,by omega⟩,m X c (by omega) ⟨by omega,by omega⟩,qT _ _ (aY _) (aY _) (by rw[aF,aF,aj4,aj4,ajB X,ajB Y]; exact g2) (len1 Y d sY hdl),aF,aF,aF,aF,aj4,aj4,aj4,aj4,ajB Y b,ajB X a,ajB X c,ajB Y d]
theorem Nu (N x:Nat) (k:Ky9):yE N (ae x) k=k ((x%18446744073709551616:Nat):Int):=by unfold yE FQ;have:=qU N (ae x) 0 (by omega) k;rw[show((0:Nat):Int)=0 from rfl]at this;rw[this,q_,alq,aln]
theorem I1 {N:Nat} (e0:Int->Bool):∀(b a M:Nat),b<M->al M (gk N e0) ((a:Int),(b:Int))=e0 ((Nat.gcd a b:Nat):Int):=by
 intro b;induction b using Nat.strongRecOn with
 | ind b ih=>
 intro a M hM;obtain⟨M,rfl⟩:∃ m,M=m+1:=⟨M - 1,by omega⟩
 show gk N e0 ((a:Int),(b:Int)) (al M _)=_;simp only[gk];by_cases h:b=0
 ·subst h;rw[ajy (by omega),ajz,al4]
 ·have y1:(!decide ((b:Int)=0))=true:=by simp; omega
  have emod:Int.tmod (a:Int) (b:Int)=((a%b:Nat):Int):=rfl;rw[ajx (by omega),ajA,aa y1,emod,ih (a%b) (ajN _ (by omega)) b M (by have:=ajN a (by omega:b>0); omega),akN b,<- amz,akN]
theorem zW {y:Nat} (h:(ae y).length<=1):y<18446744073709551616:=by have:=kZ y;have h2:18446744073709551616 ^ (ae y).length<=18446744073709551616 ^ 1:=ajO (by decide) h;rw[amy]at h2;omega
theorem DV {N:Nat} (hN:1180591620717411303424<=N) {u v:List Int} {x y:Nat} (hy:(ae y).length<=1) (hx:y=0\/(ae x).length<=1) (k:Kz3) :
  GV N u v (ae x) (ae y) k=k (ae (Nat.gcd x y)):=by
 unfold GV;have hyl:=zW hy;by_cases h:y=0
 ·subst h;rw[bh,al4]; rfl
 ·have e0:((((ae y).length:Nat):Int)==0)=false:=by rw[bS h]; simp; omega
  have hxl:=zW (hx.resolve_left h);rw[e0,ajz,Nu,Nu,ajJ hxl,ajJ hyl,I1 _ y x N (by omega)];refine yq (by omega) _ ?_ k;have:=aly x (al5 h);omega
theorem IU {N:Nat} (hN:1180591620717411303424<=N) {u v:List Int} (k:Kz3) :
  ∀ s x y,x+y=s->s<N->y<=x->(ae x).length<=1099511626000 ->
   Q1 N u v (ae x) (ae y) k=k (ae (Nat.gcd x y)):=by
 intro s x y hs hsN hyx hxl;unfold Q1;have main:∀ s x y M,x+y=s->s<M->M<=N->y<=x->(ae x).length<=1099511626000 ->
   al M (GL N (λ(x_3:List Int) (y_3:List Int)=>(cond ((decide ((((List.length y_3):Nat):Int)>0))==true) (cond (decide ((((List.length x_3):Nat):Int)>1)) (sQ5 N x_3 y_3 (λ(acr:List Int) (acq:List Int)=>(GV N u v y_3 acq k))) (GV N u v x_3 y_3 k)) (GV N u v x_3 y_3 k)))) (ae x,ae y)=k (ae (Nat.gcd x y)):=by
  intro s;induction s using Nat.strongRecOn with
  | ind s ih=>
  intro x y M hs hsM hMN hyx hxl;obtain⟨M,rfl⟩:∃ m,M=m+1:=⟨M - 1,by omega⟩
  have hyl:=dx hyx;show GL N _ (ae x,ae y) (al M _)=_;simp only[GL];by_cases h2:2<=(ae y).length
  ·have hyge:18446744073709551616<=y:=by
    rcases akv y 18446744073709551616 with h | h
    ·have:=gF 1 y (by rw[amy]; exact h); omega
    ·exact h
   have hblx:64<bl x:=by
    rcases akv 64 (bl x)with h | h
    ·exact h
    ·have h1:=Cn x;have h3:2 ^ bl x<=2 ^ 64:=ajO (by decide) h;rw[rI]at h3;omega
   have hblu:bl x<=64*(ae x).length:=by refine Ax ?_;rw[amt,rI]; exact kZ x
   obtain⟨f,hf⟩:∃ f,bl x=f+64:=⟨bl x - 64,by omega⟩
   have ef:(bl x:Int) - 64=(f:Int):=by omega
   have hF0:0<2 ^ f:=ajM f;have hx0l:x / 2 ^ f<18446744073709551616:=by rw[ajH hF0,<- rI,<- ajR,alp,<- hf]; exact Cn x
   have hy0l:y / 2 ^ f<=x / 2 ^ f:=alP hyx;rw[ajx (by omega),ajA,Jp (by omega),ef,aa ajv,Nw (by omega),Nw (by omega),ajJ hx0l,ajJ (by omega)];obtain⟨a,b,c,d,odd,g1,g2⟩:=Pt hN hx0l hy0l;rw[g2];by_cases hb:b=0
   ·subst hb;rw[show(((0:Nat):Int) != 0)=false from rfl,ajz,mo hN (by omega) (by omega) (by omega)];have hm:=ajN x (by omega:y>0);rw[ih (y+x%y) (by omega) y (x%y) M rfl (by omega) (by omega) (by omega) (by omega),akN y,<- amz,akN]
   ·have hbn:((b:Int) != 0)=true:=by simp; omega
    rw[hbn,ajA];obtain⟨U,V,k1,k2,k3,k4,k5⟩:=Pa (N:=N) (g1.resolve_left hb) (ajN x hF0) (ajN y hF0) (aku x (2 ^ f)).symm (aku y (2 ^ f)).symm (by omega) ⟨by omega,by omega⟩ ⟨by omega,by omega⟩;have hUl:=dx k3;rw[k5,ih (U+V) (by omega) U V M rfl (by omega) (by omega) k1 (by omega),k4]
  ·rw[ajy (by omega),ajz];by_cases h0:y=0
   ·have:(((ae y).length:Nat):Int)=0:=by rw[h0,bh]; rfl
    rw[this,ajy (by omega),show(false==true)=false from rfl,ajz,DV hN (by omega) (.inl h0)]
   ·have hpos:0<(ae y).length:=by rw[bS h0]; simp
    rw[ajx (by omega),show(true==true)=true from rfl,ajA];by_cases h1:1<(ae x).length
    ·have hm:=ajN x (al5 h0);have hml:=dx (Nat.le_of_lt hm);rw[ajx (by omega),ajA,mo hN (al5 h0) (by omega) (by omega),DV hN (by omega) (.inr (by omega)),akN y,<- amz,akN]
    ·rw[ajy (by omega),ajz,DV hN (by omega) (.inr (by omega))]
 exact main s x y N hs hsN (ajL _) hyx hxl
theorem Jq {N:Nat} (hN:1180591620717411303424<=N) {x y:Nat} (hf:x+y<N) (hxl:(ae x).length<=1099511626000) (hyl:(ae y).length<=1099511626000) (k:Kz3):sQ9 N (ae x) (ae y) k=k (ae (Nat.gcd x y)):=by
 (unfold sQ9; rw[af]; unfold GQ9)
 rw[jN x y ⟨by omega,by omega⟩ ⟨by omega,by omega⟩];by_cases h:x<y
 ·have hc:decide (d8 x y<0)=true:=by unfold d8; rw[if_pos h]; rfl
  rw[hc,ajA,IU hN _ (y+x) y x rfl (by omega) (by omega) hyl,akN]
 ·have hc:decide (d8 x y<0)=false:=by unfold d8; rw[if_neg h]; split <;> rfl
  rw[hc,ajz,IU hN _ (x+y) x y rfl hf (by omega) hxl]
def Fuel (N:Nat):Prop:=∃ E,4398046511104<=E/\2 ^ E<=N
theorem Fuel.lt {N:Nat} (h:Fuel N):4398046511104<N:=by obtain⟨E,h1,h2⟩:=h;have:E<2 ^ E:=Nat.lt_two_pow_self;omega
theorem Fuel.sum {N C x y:Nat} (h:Fuel N) (hC:C<=4398046511000) (hx:aU C x) (hy:aU C y):x+y<N:=by obtain⟨E,h1,h2⟩:=h;have h3:2 ^ (C+1)<=2 ^ E:=ajO (by decide) (by omega);rw[ajK]at h3;unfold aU at hx hy;omega
theorem Fuel.big {N:Nat} (h:Fuel N):1180591620717411303424<=N:=by
 obtain⟨E,h1,h2⟩:=h;have h3:2 ^ 70<=2 ^ E:=ajO (by decide) (by omega);have e:(2:Nat) ^ 70=1180591620717411303424:=by decide
 rw[e]at h3;exact aj0 h3 h2
theorem C6 {B n:Nat} (hB:B<=2000000000100) (h:aU B n):(ae n).length<=31250000003:=by have:=OC h; omega
def kr (z:Int) (d:Nat) (k:Kx6):Bool:=k (decide (z<0)) (ae z.natAbs) false (ae d)
def kq (x:Rat) (k:Kx6):Bool:=kr x.num x.den k
theorem Je (g:Bool) (n d:Nat) (k:Kx6):k (sg g n) (ae n) false (ae d)=kr (aZ g n) d k:=JW g n (λa b=>k a b false (ae d))
theorem Ht {N:Nat} (g:Bool) (n:Nat) (l:List Int) (b1 b2:Bool) (k:Ky0):PN N g (ae n) l b1 b2 k=k (sg g n) false:=by
 (unfold PN; rw[af]; unfold Xq PL Ui VB XB)
 cases g
 ·rfl
 ·simp only[tG,sg,akA]; rfl
theorem Pk {N:Nat} (g b:Bool) (n:Nat) (k:Ky8):HJ N g (ae n) b k=k (sg g n):=by
 unfold HJ Zj;cases g
 ·rfl
 ·simp only[tG,sg,akA]; rfl
theorem UW (g:Bool) (n:Nat):aZ (sg g n) n=aZ g n:=by
 unfold aZ sg;cases g
 ·rfl
 ·by_cases h:n=0
  ·subst h; rfl
  ·rw[ajx h]; rfl
theorem Pm {N:Nat} (g1:Bool) (n1:Nat) (g2:Bool) (n2:Nat) (h1:ny N (ae n1)) (h2:ny N (ae n2)) (k:Ky2) :
  Vx N g2 (ae n2) g1 (ae n1) k=wZ (aZ g1 n1+aZ g2 n2) k:=by
 (unfold Vx; rw[af]; unfold Xv)
 rw[SH _ _ (aY _) (aY _) h1 h2,jN _ _ h1 h2,aF,aF,rC g2 _ _ (n1+n2) k,<- MT];congr 1;by_cases h:n2<=n1
 ·rw[qT _ _ (aY _) (aY _) (by rw[aF,aF]; exact h) h1,aF,aF,rC g1 _ _ (n1 - n2) k,yd,ajx h];rfl
 ·rw[qT _ _ (aY n2) (aY n1) (by rw[aF,aF]; omega) h2,aF,aF,rC g2 _ _ (n2 - n1) k,yd,ajy h];rfl
theorem SM {N:Nat} (hF:Fuel N) {x y:Nat} (hy:0<y) (hxl:(ae x).length<=1099511627000) (hyl:(ae y).length<=1099511627000) (k:Kz3):z_ N (ae x) (ae y) k=k (ae (x / y)):=by
 have hj:Ik N (ae x) (ae y) k=k (ae (x / y)):=by unfold Ik;rw[mo hF.big hy hxl hyl]
 (unfold z_; rw[af]; unfold QY)
 by_cases h1:(ae y).length=1
 ·have e:((((ae y).length:Nat):Int)==1)=true:=by rw[h1]; rfl
  rw[e,show(true==true)=true from rfl,ajA,aa ajw];have hyw:=uD (by omega:y ≠ 0) (zW (by omega));by_cases h2:y=1
  ·have:((ae y).getD 0 0==1)=true:=by rw[hyw,h2]; rfl
   rw[this,ajA,h2,aln]
  ·have:((ae y).getD 0 0==1)=false:=by rw[hyw]; simp; omega
   rw[this,ajz,hj]
 ·have e:((((ae y).length:Nat):Int)==1)=false:=by simp; omega
  rw[e,show(false==true)=false from rfl,ajz,hj]
theorem ia {N:Nat} (a:Bool) (l:List Int) (b:Bool) {d:Nat} (hd:d ≠ 0) (k:Kz3):FJ N a l b (ae d) k=k (ae d):=by
 unfold FJ Zo;have:((((ae d).length:Nat):Int)==0)=false:=by rw[bS hd]; simp; omega
 rw[this]; rfl
theorem JB {N:Nat} (a:Bool) (l:List Int) (b:Bool) {d:Nat} (hd:d ≠ 0) (k:Kz3):Tp N a l b (ae d) k=k (ae d):=by
 unfold Tp VR;have:((((ae d).length:Nat):Int)==0)=false:=by rw[bS hd]; simp; omega
 rw[this]; rfl
theorem yv {N B:Nat} (hF:Fuel N) (hB:B<=2000000000100) {a b:Nat} (ha:aU B a) (hb:aU B b) (k:Kz3):Db N (ae a) (ae b) k=k (ae (a*b)):=by have h1:=C6 hB ha;have h2:=C6 hB hb;have:=hF.lt;rw[LJ _ _ (aY _) (aY _) (by omega) (by omega),aF,aF]
theorem AU {N B:Nat} (hF:Fuel N) (hB:B<=2000000000100) {a b:Nat} (ha:aU B a) (hb:aU B b) (k:Kz3):sQ9 N (ae a) (ae b) k=k (ae (Nat.gcd a b)):=by have h1:=C6 hB ha;have h2:=C6 hB hb;rw[Jq hF.big (hF.sum (by omega) ha hb) (by omega) (by omega)]
theorem sN {N B:Nat} (hF:Fuel N) (hB:B<=2000000000100) {a b:Nat} (h0:0<b) (ha:aU B a) (hb:aU B b) (k:Kz3):z_ N (ae a) (ae b) k=k (ae (a / b)):=by have h1:=C6 hB ha;have h2:=C6 hB hb;rw[SM hF h0 (by omega) (by omega)]
theorem uX {N B:Nat} (hB:B<=2000000000100) {a:Nat} (ha:aU B a) (k:Kz3):tZ N (ae a) k=k (ae a):=by have h1:=C6 hB ha;rw[BQ _ (by omega)]
theorem bV {B a b:Nat} (h:aU B a):aU B (a / b):=oc h (ak8 _ _)
theorem TW {N B n:Nat} (hF:Fuel N) (hB:B<=2000000000100) (h:aU B n):ny N (ae n):=by have h1:=C6 hB h;have:=hF.lt;exact⟨by omega,by omega⟩
def Bq (B:Nat) (x:Rat):Prop:=aU B x.num.natAbs/\aU B x.den
theorem Bq.mono {A B:Nat} {x:Rat} (h:Bq A x) (hAB:A<=B):Bq B x:=⟨bN h.1 hAB,bN h.2 hAB⟩
theorem w5 (z:Int) (f:Nat):aZ (decide (z<0)) (z.natAbs*f)=z*f:=by
 unfold aZ;by_cases h:z<0
 ·rw[ajx h,if_pos rfl];have:(z.natAbs:Int) = -z:=by omega
  rw[ajU,this,amJ,Int.neg_neg]
 ·rw[ajy h,if_neg (by decide)];have:(z.natAbs:Int)=z:=by omega
  rw[ajU,this]
theorem Eh {z:Int} {h:Nat} (h0:0<h) (hd:h∣z.natAbs):aZ (decide (z<0)) (z.natAbs / h)=z / (h:Int):=by
 obtain⟨q,hq⟩:=hd;rw[hq,aj7 _ h0];unfold aZ;have hh:(h:Int) ≠ 0:=by omega
 by_cases hz:z<0
 ·rw[ajx hz,if_pos rfl];have:z=(h:Int)*(-(q:Int)):=by
   have e:(z.natAbs:Int)=(h:Int)*q:=by rw[hq,ajU]
   rw[amu,<- e]; omega
  rw[this,alw _ hh]
 ·rw[ajy hz,if_neg (by decide)];have:z=(h:Int)*(q:Int):=by
   have e:(z.natAbs:Int)=(h:Int)*q:=by rw[hq,ajU]
   rw[<- e]; omega
  rw[this,alw _ hh]
theorem Rl (x y:Rat):(x+y).num=(x.num*((y.den / Nat.gcd x.den y.den:Nat):Int)+y.num*((x.den / Nat.gcd x.den y.den:Nat):Int)) / ((Nat.gcd (x.num*((y.den / Nat.gcd x.den y.den:Nat):Int)+y.num*((x.den / Nat.gcd x.den y.den:Nat):Int)).natAbs (Nat.gcd x.den y.den):Nat):Int)
  /\ (x+y).den=x.den / Nat.gcd x.den y.den*(y.den / Nat.gcd (x.num*((y.den / Nat.gcd x.den y.den:Nat):Int)+y.num*((x.den / Nat.gcd x.den y.den:Nat):Int)).natAbs (Nat.gcd x.den y.den)):=by
 have aux:=Rat.add.aux x y (g:=Nat.gcd x.den y.den) rfl rfl rfl;simp only at aux;have hx:=x.den_pos;have hy:=y.den_pos;obtain⟨g,hg⟩:∃ g,g=Nat.gcd x.den y.den:=⟨_,rfl⟩
 rw[<- hg]at aux ⊢;have hg0:0<g:=by rw[hg]; exact Nat.gcd_pos_of_pos_left _ hx
 have hgx:g∣x.den:=by rw[hg]; exact akn _ _
 have hgy:g∣y.den:=by rw[hg]; exact akI _ _
 obtain⟨e,he⟩:∃ e,e=x.den / g:=⟨_,rfl⟩
 obtain⟨f,hf⟩:∃ f,f=y.den / g:=⟨_,rfl⟩
 rw[<- he,<- hf]at aux ⊢;have ex:x.den=e*g:=by rw[he,Nat.div_mul_cancel hgx]
 have ey:y.den=f*g:=by rw[hf,Nat.div_mul_cancel hgy]
 obtain⟨n,hn⟩:∃ n,n=x.num*(f:Int)+y.num*(e:Int):=⟨_,rfl⟩
 rw[<- hn]at aux ⊢;have hsum:x+y=mkRat n (e*y.den):=by
  rw[Rat.add_def'];have e1:x.num*(y.den:Int)+y.num*(x.den:Int)=n*(g:Int):=by rw[ex,ey,hn]; simp only[ajU]; grind
  have e2:x.den*y.den=e*y.den*g:=by rw[ex]; grind
  rw[e1,e2,Rat.mkRat_mul_right (by omega)]
 have he0:0<e:=by
  rcases akT e with h | h
  ·rw[h,akW]at ex; omega
  ·exact h
 have hd0:e*y.den ≠ 0:=by have:=alr he0 hy; omega
 have hhy:Nat.gcd n.natAbs g∣y.den:=Nat.dvd_trans (akI _ _) hgy;constructor
 ·rw[hsum,amK,if_neg hd0,akN,<- aux]
 ·rw[hsum,amL,if_neg hd0,akN,<- aux,Nat.mul_div_assoc _ hhy]
theorem FU {A:Nat} {z w:Int} (hz:aU A z.natAbs) (hw:aU A w.natAbs):aU (A+1) (z+w).natAbs:=oc (Aw hz hw) (by omega)
theorem yc {A B:Nat} {z:Int} {n:Nat} (hz:aU A z.natAbs) (hn:aU B n):aU (A+B) (z*(n:Int)).natAbs:=by rw[alj,ake]; exact d7 hz hn
theorem Es {N B:Nat} (hF:Fuel N) (hB:B<=1000000000000) {x y:Rat} (hx:Bq B x) (hy:Bq B y) (b1 b2:Bool) (k:Kx6) :
  Vy N (decide (x.num<0)) (ae x.num.natAbs) false (ae x.den) (decide (y.num<0)) (ae y.num.natAbs) false (ae y.den) b1 b2 k=kq (x+y) k:=by
 (unfold Vy; rw[af]; unfold Uj)
 obtain⟨m1,m2⟩:=Rl x y;have hB2:B<=2000000000100:=by omega
 have hxd:=x.den_pos;have hyd:=y.den_pos;rw[ia _ _ _ x.den_nz,ia _ _ _ y.den_nz,AU hF hB2 hx.2 hy.2];obtain⟨g,hg⟩:∃ g,g=Nat.gcd x.den y.den:=⟨_,rfl⟩
 rw[<- hg]at m1 m2 ⊢;have hg0:0<g:=by rw[hg]; exact Nat.gcd_pos_of_pos_left _ hxd
 have hgb:aU B g:=by rw[hg]; exact oc hx.2 (Nat.gcd_le_left _ hxd)
 have hgy:g∣y.den:=by rw[hg]; exact akI _ _
 rw[sN hF hB2 hg0 hx.2 hgb,sN hF hB2 hg0 hy.2 hgb,yv hF hB2 hx.1 (bV hy.2),Pk,yv hF hB2 hy.1 (bV hx.2)];have hb1:=d7 hx.1 (bV (b:=g) hy.2);have hb2:=d7 hy.1 (bV (b:=g) hx.2);rw[Pm _ _ _ _ (TW hF (by omega) hb1) (TW hF (by omega) hb2),UW,w5,w5];have hnb:aU (B+B+1) (x.num*((y.den / g:Nat):Int)+y.num*((x.den / g:Nat):Int)).natAbs:=FU (yc hx.1 (bV hy.2)) (yc hy.1 (bV hx.2));obtain⟨n,hn⟩:∃ n,n=x.num*((y.den / g:Nat):Int)+y.num*((x.den / g:Nat):Int):=⟨_,rfl⟩
 rw[<- hn]at m1 m2 hnb ⊢;have hB3:B+B+1<=2000000000100:=by omega
 unfold wZ;dsimp only;rw[AU hF hB3 hnb (bN hgb (by omega))];obtain⟨h,hh⟩:∃ h,h=Nat.gcd n.natAbs g:=⟨_,rfl⟩
 rw[<- hh]at m1 m2 ⊢;have hh0:0<h:=by rw[hh]; exact akC _ hg0
 have hhb:aU B h:=by rw[hh]; exact oc hgb (aly _ hg0)
 rw[sN hF hB3 hh0 hnb (bN hhb (by omega)),uX hB3 (bV hnb),sN hF hB2 hh0 hy.2 hhb,yv hF hB2 (bV hx.2) (bV hy.2),Ht,Je _ _ _ k,Eh hh0 (by rw[hh]; exact akn _ _),<- m1,<- m2];rfl
theorem Jm {N B:Nat} (hF:Fuel N) (hB:B<=1000000000000) {x y:Rat} (hx:Bq B x) (hy:Bq B y) (b1 b2:Bool) (k:Kx6) :
  Y2 N (decide (x.num<0)) (ae x.num.natAbs) false (ae x.den) b1 b2 (decide (y.num<0)) (ae y.num.natAbs) false (ae y.den) k=kq (x+y) k:=by
 rw[<- Es hF hB hx hy b1 b2 k]
 (unfold Y2; rw[af]; unfold Xt; unfold Vy; rw[af]; unfold Uj)
 rw[ia _ _ _ x.den_nz,JB _ _ _ y.den_nz,ia _ _ _ x.den_nz,ia _ _ _ y.den_nz]
theorem Su (g:Bool) (n:Nat):aZ (!g) n = -(aZ g n):=by unfold aZ; cases g <;> simp
theorem jM (z:Int):aZ (decide (z<0)) z.natAbs=z:=Ss z
theorem LD {N B:Nat} (hB:B<=2000000000100) {y:Rat} (hy:Bq B y) (b1 b2:Bool) (k:Kx6) :
  Tq N (decide (y.num<0)) (ae y.num.natAbs) false (ae y.den) b1 b2 k=kq (-y) k:=by
 (unfold Tq; rw[af]; unfold Qk)
 rw[uX hB hy.1,ia _ _ _ y.den_nz,uX hB hy.2,Ht,Je _ _ _ k,Su,jM];rfl
theorem Jv {N B:Nat} (hF:Fuel N) (hB:B<=1000000000000) {x y:Rat} (hx:Bq B x) (hy:Bq B y) (k:Kx6) :
  cR N (decide (x.num<0)) (ae x.num.natAbs) false (ae x.den) (decide (y.num<0)) (ae y.num.natAbs) false (ae y.den) k=kq (x - y) k:=by
 (unfold cR kB; unfold WP; rw[af]; unfold Qt)
 rw[LD (by omega) hy];unfold kq kr;dsimp only;have hny:Bq B (-y):=⟨by rw[Rat.neg_num,alA]; exact hy.1,hy.2⟩
 rw[Jm hF hB hx hny,Rat.sub_eq_add_neg];rfl
theorem U2 {N B:Nat} (hF:Fuel N) (hB:B<=1000000000000) {x y:Rat} (hx:Bq B x) (hy:Bq B y) (k:Kx6) :
  fG N (decide (x.num<0)) (ae x.num.natAbs) false (ae x.den) (decide (y.num<0)) (ae y.num.natAbs) false (ae y.den) k=kq (x+y) k:=by
 unfold fG kD;rw[Es hF hB hx hy]
theorem S7 (x w:Rat):(x*w).num=aZ (decide (x.num<0)) (x.num.natAbs / Nat.gcd x.num.natAbs w.den)*aZ (decide (w.num<0)) (w.num.natAbs / Nat.gcd w.num.natAbs x.den)
  /\ (x*w).den=x.den / Nat.gcd w.num.natAbs x.den*(w.den / Nat.gcd x.num.natAbs w.den):=by
 have H1:0<x.num.natAbs.gcd w.den:=akC _ w.den_pos;have H2:0<w.num.natAbs.gcd x.den:=akC _ x.den_pos;have d1:Nat.gcd x.num.natAbs w.den∣x.num.natAbs:=akn _ _;have d2:Nat.gcd w.num.natAbs x.den∣w.num.natAbs:=akn _ _;rw[Eh H1 d1,Eh H2 d2];have e1:(x*w).num=x.num.tdiv (Nat.gcd x.num.natAbs w.den:Nat)*w.num.tdiv (Nat.gcd w.num.natAbs x.den:Nat):=by
  show(Rat.mul x w).num=_
  delta Rat.mul
  simp only[Int.divExact_eq_tdiv]
 have e2:(x*w).den=x.den / Nat.gcd w.num.natAbs x.den*(w.den / Nat.gcd x.num.natAbs w.den):=by
  show(Rat.mul x w).den=_
  delta Rat.mul
  simp only[Nat.divExact_eq_div]
 refine⟨?_,e2⟩;rw[e1,Int.tdiv_eq_ediv_of_dvd (Int.ofNat_dvd_left.2 d1),Int.tdiv_eq_ediv_of_dvd (Int.ofNat_dvd_left.2 d2)]
theorem Jy {N B:Nat} (hF:Fuel N) (hB:B<=1000000000000) {x w:Rat} (hx:Bq B x) (hw:Bq B w) (b1 b2:Bool) (k:Kx6) :
  Vu N (decide (x.num<0) != decide (w.num<0)) (ae x.num.natAbs) (ae x.den) (ae w.num.natAbs) (ae w.den) b1 b2 k=kq (x*w) k:=by
 (unfold Vu; rw[af]; unfold Xn)
 have hB2:B<=2000000000100:=by omega
 obtain⟨m1,m2⟩:=S7 x w;have H1:0<x.num.natAbs.gcd w.den:=akC _ w.den_pos;have H2:0<w.num.natAbs.gcd x.den:=akC _ x.den_pos;have L1:aU B (x.num.natAbs.gcd w.den):=oc hw.2 (aly _ w.den_pos);have L2:aU B (w.num.natAbs.gcd x.den):=oc hx.2 (aly _ x.den_pos);rw[AU hF hB2 hx.1 hw.2,AU hF hB2 hw.1 hx.2,sN hF hB2 H1 hx.1 L1,sN hF hB2 H2 hw.1 L2,yv hF hB2 (bV hx.1) (bV hw.1),sN hF hB2 H2 hx.2 L2,sN hF hB2 H1 hw.2 L1,yv hF hB2 (bV hx.2) (bV hw.2),Ht,Je _ _ _ k,Ei,<- m1,<- m2];rfl
theorem U4 {N B:Nat} (hF:Fuel N) (hB:B<=1000000000000) {x y:Rat} (hx:Bq B x) (hy:Bq B y) (k:Kx6) :
  eR N (decide (x.num<0)) (ae x.num.natAbs) false (ae x.den) (decide (y.num<0)) (ae y.num.natAbs) false (ae y.den) k=kq (x*y) k:=by
 (unfold eR j7; unfold WN; rw[af]; unfold Qr)
 rw[ia _ _ _ x.den_nz,ia _ _ _ y.den_nz,Jy hF hB hx hy]
theorem Ef {y:Rat} (h:y.num ≠ 0):(y⁻¹).num.natAbs=y.den/\(y⁻¹).den=y.num.natAbs/\decide ((y⁻¹).num<0)=decide (y.num<0):=by
 have hd:=y.den_pos;refine⟨?_,?_,?_⟩
 ·rw[Rat.num_inv,alj,ake,Int.natAbs_sign,if_neg h,alC]
 ·rw[Rat.den_inv,if_neg h]
 ·rw[Rat.num_inv];rcases Int.lt_trichotomy y.num 0 with h1 | h1 | h1
  ·rw[Int.sign_eq_neg_one_of_neg h1,ajx h1,ajx (by omega)]
  ·exact absurd h1 h
  ·rw[Int.sign_eq_one_of_pos h1,ajy (by omega),ajy (by omega)]
theorem U9 {N B:Nat} (hF:Fuel N) (hB:B<=1000000000000) {x y:Rat} (hx:Bq B x) (hy:Bq B y) (h0:y.num ≠ 0) (k:Kx6) :
  fF N (decide (x.num<0)) (ae x.num.natAbs) false (ae x.den) (decide (y.num<0)) (ae y.num.natAbs) false (ae y.den) k=kq (x / y) k:=by
 obtain⟨i1,i2,i3⟩:=Ef h0
 (unfold fF kC; unfold WO; rw[af]; unfold Qs)
 have hw:Bq B (y⁻¹):=⟨by rw[i1]; exact hy.2,by rw[i2]; exact hy.1⟩
 have hp:=λkk=>Jy (b1:=false) (b2:=false) hF hB hx hw kk
 rw[i1,i2,i3]at hp;rw[ia _ _ _ x.den_nz,ia _ _ _ y.den_nz,hp,Rat.div_def]
theorem CA {N B:Nat} (hF:Fuel N) (hB:B<=2000000000000) (g:Bool) {n d:Nat} (hn:aU B n) (hd:aU B d) (h0:0<d) (b1 b2:Bool) (k:Kx6) :
  YS N g (ae n) (ae d) b1 b2 k=kq (mkRat (aZ g n) d) k:=by
 have hB2:B<=2000000000100:=by omega
 have hl:=hF.lt;have hnum:(mkRat (aZ g n) d).num=aZ g (n / Nat.gcd n d):=by
  rw[amK,if_neg (by omega)];have e:(aZ g n).natAbs=n:=by unfold aZ; cases g <;> simp
  have hg:0<Nat.gcd n d:=akC _ h0;rw[e,akN];obtain⟨q,hq⟩:=akn n d;have hh:((Nat.gcd n d:Nat):Int) ≠ 0:=by omega
  have e2:aZ g n=((Nat.gcd n d:Nat):Int)*aZ g (n / Nat.gcd n d):=by
   have hnn:n=Nat.gcd n d*(n / Nat.gcd n d):=(Nat.mul_div_cancel' (akn n d)).symm;have hc:(n:Int)=((Nat.gcd n d:Nat):Int)*((n / Nat.gcd n d:Nat):Int):=by rw[<- ajU,<- hnn]
   unfold aZ;cases g
   ·simpa using hc
   ·simp only[ak6]; rw[hc,amu]
  rw[e2,alw _ hh]
 have hden:(mkRat (aZ g n) d).den=d / Nat.gcd n d:=by
  rw[amL,if_neg (by omega)];have e:(aZ g n).natAbs=n:=by unfold aZ; cases g <;> simp
  rw[e,akN]
 have hj:∀ m e:Nat,aU B m->aU B e->Q2 N g (ae n) (ae d) b1 b2 (ae m) (ae e) k=k (sg g m) (ae m) false (ae e):=by
  intro m e hm he;unfold Q2;rw[uX hB2 hm];unfold PL Ui;dsimp only;rw[uX hB2 he,uX hB2 he];unfold VB XB;cases g
  ·rfl
  ·simp only[tG,sg,akA]; rfl
 have hg0:0<Nat.gcd n d:=akC _ h0;have hgb:aU B (Nat.gcd n d):=oc hd (aly _ h0);have h1:=C6 hB2 hn;have h2:=C6 hB2 hd;have h3:=C6 hB2 hgb;have e1:ae 1=[1]:=uD (by decide) (by decide)
 (unfold YS; rw[af]; unfold QS)
 rw[AU hF hB2 hn hd,<- e1,jN _ 1 ⟨by omega,by omega⟩ ⟨by rw[e1]; simp; omega,by rw[e1]; simp⟩];by_cases hc:Nat.gcd n d=1
 ·have:(d8 (Nat.gcd n d) 1 != 0)=false:=by rw[hc]; rfl
  rw[this,ajz,hj n d hn hd,Je _ _ _ k];rw[hc,aln]at hnum hden;unfold kq;rw[hnum,hden]
 ·have:(d8 (Nat.gcd n d) 1 != 0)=true:=by unfold d8; rw[if_neg (by omega),if_neg hc]; rfl
  rw[this,ajA,mo hF.big hg0 (by omega) (by omega),mo hF.big hg0 (by omega) (by omega),hj _ _ (bV hn) (bV hd),Je _ _ _ k,<- hnum,<- hden];rfl
theorem LX {N:Nat} (hF:Fuel N) (k:Kx6):nQ N 0 k=kq 0 k:=by
 have:=hF.lt
 (unfold nQ tA; unfold Ba; rw[af]; unfold uo)
 have n0:=λkk=>xc (N:=N) (by omega) 0 (by decide) kk
 have n1:=λkk=>xc (N:=N) (by omega) 1 (by decide) kk
 rw[show((0:Nat):Int)=0 from rfl]at n0;rw[show((1:Nat):Int)=1 from rfl]at n1;unfold Vr W_;rw[n0,n1,CA hF (B:=10) (by decide) _ (by unfold aU; decide) (by unfold aU; decide) (by decide)];rfl
theorem oM {N:Nat} (x:Rat) (k:Ky9):bu N (decide (x.num<0)) (ae x.num.natAbs) false (ae x.den) k=k (Bd x.num):=by
 (unfold bu kE xx wm; unfold WR; rw[af]; unfold QO Bd)
 by_cases h:x.num<0
 ·rw[ajx h,ajA,if_neg (by omega),if_pos h]
 ·rw[ajy h,ajz,if_neg h];by_cases h0:x.num=0
  ·rw[h0,if_pos rfl];have:ae (0:Int).natAbs=[]:=bh;rw[this]; rfl
  ·have:((((ae x.num.natAbs).length:Nat):Int)==0)=false:=by rw[bS (by omega)]; simp; omega
   rw[this,ajz,if_neg h0]
end Go.Proofs.YteifemaagdeomaaGreatDoor
end
