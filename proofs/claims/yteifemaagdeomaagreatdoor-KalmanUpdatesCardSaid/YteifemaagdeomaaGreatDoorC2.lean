/-
  PURE: bit lengths, leading noughts, math/bits.Div64: a quotient of two words by one.
  Conditions: N is great.
-/
import Derived.Test.YteifemaagdeomaaGreatDoorC1
set_option linter.unusedVariables false
section
namespace Go.Proofs.YteifemaagdeomaaGreatDoor
open Go Go.Mach
theorem yg (N:Nat) {x:Nat} (hx:x<18446744073709551616) (k:Kz2):Ns N (x:Int) k=k (bl x:Int):=by
 have key:∀(z:Int) (m:Nat),z=(m:Int)->m<256 -> ∀ c:Nat,c<=56->((inR z 256)&&((ah .i64 (List.getD ax (Int.toNat z) 0))&&((ah .i64 ((c:Int)+(List.getD ax (Int.toNat z) 0)))&&k ((c:Int)+List.getD ax (Int.toNat z) 0))))=k ((c+bl m:Nat):Int):=by intro z m hz hm c hc;subst hz;have:=Cb hm;rw[adk,LU hm,aa adc,aa adb,aa adb];rfl
 have j1:∀(y z c:Nat),z<65536->c<=48->F6 N (y:Int) (z:Int) (c:Int) k=k ((c+bl z:Nat):Int):=by
  intro y z c hz hc;unfold F6;simp only[NU,Ot];by_cases h8:256<=z
  ·have e8:=kZ (n:=z) 8 (by simpa using h8);rw[show(2:Nat) ^ 8=256 by decide]at e8;have h:=key ((z:Int) / 256%256) (z / 256) (by omega) (by omega) (c+8) (by omega);rw[show((c+8:Nat):Int)=(c:Int)+8 by omega]at h;rw[ade (by omega:(z:Int)>=256),adh,aa adb,h];congr 1; omega
  ·rw[adf (by omega:¬(z:Int)>=256),adg,key ((z:Int)%256) z (by omega) (by omega) c (by omega)]
 have j0:∀(y z c:Nat),z<4294967296->c<=32->F5 N (y:Int) (z:Int) (c:Int) k=k ((c+bl z:Nat):Int):=by
  intro y z c hz hc;unfold F5;simp only[Kl];by_cases h16:65536<=z
  ·have e16:=kZ (n:=z) 16 (by simpa using h16);rw[show(2:Nat) ^ 16=65536 by decide]at e16;have h:=j1 y (z / 65536) (c+16) (by omega) (by omega);rw[show((c+16:Nat):Int)=(c:Int)+16 by omega,show((z / 65536:Nat):Int)=(z:Int) / 65536 by omega]at h;rw[ade (by omega:(z:Int)>=65536),adh,aa adb,h];congr 1; omega
  ·rw[adf (by omega:¬(z:Int)>=65536),adg,j1 y z c (by omega) (by omega)]
 (unfold Ns; rw[ac]; unfold Pb)
 simp only[jG];by_cases h32:4294967296<=x
 ·have e32:=kZ (n:=x) 32 (by rw[show(2:Nat) ^ 32=4294967296 by decide]; exact h32);rw[show(2:Nat) ^ 32=4294967296 by decide]at e32;have h:=j0 x (x / 4294967296) 32 (by omega) (by omega);rw[show((x / 4294967296:Nat):Int)=(x:Int) / 4294967296 by omega,show((32:Nat):Int)=32 from rfl]at h;rw[ade (by omega:(x:Int)>=4294967296),adh,h];congr 1; omega
 ·have h:=j0 x x 0 (by omega) (by omega);rw[show((0:Nat):Int)=0 from rfl]at h;rw[adf (by omega:¬(x:Int)>=4294967296),adg,h];congr 1; omega
theorem ub {n j:Nat} (h:n<2 ^ j):bl n<=j:=by
 unfold bl;split
 ·omega
 ·rename_i h0;have:=(Nat.log2_lt h0).2 h;omega
theorem vX (n:Nat):n<2 ^ bl n:=by
 unfold bl;split
 ·rename_i h; subst h; decide
 ·exact Nat.lt_log2_self
theorem JW {n:Nat} (h:n ≠ 0):0<bl n/\2 ^ (bl n - 1)<=n:=by unfold bl;rw[if_neg h];exact⟨by omega,by rw[afH]; exact Nat.log2_self_le h⟩
theorem mH:(2:Nat) ^ 64=18446744073709551616:=by decide
theorem CZ (N:Nat) {x:Nat} (hx:x<18446744073709551616) (k:Kz2):Nf N (x:Int) k=k ((64 - bl x:Nat):Int):=by unfold Nf RC;have:=ub (n:=x) (j:=64) (by rw[mH]; exact hx);rw[yg N hx,aa adb];congr 1; omega
theorem G3 {y:Nat} (h0:y ≠ 0) (hy:y<18446744073709551616):64 - bl y<64/\9223372036854775808<=y*2 ^ (64 - bl y)/\y*2 ^ (64 - bl y)<18446744073709551616:=by
 have h1:=ub (n:=y) (j:=64) (by rw[mH]; exact hy);obtain⟨h2,h3⟩:=JW h0;have h4:=vX y;have hp:0<2 ^ (64 - bl y):=adt _;refine⟨by omega,?_,?_⟩
 ·have:=adl (2 ^ (64 - bl y)) h3;rw[<- ady,show bl y - 1+(64 - bl y)=63 by omega]at this;exact this
 ·have:=ad5 h4 hp;rw[<- ady,show bl y+(64 - bl y)=64 by omega]at this;exact this
theorem xW {a c u u1 p r:Nat} (hc:c<4294967296) (hp:p<=4294967296) (hu:(p+1)*a+r=u) (hb:4294967296<=r+a):p*(a*4294967296+c)<=u*4294967296+u1:=by
 have e1:u*4294967296+u1=p*a*4294967296+(r+a)*4294967296+u1:=by rw[<- hu,aeP,adI,adI,adI]; omega
 have e2:p*(a*4294967296+c)=p*a*4294967296+p*c:=by rw[adw,adq]
 have:=ad7 hp (Nat.le_of_lt_succ hc:c<=4294967295);rw[e1,e2]; omega
theorem xa {a c u u1:Nat} (hu1:u1<4294967296) (hD:u<a*4294967296+c):(u*4294967296+u1) / (a*4294967296+c)<4294967296:=by rw[ado (by omega)]; omega
theorem EL {N:Nat} {y s un0:Int} {a c u u1:Nat} (ha2:a<4294967296) (hc:c<4294967296) (hu1:u1<4294967296) (hD:u<a*4294967296+c) {d:Nat} (hd:∀ p,p<=d↔p*(a*4294967296+c)<=u*4294967296+u1) (hlt:d<4294967296) (e0:Int->Bool) :
  ∀ q r M,q<M->q<=4294967297->q*a+r=u->r<4294967296->d<=q ->
   ak M (vI N y s (a:Int) (c:Int) (u:Int) (u1:Int) un0 e0) ((q:Int),(r:Int))=e0 (d:Int):=by
 intro q;induction q using Nat.strongRecOn with
 | ind q ih=>
 intro r M hM hqb hu hr hle;obtain⟨M,rfl⟩:∃ m,M=m+1:=⟨M - 1,by omega⟩
 show vI N y s a c u u1 un0 e0 ((q:Int),(r:Int)) (ak M _)=_;have hY:0<a*4294967296+c:=by omega
 have hdec:d<q->cond (decide ((IntKind.wrap .u64 ((r:Int)+(a:Int)))>=4294967296)) (e0 (IntKind.wrap .u64 ((q:Int) - 1))) (ak M (vI N y s (a:Int) (c:Int) (u:Int) (u1:Int) un0 e0) ((IntKind.wrap .u64 ((q:Int) - 1)),(IntKind.wrap .u64 ((r:Int)+(a:Int)))))=e0 (d:Int):=by
  intro hlq;obtain⟨p,rfl⟩:∃ p,q=p+1:=⟨q - 1,by omega⟩
  have w1:IntKind.wrap .u64 (((p+1:Nat):Int) - 1)=(p:Int):=by rw[am]; omega
  have w2:IntKind.wrap .u64 ((r:Int)+(a:Int))=((r+a:Nat):Int):=by rw[am]; omega
  rw[w1,w2];by_cases hb:4294967296<=r+a
  ·rw[ade (by omega),adh];have h1:=xW (u1:=u1) hc (by omega) hu hb;rw[<- hd]at h1;rw[show d=p by omega]
  ·rw[adf (by omega),adg];exact ih p (by omega) (r+a) M (by omega) (by omega) (by rw[<- hu,aeP]; omega) (by omega) (by omega)
 simp only[vI];by_cases hq:4294967296<=q
 ·rw[ade (by omega:(q:Int)>=4294967296),show(true==false)=false from rfl,adg];exact hdec (by omega)
 ·have e1:u*4294967296+u1=q*a*4294967296+r*4294967296+u1:=by rw[<- hu,adI]
  have e2:q*(a*4294967296+c)=q*a*4294967296+q*c:=by rw[adw,adq]
  have hqc:q*c<=4294967295*4294967295:=ad7 (by omega) (by omega);have w1:IntKind.wrap .u64 ((q:Int)*(c:Int))=((q*c:Nat):Int):=by rw[<- adB,am]; omega
  have w2:IntKind.wrap .u64 ((IntKind.wrap .u64 (4294967296*(r:Int)))+(u1:Int))=((r*4294967296+u1:Nat):Int):=by rw[am,am]; omega
  rw[adf (by omega:¬(q:Int)>=4294967296),show(false==false)=true from rfl,adh,w1,w2];by_cases ht:r*4294967296+u1<q*c
  ·rw[ade (by omega),adh];refine hdec ?_;rw[<- Nat.not_le,hd]; omega
  ·rw[adf (by omega),adg];have h1:q*(a*4294967296+c)<=u*4294967296+u1:=by omega
   rw[<- hd]at h1;rw[show d=q by omega]
theorem EM {N:Nat} {y s q1:Int} {x21:Int} {a c u u1:Nat} (ha2:a<4294967296) (hc:c<4294967296) (hu1:u1<4294967296) (hD:u<a*4294967296+c) {d:Nat} (hd:∀ p,p<=d↔p*(a*4294967296+c)<=u*4294967296+u1) (hlt:d<4294967296) (e0:Int->Bool) :
  ∀ q r M,q<M->q<=4294967297->q*a+r=u->r<4294967296->d<=q ->
   ak M (vJ N y s (a:Int) (c:Int) (u1:Int) q1 x21 e0) ((r:Int),(q:Int))=e0 (d:Int):=by
 intro q;induction q using Nat.strongRecOn with
 | ind q ih=>
 intro r M hM hqb hu hr hle;obtain⟨M,rfl⟩:∃ m,M=m+1:=⟨M - 1,by omega⟩
 show vJ N y s a c u1 q1 x21 e0 ((r:Int),(q:Int)) (ak M _)=_;have hY:0<a*4294967296+c:=by omega
 have hdec:d<q->cond (decide ((IntKind.wrap .u64 ((r:Int)+(a:Int)))>=4294967296)) (e0 (IntKind.wrap .u64 ((q:Int) - 1))) (ak M (vJ N y s (a:Int) (c:Int) (u1:Int) q1 x21 e0) ((IntKind.wrap .u64 ((r:Int)+(a:Int))),(IntKind.wrap .u64 ((q:Int) - 1))))=e0 (d:Int):=by
  intro hlq;obtain⟨p,rfl⟩:∃ p,q=p+1:=⟨q - 1,by omega⟩
  have w1:IntKind.wrap .u64 (((p+1:Nat):Int) - 1)=(p:Int):=by rw[am]; omega
  have w2:IntKind.wrap .u64 ((r:Int)+(a:Int))=((r+a:Nat):Int):=by rw[am]; omega
  rw[w1,w2];by_cases hb:4294967296<=r+a
  ·rw[ade (by omega),adh];have h1:=xW (u1:=u1) hc (by omega) hu hb;rw[<- hd]at h1;rw[show d=p by omega]
  ·rw[adf (by omega),adg];exact ih p (by omega) (r+a) M (by omega) (by omega) (by rw[<- hu,aeP]; omega) (by omega) (by omega)
 simp only[vJ];by_cases hq:4294967296<=q
 ·rw[ade (by omega:(q:Int)>=4294967296),show(true==false)=false from rfl,adg];exact hdec (by omega)
 ·have e1:u*4294967296+u1=q*a*4294967296+r*4294967296+u1:=by rw[<- hu,adI]
  have e2:q*(a*4294967296+c)=q*a*4294967296+q*c:=by rw[adw,adq]
  have hqc:q*c<=4294967295*4294967295:=ad7 (by omega) (by omega);have w1:IntKind.wrap .u64 ((q:Int)*(c:Int))=((q*c:Nat):Int):=by rw[<- adB,am]; omega
  have w2:IntKind.wrap .u64 ((IntKind.wrap .u64 (4294967296*(r:Int)))+(u1:Int))=((r*4294967296+u1:Nat):Int):=by rw[am,am]; omega
  rw[adf (by omega:¬(q:Int)>=4294967296),show(false==false)=true from rfl,adh,w1,w2];by_cases ht:r*4294967296+u1<q*c
  ·rw[ade (by omega),adh];refine hdec ?_;rw[<- Nat.not_le,hd]; omega
  ·rw[adf (by omega),adg];have h1:q*(a*4294967296+c)<=u*4294967296+u1:=by omega
   rw[<- hd]at h1;rw[show d=q by omega]
theorem xX {a c u u1:Nat} (ha:2147483648<=a) (ha2:a<4294967296) (hc:c<4294967296) (hD:u<a*4294967296+c) (hu1:u1<4294967296) :
  u / a<=4294967297/\u / a*a+u%a=u/\u%a<4294967296/\(u*4294967296+u1) / (a*4294967296+c)<=u / a:=by
 have h0:0<a:=by omega
 refine⟨?_,aec u a,ae3 (adu _ h0) ha2,?_⟩
 ·have:u / a<4294967298:=by rw[ado h0]; omega
  omega
 ·have h1:(u*4294967296+u1) / (a*4294967296)=u / a:=by rw[adi a,<- adm];congr 1; omega
  rw[<- h1];exact Nat.div_le_div_left (afA _ _) (by omega)
theorem Ht {m p y s:Nat} (u L b D1 q1 R1 u1 u0 q0 R0 Y:Nat) (hb:b=4294967296) (hT:m*2 ^ s=u*18446744073709551616+L) (hL:L=u1*b+u0) (hY:Y=y*2 ^ s) (hY0:0<Y)
  (h1:D1=u*b+u1) (hq1:q1=D1 / Y) (hR1:R1=D1%Y) (hq0:q0=(R1*b+u0) / Y) (hR0:R0=(R1*b+u0)%Y):m / y=q1*b+q0/\m%y=R0 / 2 ^ s:=by
 have hs:0<2 ^ s:=adt s;have e1:=aee D1 Y;have e0:=aee (R1*b+u0) Y;rw[<- hq1,<- hR1]at e1;rw[<- hq0,<- hR0]at e0;have hlt:R0<Y:=by rw[hR0]; exact adu _ hY0
 have hm:m*2 ^ s=Y*(q1*b+q0)+R0:=by
  rw[hT,hL];have e2:u*18446744073709551616+(u1*b+u0)=(u*b+u1)*b+u0:=by subst hb; omega
  rw[e2,<- h1,<- e1,adw,adI,adY,<- e0,adq,adY]
 have d1:m / y=(m*2 ^ s) / Y:=by rw[hY,afT _ _ hs]
 have d2:(m%y)*2 ^ s=(m*2 ^ s)%Y:=by rw[hY,afU]
 constructor
 ·rw[d1,hm,agd hY0,adK hlt,adL]
 ·have:(m%y)*2 ^ s=R0:=by rw[d2,hm,afr,adp hlt]
  rw[<- this,aeZ _ hs]
theorem Ab {N:Nat} (hN:8589934592<=N) {hi lo y:Nat} (hy:y<18446744073709551616) (hlo:lo<18446744073709551616) (hhi:hi<y) (k:Ky4) :
  DC N (hi:Int) (lo:Int) (y:Int) k=k (((hi*18446744073709551616+lo) / y:Nat):Int) (((hi*18446744073709551616+lo)%y:Nat):Int):=by
 (unfold DC; rw[ac]; unfold Jd)
 have y0:((y:Int)==0)=false:=by simp; omega
 have y1:(!decide ((y:Int)=0))=true:=by simp; omega
 rw[y0,adg,adf (by omega:¬(y:Int)<=hi),adg];by_cases h0:hi=0
 ·subst h0;rw[show(((0:Nat):Int)==0)=true from rfl,adh,aa y1,aa y1,aeL,adJ];have e1:Int.tdiv (lo:Int) (y:Int)=((lo / y:Nat):Int):=rfl;have e2:Int.tmod (lo:Int) (y:Int)=((lo%y:Nat):Int):=rfl;have:=aeS lo y;rw[e1,e2];generalize lo / y=d at *;rw[am];congr 1; omega
 ·have hne:((hi:Int)==0)=false:=by simp; omega
  obtain⟨hs64,hYlo,hYhi⟩:=G3 (y:=y) (by omega) hy;rw[hne,adg,CZ N hy];generalize hs:64 - bl y=s at *;have hs0:0<2 ^ s:=adt s;have hs1:2 ^ s*2 ^ (64 - s)=18446744073709551616:=by rw[<- ady,show s+(64 - s)=64 by omega]
  have cp:((2:Int) ^ s)=((2 ^ s:Nat):Int):=by rw[aeI]; rfl
  have cp2:((2:Int) ^ (64 - s))=((2 ^ (64 - s):Nat):Int):=by rw[aeI]; rfl
  have ew:IntKind.wrap .u64 ((s:Nat):Int)=(s:Int):=by rw[am]; omega
  have ew2:IntKind.wrap .u64 (64 - ((s:Nat):Int))=((64 - s:Nat):Int):=by rw[am]; omega
  have em:min s 64=s:=by omega
  have em2:min (64 - s) 64=64 - s:=by omega
  simp only[ew,ew2,adk,em,em2];rw[cp,cp2];have eY:IntKind.wrap .u64 ((y:Int)*((2 ^ s:Nat):Int))=((y*2 ^ s:Nat):Int):=by rw[<- adB,am]; omega
  have hm:hi*2 ^ s<y*2 ^ s:=ad5 hhi hs0;have eH:IntKind.wrap .u64 ((hi:Int)*((2 ^ s:Nat):Int))=((2 ^ s*hi:Nat):Int):=by rw[<- adB,adi hi,am]; rw[adi hi]at hm; generalize 2 ^ s*hi=H at *; generalize y*2 ^ s=Y at *; omega
  have hlo2:lo / 2 ^ (64 - s)<2 ^ s:=by rw[ado (adt _),hs1]; exact hlo
  have hlo3:=aee lo (2 ^ (64 - s));have eT:(hi*18446744073709551616+lo)*2 ^ s=(2 ^ s*hi+lo / 2 ^ (64 - s))*18446744073709551616+lo*2 ^ s%18446744073709551616:=by
   have e1:lo*2 ^ s / 18446744073709551616=lo / 2 ^ (64 - s):=by rw[<- hs1,adi lo,Nat.mul_div_mul_left _ _ hs0]
   have e2:=aee (lo*2 ^ s) 18446744073709551616;rw[e1]at e2;rw[adI,<- e2,adI,agj,adi hi];omega
  have hD:2 ^ s*hi+lo / 2 ^ (64 - s)<y*2 ^ s:=by have:2 ^ s*(hi+1)<=2 ^ s*y:=adn _ hhi;rw[adw,adi _ y]at this;omega
  have eU:az .or .u64 ((2 ^ s*hi:Nat):Int) (Int.fdiv (lo:Int) ((2 ^ (64 - s):Nat):Int))=((2 ^ s*hi+lo / 2 ^ (64 - s):Nat):Int):=by rw[jR,sC,cu _ _ s hlo2 (by omega)]
  have eL:IntKind.wrap .u64 ((lo:Int)*((2 ^ s:Nat):Int))=((lo*2 ^ s%18446744073709551616:Nat):Int):=by rw[<- adB,am]; omega
  simp only[eY,eH,eU,eL,Ca,jG];have hLlt:lo*2 ^ s%18446744073709551616<18446744073709551616:=adu _ (by decide);obtain⟨d1,d2⟩:=Ht (m:=hi*18446744073709551616+lo) (p:=0) (y:=y) (s:=s) (2 ^ s*hi+lo / 2 ^ (64 - s)) (lo*2 ^ s%18446744073709551616) 4294967296 _ _ _ (lo*2 ^ s%18446744073709551616 / 4294967296) (lo*2 ^ s%18446744073709551616%4294967296) _ _ (y*2 ^ s) rfl eT (by omega) rfl (by omega) rfl rfl rfl rfl rfl;rw[d1,d2];generalize y*2 ^ s=Y at *;generalize 2 ^ s*hi+lo / 2 ^ (64 - s)=u at *;generalize lo*2 ^ s%18446744073709551616=L at *;have hu1:L / 4294967296<4294967296:=by omega
  have hu0:L%4294967296<4294967296:=by omega
  have eL1:((L:Int) / 4294967296)=((L / 4294967296:Nat):Int):=by omega
  have ea:((Y:Int) / 4294967296)=((Y / 4294967296:Nat):Int):=by omega
  have eY2:Y=Y / 4294967296*4294967296+Y%4294967296:=by omega
  rw[eL1,ea];generalize hu1':L / 4294967296=u1 at *;generalize hu0':L%4294967296=u0 at *;have ha1:2147483648<=Y / 4294967296:=by omega
  have ha2:Y / 4294967296<4294967296:=by omega
  have hc:Y%4294967296<4294967296:=by omega
  generalize Y / 4294967296=a at *;generalize Y%4294967296=c at *;have a0:(!decide ((a:Int)=0))=true:=by simp; omega
  have hD':u<a*4294967296+c:=by omega
  have hY0':0<a*4294967296+c:=by omega
  rw[aa (ade (by omega)),aa (ade (by omega)),aa (ade (by omega)),aa (ade (by omega)),aa a0];have start:∀ v:Nat,v<18446744073709551616->IntKind.wrap .u64 (Int.tdiv (v:Int) (a:Int))=((v / a:Nat):Int)/\IntKind.wrap .u64 ((v:Int) - (IntKind.wrap .u64 (((v / a:Nat):Int)*(a:Int))))=((v%a:Nat):Int):=by
   intro v hv;have e1:Int.tdiv (v:Int) (a:Int)=((v / a:Nat):Int):=rfl;have h1:=aeS v a;have h2:=aec v a;rw[e1,<- adB];generalize v / a*a=P at *;generalize v / a=Q at *;generalize v%a=Z at *;constructor
   ·rw[am]; omega
   ·rw[am,am]; omega
  obtain⟨g1,g2,g3,g4⟩:=xX ha1 ha2 hc hD' hu1;obtain⟨s1,s2⟩:=start u (by omega);rw[s1,s2,EL ha2 hc hu1 hD' (λp=>aeY hY0') (xa hu1 hD') _ (u / a) (u%a) N (by omega) g1 g2 g3 g4];rw[aa a0];rw[<- eY2];have hY0:0<Y:=by omega
  have hR1:=adu (u*4294967296+u1) hY0;have hE1:=aec (u*4294967296+u1) Y;have e21:IntKind.wrap .u64 ((IntKind.wrap .u64 ((IntKind.wrap .u64 ((u:Int)*4294967296))+(u1:Int))) - (IntKind.wrap .u64 ((((u*4294967296+u1) / Y:Nat):Int)*(Y:Int))))=(((u*4294967296+u1)%Y:Nat):Int):=by rw[<- adB];generalize (u*4294967296+u1) / Y*Y=P at *;rw[am,am,am,am]; omega
  simp only[e21];have hq1:(u*4294967296+u1) / Y<4294967296:=by rw[eY2]; exact xa hu1 hD'
  obtain⟨q1,hq1e⟩:∃ q,q=(u*4294967296+u1) / Y:=⟨_,rfl⟩
  obtain⟨R1,hR1e⟩:∃ q,q=(u*4294967296+u1)%Y:=⟨_,rfl⟩
  rw[<- hq1e,<- hR1e];rw[<- hq1e]at hq1;rw[<- hR1e]at hR1;have hD2:R1<a*4294967296+c:=by omega
  obtain⟨g1,g2,g3,g4⟩:=xX ha1 ha2 hc hD2 hu0;obtain⟨s1,s2⟩:=start R1 (by omega);rw[s1,s2,EM ha2 hc hu0 hD2 (λp=>aeY hY0') (xa hu0 hD2) _ (R1 / a) (R1%a) N (by omega) g1 g2 g3 g4,<- eY2];rw[aa (ade (by omega))];have hR0:=adu (R1*4294967296+u0) hY0;have hE0:=aec (R1*4294967296+u0) Y;have hq0:(R1*4294967296+u0) / Y<4294967296:=by rw[eY2]; exact xa hu0 hD2
  have e20:IntKind.wrap .u64 ((IntKind.wrap .u64 ((IntKind.wrap .u64 ((R1:Int)*4294967296))+(u0:Int))) - (IntKind.wrap .u64 ((((R1*4294967296+u0) / Y:Nat):Int)*(Y:Int))))=(((R1*4294967296+u0)%Y:Nat):Int):=by
   rw[<- adB];obtain⟨P,hP⟩:∃ q,q=(R1*4294967296+u0) / Y*Y:=⟨_,rfl⟩
   obtain⟨Z,hZ⟩:∃ q,q=(R1*4294967296+u0)%Y:=⟨_,rfl⟩
   rw[<- hP,<- hZ]at hE0;rw[<- hZ]at hR0;rw[<- hP,<- hZ];rw[am,am,am,am]; omega
  rw[e20,jR];obtain⟨q0,hq0e⟩:∃ q,q=(R1*4294967296+u0) / Y:=⟨_,rfl⟩
  rw[<- hq0e]at hq0;rw[<- hq0e];congr 1;rw[am,am]; omega
theorem GH (Q n m:Nat) (h:m<n):(List.replicate (m+1) (0:Int)++(dlq Q n).drop (m+1)).set m ((Q / 18446744073709551616 ^ m%18446744073709551616:Nat):Int)=List.replicate m 0++(dlq Q n).drop m:=by rw[aeT,adx,List.singleton_append,aW _ _ _ _ _ (by simp),cV (n:=m) (by rw[aj]; exact h),qC Q h]
theorem AG {A d:Nat} (hd:0<d):(A / 18446744073709551616%d*18446744073709551616+A%18446744073709551616)%d=A%d/\(A / 18446744073709551616%d*18446744073709551616+A%18446744073709551616) / d=A / d%18446744073709551616:=by
 have h1:=aee A 18446744073709551616;have h2:=aee (A / 18446744073709551616) d;have h3:=adu (A / 18446744073709551616) hd;have h4:A%18446744073709551616<18446744073709551616:=adu _ (by decide);obtain⟨a,ha⟩:∃ a,a=A / 18446744073709551616:=⟨_,rfl⟩
 obtain⟨e,he⟩:∃ e,e=A%18446744073709551616:=⟨_,rfl⟩
 rw[<- ha]at h1 h2 h3 ⊢;rw[<- he]at h1 h4 ⊢;obtain⟨c,hc⟩:∃ c,c=a / d:=⟨_,rfl⟩
 obtain⟨r,hr⟩:∃ r,r=a%d:=⟨_,rfl⟩
 rw[<- hc,<- hr]at h2;rw[<- hr]at h3 ⊢;have h5:A=d*(c*18446744073709551616)+(r*18446744073709551616+e):=by rw[<- h1,<- h2,<- adq,adw,adi 18446744073709551616,adi 18446744073709551616]; omega
 constructor
 ·rw[h5,afr]
 ·rw[h5,agd hd,adi c,afr];refine(adp ?_).symm;rw[ado hd];have:=adl 18446744073709551616 h3;rw[aeP]at this;rw[adi _ d,adi d];rw[adi d]at this;omega
theorem i9 (x:Nat):x<18446744073709551616 ^ (ae x).length:=by have:=ig (aR x); rwa [aA]at this
theorem Ib {N:Nat} (hN:8589934592<=N) {x d:Nat} (hd0:0<d) (hd:d<18446744073709551616) (hs:kt N (ae x)) (k:List Int->Int->Bool):nl N (ae x) (d:Int) k=k (ae (x / d)) ((x%d:Nat):Int):=by
 (unfold nl; rw[ac]; unfold p9)
 obtain⟨s1,s2⟩:=hs;have hx:=i9 x;generalize hn:(ae x).length=n at *;rw[aa (bY (by omega) (by omega) (by omega) (by omega)),aa adb,adk];refine aC (λi=>(((x / 18446744073709551616 ^ (n - i)%d:Nat):Int),((n:Int) - 1 - (i:Int)),List.replicate (n - i) (0:Int)++(dlq (x / d) n).drop (n - i))) n ?_ (by omega) (λi hi K=>?_) (λK=>?_)
 ·rw[afk,adK hx,Nat.zero_mod,ad2 (by rw[aj]; omega),adN];simp
 ·obtain⟨m,hm⟩:∃ m,n - i=m+1:=⟨n - i - 1,by omega⟩
  have hm2:n - (i+1)=m:=by omega
  have ei:(n:Int) - 1 - (i:Int)=(m:Int):=by omega
  have ei2:(n:Int) - 1 - ((i+1:Nat):Int)=(m:Int) - 1:=by omega
  have hp:x / 18446744073709551616 ^ (m+1)=x / 18446744073709551616 ^ m / 18446744073709551616:=by rw[adr,adm]
  have hdg:x / d / 18446744073709551616 ^ m%18446744073709551616=x / 18446744073709551616 ^ m / d%18446744073709551616:=by rw[adm,adm,adi d]
  obtain⟨n1,n2⟩:=AG (A:=x / 18446744073709551616 ^ m) hd0;rw[hm,hm2,ei,ei2,hp];simp only[j8,adk];have hl:(List.replicate (m+1) (0:Int)++(dlq (x / d) n).drop (m+1)).length=n:=by simp[aj]; omega
  rw[ade (by omega:(m:Int)>=0),adh,hn,aa adc,mq,Ab hN hd (adu _ (by decide)) (adu _ hd0),n1,n2,<- hdg,hl,aa adc,aa (ade (by omega)),aa adb,GH _ _ _ (by omega)]
 ·simp only[j8];have e0:(n:Int) - 1 - (n:Int) = -1:=by omega
  rw[e0,adf (by omega),adg,adQ,ae_,ae7];rw[adS,ad4,aeO];have hq:x / d<18446744073709551616 ^ n:=aeR (aeS _ _) hx;rw[jM _ (gr _ _) (by rw[aj]; omega) (by rw[aj]; omega) (λz=>k z ((x%d:Nat):Int)),k8 hq]
theorem Bb {P A B U3 V2 U V g:Nat} (hA:A<P) (hU:U=A+P*U3) (hV:V=B+P*V2) (hV0:0<V) (h:U3<g*V2):U / V<g:=by rw[ado hV0,hU,hV,adw,adG g P V2];have:=adn P h;rw[agA]at this;omega
theorem Gr {W P A B U V u0 u1 u2 v0 v1:Nat} (hA:A<P) (hU:U=A+P*(u0+W*(u2*W+u1))) (hV:V=B+P*(v0+W*v1)) (hV0:0<V) (hv1:0<v1) (hu0:u0<W):U / V<=(u2*W+u1) / v1:=by
 refine Nat.le_of_lt_succ (Bb hA hU hV hV0 ?_);have h1:=afF (u2*W+u1) hv1;rw[adi v1]at h1;have h2:=adn W h1;rw[agA]at h2;have e:((u2*W+u1) / v1).succ*(v0+W*v1)=((u2*W+u1) / v1).succ*v0+W*(((u2*W+u1) / v1+1)*v1):=by rw[adw,adG]
 rw[e];omega
theorem EK {N:Nat} {o n u0 v0 v1 T d:Nat} {b c:List Int} (hn:2<=n) (hc1:c.getD (n - 2) 0=(v0:Int)) (hc2:c.getD (n - 1) 0=(v1:Int)) (hb:b.getD (o+(n - 2)) 0=(u0:Int)) (hcl:n<=c.length) (hbl:o+n+1<=b.length) (hbs:b.length<=1099511627780)
  (hv0:v0<18446744073709551616) (hv1:v1<18446744073709551616) (hu0:u0<18446744073709551616) (hd:∀ g,u0+18446744073709551616*T<g*(v0+18446744073709551616*v1)->d<g) :
  ∀ q r M,q<M->q<18446744073709551616->q*v1+r=T->r<18446744073709551616->d<=q ->
   ∃ g,d<=g/\g<18446744073709551616 /\ ∀ e0,ak M (rm N o (n+1) 0 n (n:Int) b c e0) ((q:Int),(r:Int))=e0 (g:Int):=by
 intro q;induction q using Nat.strongRecOn with
 | ind q ih=>
 intro r M hM hq hT hr hdq;obtain⟨M,rfl⟩:∃ m,M=m+1:=⟨M - 1,by omega⟩
 have i2:0+Int.toNat ((n:Int) - 2)=n - 2:=by omega
 have i1:0+Int.toNat ((n:Int) - 1)=n - 1:=by omega
 have j2:o+Int.toNat ((n:Int) - 2)=o+(n - 2):=by omega
 have hqv:=aee (q*v0) 18446744073709551616;have hlo:q*v0%18446744073709551616<18446744073709551616:=adu _ (by decide);by_cases hex:q*v0<=r*18446744073709551616+u0
 ·refine⟨q,hdq,hq,λe0=>?_⟩;show rm N o (n+1) 0 n (n:Int) b c e0 ((q:Int),(r:Int)) (ak M _)=_;simp only[rm,i2,i1,j2,hc1,hc2,hb];rw[aa adb,aa adc,aa (ade (by omega)),vo N hq hv0];generalize q*v0%18446744073709551616=lo at *;generalize q*v0 / 18446744073709551616=hi at *;rcases afO hi r with h | h | h
  ·rw[ade (by omega:(hi:Int)<r),show(true==false)=false from rfl,adg]
  ·subst h;rw[adf (by omega:¬(hi:Int)<hi),show(false==false)=true from rfl,adh,show((hi:Int)==hi)=true by simp,show(true==true)=true from rfl,adh,aa adb,aa adc,aa (ade (by omega)),ade (by omega:(lo:Int)<=u0),adh]
  ·exfalso; omega
 ·have hgt:=hd q (by rw[adw,adG,<- hT]; rw[adw]; omega);obtain⟨p,rfl⟩:∃ p,q=p+1:=⟨q - 1,by omega⟩
  have w1:IntKind.wrap .u64 (((p+1:Nat):Int) - 1)=(p:Int):=by rw[am]; omega
  have step:∀ e0:Int->Bool,ak (M+1) (rm N o (n+1) 0 n (n:Int) b c e0) (((p+1:Nat):Int),(r:Int))
    = cond (decide (18446744073709551616<=r+v1)) (e0 (p:Int)) (ak M (rm N o (n+1) 0 n (n:Int) b c e0) ((p:Int),((r+v1:Nat):Int))):=by
   intro e0;show rm N o (n+1) 0 n (n:Int) b c e0 (((p+1:Nat):Int),(r:Int)) (ak M _)=_;simp only[rm,i2,i1,j2,hc1,hc2,hb];have tail:(ah .i64 ((n:Int) - 1)&&((inR ((n:Int) - 1) n)&&((decide (n - 1<c.length))&&(sQ6 N (r:Int) (v1:Int) 0 (λ(UP:Int) (n5:Int)=>(cond (n5 != 0) (e0 (IntKind.wrap .u64 (((p+1:Nat):Int) - 1))) (ak M (rm N o (n+1) 0 n (n:Int) b c e0) ((IntKind.wrap .u64 (((p+1:Nat):Int) - 1)),UP))))))))
     = cond (decide (18446744073709551616<=r+v1)) (e0 (p:Int)) (ak M (rm N o (n+1) 0 n (n:Int) b c e0) ((p:Int),((r+v1:Nat):Int))):=by
    rw[aa adb,aa adc,aa (ade (by omega)),mb N (c:=0) (a:=r) (b:=v1) (d:=0) rfl rfl rfl (by omega),w1];by_cases hb2:18446744073709551616<=r+v1
    ·have:(((r+v1+0) / 18446744073709551616:Nat):Int)=1:=by omega
     rw[this,ade hb2]; rfl
    ·have:(((r+v1+0) / 18446744073709551616:Nat):Int)=0:=by omega
     have e2:(r+v1+0)%18446744073709551616=r+v1:=by omega
     rw[this,e2,adf hb2]; rfl
   rw[aa adb,aa adc,aa (ade (by omega)),vo N hq hv0];generalize (p+1)*v0%18446744073709551616=lo at *;generalize (p+1)*v0 / 18446744073709551616=hi at *;rcases afO hi r with h | h | h
   ·exfalso; omega
   ·subst h;rw[adf (by omega:¬(hi:Int)<hi),show(false==false)=true from rfl,adh,show((hi:Int)==hi)=true by simp,show(true==true)=true from rfl,adh,aa adb,aa adc,aa (ade (by omega)),adf (by omega:¬(lo:Int)<=u0),adg];exact tail
   ·rw[adf (by omega:¬(hi:Int)<r),show(false==false)=true from rfl,adh,show((hi:Int)==r)=false by simp; omega,show(false==true)=false from rfl,adg];exact tail
  by_cases hb2:18446744073709551616<=r+v1
  ·exact⟨p,by omega,by omega,λe0=>by rw[step,ade hb2,adh]⟩
  ·obtain⟨g,g1,g2,g3⟩:=ih p (by omega) (r+v1) M (by omega) (by omega) (by rw[<- hT,aeP]; omega) (by omega) (by omega);exact⟨g,g1,g2,λe0=>by rw[step,adf hb2,adg]; exact g3 e0⟩
theorem ju {b:List Int} (o i:Nat):(b.drop o).getD i 0=b.getD (o+i) 0:=by rw[List.getD_eq_getElem?_getD,List.getD_eq_getElem?_getD,List.getElem?_drop]
theorem Um (c:List Int) (m:Nat):ar (c.take (m+3))=ar (c.take m)+18446744073709551616 ^ m*((c.getD m 0).toNat+18446744073709551616*((c.getD (m+2) 0).toNat*18446744073709551616+(c.getD (m+1) 0).toNat)):=by rw[show m+3=m+2+1 by omega,aI,show m+2=m+1+1 by omega,aI,aI];simp only[adr];generalize 18446744073709551616 ^ m=P;grind
theorem Ul (c:List Int) (m:Nat):ar (c.take (m+2))=ar (c.take m)+18446744073709551616 ^ m*((c.getD m 0).toNat+18446744073709551616*(c.getD (m+1) 0).toNat):=by rw[show m+2=m+1+1 by omega,aI,aI];simp only[adr];generalize 18446744073709551616 ^ m=P;grind
theorem HY {N:Nat} (hN:1180591620717411303424<=N) {o n:Nat} {b c:List Int} (hn:2<=n) (hb:InWq b) (hc:InWq c) (hcl:n<=c.length) (hbl:o+n+1<=b.length) (hbs:b.length<=1099511627780)
  (htop:0<(c.getD (n - 1) 0).toNat) (hU:ar ((b.drop o).take (n+1))<ar (c.take n)*18446744073709551616) :
  ∃ g:Nat,ar ((b.drop o).take (n+1)) / ar (c.take n)<=g/\g<18446744073709551616 /\ ∀ k,GM N o (n+1) 0 n b c k=k (g:Int):=by
 obtain⟨m,rfl⟩:∃ m,n=m+2:=⟨n - 2,by omega⟩
 have hU3:=Um (b.drop o) m;have hV2:=Ul c m;rw[ju,ju,ju]at hU3;have a0:=hb.at (i:=o+m);have a1:=hb.at (i:=o+(m+1));have a2:=hb.at (i:=o+(m+2));have c0:=hc.at (i:=m);have c1:=hc.at (i:=m+1);have hA:=aN (hb.drop o) m;have hB:=aN hc m;rw[show m+2 - 1=m+1 by omega]at htop;obtain⟨u0,hu0⟩:∃ u,u=(b.getD (o+m) 0).toNat:=⟨_,rfl⟩
 obtain⟨u1,hu1⟩:∃ u,u=(b.getD (o+(m+1)) 0).toNat:=⟨_,rfl⟩
 obtain⟨u2,hu2⟩:∃ u,u=(b.getD (o+(m+2)) 0).toNat:=⟨_,rfl⟩
 obtain⟨v0,hv0⟩:∃ u,u=(c.getD m 0).toNat:=⟨_,rfl⟩
 obtain⟨v1,hv1⟩:∃ u,u=(c.getD (m+1) 0).toNat:=⟨_,rfl⟩
 have g0:b.getD (o+m) 0=(u0:Int):=by omega
 have g1:b.getD (o+(m+1)) 0=(u1:Int):=by omega
 have g2:b.getD (o+(m+2)) 0=(u2:Int):=by omega
 have k0:c.getD m 0=(v0:Int):=by omega
 have k1:c.getD (m+1) 0=(v1:Int):=by omega
 rw[<- hu0,<- hu1,<- hu2]at hU3;rw[<- hv0,<- hv1]at hV2;rw[<- hv1]at htop;rw[show m+2+1=m+3 by omega];rw[show m+2+1=m+3 by omega]at hU;generalize ar ((b.drop o).take (m+3))=U at *;generalize ar (c.take (m+2))=V at *;have hV0:0<V:=by
  rcases aez V with h | h
  ·rw[h,aeL]at hU; omega
  ·exact h
 have hq:U / V<18446744073709551616:=by rw[ado hV0,adi]; exact hU
 have i2:o+Int.toNat (((m+2:Nat):Int))=o+(m+2):=by omega
 have i1:o+Int.toNat (((m+2:Nat):Int) - 1)=o+(m+1):=by omega
 have j1:0+Int.toNat (((m+2:Nat):Int) - 1)=m+1:=by omega
 by_cases h0:v1<=u2
 ·refine⟨18446744073709551615,by omega,by omega,λk=>?_⟩
  (unfold GM; rw[ac]; unfold F0)
  simp only[i2,i1,j1,g2,g1,k1];rw[aa adc,aa (ade (by omega)),aa adb,aa adc,aa (ade (by omega)),ade (by omega:(u2:Int)>=v1),adh];rfl
 ·have hT:(u2*18446744073709551616+u1) / v1<18446744073709551616:=by rw[ado htop];have:=adn 18446744073709551616 (Nat.lt_of_not_le h0);rw[agA]at this;omega
  obtain⟨g,e1,e2,e3⟩:=EK (N:=N) (o:=o) (n:=m+2) (T:=u2*18446744073709551616+u1) (d:=U / V) (u0:=u0) (v0:=v0) (v1:=v1) (by omega) (by rw[show m+2 - 2=m by omega]; exact k0) (by rw[show m+2 - 1=m+1 by omega]; exact k1) (by rw[show m+2 - 2=m by omega]; exact g0) hcl hbl hbs (by omega) (by omega) (by omega)
   (λg hg=>Bb hA hU3 hV2 hV0 hg)
   ((u2*18446744073709551616+u1) / v1) ((u2*18446744073709551616+u1)%v1) N (by omega) hT (aec _ _) (ae3 (adu _ htop) (by omega)) (Gr hA hU3 hV2 hV0 htop (by omega))
  refine⟨g,e1,e2,λk=>?_⟩
  (unfold GM; rw[ac]; unfold F0)
  simp only[i2,i1,j1,g2,g1,k1];rw[aa adc,aa (ade (by omega)),aa adb,aa adc,aa (ade (by omega)),adf (by omega:¬(u2:Int)>=v1),adg];rw[aa adc,aa (ade (by omega)),aa adb,aa adc,aa (ade (by omega)),aa adb,aa adc,aa (ade (by omega))];rw[Ab (by omega) (by omega) (by omega) (by omega),e3]
theorem Ha {b:List Int} {o i:Nat} (D:Nat) (h:o+i<=b.length):(b.take o++(dlq D i++b.drop (o+i))).length=b.length:=by simp[aj]; omega
theorem G_ {b:List Int} {o i:Nat} (D:Nat) (h:o+i<b.length):(b.take o++(dlq D i++b.drop (o+i))).getD (o+i) 0=b.getD (o+i) 0:=by rw[<- adx,cV h,bU (by simp[aj]; omega)]
theorem Hb {b:List Int} {o i:Nat} (D:Nat) (h:o+i<b.length):(b.take o++(dlq D i++b.drop (o+i))).set (o+i) ((D / 18446744073709551616 ^ i%18446744073709551616:Nat):Int)=b.take o++(dlq D (i+1)++b.drop (o+(i+1))):=by rw[<- adx,cV h,aW _ _ _ _ _ (by simp[aj]; omega),dlq];simp[adY]
theorem G8 {b:List Int} {o i n:Nat} (D E:Nat) (hi:i<=n) (h:o+n<=b.length):(b.take o++(dlq E i++((dlq D n).drop i++b.drop (o+n)))).length=b.length:=by simp[aj]; omega
theorem G7 {b:List Int} {o i n:Nat} (D E:Nat) (hi:i<n) (h:o+n<=b.length):(b.take o++(dlq E i++((dlq D n).drop i++b.drop (o+n)))).getD (o+i) 0=((D / 18446744073709551616 ^ i%18446744073709551616:Nat):Int):=by rw[<- adx,cV (n:=i) (by rw[aj]; exact hi),ae1,bU (by simp[aj]; omega),qC D hi]
theorem G9 {b:List Int} {o i n:Nat} (D E:Nat) (hi:i<n) (h:o+n<=b.length):(b.take o++(dlq E i++((dlq D n).drop i++b.drop (o+n)))).set (o+i) ((E / 18446744073709551616 ^ i%18446744073709551616:Nat):Int)=b.take o++(dlq E (i+1)++((dlq D n).drop (i+1)++b.drop (o+n))):=by rw[<- adx,cV (n:=i) (by rw[aj]; exact hi),ae1,aW _ _ _ _ _ (by simp[aj]; omega),dlq];simp
theorem Gg {m:Nat} (S X:Nat):∀ n,n<=m->dlq (S+18446744073709551616 ^ m*X) n=dlq S n
 | 0,_=>rfl
 | n+1,h=>by rw[dlq,dlq,Gg S X n (by omega)];congr 3;refine ip (R:=18446744073709551616 ^ (m - (n+1))*X) ?_;rw[<- adq,<- ady,show n+1+(m - (n+1))=m by omega]
theorem AH {w:List Int} {n i U Q:Nat} (hw:InWq w) (hl:w.length=n+1) (hU:U=ar w) (hi:i<=n) (hQ:Q<18446744073709551616 ^ (n+1)) :
  (((w.getD i 0).toNat+18446744073709551616 - Q / 18446744073709551616 ^ i%18446744073709551616 - (if ar (w.take i)<Q%18446744073709551616 ^ i then 1 else 0))%18446744073709551616=(U+18446744073709551616 ^ (n+1) - Q) / 18446744073709551616 ^ i%18446744073709551616)
  /\ (if (w.getD i 0).toNat<Q / 18446744073709551616 ^ i%18446744073709551616+(if ar (w.take i)<Q%18446744073709551616 ^ i then 1 else 0)then 1 else 0)=(if ar (w.take (i+1))<Q%18446744073709551616 ^ (i+1)then 1 else(0:Nat)):=by
 have hx:=hw.at (i:=i);have hA:=aI (m:=w) i;have hAl:=aN hw i;have hp:=aU i;have hBl:=adu Q hp;have hPs:18446744073709551616 ^ (i+1)=18446744073709551616 ^ i*18446744073709551616:=adr ..;have hmm:Q%18446744073709551616 ^ (i+1)=Q%18446744073709551616 ^ i+18446744073709551616 ^ i*(Q / 18446744073709551616 ^ i%18446744073709551616):=by rw[hPs,af8]
 have hyl:Q / 18446744073709551616 ^ i%18446744073709551616<18446744073709551616:=adu _ (by decide);constructor
 ·obtain⟨R1,h1⟩:=bw w (i+1);have hW:18446744073709551616 ^ (n+1)=18446744073709551616 ^ i*18446744073709551616*18446744073709551616 ^ (n - i):=by rw[<- hPs,<- ady,show i+1+(n - i)=n+1 by omega]
  have hq:=zW (D:=U+18446744073709551616 ^ (n+1) - Q) (a:=U+18446744073709551616 ^ (n+1)) (b:=Q) (x:=(w.getD i 0).toNat) (y:=Q / 18446744073709551616 ^ i%18446744073709551616) (R1:=R1+18446744073709551616 ^ (n - i)) (R2:=Q / (18446744073709551616 ^ i*18446744073709551616)) hAl hBl rfl
   (by rw[hU,h1,hA,hW,hPs,adw]; omega)
   (by rw[<- hmm,hPs]; exact(afq _ _).symm)
   (by omega)
  generalize (U+18446744073709551616 ^ (n+1) - Q) / 18446744073709551616 ^ i=Z at *;generalize Q / 18446744073709551616 ^ i%18446744073709551616=y at *;generalize (w.getD i 0).toNat=x at *;generalize ((R1+18446744073709551616 ^ (n - i):Nat):Int) - ((Q / (18446744073709551616 ^ i*18446744073709551616):Nat):Int)=RR at *;split at hq <;> rename_i hh <;> simp only[hh,aeQ,adM] <;> omega
 ·rw[hA,hmm];exact(mV _ _ _ _ _ hAl hBl).symm
theorem jS (i:Nat):(i:Int)+1=((i+1:Nat):Int):=rfl
theorem Cj (p:Prop) [Decidable p]:(if p then(1:Int)else 0)=((if p then 1 else 0:Nat):Int):=by split <;> rfl
theorem D8 (p:Nat) (h:p<18446744073709551616):IntKind.wrap .u64 (((p+1:Nat):Int) - 1)=(p:Int):=by rw[am]; omega
theorem zO {D V c v i:Nat} (hc:c=(D%18446744073709551616 ^ i+V) / 18446744073709551616 ^ i) :
  (D%18446744073709551616 ^ (i+1)+(V+18446744073709551616 ^ i*v)) / 18446744073709551616 ^ (i+1)=(D / 18446744073709551616 ^ i%18446744073709551616+v+c) / 18446744073709551616 /\
  ∀ R,(D+(V+18446744073709551616 ^ i*v+18446744073709551616 ^ (i+1)*R)) / 18446744073709551616 ^ i%18446744073709551616=(D / 18446744073709551616 ^ i%18446744073709551616+v+c)%18446744073709551616:=by
 have hp:=aU i;have hPs:18446744073709551616 ^ (i+1)=18446744073709551616 ^ i*18446744073709551616:=adr ..;have hmm:D%18446744073709551616 ^ (i+1)=D%18446744073709551616 ^ i+18446744073709551616 ^ i*(D / 18446744073709551616 ^ i%18446744073709551616):=by rw[hPs,af8]
 have e:D%18446744073709551616 ^ (i+1)+(V+18446744073709551616 ^ i*v)=(D%18446744073709551616 ^ i+V)+18446744073709551616 ^ i*(D / 18446744073709551616 ^ i%18446744073709551616+v):=by rw[hmm,adw]; omega
 have e2:(D%18446744073709551616 ^ (i+1)+(V+18446744073709551616 ^ i*v)) / 18446744073709551616 ^ i=D / 18446744073709551616 ^ i%18446744073709551616+v+c:=by rw[e,cF,<- hc]; omega
 constructor
 ·rw[hPs,<- adm,<- hPs,e2]
 ·intro R;have e3:D+(V+18446744073709551616 ^ i*v+18446744073709551616 ^ (i+1)*R)=(D%18446744073709551616 ^ (i+1)+(V+18446744073709551616 ^ i*v))+18446744073709551616 ^ (i+1)*(D / 18446744073709551616 ^ (i+1)+R):=by have:=afq D (18446744073709551616 ^ (i+1));rw[adw]; omega
  rw[ip e3,e2]
theorem Ef {D V c i:Nat} (hc:c=(D%18446744073709551616 ^ i+V) / 18446744073709551616 ^ i) :
  (D%18446744073709551616 ^ (i+1)+V) / 18446744073709551616 ^ (i+1)=(D / 18446744073709551616 ^ i%18446744073709551616+0+c) / 18446744073709551616 /\
  (D+V) / 18446744073709551616 ^ i%18446744073709551616=(D / 18446744073709551616 ^ i%18446744073709551616+0+c)%18446744073709551616:=by
 obtain⟨a1,a2⟩:=zO (v:=0) hc;have a3:=a2 0;rw[aeC,adL V]at a1;rw[aeC,aeC,adL V]at a3;exact⟨a1,a3⟩
theorem Hm {N:Nat} (hN:1180591620717411303424<=N) {o n U V d:Nat} {b c:List Int} (hn:1<=n) (hc:InWq c) (hcl:n<=c.length) (hbl:o+(n+1)<=b.length) (hbs:b.length<=1099511627780) (hV:V=ar (c.take n)) (hUW:U<18446744073709551616 ^ (n+1)) (hd:∀ g,g<=d↔g*V<=U) (e0:Int->List Int->Bool) :
  ∀ g M,g<M->g<18446744073709551616->d<=g->g*V<18446744073709551616 ^ (n+1) ->
   ak M (rj N o (n+1) 0 n (n:Int) c e0) ((g:Int),((if U<g*V then 1 else 0:Nat):Int),b.take o++(dlq (U+18446744073709551616 ^ (n+1) - g*V) (n+1)++b.drop (o+(n+1))))=e0 (d:Int) (b.take o++(dlq (U+18446744073709551616 ^ (n+1) - d*V) (n+1)++b.drop (o+(n+1)))):=by
 intro g;induction g with
 | zero=>
  intro M hM _ hdg _;obtain⟨M,rfl⟩:∃ m,M=m+1:=⟨M - 1,by omega⟩
  have:d=0:=by omega
  subst this;show rj N o (n+1) 0 n (n:Int) c e0 (_,_,_) (ak M _)=_;simp only[rj,aeL];rw[if_neg (by omega:¬ U<0),show(((0:Nat):Int) != 0)=false from rfl,adg]
 | succ p ih=>
  intro M hM hg hdg hgW;obtain⟨M,rfl⟩:∃ m,M=m+1:=⟨M - 1,by omega⟩
  show rj N o (n+1) 0 n (n:Int) c e0 (_,_,_) (ak M _)=_;have hps:(p+1)*V=p*V+V:=aeP _ _;by_cases hlt:U<(p+1)*V
  ·have hdp:d<=p:=by
    rcases aef p d with h | h
    ·have:=(hd (p+1)).1 h; omega
    ·exact h
   simp only[rj];rw[if_pos hlt,show(((1:Nat):Int) != 0)=true from rfl,adh];obtain⟨D,hD⟩:∃ D,D=U+18446744073709551616 ^ (n+1) - (p+1)*V:=⟨_,rfl⟩
   obtain⟨E,hE⟩:∃ E,E=U+18446744073709551616 ^ (n+1) - p*V:=⟨_,rfl⟩
   have hDE:E=D+V:=by omega
   have hDl:D<18446744073709551616 ^ (n+1):=by omega
   rw[<- hD];refine aC (λi=>((((D%18446744073709551616 ^ i+ar (c.take i)) / 18446744073709551616 ^ i:Nat):Int),(i:Int),b.take o++(dlq E i++((dlq D (n+1)).drop i++b.drop (o+(n+1)))))) n ?_ (by omega) (λi hi K=>?_) (λK=>?_)
   ·simp[dlq,ar,af7]
   ·have hx:=hc.at (i:=i);have hcv:=aI (m:=c) i;have hVl:=aN hc i;have hp:=aU i;have hml:=adu D hp;obtain⟨cy,hcy⟩:∃ cy,cy=(D%18446744073709551616 ^ i+ar (c.take i)) / 18446744073709551616 ^ i:=⟨_,rfl⟩
    have hcl1:cy<=1:=by
     have:cy<2:=by rw[hcy,ado hp]; omega
     omega
    obtain⟨a1,a2⟩:=zO (D:=D) (V:=ar (c.take i)) (v:=(c.getD i 0).toNat) hcy;obtain⟨R,hR⟩:=bw (c.take n) (i+1);rw[agl,aeH (by omega),<- hV,hcv]at hR;have a3:=a2 R;rw[<- hR,<- hDE]at a3;have hdl:D / 18446744073709551616 ^ i%18446744073709551616<18446744073709551616:=adu _ (by decide);simp only[gI,adk,adJ];rw[G8 D E (by omega) (by omega),G7 D E (by omega) (by omega)];rw[ade (by omega:(i:Int)<n),adh,aa adc,aa (ade (by omega)),aa adc,aa (ade (by omega)),<- hcy,
     mb N (a:=D / 18446744073709551616 ^ i%18446744073709551616) (b:=(c.getD i 0).toNat) (d:=cy) rfl (by omega) rfl hcl1,aa adc,aa (ade (by omega)),aa adb,<- a3,G9 D E (by omega) (by omega),<- a1,hcv,jS]
   ·have hp:=aU n;have hml:=adu D hp;have hVl:V<18446744073709551616 ^ n:=by rw[hV]; exact aN hc n
    obtain⟨cy,hcy⟩:∃ cy,cy=(D%18446744073709551616 ^ n+V) / 18446744073709551616 ^ n:=⟨_,rfl⟩
    have hcl1:cy<=1:=by
     have:cy<2:=by rw[hcy,ado hp]; omega
     omega
    obtain⟨a1,a3⟩:=Ef (D:=D) (V:=V) (i:=n) hcy;rw[adp hDl,<- hDE]at a1;rw[<- hDE]at a3;simp only[gI,adk];rw[adf (by omega:¬(n:Int)<n),adg,G8 D E (by omega) (by omega),G7 D E (by omega) (by omega),<- hV,<- hcy,aa adc,aa (ade (by omega)),
     mb N (y:=0) (c:=((cy:Nat):Int)) (a:=D / 18446744073709551616 ^ n%18446744073709551616) (b:=0) (d:=cy) rfl rfl rfl hcl1,aa adc,aa (ade (by omega)),<- a3,<- a1,G9 D E (by omega) (by omega),D8 p (by omega)]
    rw[ad2 (by rw[aj]; omega),ad4];have eb:IntKind.wrap .u64 (((1:Nat):Int) - ((E / 18446744073709551616 ^ (n+1):Nat):Int))=((if U<p*V then 1 else 0:Nat):Int):=by
     have hp1:=aU (n+1);by_cases h:U<p*V
     ·rw[if_pos h,adK (by omega),am]; omega
     ·rw[if_neg h];have:E / 18446744073709551616 ^ (n+1)=1:=by refine Nat.div_eq_of_lt_le ?_ ?_ <;> omega
      rw[this,am]; omega
    rw[eb,hE];exact ih M (by omega) (by omega) hdp (by omega)
  ·have:d=p+1:=by have:=(hd (p+1)).2 (by omega);omega
   subst this;simp only[rj];rw[if_neg hlt,show(((0:Nat):Int) != 0)=false from rfl,adg]
theorem K0 {N:Nat} (hN:1180591620717411303424<=N) {o n:Nat} {b c:List Int} (hn:2<=n) (hb:InWq b) (hc:InWq c) (hcl:n<=c.length) (hbl:o+(n+1)<=b.length) (hbs:b.length<=1099511627780)
  (htop:0<(c.getD (n - 1) 0).toNat) (hU:ar ((b.drop o).take (n+1))<ar (c.take n)*18446744073709551616) (k:Ky8) :
  Ls N o (n+1) 0 n b c k=k ((ar ((b.drop o).take (n+1)) / ar (c.take n):Nat):Int) (b.take o++(dlq (ar ((b.drop o).take (n+1))%ar (c.take n)) (n+1)++b.drop (o+(n+1)))):=by
 obtain⟨g,g1,g2,g3⟩:=HY hN hn hb hc hcl (by omega) hbs htop hU
 (unfold Ls; rw[ac]; unfold Jr)
 rw[g3];have hw:InWq ((b.drop o).take (n+1)):=(hb.drop o).take _;have hwl:((b.drop o).take (n+1)).length=n+1:=by rw[adV,aeU]; omega
 have hwg:∀ i,i<=n->((b.drop o).take (n+1)).getD i 0=b.getD (o+i) 0:=λi hi=>by rw[rM (by omega),ju]
 generalize (b.drop o).take (n+1)=w at *;obtain⟨U,hUe⟩:∃ U,U=ar w:=⟨_,rfl⟩
 obtain⟨V,hVe⟩:∃ V,V=ar (c.take n):=⟨_,rfl⟩
 rw[<- hUe,<- hVe]at hU g1 ⊢;have hV0:0<V:=by
  rcases aez V with h | h
  ·rw[h,aeL]at hU; omega
  ·exact h
 have hVl:V<18446744073709551616 ^ n:=by rw[hVe]; exact aN hc n
 have hUW:U<18446744073709551616 ^ (n+1):=by rw[hUe]; have:=ig hw; rwa [hwl]at this
 have hgV:g*V<18446744073709551616 ^ (n+1):=by rw[adr,adi];exact aej hVl g2
 have hres:b.take o++(dlq (U%V) (n+1)++b.drop (o+(n+1)))=b.take o++(dlq (U+18446744073709551616 ^ (n+1) - (U / V)*V) (n+1)++b.drop (o+(n+1))):=by
  have e:U+18446744073709551616 ^ (n+1) - (U / V)*V=U%V+18446744073709551616 ^ (n+1)*1:=by have:=aec U V;omega
  rw[e,Gg _ _ _ (ads _)]
 rw[hres];obtain⟨D,hD⟩:∃ D,D=U+18446744073709551616 ^ (n+1) - g*V:=⟨_,rfl⟩
 obtain⟨Q,hQ⟩:∃ Q,Q=g*V:=⟨_,rfl⟩
 have hQW:Q<18446744073709551616 ^ (n+1):=by rw[hQ]; exact hgV
 refine aC (λi=>(((g*ar (c.take i) / 18446744073709551616 ^ i:Nat):Int),((if ar (w.take i)<Q%18446744073709551616 ^ i then 1 else 0:Nat):Int),(i:Int),b.take o++(dlq D i++b.drop (o+i)))) n ?_ (by omega) (λi hi K=>?_) (λK=>?_)
 ·simp[dlq,ar,af7]
 ·have hx:=hb.at (i:=o+i);have hy:=hc.at (i:=i);have hcv:=aI (m:=c) i;have hp:=aU i;have hVi:=aN hc i;obtain⟨s1,s2⟩:=AH hw hwl hUe (by omega:i<=n) (by rw[hQ]; exact hgV:Q<_);rw[hwg i (by omega)]at s1 s2;rw[hQ,<- hD,<- hQ]at s1;obtain⟨cy,hcy⟩:∃ cy,cy=g*ar (c.take i) / 18446744073709551616 ^ i:=⟨_,rfl⟩
  have hcyl:cy<18446744073709551616:=by rw[hcy,ado hp];exact aej g2 hVi
  have e1:g*ar (c.take (i+1))=g*ar (c.take i)+18446744073709551616 ^ i*(g*(c.getD i 0).toNat):=by rw[hcv,adw,adG g]
  have ecy:g*ar (c.take (i+1)) / 18446744073709551616 ^ (i+1)=(g*(c.getD i 0).toNat+0+cy) / 18446744073709551616:=by rw[adr,<- adm,e1,cF,<- hcy];congr 1; omega
  obtain⟨R,hR⟩:=bw (c.take n) (i+1);rw[agl,aeH (by omega),<- hVe]at hR;have elo:Q / 18446744073709551616 ^ i%18446744073709551616=(g*(c.getD i 0).toNat+0+cy)%18446744073709551616:=by
   have:Q=g*ar (c.take (i+1))+18446744073709551616 ^ (i+1)*(g*R):=by rw[hQ,hR,adw,adG g]
   rw[ip this,e1,cF,<- hcy];congr 1; omega
  simp only[gH,adk,adJ];rw[Ha D (by omega),G_ D (by omega),ade (by omega:(i:Int)<n),adh,aa adc,aa (ade (by omega)),<- hcy,
   ym N (c:=0) (a:=g) (b:=(c.getD i 0).toNat) (e:=0) (f:=cy) rfl (by omega) rfl rfl g2 (by omega) (by omega) hcyl,aa adc,aa (ade (by omega)),<- elo,<- ecy,
   vp N (a:=(b.getD (o+i) 0).toNat) (b:=Q / 18446744073709551616 ^ i%18446744073709551616) (d:=if ar (w.take i)<Q%18446744073709551616 ^ i then 1 else 0) (by omega) rfl rfl (by split <;> omega),aa adc,aa (ade (by omega)),aa adb,s1,Hb D (by omega)]
  have s3:(if (b.getD (o+i) 0).toNat<Q / 18446744073709551616 ^ i%18446744073709551616+(if ar (w.take i)<Q%18446744073709551616 ^ i then 1 else 0)then(1:Int)else 0)=((if ar (w.take (i+1))<Q%18446744073709551616 ^ (i+1)then 1 else 0:Nat):Int):=by rw[Cj,s2]
  rw[s3];rfl
 ·have hx:=hb.at (i:=o+n);obtain⟨s1,s2⟩:=AH hw hwl hUe (ads n) (by rw[hQ]; exact hgV:Q<_);rw[hwg n (by omega)]at s1 s2;rw[hQ,<- hD,<- hQ]at s1;have hql:Q / 18446744073709551616 ^ n<18446744073709551616:=by rw[ado (aU n),adi,<- adr,hQ]; exact hgV
  rw[adp hql]at s1 s2;have hwt:w.take (n+1)=w:=adC (by omega);rw[hwt,<- hUe,adp hQW]at s2;simp only[gH,adk];rw[adf (by omega:¬(n:Int)<n),adg,<- hVe,<- hQ,Ha D (by omega),G_ D (by omega),aa adc,aa (ade (by omega)),
   vp N (a:=(b.getD (o+n) 0).toNat) (b:=Q / 18446744073709551616 ^ n) (d:=if ar (w.take n)<Q%18446744073709551616 ^ n then 1 else 0) (by omega) rfl rfl (by split <;> omega),aa adc,aa (ade (by omega)),s1,Hb D (by omega)]
  have s3:(if (b.getD (o+n) 0).toNat<Q / 18446744073709551616 ^ n+(if ar (w.take n)<Q%18446744073709551616 ^ n then 1 else 0)then(1:Int)else 0)=((if U<g*V then 1 else 0:Nat):Int):=by rw[<- hQ,Cj,s2]
  rw[s3,hD];exact Hm hN (by omega) hc hcl hbl hbs hVe hUW (λp=>aeY hV0) _ g N (by omega) g2 g1 hgV
theorem E5 {N:Nat} (b:List Int) (m:Nat) (hm:m<=b.length) (hN:m<N) (hs:m<9223372036854775807) (k:Kz3):pk N 0 m b k=k (bM b m):=by
 (unfold pk; rw[ac]; unfold ou)
 have key:∀ n,n<=m -> ∀ M,n<M->ak M (tP N 0 m b λVr=>((decide (0<=Vr/\Vr<=((m:Nat):Int)))&&(k ((Int.toNat Vr) - 0)))) (n:Int)=k (bM b n):=by
  intro n;induction n with
  | zero=>
   intro _ M hM;obtain⟨M,rfl⟩:∃ m,M=m+1:=⟨M - 1,by omega⟩
   show tP N 0 m b _ ((0:Nat):Int) _=_;simp only[tP,bM];rw[adf (by omega:¬((0:Nat):Int)>0),show(false==true)=false from rfl,adg,ade (by omega),aek];rfl
  | succ n ih=>
   intro hn M hM;obtain⟨M,rfl⟩:∃ m,M=m+1:=⟨M - 1,by omega⟩
   show tP N 0 m b _ ((n+1:Nat):Int) (ak M _)=_;have e:0+Int.toNat (((n+1:Nat):Int) - 1)=n:=by omega
   have e2:((n+1:Nat):Int) - 1=(n:Int):=by omega
   simp only[tP,e];rw[ade (by omega:((n+1:Nat):Int)>0),show(true==true)=true from rfl,adh,aa adb,aa adc,aa (ade (by omega)),aa adb,e2,ih (by omega) M (by omega),mX];by_cases h0:b.getD n 0=0
   ·have:(b.getD n 0==0)=true:=by simpa using h0
    rw[this,if_pos h0]; rfl
   ·have:(b.getD n 0==0)=false:=by simpa using h0
    rw[this,if_neg h0,adg,ade (by omega),aek];rfl
 exact key m (ads _) N hN
theorem wm (N:Nat) (b:List Int) (m i:Nat) (hm:m<=b.length) (hi:i<9223372036854775807) (k:Kz2):GV N 0 m (i:Int) b k=k ((b.take m).getD i 0):=by
 unfold GV NN;by_cases h:i<m
 ·rw[ade (by omega),adh,aa adc,aa (ade (by omega)),rM h];simp
 ·rw[adf (by omega),adg,dY (by rw[adV]; omega)]
theorem Dc {N:Nat} (b:List Int) (hb:InWq b) (m s:Nat) (hm:m<=b.length) (hs:s<64) (hN:m+3<N) (hms:m<=1099511627780):∃ lost:Bool,∀ k,GR N 0 m (s:Int) b k=k (ae (ar (b.take m) / 2 ^ s)) lost:=by
 have ew:IntKind.wrap .u64 (Int.tdiv (s:Int) 64)=0:=by rw[am,aei (by omega)]; omega
 have es:Int.tmod (s:Int) 64=(s:Int):=by rw[ad9 (by omega)]; omega
 have eml:IntKind.wrap .u64 ((m:Nat):Int)=(m:Int):=by rw[am]; omega
 have hs0:0<2 ^ s:=adt _;by_cases h0:m=0
 ·subst h0;refine⟨false,λk=>?_⟩
  (unfold GR; rw[ac]; unfold F1)
  rw[ew,afy,show ar []=0 from rfl,Nat.zero_div,aZ];rfl
 ·refine⟨az .and .u64 (b.getD 0 0) (IntKind.wrap .u64 ((IntKind.wrap .u64 ((1:Int)*2 ^ s)) - 1)) != 0,λk=>?_⟩
  (unfold GR; rw[ac]; unfold F1)
  have emin:min s 64=s:=by omega
  have e64:min (Int.toNat (IntKind.wrap .u64 (64 - (s:Int)))) 64=64 - s:=by rw[am]; omega
  have z0:0+Int.toNat (0:Int)=0:=rfl;have z1:Int.toNat (0:Int) - 0=0:=rfl;rw[ew,es,eml,adf (by omega:¬(0:Int)>=(m:Int)),adg,aa adb,aa adc,z0,z1,aa (ade (by omega)),aa (ade (by omega)),aa (ade (by omega)),adk,emin];refine aC (λi=>(az .and .u64 (b.getD 0 0) (IntKind.wrap .u64 ((IntKind.wrap .u64 ((1:Int)*2 ^ s)) - 1)),(i:Int))) 0 rfl (by omega) (λi hi K=>by omega) (λK=>?_);simp only[kN];rw[adf (by omega:¬((0:Nat):Int)<((0:Nat):Int)),adg];generalize az .and .u64 (b.getD 0 0) (IntKind.wrap .u64 ((IntKind.wrap .u64 ((1:Int)*2 ^ s)) - 1))=lo;have hw:InWq (b.take m):=hb.take m;have hwl:(b.take m).length=m:=by rw[adV]; omega
  obtain⟨X,hX⟩:∃ X,X=ar (b.take m) / 2 ^ s:=⟨_,rfl⟩
  have elen:Int.toNat ((m:Int) - 0)=m:=by omega
  have elen2:(m:Int) - 0=(m:Int):=by omega
  rw[elen2,aa adb,aa (bY (by omega) (by omega) (by omega) (by omega)),aeB,adk,<- hX];refine aC (λi=>((i:Int),dlq X i++List.replicate (m - i) 0)) m (by simp[dlq]) (by omega) (λi hi K=>?_) (λK=>?_)
  ·have hx:=hw.at (i:=i);have hy:=hw.at (i:=i+1);have hset:=rK X i m (by omega);have hl:(dlq X i++List.replicate (m - i) (0:Int)).length=m:=by simp[aj]; omega
   obtain⟨R,hR⟩:=xH hw i;have hdig:X / 18446744073709551616 ^ i%18446744073709551616=(((b.take m).getD i 0).toNat+18446744073709551616*((b.take m).getD (i+1) 0).toNat) / 2 ^ s%18446744073709551616:=by
    rw[hX,adm,adi (2 ^ s),<- adm,hR];have e2:18446744073709551616*18446744073709551616*R=2 ^ s*(18446744073709551616*(2 ^ (64 - s)*R)):=by
     have hs1:2 ^ s*2 ^ (64 - s)=18446744073709551616:=by rw[<- ady,show s+(64 - s)=64 by omega]
     rw[adG (2 ^ s),<- adq (2 ^ s),hs1,adq]
    rw[e2,aeb _ _ hs0,aew]
   have ea:(0:Int)+(i:Int)=(i:Int):=by omega
   have eb:(i:Int)+1=((i+1:Nat):Int):=by omega
   simp only[iy,adk,ea,eb,emin,e64,hl];rw[ade (by omega:(i:Int)<(m:Int)),adh,aa adb,wm N b m i hm (by omega),aa (ade (by omega)),aa adb,aa adb,wm N b m (i+1) hm (by omega),aa (ade (by rw[am]; omega)),aa adc,aa (ade (by omega)),aa adb];have ex:(b.take m).getD i 0=((((b.take m).getD i 0).toNat:Nat):Int):=by omega
   have ey:(b.take m).getD (i+1) 0=((((b.take m).getD (i+1) 0).toNat:Nat):Int):=by omega
   rw[ex,ey,AJ (by omega) (by omega) (by omega),<- hdig,hset]
  ·simp only[iy];rw[adf (by omega:¬(m:Int)<(m:Int)),adg,adQ,adS,adN];have hXl:X<18446744073709551616 ^ m:=by have h1:=ig hw;rw[hwl]at h1;rw[hX];exact aeR (aeS _ _) h1
   have:=jM (N:=N) _ (gr X m) (by rw[aj]; omega) (by rw[aj]; omega) (λl=>k l (lo != 0));rw[this,k8 hXl]
theorem Ig {N:Nat} (m:List Int) (hm:InWq m) (n:Nat) (hn:n<4294967296) (hN:m.length+n / 64+4<N) (hs:m.length<=1099511627776) (e0:List Int->Bool) :
  ak N (eu N ((n / 64:Nat):Int) ((n%64:Nat):Int) m ((m.length:Nat):Int) e0) (0,List.replicate (n / 64+m.length+1) (0:Int))=e0 (dlq (ar m*2 ^ n) (n / 64+m.length+1)):=by
 have hw6:n / 64<67108864:=by omega
 generalize hw:n / 64=w at *;generalize hsh:n%64=s at *;have hs32:s<64:=by omega
 have hp2:2 ^ n=18446744073709551616 ^ w*2 ^ s:=by rw[Bz,hw,hsh]
 have hs0:0<2 ^ s:=adt s;have hs1:2 ^ s*2 ^ (64 - s)=18446744073709551616:=by rw[<- ady,show s+(64 - s)=64 by omega]
 let V:=ar m*2 ^ n
 let X:=ar m*2 ^ s
 have hVX:V=18446744073709551616 ^ w*X:=by simp only[V,X]; rw[hp2,adG]
 let T:=λi=>ar (m.take i)*2 ^ s
 let c:=λi=>T i / 18446744073709551616 ^ i
 have hcl:∀ i,c i<2 ^ s:=by intro i;simp only[c,T];rw[ado (aU i),adi];exact aeo (aN hm i) hs0
 refine aC (N:=N) (λi=>((i:Int),dlq V (w+i)++((c i:Nat):Int)::List.replicate (m.length - i) 0)) m.length ?_ (by omega) (λi hi K=>?_) (λK=>?_)
 ·congr 1;show List.replicate (w+m.length+1) (0:Int)=dlq V w++((c 0:Nat):Int)::List.replicate m.length 0;rw[hVX,qD];have hc0:c 0=0:=by simp[c,T,ar]
  rw[hc0];have:w+m.length+1=w+(m.length+1):=by omega
  rw[this,<- aeW,ad0]; rfl
 ·have hx:=hm.at (i:=i);have hT:T (i+1)=T i+18446744073709551616 ^ i*((m.getD i 0).toNat*2 ^ s):=by simp only[T,aI,adI,adq]
  have hq:T (i+1) / 18446744073709551616 ^ i=c i+(m.getD i 0).toNat*2 ^ s:=by rw[hT,cF]
  have hci:c i<2 ^ s:=hcl i;have hc1:c (i+1)=(c i+(m.getD i 0).toNat*2 ^ s) / 18446744073709551616:=by rw[<- hq]; simp only[c]; rw[adr,adm]
  have hdig:V / 18446744073709551616 ^ (w+i)%18446744073709551616=(c i+(m.getD i 0).toNat*2 ^ s)%18446744073709551616:=by rw[<- hq,hVX,ady,<- adm,adP _ (aU w)];obtain⟨R,hR⟩:=bw m (i+1);refine ip (R:=R*2 ^ s) ?_;simp only[X,T];rw[hR,adI,adq]
  have hrep:List.replicate (m.length - i) (0:Int)=0::List.replicate (m.length - (i+1)) 0:=by rw[show m.length - i=(m.length - (i+1))+1 by omega,ad0]
  have hdl:=aj V (w+i);have ei:Int.toNat ((w:Int)+(i:Int))=w+i:=by omega
  have ei1:Int.toNat ((w:Int)+(i:Int)+1)=w+i+1:=by omega
  have emin:min s 64=s:=by omega
  have e64:min (Int.toNat (IntKind.wrap .u64 (64 - (s:Int)))) 64=64 - s:=by rw[am]; omega
  simp only[eu,adk,ei,ei1,emin,e64];rw[hrep,bU hdl.symm,aW _ _ _ _ _ hdl.symm];have hmx:m.getD i 0=(((m.getD i 0).toNat:Nat):Int):=by omega
  rw[hmx];generalize hxx:(m.getD i 0).toNat=x at *;have hx32:x<18446744073709551616:=by omega
  have hlow:x*2 ^ s%18446744073709551616=2 ^ s*(x%2 ^ (64 - s)):=by
   have e:x*2 ^ s%(2 ^ s*2 ^ (64 - s))=2 ^ s*(x%2 ^ (64 - s)):=by rw[adi x]; exact ae2 _ _ _
   rwa [hs1]at e
  have hsum:2 ^ s*(x%2 ^ (64 - s))+c i<18446744073709551616:=by have h1:x%2 ^ (64 - s)+1<=2 ^ (64 - s):=adu _ (adt _);have h2:=adn (2 ^ s) h1;rw[hs1,adw]at h2;omega
  have epw:(x:Int)*2 ^ s=((x*2 ^ s:Nat):Int):=by rw[adB,aeI]; rfl
  have eor:az .or .u64 ((c i:Nat):Int) (IntKind.wrap .u64 ((x:Int)*2 ^ s))=((V / 18446744073709551616 ^ (w+i)%18446744073709551616:Nat):Int):=by
   have e1:IntKind.wrap .u64 ((x*2 ^ s:Nat):Int)=((2 ^ s*(x%2 ^ (64 - s)):Nat):Int):=by rw[<- hlow,am]; omega
   rw[epw,e1,cu _ _ s hci hsum,hdig];omega
  have ehi:Int.fdiv (x:Int) (2 ^ (64 - s))=((c (i+1):Nat):Int):=by
   have e2:(2:Int) ^ (64 - s)=((2 ^ (64 - s):Nat):Int):=by rw[aeI]; rfl
   rw[e2,jR,hc1];have:(c i+x*2 ^ s) / 18446744073709551616=x / 2 ^ (64 - s):=by rw[<- hs1,<- adm,adi x,aeb _ _ hs0,adK hci,adJ]
   rw[this]
  rw[eor,ehi];have hl1:∀(a b:Int) (ys:List Int),(dlq V (w+i)++a::b::ys).length=w+i+2+ys.length:=by intro a b ys; simp[hdl]; omega
  have hset2:(dlq V (w+i)++((V / 18446744073709551616 ^ (w+i)%18446744073709551616:Nat):Int)::0::List.replicate (m.length - (i+1)) 0).set (w+i+1) ((c (i+1):Nat):Int)=dlq V (w+(i+1))++((c (i+1):Nat):Int)::List.replicate (m.length - (i+1)) 0:=by
   have:dlq V (w+i)++((V / 18446744073709551616 ^ (w+i)%18446744073709551616:Nat):Int)::0::List.replicate (m.length - (i+1)) 0=dlq V (w+(i+1))++0::List.replicate (m.length - (i+1)) 0:=by rw[<- adY,dlq]; simp
   rw[this];exact aW _ _ _ _ _ (by rw[aj]; omega)
  rw[hset2,hl1,hl1];simp only[aeB];rw[ade (by omega:(i:Int)<((m.length:Nat):Int)),adh,aa adc,aa adb,aa adc,aa (ade (by omega)),aa (ade (by omega)),aa adc,aa (ade (by omega)),aa adb,aa adb,aa (ade (by rw[am]; omega)),aa adc,aa (ade (by omega)),aa adb];rfl
 ·simp only[eu];rw[adf (by omega:¬(m.length:Int)<m.length),adg,adQ,adS];have hV:V<18446744073709551616 ^ (w+m.length+1):=by
   have h1:=ig hm;simp only[V];rw[hp2,adr,ady,adG,adq];refine aeo ?_ (aU w);have hs2:2 ^ s<=18446744073709551616:=by rw[<- hs1]; exact aed _ (adt _)
   exact adZ h1 hs2 (by decide)
  have hT:T m.length=X:=by simp only[T,X]; rw[adX]
  have hend:dlq V (w+m.length)++[((c m.length:Nat):Int)]=dlq V (w+m.length+1):=by
   rw[dlq];have:c m.length=V / 18446744073709551616 ^ (w+m.length)%18446744073709551616:=by
    have hX:V / 18446744073709551616 ^ (w+m.length)=X / 18446744073709551616 ^ m.length:=by rw[hVX,ady,<- adm,adP _ (aU w)]
    have h2:=hcl m.length;have hs2:2 ^ s<=18446744073709551616:=by rw[<- hs1]; exact aed _ (adt _)
    rw[hX,<- hT];exact(adp (by show c m.length<_; omega)).symm
   rw[this]
  rw[hend]
theorem CA (n:Nat):dlq n (ae n).length=ae n:=by refine List.ext_getElem (aj n _) (λi h1 h2=>?_);have e1:=qC n h2;have e2:=mq i n;rw[List.getD_eq_getElem?_getD,List.getElem?_eq_getElem h1,ad3]at e1;rw[List.getD_eq_getElem?_getD,List.getElem?_eq_getElem h2,ad3]at e2;rw[e1,e2]
theorem A1 {X L:Nat} (hX:X<18446744073709551616 ^ L):∀ k,dlq X (L+k)=dlq X L++List.replicate k 0
 | 0=>by simp
 | k+1=>by rw[<- adY,dlq,A1 hX k,adK (adz hX (adv (by decide) (afA _ _))),aeT,adx];rfl
theorem qE (S:Nat):∀{m n:Nat},n<=m->(dlq S m).take n=dlq S n
 | 0,n,h=>by
  have:n=0:=by omega
  subst this; rfl
 | m+1,n,h=>by
  by_cases e:n=m+1
  ·subst e; rw[adC (by rw[aj]; omega)]
  ·rw[dlq,aeh (by rw[aj]; omega),qE S (by omega)]
theorem zY (S a:Nat):∀ c,dlq S (a+c)=dlq S a++dlq (S / 18446744073709551616 ^ a) c
 | 0=>by simp[dlq]
 | c+1=>by rw[<- adY,dlq,zY S a c,dlq,adm,<- ady,adx]
theorem Es {V m:Nat} (h:V<18446744073709551616 ^ m):bM (dlq V m) m=(ae V).length:=by have h1:=uK (gr V m);rw[aj,oa,adp h]at h1;rw[<- h1,adV,aj];have:=jt (dlq V m) m;omega
theorem QV {V m:Nat} (h1:18446744073709551616 ^ m<=V) (h2:V<18446744073709551616 ^ (m+1)):(ae V).length=m+1:=by have a:=fu (m+1) V h2;have b:=QU (V:=V) (w:=m) (by have:=afE h1 (aU m); omega);omega
theorem sJ {N:Nat} {m s:Nat} (hm:m ≠ 0) (hs:s<64) (hN:(ae m).length+4<N) (hl:(ae m).length<=1099511627776) (k0:Bool) (k1:Nat->List Int->Bool) :
  Dy N (ae m) (s:Int) k0 k1=k1 (ae (m*2 ^ s)).length (dlq (m*2 ^ s) ((ae m).length+1)):=by
 have hlp:(ae m).length ≠ 0:=by rw[bP hm]; simp
 have hV:m*2 ^ s<18446744073709551616 ^ ((ae m).length+1):=by
  rw[adr];have h2:2 ^ s<18446744073709551616:=by rw[<- mH]; exact Nat.pow_lt_pow_right (by decide) hs
  exact aej (i9 m) h2
 (unfold Dy; rw[ac]; unfold I3)
 have e0:((((ae m).length:Nat):Int)==0)=false:=by simp; intro h; rw[h]at hlp; simp at hlp
 have ew:IntKind.wrap .u64 (Int.tdiv (s:Int) 64)=((s / 64:Nat):Int):=by rw[am,aei (by omega)]; omega
 have es:Int.tmod (s:Int) 64=((s%64:Nat):Int):=by rw[ad9 (by omega)]; rfl
 have elen:Int.toNat (((s / 64:Nat):Int)+(((ae m).length:Nat):Int)+1)=s / 64+(ae m).length+1:=by omega
 rw[e0,adg,ew,es,aa adb,aa adb,aa adb,aa (bY (by omega) (by omega) (by omega) (by omega)),elen];have:=Ig (N:=N) (ae m) (aR m) s (by omega) (by omega) hl (λV7=>uC N V7 λmr=>k1 mr V7);rw[aA,show s / 64=0 by omega,adJ]at this;rw[show s / 64=0 by omega,adJ];refine Eq.trans this ?_;rw[yo _ (by rw[aj]; omega) (by rw[aj]; omega),aj,Es hV]
theorem Ij (xs:List Int) (k:Nat):ar (xs++List.replicate k 0)=ar xs:=by rw[l5,wZ]; simp
theorem ur {N:Nat} (hN:1180591620717411303424<=N) {x y:Nat} (hxy:y<=x) (hy2:2<=(ae y).length) (hxl:(ae x).length<=1099511627000) (k:Kz0) :
  yN N (ae x) (ae y) k=k (ae (x / y)) (ae (x%y)):=by
 have hy0:y ≠ 0:=by intro h; rw[h,aZ]at hy2; simp at hy2
 have hyx:=de hxy;have hylt:=i9 y;have hxlt:=i9 x;have hylo:18446744073709551616 ^ ((ae y).length - 1)<=y:=by
  rcases aef y (18446744073709551616 ^ ((ae y).length - 1))with h | h
  ·have:=fu _ _ h; omega
  ·exact h
 (unfold yN; rw[ac]; unfold JG)
 rw[iu x y ⟨by omega,by omega⟩ ⟨by omega,by omega⟩];have hc:decide (dC x y<0)=false:=by unfold dC; rw[if_neg (by omega)]; split <;> rfl
 obtain⟨n,hn⟩:∃ n,(ae y).length=n+2:=⟨(ae y).length - 2,by omega⟩
 obtain⟨lx,hlx⟩:∃ lx,(ae x).length=lx:=⟨_,rfl⟩
 have htd:(ae y).getD (n+1) 0=((y / 18446744073709551616 ^ (n+1):Nat):Int):=by rw[mq,adp];rw[ado (aU _),adi,<- adr];rw[hn]at hylt; exact hylt
 rw[hn]at hylt hylo;rw[hlx]at hxlt;rw[show n+2 - 1=n+1 by omega]at hylo;obtain⟨t,ht⟩:∃ t,t=y / 18446744073709551616 ^ (n+1):=⟨_,rfl⟩
 rw[<- ht]at htd;have htl:t<18446744073709551616:=by rw[ht,ado (aU _),adi,<- adr]; exact hylt
 have ht0:t ≠ 0:=by have:=afE hylo (aU (n+1)); omega
 obtain⟨g1,g2,g3⟩:=G3 ht0 htl;have ein:Int.toNat (((n+2:Nat):Int) - 1)=n+1:=by omega
 have e1':(((n+2:Nat):Int)==1)=false:=by simp; omega
 rw[hc,adg,hn,hlx,e1',adg,aa adb,aa adc,ein,htd,CZ N htl];obtain⟨s,hs⟩:∃ s,s=64 - bl t:=⟨_,rfl⟩
 rw[<- hs]at g1 g2 g3 ⊢;have hs0:0<2 ^ s:=adt s;have ews:IntKind.wrap .u64 ((s:Nat):Int)=(s:Int):=by rw[am]; omega
 rw[ews];obtain⟨V,hV⟩:∃ V,V=y*2 ^ s:=⟨_,rfl⟩
 obtain⟨X,hX⟩:∃ X,X=x*2 ^ s:=⟨_,rfl⟩
 have hVlt:V<18446744073709551616 ^ (n+2):=by
  have h1:=afF y (aU (n+1));rw[<- ht]at h1;have h2:y*2 ^ s<18446744073709551616 ^ (n+1)*(t+1)*2 ^ s:=ad5 h1 hs0;have h3:(t+1)*2 ^ s<=18446744073709551616:=by
   have hd:2 ^ s*2 ^ (64 - s)=18446744073709551616:=by rw[<- ady,show s+(64 - s)=64 by omega]
   have h4:t<2 ^ (64 - s):=by rw[adi]at g3;rw[<- hd]at g3;exact afz g3
   rw[<- hd,adi];exact adn _ h4
  have h5:=adn (18446744073709551616 ^ (n+1)) h3;rw[hV,show n+2=n+1+1 by omega,adr];rw[adq]at h2;omega
 have hVge:18446744073709551616 ^ (n+1)<=V:=by rw[hV]; exact adH hylo (aed _ hs0)
 have hVlen:(ae V).length=n+2:=QV hVge hVlt;have hV0:0<V:=adz (aU _) hVge;have hx0:x ≠ 0:=by omega
 rw[sJ hy0 g1 (by omega) (by omega),hn,<- hV,hVlen,sJ hx0 g1 (by omega) (by omega),hlx,<- hX];have hs2:2 ^ s<=18446744073709551616:=by rw[<- mH]; exact adv (by decide) (by omega)
 have hXlt:X<18446744073709551616 ^ (lx+1):=by rw[hX,adr]; exact adZ hxlt hs2 (by decide)
 have hXlen1:(ae X).length<=lx+1:=fu _ _ hXlt;have hXlen2:lx<=(ae X).length:=by rw[<- hlx,hX]; exact de (aed _ hs0)
 have etk:(dlq X (lx+1)).take (ae X).length=ae X:=by rw[qE X hXlen1,CA]
 have ebl:(ae X++[0,0]).length=(ae X).length+2:=by simp
 obtain⟨M,hM⟩:∃ M,lx+1=M+(n+2):=⟨lx+1 - (n+2),by omega⟩
 have eu1:Int.toNat ((lx:Int)+1) - 0=lx+1:=by omega
 have eM:(((lx+1:Nat):Int) - ((n+2:Nat):Int))=(M:Int):=by omega
 rw[aeO,etk,ebl,eu1,eM];rw[aa (ade (by rw[aj]; omega)),aa (ade (by omega)),aa adb,aa (ade (by omega)),aa adb,aa (bY (by omega) (by omega) (by omega) (by omega)),aa adb,aa adb,adk];obtain⟨tail,htail⟩:∃ tail,tail=(ae X++[(0:Int),0]).drop (lx+1):=⟨_,rfl⟩
 have htw:InWq tail:=by
  rw[htail];refine InWq.drop (λz hz=>?_) _;rcases List.mem_append.1 hz with h | h
  ·exact aR X z h
  ·simp only[aeF,aff,or_false,or_self]at h; subst h; omega
 have htlen:tail.length<=2:=by rw[htail,aeU,ebl]; omega
 have hstart:ae X++[(0:Int),0]=dlq X M++(dlq (X / 18446744073709551616 ^ M%V) (n+2)++(List.replicate 0 0++tail)):=by
  have hXM:X / 18446744073709551616 ^ M<V:=by
   rw[ado (aU M),hX,hV];have h1:x*2 ^ s<18446744073709551616 ^ lx*2 ^ s:=ad5 hxlt hs0;have h2:18446744073709551616 ^ lx=18446744073709551616 ^ (n+1)*18446744073709551616 ^ M:=by rw[<- ady]; congr 1; omega
   have h3:=adl (18446744073709551616 ^ M*2 ^ s) hylo;rw[h2,adq]at h1;have e:y*2 ^ s*18446744073709551616 ^ M=y*(18446744073709551616 ^ M*2 ^ s):=by rw[adq,adi (2 ^ s)]
   rw[e]; omega
  rw[adp hXM,adS,ad4,<- adx,<- zY,<- hM];rw[htail];have hpad:(ae X++[(0:Int),0]).take (lx+1)=dlq X (lx+1):=by
   have:ae X++[(0:Int),0]=dlq X ((ae X).length+2):=by rw[A1 (i9 X) 2,CA]; rfl
   rw[this,qE X (by omega)]
  rw[<- hpad,afo]
 rw[hstart];have hQlt:X / V<18446744073709551616 ^ M:=by
  rw[ado hV0];have h1:x*2 ^ s<18446744073709551616 ^ lx*2 ^ s:=ad5 hxlt hs0;have h2:18446744073709551616 ^ lx=18446744073709551616 ^ M*18446744073709551616 ^ (n+1):=by rw[<- ady]; congr 1; omega
  have h3:=adn (18446744073709551616 ^ M) (adl (2 ^ s) hylo);rw[hX,hV];rw[h2,adq]at h1;omega
 have hmk:M<=1099511627001:=by omega
 refine aC (λi=>((M:Int) - 1 - (i:Int),dlq X (M - i)++(dlq (X / 18446744073709551616 ^ (M - i)%V) (n+2)++(List.replicate i 0++tail)),List.replicate (M - i) (0:Int)++(dlq (X / V) M).drop (M - i))) M ?_ (by omega) (λi hi K=>?_) (λK=>?_)
 ·rw[afk,ad2 (by rw[aj]; omega),adN];congr 1;omega
 ·obtain⟨j,hj⟩:∃ j,M - i=j+1:=⟨M - i - 1,by omega⟩
  have hj2:M - (i+1)=j:=by omega
  have ei:(M:Int) - 1 - (i:Int)=(j:Int):=by omega
  have ei2:(M:Int) - 1 - ((i+1:Nat):Int)=(j:Int) - 1:=by omega
  rw[hj,hj2,ei,ei2];obtain⟨A,hA⟩:∃ A,A=X / 18446744073709551616 ^ j:=⟨_,rfl⟩
  have hA1:X / 18446744073709551616 ^ (j+1)=A / 18446744073709551616:=by rw[hA,adr,adm]
  obtain⟨n1,n2⟩:=AG (A:=A) hV0;obtain⟨R,hR⟩:∃ R,R=A / 18446744073709551616%V:=⟨_,rfl⟩
  have hRV:R<V:=by rw[hR]; exact adu _ hV0
  rw[hA1,<- hR];rw[<- hR]at n1 n2;obtain⟨b,hb⟩:∃ b,b=dlq X (j+1)++(dlq R (n+2)++(List.replicate i 0++tail)):=⟨_,rfl⟩
  have hblen:b.length=j+1+(n+2)+i+tail.length:=by rw[hb]; simp[aj]; omega
  have hbw:InWq b:=by
   rw[hb];intro z hz;rcases List.mem_append.1 hz with h | h
   ·exact gr _ _ z h
   ·rcases List.mem_append.1 h with h | h
    ·exact gr _ _ z h
    ·rcases List.mem_append.1 h with h | h
     ·have:=(List.mem_replicate.1 h).2; subst this; omega
     ·exact htw z h
  have hbt:b.take j=dlq X j:=by rw[hb,aeh (by rw[aj]; omega),qE X (by omega)]
  have hbd:b.drop j=((A%18446744073709551616:Nat):Int)::(dlq R (n+2)++(List.replicate i 0++tail)):=by rw[hb,dlq,adx,aeg (by rw[aj]; omega),ad2 (by rw[aj]; omega),ad4,hA];rfl
  have hwv:ar ((b.drop j).take (n+2+1))=R*18446744073709551616+A%18446744073709551616:=by rw[hbd,af4,aeh (by rw[aj]; omega),adC (by rw[aj]; omega),ar,oa,adp (ae3 hRV hVlt),adk];omega
  have hbd2:b.drop (j+(n+2+1))=List.replicate i 0++tail:=by rw[<- List.drop_drop,hbd,List.drop_succ_cons,aeg (by rw[aj]; omega),ad2 (by rw[aj]; omega),ad4]
  have hcv:ar ((dlq V (n+2+1)).take (n+2))=V:=by rw[qE V (by omega),oa,adp hVlt]
  have hctop:0<((dlq V (n+2+1)).getD (n+2 - 1) 0).toNat:=by
   rw[qC V (by omega),adk,show n+2 - 1=n+1 by omega,adp]
   ·exact afE hVge (aU _)
   ·rw[ado (aU _),adi,<- adr]; exact hVlt
  have hAm:A%18446744073709551616<18446744073709551616:=adu _ (by decide);have hstep:=λkk=>K0 hN (o:=j) (n:=n+2) (b:=b) (c:=dlq V (n+2+1)) (by omega) hbw (gr _ _) (by rw[aj]; omega) (by omega) (by omega) hctop (by rw[hwv,hcv];have:=adl 18446744073709551616 hRV;rw[aeP]at this;omega) kk
  rw[hwv,hcv,n1,n2,hbt,hbd2]at hstep;have hnext:dlq X j++(dlq (A%V) (n+2+1)++(List.replicate i 0++tail))=dlq X j++(dlq (A%V) (n+2)++(List.replicate (i+1) 0++tail)):=by rw[A1 (ae3 (adu A hV0) hVlt) 1,adx,ad0];rfl
  have hdg:X / V / 18446744073709551616 ^ j%18446744073709551616=A / V%18446744073709551616:=by rw[hA,adm,adm,adi V]
  have ej:0+Int.toNat (j:Int)=j:=by omega
  have ej2:Int.toNat ((j:Int)+((n+2:Nat):Int)+1) - Int.toNat (j:Int)=n+2+1:=by omega
  rw[<- hb];simp only[yW,ej,ej2];rw[ade (by omega:(j:Int)>=0),adh,aa adb,aa adb,aa (ade (by omega))];rw[hstep];have hql:(List.replicate (j+1) (0:Int)++(dlq (X / V) M).drop (j+1)).length=M:=by simp[aj]; omega
  rw[hql,aa adc,aa (ade (by omega)),aa adb,adk,<- hdg,GH _ _ _ (by omega),hnext,<- hA]
 ·simp only[yW];have e0:(M:Int) - 1 - (M:Int) = -1:=by omega
  rw[e0,adf (by omega),adg,adQ,ae_,ae7,adS,ad4,aeO];obtain⟨L,hL⟩:∃ L,L=dlq X 0++(dlq (X%V) (n+2)++(List.replicate M 0++tail)):=⟨_,rfl⟩
  have hRlt:X%V<18446744073709551616 ^ (n+2):=ae3 (adu _ hV0) hVlt;have hLt:L.take (lx+1)=dlq (X%V) (n+2)++List.replicate M 0:=by rw[hL,hM,show dlq X 0=[] from rfl,ad4,<- adx,aeh (by simp[aj]; omega),adC (by simp[aj]; omega)]
  have hLw:InWq L:=by
   rw[hL];intro z hz;rcases List.mem_append.1 hz with h | h
   ·cases h
   ·rcases List.mem_append.1 h with h | h
    ·exact gr _ _ z h
    ·rcases List.mem_append.1 h with h | h
     ·have:=(List.mem_replicate.1 h).2; subst this; omega
     ·exact htw z h
  have hLlen:lx+1<=L.length:=by rw[hL]; simp[aj]; omega
  rw[<- hL];unfold JK;rw[E5 L (lx+1) hLlen (by omega) (by omega)];have hcl:=jt L (lx+1);obtain⟨lost,hlost⟩:=Dc (N:=N) L hLw (bM L (lx+1)) s (by omega) g1 (by omega) (by omega);rw[hlost,oG,hLt,Ij,oa,adp hRlt];have:=jM (N:=N) (dlq (X / V) M) (gr _ _) (by rw[aj]; omega) (by rw[aj]; omega) (λz=>k z (ae (X%V / 2 ^ s)));rw[this,k8 hQlt,hX,hV,afT _ _ hs0,afU,aeZ _ hs0]
theorem jN {N:Nat} (hN:1180591620717411303424<=N) {x y:Nat} (hy:0<y) (hxl:(ae x).length<=1099511627000) (hyl:(ae y).length<=1099511627000) (k:Kz0) :
  yN N (ae x) (ae y) k=k (ae (x / y)) (ae (x%y)):=by
 by_cases hxy:y<=x
 ·by_cases h2:2<=(ae y).length
  ·exact ur hN hxy h2 hxl k
  ·have hylt:=i9 y;have hl1:(ae y).length=1:=by rw[bP (by omega)]at h2 ⊢; simp at h2 ⊢; exact h2
   rw[hl1,age]at hylt;have hd:=oK (by omega:y ≠ 0) hylt;have hc:decide (dC x y<0)=false:=by unfold dC; rw[if_neg (by omega)]; split <;> rfl
   (unfold yN; rw[ac]; unfold JG)
   rw[iu x y ⟨by omega,by omega⟩ ⟨by omega,by omega⟩,hc,adg,hd];show cond (((1:Nat):Int)==1) _ _=_;rw[show(((1:Nat):Int)==1)=true from rfl,adh,aa (af (by omega) (by simp))];show nl N (ae x) (y:Int) _=_;have hm:x%y<18446744073709551616:=ae3 (adu _ hy) hylt;rw[Ib (by omega) hy hylt ⟨by omega,by omega⟩,rQ (by omega) _ hm]
 ·have hc:decide (dC x y<0)=true:=by unfold dC; rw[if_pos (by omega)]; rfl
  (unfold yN; rw[ac]; unfold JG)
  rw[iu x y ⟨by omega,by omega⟩ ⟨by omega,by omega⟩,hc,adh,vq _ (by omega),adK (by omega),adp (by omega),aZ]
theorem wT:∀ n,n ≠ 0->bl n=64*((ae n).length - 1)+bl ((ae n).getD ((ae n).length - 1) 0).toNat/\0<(ae n).length:=by
 intro n;induction n using Nat.strongRecOn with
 | ind n ih=>
  intro h;rw[bP h];by_cases h1:n / 18446744073709551616=0
  ·rw[h1,aZ];have:n%18446744073709551616=n:=adp (by omega);simp[this]
  ·obtain⟨i1,i2⟩:=ih (n / 18446744073709551616) (by omega) h1;have e:=kZ (n:=n) 64 (by rw[mH]; omega);rw[mH]at e;refine⟨?_,by simp⟩;have e2:(((n%18446744073709551616:Nat):Int)::ae (n / 18446744073709551616)).getD ((((n%18446744073709551616:Nat):Int)::ae (n / 18446744073709551616)).length - 1) 0=(ae (n / 18446744073709551616)).getD ((ae (n / 18446744073709551616)).length - 1) 0:=by
    simp only[adR,afH];generalize ae (n / 18446744073709551616)=l at i2 ⊢;cases l with
    | nil=>simp at i2
    | cons y l=>simp
   rw[e2,e,i1];simp only[adR];omega
theorem C3 {N:Nat} {n:Nat} (hs:(ae n).length<=1099511627776) (k:Kz2):pj N (ae n) k=k (bl n:Int):=by
 (unfold pj; rw[ac]; unfold ot)
 by_cases h:n=0
 ·subst h; rw[aZ]; rfl
 ·obtain⟨e1,e2⟩:=wT n h;have e0:(((ae n).length:Int)==0)=false:=by simp; intro h'; rw[h']at e2; simp at e2
  have e3:Int.toNat (((ae n).length:Int) - 1)=(ae n).length - 1:=by omega
  have hw:=(aR n).at (i:=(ae n).length - 1);have e4:(ae n).getD ((ae n).length - 1) 0=((((ae n).getD ((ae n).length - 1) 0).toNat:Nat):Int):=by omega
  have hb:=ub (n:=((ae n).getD ((ae n).length - 1) 0).toNat) (j:=64) (by rw[mH]; omega);rw[e0,adg,aa adb,aa adb,aa adb,aa adc,e3,e4,yg N (by omega),aa adb,e1];congr 1;omega
theorem Gw {N:Nat} {x f:Nat} (hf:f<140737488355328) (k:Kz2):si N (ae x) (f:Int) k=k ((x / 2 ^ f%18446744073709551616:Nat):Int):=by
 (unfold si; rw[ac]; unfold uO)
 have e1:Int.tdiv (f:Int) 64=((f / 64:Nat):Int):=by rw[aei (by omega)]; rfl
 have e2:IntKind.wrap .u64 (Int.tmod (f:Int) 64)=((f%64:Nat):Int):=by rw[am,ad9 (by omega)]; omega
 have e3:min (f%64) 64=f%64:=by omega
 have e4:min (Int.toNat (IntKind.wrap .u64 (64 - ((f%64:Nat):Int)))) 64=64 - f%64:=by rw[am]; omega
 have e5:((f / 64:Nat):Int)+1=((f / 64+1:Nat):Int):=by omega
 have hx:=(aR x).at (i:=f / 64);have hy:=(aR x).at (i:=f / 64+1);have ex:(ae x).getD (f / 64) 0=((((ae x).getD (f / 64) 0).toNat:Nat):Int):=by omega
 have ey:(ae x).getD (f / 64+1) 0=((((ae x).getD (f / 64+1) 0).toNat:Nat):Int):=by omega
 rw[e1,e2,e5,aa adb,me N _ (f / 64) (by omega),aa (ade (by omega)),aa adb,me N _ (f / 64+1) (by omega),aa (ade (by rw[am]; omega)),adk,e3,e4,ex,ey,AJ (by omega) (by omega) (by omega)];obtain⟨R,hR⟩:=xH (aR x) (f / 64);rw[aA]at hR;have hp:2 ^ f=18446744073709551616 ^ (f / 64)*2 ^ (f%64):=Bz f;have hs0:0<2 ^ (f%64):=adt _;rw[hp,<- adm,hR];have e6:18446744073709551616*18446744073709551616*R=2 ^ (f%64)*(18446744073709551616*(2 ^ (64 - f%64)*R)):=by
  have hs1:2 ^ (f%64)*2 ^ (64 - f%64)=18446744073709551616:=by rw[<- ady,show f%64+(64 - f%64)=64 by omega]
  rw[adG (2 ^ (f%64)),<- adq (2 ^ (f%64)),hs1,adq]
 rw[e6,aeb _ _ hs0,aew]
theorem C8 {N:Nat} {x d e:Nat} (hd:d<18446744073709551616) (he:e<18446744073709551616) (hs:kt N (ae x)) (k:Kz6):sM N (ae x) (d:Int) (e:Int) k=k (ae (x*d+e)):=by
 (unfold sM; rw[ac]; unfold Jq)
 obtain⟨s1,s2⟩:=hs;obtain⟨L,hL⟩:∃ L,(ae x).length=L:=⟨_,rfl⟩
 have hx:=i9 x;rw[hL]at hx;have eL:Int.toNat ((L:Int)+1)=L+1:=by omega
 rw[hL,aa adb,aa (bY (by omega) (by omega) (by omega) (by omega)),eL];obtain⟨m,hm⟩:∃ m,m=ae x:=⟨_,rfl⟩
 have hmw:InWq m:=by rw[hm]; exact aR x
 have hmv:ar m=x:=by rw[hm]; exact aA x
 have hml:m.length=L:=by rw[hm]; exact hL
 rw[<- hm];obtain⟨S,hS⟩:∃ S,S=x*d+e:=⟨_,rfl⟩
 rw[<- hS];refine aC (λi=>((((ar (m.take i)*d+e) / 18446744073709551616 ^ i:Nat):Int),(i:Int),dlq S i++List.replicate (L+1 - i) 0)) L (by simp[ar,dlq]) (by omega) (λi hi K=>?_) (λK=>?_)
 ·have hz:=hmw.at (i:=i);have hp:=aU i;have hXi:=aN hmw i;have hcv:=aI (m:=m) i;obtain⟨cy,hcy⟩:∃ cy,cy=(ar (m.take i)*d+e) / 18446744073709551616 ^ i:=⟨_,rfl⟩
  have e1:ar (m.take (i+1))*d+e=(ar (m.take i)*d+e)+18446744073709551616 ^ i*((m.getD i 0).toNat*d):=by rw[hcv,adI,adq]; omega
  have hcyl:cy<18446744073709551616:=by
   rw[hcy,ado hp];have:=ad7 (afx hXi) (afx hd);have h1:1<=18446744073709551616 ^ i:=hp;have h2:(18446744073709551616 ^ i - 1)*(18446744073709551616 - 1)+18446744073709551615=18446744073709551616 ^ i*18446744073709551615:=by
    obtain⟨P,hP⟩:∃ P,18446744073709551616 ^ i=P+1:=⟨18446744073709551616 ^ i - 1,by omega⟩
    rw[hP]; omega
   omega
  have ecy:(ar (m.take (i+1))*d+e) / 18446744073709551616 ^ (i+1)=((m.getD i 0).toNat*d+0+cy) / 18446744073709551616:=by rw[adr,<- adm,e1,cF,<- hcy];congr 1; omega
  obtain⟨R,hR⟩:=bw m (i+1);have elo:S / 18446744073709551616 ^ i%18446744073709551616=((m.getD i 0).toNat*d+0+cy)%18446744073709551616:=by
   have:S=(ar (m.take (i+1))*d+e)+18446744073709551616 ^ (i+1)*(R*d):=by rw[hS,<- hmv,hR,adI,adq]; omega
   rw[ip this,e1,cF,<- hcy];congr 1; omega
  have hset:=rK S i (L+1) (by omega);have hl:(dlq S i++List.replicate (L+1 - i) (0:Int)).length=L+1:=by simp[aj]; omega
  simp only[kW,adk];rw[ade (by omega:(i:Int)<(L:Int)),adh,hml,aa adc,<- hcy,ym N (c:=0) (a:=(m.getD i 0).toNat) (b:=d) (e:=0) (f:=cy) (by omega) rfl rfl rfl (by omega) hd (by omega) hcyl,hl,aa adc,aa (ade (by omega)),aa adb,<- elo,<- ecy,hset,jS]
 ·simp only[kW];have hl:(dlq S L++List.replicate (L+1 - L) (0:Int)).length=L+1:=by simp[aj]
  have hSl:S<18446744073709551616 ^ (L+1):=by
   rw[hS,adr];have h1:=ad7 (afx hx) (afx hd);obtain⟨P,hP⟩:∃ P,18446744073709551616 ^ L=P+1:=⟨18446744073709551616 ^ L - 1,by have:=aU L; omega⟩
   rw[hP]at h1 ⊢;omega
  have ee:(ar (m.take L)*d+e) / 18446744073709551616 ^ L=S / 18446744073709551616 ^ L%18446744073709551616:=by rw[adC (by omega),hmv,<- hS,adp];rw[ado (aU L),adi,<- adr]; exact hSl
  rw[adf (by omega:¬(L:Int)<(L:Int)),adg,hl,ee,adk,rK S L (L+1) (by omega),aa adc,aa (ade (by omega)),adQ,adS,adN,jM _ (gr _ _) (by rw[aj]; omega) (by rw[aj]; omega),k8 hSl]
def xp (x0 y0 a b c d:Nat) (odd:Bool):Prop:=
 ∃ p q,x0=d*p+b*q/\y0=c*p+a*q/\(cond odd (b*c=a*d+1) (a*d=b*c+1))/\a<=b/\c<=d/\d<=q/\q+b+d<=p/\1<=b/\1<=c/\b<18446744073709551616/\d<18446744073709551616
theorem FT {N:Nat} {x0 y0:Nat} (hx0:x0<18446744073709551616) (hy0:y0<18446744073709551616) (t1 t2 t3 t4:Int) (t5:Bool) :
  ∀ y x u v a b c d odd M,y<M->y<=x->x0=v*x+d*y->y0=u*x+c*y->(cond odd (c*v=d*u+1) (d*u=c*v+1))->1<=v ->
   ((d=0/\u=0/\b=0/\c=1/\v=1)\/(1<=u/\c<=d/\u<=v/\(b=0\/xp x0 y0 a b c d odd))) ->
   ∃ a' b' c' d':Nat,∃ odd',(b'=0\/xp x0 y0 a' b' c' d' odd') /\ ∀ e0,ak M (mN N t1 t2 t3 t4 t5 e0) ((x:Int),(y:Int),(u:Int),(v:Int),(a:Int),(b:Int),(c:Int),(d:Int),odd)=e0 (a':Int) (b':Int) (c':Int) (d':Int) odd':=by
 intro y;induction y using Nat.strongRecOn with
 | ind y ih=>
 intro x u v a b c d odd M hM hyx h1 h2 hdet hv hor;obtain⟨M,rfl⟩:∃ m,M=m+1:=⟨M - 1,by omega⟩
 have hend:b=0\/xp x0 y0 a b c d odd:=by
  rcases hor with h | h
  ·exact .inl h.2.2.1
  ·exact h.2.2.2
 by_cases c1:v<=y
 ·have hy1:1<=y:=by omega
  have b1:v*1<=v*x:=adn _ (by omega);have b2:d*1<=d*y:=adn _ hy1;have w1:IntKind.wrap .u64 ((x:Int) - (y:Int))=((x - y:Nat):Int):=by have:1*x<=v*x:=adl _ hv;rw[am]; omega
  have w2:IntKind.wrap .u64 ((d:Int)+(v:Int))=((d+v:Nat):Int):=by rw[am]; omega
  by_cases c2:d+v<=x - y
  ·-- one step more
   obtain⟨q,hq⟩:∃ q,q=x / y:=⟨_,rfl⟩
   obtain⟨r,hr⟩:∃ r,r=x%y:=⟨_,rfl⟩
   have hxq:x=q*y+r:=by rw[hq,hr]; exact(aec x y).symm
   have hry:r<y:=by rw[hr]; exact adu _ hy1
   have hq1:1<=q:=by rw[hq]; exact afE hyx hy1
   have n1:x0=(d+q*v)*y+v*r:=by rw[h1,hxq]; grind
   have n2:y0=(c+q*u)*y+u*r:=by rw[h2,hxq]; grind
   have m1:(d+q*v)*1<=(d+q*v)*y:=adn _ hy1;have m2:(c+q*u)*1<=(c+q*u)*y:=adn _ hy1;have hvq:v<=d+q*v:=by have:=adl v hq1;omega
   have hg:∀(e0:Int->Int->Int->Int->Bool->Bool),ak (M+1) (mN N t1 t2 t3 t4 t5 e0) ((x:Int),(y:Int),(u:Int),(v:Int),(a:Int),(b:Int),(c:Int),(d:Int),odd)=ak M (mN N t1 t2 t3 t4 t5 e0) ((y:Int),(r:Int),((c+q*u:Nat):Int),((d+q*v:Nat):Int),(c:Int),(d:Int),(u:Int),(v:Int),!odd):=by
    intro e0;show mN N t1 t2 t3 t4 t5 e0 _ (ak M _)=_;simp only[mN];have y1:(!decide ((y:Int)=0))=true:=by simp; omega
    have ediv:Int.tdiv (x:Int) (y:Int)=(q:Int):=by rw[hq]; rfl
    have emod:Int.tmod (x:Int) (y:Int)=(r:Int):=by rw[hr]; rfl
    have wq:IntKind.wrap .u64 (q:Int)=(q:Int):=by have:q*1<=q*v:=adn _ hv;rw[am]; omega
    have wu:IntKind.wrap .u64 ((c:Int)+IntKind.wrap .u64 ((q:Int)*(u:Int)))=((c+q*u:Nat):Int):=by rw[<- adB,am,am]; omega
    have wv:IntKind.wrap .u64 ((d:Int)+IntKind.wrap .u64 ((q:Int)*(v:Int)))=((d+q*v:Nat):Int):=by rw[<- adB,am,am]; omega
    rw[ade (by omega:(y:Int)>=v),show(true==true)=true from rfl,adh,w1,w2,ade (by omega),adh,aa y1,aa y1,ediv,emod,wq,wu,wv]
   have hstep:=ih r hry y (c+q*u) (d+q*v) c d u v (!odd) M (by omega) (by omega) n1 n2 (by
    cases odd with
    | true=>
     simp only[adh,ad8,adg]at hdet ⊢;have:v*(c+q*u)=v*c+q*u*v:=by grind
     have:u*(d+q*v)=u*d+q*u*v:=by grind
     have:c*v=v*c:=adi _ _;have:d*u=u*d:=adi _ _;omega
    | false=>
     simp only[adh,adW,adg]at hdet ⊢;have:u*(d+q*v)=u*d+q*u*v:=by grind
     have:v*(c+q*u)=v*c+q*u*v:=by grind
     have:c*v=v*c:=adi _ _;have:d*u=u*d:=adi _ _;omega) (by omega) (by
    refine .inr ?_;rcases hor with⟨k1,k2,k3,k4,k5⟩ | ⟨k1,k2,k3,k4⟩
    ·subst k1 k2 k4 k5;exact⟨by omega,by omega,by omega,.inl rfl⟩
    ·have hu1:u<=c+q*u:=by have:=adl u hq1;omega
     refine⟨by omega,k3,?_,?_⟩
     ·have:=adn q k3;omega
     ·rcases aez d with hd0 | hd0
      ·exact .inl hd0
      ·refine .inr ⟨x,y,h1,h2,?_,k2,k3,c1,by omega,hd0,k1,by omega,by omega⟩;cases odd with
       | true=>simp only[ad8,adg,adh]at hdet ⊢; exact hdet
       | false=>simp only[adW,adh,adg]at hdet ⊢; exact hdet)
   obtain⟨a',b',c',d',odd',g1,g2⟩:=hstep;exact⟨a',b',c',d',odd',g1,λe0=>by rw[hg,g2]⟩
  ·refine⟨a,b,c,d,odd,hend,λe0=>?_⟩;show mN N t1 t2 t3 t4 t5 e0 _ (ak M _)=_;simp only[mN];rw[ade (by omega:(y:Int)>=v),show(true==true)=true from rfl,adh,w1,w2,adf (by omega),adg]
 ·refine⟨a,b,c,d,odd,hend,λe0=>?_⟩;show mN N t1 t2 t3 t4 t5 e0 _ (ak M _)=_;simp only[mN];rw[adf (by omega:¬(y:Int)>=v),show(false==true)=false from rfl,adg]
theorem Ic {N:Nat} (hN:1180591620717411303424<=N) {x0 y0:Nat} (hx0:x0<18446744073709551616) (hyx:y0<=x0):∃ a b c d:Nat,∃ odd,(b=0\/xp x0 y0 a b c d odd) /\ ∀ k,q7 N (x0:Int) (y0:Int) k=k (a:Int) (b:Int) (c:Int) (d:Int) odd:=by obtain⟨a,b,c,d,odd,h1,h2⟩:=FT (N:=N) (x0:=x0) (y0:=y0) hx0 (by omega) 0 0 0 0 false y0 x0 0 1 0 0 1 0 true N (by omega) hyx (by omega) (by omega) rfl (ads _) (.inl ⟨rfl,rfl,rfl,rfl,rfl⟩);exact⟨a,b,c,d,odd,h1,λk=>by unfold q7; rw[ac]; exact h2 _⟩
theorem Hj {x0 y0 a b c d F rx ry X Y:Nat} (h:xp x0 y0 a b c d true) (hrx:rx<F) (hry:ry<F) (hX:X=x0*F+rx) (hY:Y=y0*F+ry) :
  a*X<=b*Y/\d*Y<=c*X/\c*X - d*Y<=b*Y - a*X/\X=d*(b*Y - a*X)+b*(c*X - d*Y)/\Y=c*(b*Y - a*X)+a*(c*X - d*Y):=by
 obtain⟨p,q,h1,h2,hdet,hab,hcd,hdq,hpq,hb1,hc1,hbl,hdl⟩:=h;simp only[adh]at hdet;have e1:b*Y+a*rx=a*X+(p*F+b*ry):=by
  subst h1 h2 hX hY;have:b*(c*p*F)=(a*d+1)*(p*F):=by rw[<- hdet]; grind
  grind
 have e2:c*X+d*ry=d*Y+(q*F+c*rx):=by
  subst h1 h2 hX hY;have:b*c*(q*F)=(a*d+1)*(q*F):=by rw[<- hdet]
  grind
 have m1:a*rx<=a*F:=adn _ (by omega);have m2:a*F<=b*F:=adl _ hab;have m3:d*ry<=d*F:=adn _ (by omega);have m4:d*F<=q*F:=adl _ hdq;have m5:(q+b+d)*F<=p*F:=adl _ hpq;rw[adI,adI]at m5;have m6:c*rx<=c*F:=adn _ (by omega);have m7:c*F<=d*F:=adl _ hcd;have g1:a*X<=b*Y:=by omega
 have g2:d*Y<=c*X:=by omega
 refine⟨g1,g2,by omega,?_,?_⟩
 ·obtain⟨U,hU⟩:=aeX g1;obtain⟨V,hV⟩:=aeX g2;rw[<- hU,<- hV,adU,adU];have t1:d*(b*Y)=d*(a*X)+d*U:=by rw[<- hU,adw]
  have t2:b*(c*X)=b*(d*Y)+b*V:=by rw[<- hV,adw]
  have t3:b*(c*X)=(a*d+1)*X:=by rw[<- hdet,adq]
  have t4:(a*d+1)*X=d*(a*X)+X:=by grind
  have t5:d*(b*Y)=b*(d*Y):=by grind
  omega
 ·obtain⟨U,hU⟩:=aeX g1;obtain⟨V,hV⟩:=aeX g2;rw[<- hU,<- hV,adU,adU];have t1:c*(b*Y)=c*(a*X)+c*U:=by rw[<- hU,adw]
  have t2:a*(c*X)=a*(d*Y)+a*V:=by rw[<- hV,adw]
  have t3:c*(b*Y)=(a*d+1)*Y:=by rw[<- hdet]; grind
  have t4:(a*d+1)*Y=a*(d*Y)+Y:=by grind
  have t5:c*(a*X)=a*(c*X):=by grind
  omega
theorem Eh {x0 y0 a b c d F rx ry X Y:Nat} (h:xp x0 y0 a b c d false) (hrx:rx<F) (hry:ry<F) (hX:X=x0*F+rx) (hY:Y=y0*F+ry) :
  b*Y<=a*X/\c*X<=d*Y/\d*Y - c*X<=a*X - b*Y/\X=d*(a*X - b*Y)+b*(d*Y - c*X)/\Y=c*(a*X - b*Y)+a*(d*Y - c*X):=by
 obtain⟨p,q,h1,h2,hdet,hab,hcd,hdq,hpq,hb1,hc1,hbl,hdl⟩:=h;simp only[adg]at hdet;have e1:a*X+b*ry=b*Y+(p*F+a*rx):=by
  subst h1 h2 hX hY;have:a*d*(p*F)=(b*c+1)*(p*F):=by rw[<- hdet]
  grind
 have e2:d*Y+c*rx=c*X+(q*F+d*ry):=by
  subst h1 h2 hX hY;have:a*d*(q*F)=(b*c+1)*(q*F):=by rw[<- hdet]
  grind
 have m1:b*ry<=b*F:=adn _ (by omega);have m3:c*rx<=c*F:=adn _ (by omega);have m4:d*F<=q*F:=adl _ hdq;have m5:(q+b+d)*F<=p*F:=adl _ hpq;rw[adI,adI]at m5;have m6:d*ry<=d*F:=adn _ (by omega);have m7:c*F<=d*F:=adl _ hcd;have g1:b*Y<=a*X:=by omega
 have g2:c*X<=d*Y:=by omega
 refine⟨g1,g2,by omega,?_,?_⟩
 ·obtain⟨U,hU⟩:=aeX g1;obtain⟨V,hV⟩:=aeX g2;rw[<- hU,<- hV,adU,adU];have t1:d*(a*X)=d*(b*Y)+d*U:=by rw[<- hU,adw]
  have t2:b*(d*Y)=b*(c*X)+b*V:=by rw[<- hV,adw]
  have t3:d*(a*X)=(b*c+1)*X:=by rw[<- hdet]; grind
  have t4:(b*c+1)*X=b*(c*X)+X:=by grind
  have t5:d*(b*Y)=b*(d*Y):=by grind
  omega
 ·obtain⟨U,hU⟩:=aeX g1;obtain⟨V,hV⟩:=aeX g2;rw[<- hU,<- hV,adU,adU];have t1:c*(a*X)=c*(b*Y)+c*U:=by rw[<- hU,adw]
  have t2:a*(d*Y)=a*(c*X)+a*V:=by rw[<- hV,adw]
  have t3:a*(d*Y)=(b*c+1)*Y:=by rw[<- hdet]; grind
  have t4:(b*c+1)*Y=c*(b*Y)+Y:=by grind
  have t5:c*(a*X)=a*(c*X):=by grind
  omega
theorem ui {X Y U V a b c d:Nat} (h1:X=d*U+b*V) (h2:Y=c*U+a*V) (hU:Nat.gcd X Y∣U) (hV:Nat.gcd X Y∣V):Nat.gcd U V=Nat.gcd X Y:=by
 refine Nat.dvd_antisymm (Nat.dvd_gcd ?_ ?_) (Nat.dvd_gcd hU hV)
 ·rw[h1];exact Nat.dvd_add (adD (ad6 _ _) _) (adD (aeq _ _) _)
 ·rw[h2];exact Nat.dvd_add (adD (ad6 _ _) _) (adD (aeq _ _) _)
theorem HU {N:Nat} {x0 y0 a b c d F rx ry X Y:Nat} {odd:Bool} (h:xp x0 y0 a b c d odd) (hrx:rx<F) (hry:ry<F) (hX:X=x0*F+rx) (hY:Y=y0*F+ry) (hY0:0<Y) (sX:(ae X).length+10<N/\(ae X).length<=1099511627000) (sY:(ae Y).length+10<N/\(ae Y).length<=1099511627000) :
  ∃ U V,V<=U/\U+V<X+Y/\U<=X/\Nat.gcd U V=Nat.gcd X Y /\ ∀ k,eh N (a:Int) (b:Int) (c:Int) (d:Int) odd (ae X) (ae Y) k=k (ae U) (ae V):=by
 have hb:=h;obtain⟨p,q,h1,h2,hdet,hab,hcd,hdq,hpq,hb1,hc1,hbl,hdl⟩:=hb;have len1:∀ z e:Nat,(ae z).length+10<N/\(ae z).length<=1099511627000->e<18446744073709551616->kt N (ae (z*e+0)):=by
  intro z e hz he;have:=fu ((ae z).length+1) (z*e+0) (by rw[adL,adr]; exact aej (i9 z) he)
  exact⟨by omega,by omega⟩
 have fin:∀ U V:Nat,X=d*U+b*V->Y=c*U+a*V->V<=U->U+V<X+Y/\U<=X:=by
  intro U V hx hy hvu;have k1:1*U<=d*U:=adl _ (by omega);have k2:1*V<=b*V:=adl _ hb1;have k3:1*U<=c*U:=adl _ hc1;have hU0:0<U:=by
   rcases aez U with hu | hu
   ·exfalso;have hv:V=0:=by omega
    rw[hu,hv,aeC,aeC]at hy;omega
   ·exact hu
  exact⟨by omega,by omega⟩
 cases odd with
 | true=>
  obtain⟨g1,g2,g3,g4,g5⟩:=Hj h hrx hry hX hY;obtain⟨f1,f2⟩:=fin _ _ g4 g5 g3;refine⟨b*Y - a*X,c*X - d*Y,g3,f1,f2,ui g4 g5 ?_ ?_,λk=>?_⟩
  ·exact afG (adD (aeq _ _) _) (adD (ad6 _ _) _)
  ·exact afG (adD (ad6 _ _) _) (adD (aeq _ _) _)
  ·(unfold eh; rw[ac]; unfold dU)
   have m:=λ(z e:Nat) (he:e<18446744073709551616) (hz:kt N (ae z)) (kk:List Int->Bool)=>C8 (N:=N) (e:=0) he (by decide) hz kk
   rw[show((0:Nat):Int)=0 from rfl]at m;rw[adh,m Y b hbl ⟨by omega,by omega⟩,m X a (by omega) ⟨by omega,by omega⟩,mc _ _ (aR _) (aR _) (by rw[aA,aA,adL,adL,adi X,adi Y]; exact g1) (len1 Y b sY hbl),m X c (by omega) ⟨by omega,by omega⟩,m Y d hdl ⟨by omega,by omega⟩,mc _ _ (aR _) (aR _) (by rw[aA,aA,adL,adL,adi X,adi Y]; exact g2) (len1 X c sX (by omega)),aA,aA,aA,aA,adL,adL,adL,adL,adi Y b,adi X a,adi X c,adi Y d]
 | false=>
  obtain⟨g1,g2,g3,g4,g5⟩:=Eh h hrx hry hX hY;obtain⟨f1,f2⟩:=fin _ _ g4 g5 g3;refine⟨a*X - b*Y,d*Y - c*X,g3,f1,f2,ui g4 g5 ?_ ?_,λk=>?_⟩
  ·exact afG (adD (ad6 _ _) _) (adD (aeq _ _) _)
  ·exact afG (adD (aeq _ _) _) (adD (ad6 _ _) _)
  ·(unfold eh; rw[ac]; unfold dU)
   have m:=λ(z e:Nat) (he:e<18446744073709551616) (hz:kt N (ae z)) (kk:List Int->Bool)=>C8 (N:=N) (e:=0) he (by decide) hz kk
   rw[show((0:Nat):Int)=0 from rfl]at m;rw[adg,m X a (by omega) ⟨by omega,by omega⟩,m Y b hbl ⟨by omega,by omega⟩,mc _ _ (aR _) (aR _) (by rw[aA,aA,adL,adL,adi X,adi Y]; exact g1) (len1 X a sX (by omega)),m Y d hdl ⟨by omega,by omega⟩,m X c (by omega) ⟨by omega,by omega⟩,mc _ _ (aR _) (aR _) (by rw[aA,aA,adL,adL,adi X,adi Y]; exact g2) (len1 Y d sY hdl),aA,aA,aA,aA,adL,adL,adL,adL,adi Y b,adi X a,adi X c,adi Y d]
theorem Gu (N x:Nat) (k:Kz2):se N (ae x) k=k ((x%18446744073709551616:Nat):Int):=by unfold se zM;have:=me N (ae x) 0 (by omega) k;rw[show((0:Nat):Int)=0 from rfl]at this;rw[this,mq,ae_,ae7]
theorem CG {N:Nat} (e0:Int->Bool):∀(b a M:Nat),b<M->ak M (fh N e0) ((a:Int),(b:Int))=e0 ((Nat.gcd a b:Nat):Int):=by
 intro b;induction b using Nat.strongRecOn with
 | ind b ih=>
 intro a M hM;obtain⟨M,rfl⟩:∃ m,M=m+1:=⟨M - 1,by omega⟩
 show fh N e0 ((a:Int),(b:Int)) (ak M _)=_;simp only[fh];by_cases h:b=0
 ·subst h;rw[adf (by omega),adg,afK]
 ·have y1:(!decide ((b:Int)=0))=true:=by simp; omega
  have emod:Int.tmod (a:Int) (b:Int)=((a%b:Nat):Int):=rfl;rw[ade (by omega),adh,aa y1,emod,ih (a%b) (adu _ (by omega)) b M (by have:=adu a (by omega:b>0); omega),aev b,<- agf,aev]
theorem tB {y:Nat} (h:(ae y).length<=1):y<18446744073709551616:=by have:=i9 y;have h2:18446744073709551616 ^ (ae y).length<=18446744073709551616 ^ 1:=adv (by decide) h;rw[age]at h2;omega
theorem xG {N:Nat} (hN:1180591620717411303424<=N) {u v:List Int} {x y:Nat} (hy:(ae y).length<=1) (hx:y=0\/(ae x).length<=1) (k:Kz6) :
  vT N u v (ae x) (ae y) k=k (ae (Nat.gcd x y)):=by
 unfold vT;have hyl:=tB hy;by_cases h:y=0
 ·subst h;rw[aZ,afK]; rfl
 ·have e0:((((ae y).length:Nat):Int)==0)=false:=by rw[bP h]; simp; omega
  have hxl:=tB (hx.resolve_left h);rw[e0,adg,Gu,Gu,adp hxl,adp hyl,CG _ y x N (by omega)];refine rQ (by omega) _ ?_ k;have:=afg x (afL h);omega
theorem Cz {N:Nat} (hN:1180591620717411303424<=N) {u v:List Int} (k:Kz6) :
  ∀ s x y,x+y=s->s<N->y<=x->(ae x).length<=1099511626000 ->
   Mi N u v (ae x) (ae y) k=k (ae (Nat.gcd x y)):=by
 intro s x y hs hsN hyx hxl;unfold Mi;have main:∀ s x y M,x+y=s->s<M->M<=N->y<=x->(ae x).length<=1099511626000 ->
   ak M (DW N (λ(Vt:List Int) (WC:List Int)=>(cond ((decide ((((List.length WC):Nat):Int)>0))==true) (cond (decide ((((List.length Vt):Nat):Int)>1)) (yN N Vt WC (λ(UL:List Int) (UI:List Int)=>(vT N u v WC UI k))) (vT N u v Vt WC k)) (vT N u v Vt WC k)))) (ae x,ae y)=k (ae (Nat.gcd x y)):=by
  intro s;induction s using Nat.strongRecOn with
  | ind s ih=>
  intro x y M hs hsM hMN hyx hxl;obtain⟨M,rfl⟩:∃ m,M=m+1:=⟨M - 1,by omega⟩
  have hyl:=de hyx;show DW N _ (ae x,ae y) (ak M _)=_;simp only[DW];by_cases h2:2<=(ae y).length
  ·have hyge:18446744073709551616<=y:=by
    rcases aef y 18446744073709551616 with h | h
    ·have:=fu 1 y (by rw[age]; exact h); omega
    ·exact h
   have hblx:64<bl x:=by
    rcases aef 64 (bl x)with h | h
    ·exact h
    ·have h1:=vX x;have h3:2 ^ bl x<=2 ^ 64:=adv (by decide) h;rw[mH]at h3;omega
   have hblu:bl x<=64*(ae x).length:=by refine ub ?_;rw[af_,mH]; exact i9 x
   obtain⟨f,hf⟩:∃ f,bl x=f+64:=⟨bl x - 64,by omega⟩
   have ef:(bl x:Int) - 64=(f:Int):=by omega
   have hF0:0<2 ^ f:=adt f;have hx0l:x / 2 ^ f<18446744073709551616:=by rw[ado hF0,<- mH,<- ady,ae9,<- hf]; exact vX x
   have hy0l:y / 2 ^ f<=x / 2 ^ f:=afw hyx;rw[ade (by omega),adh,C3 (by omega),ef,aa adb,Gw (by omega),Gw (by omega),adp hx0l,adp (by omega)];obtain⟨a,b,c,d,odd,g1,g2⟩:=Ic hN hx0l hy0l;rw[g2];by_cases hb:b=0
   ·subst hb;rw[show(((0:Nat):Int) != 0)=false from rfl,adg,jN hN (by omega) (by omega) (by omega)];have hm:=adu x (by omega:y>0);rw[ih (y+x%y) (by omega) y (x%y) M rfl (by omega) (by omega) (by omega) (by omega),aev y,<- agf,aev]
   ·have hbn:((b:Int) != 0)=true:=by simp; omega
    rw[hbn,adh];obtain⟨U,V,k1,k2,k3,k4,k5⟩:=HU (N:=N) (g1.resolve_left hb) (adu x hF0) (adu y hF0) (aec x (2 ^ f)).symm (aec y (2 ^ f)).symm (by omega) ⟨by omega,by omega⟩ ⟨by omega,by omega⟩;have hUl:=de k3;rw[k5,ih (U+V) (by omega) U V M rfl (by omega) (by omega) k1 (by omega),k4]
  ·rw[adf (by omega),adg];by_cases h0:y=0
   ·have:(((ae y).length:Nat):Int)=0:=by rw[h0,aZ]; rfl
    rw[this,adf (by omega),show(false==true)=false from rfl,adg,xG hN (by omega) (.inl h0)]
   ·have hpos:0<(ae y).length:=by rw[bP h0]; simp
    rw[ade (by omega),show(true==true)=true from rfl,adh];by_cases h1:1<(ae x).length
    ·have hm:=adu x (afL h0);have hml:=de (Nat.le_of_lt hm);rw[ade (by omega),adh,jN hN (afL h0) (by omega) (by omega),xG hN (by omega) (.inr (by omega)),aev y,<- agf,aev]
    ·rw[adf (by omega),adg,xG hN (by omega) (.inr (by omega))]
 exact main s x y N hs hsN (ads _) hyx hxl
theorem C4 {N:Nat} (hN:1180591620717411303424<=N) {x y:Nat} (hf:x+y<N) (hxl:(ae x).length<=1099511626000) (hyl:(ae y).length<=1099511626000) (k:Kz6):zE N (ae x) (ae y) k=k (ae (Nat.gcd x y)):=by
 (unfold zE; rw[ac]; unfold O0)
 rw[iu x y ⟨by omega,by omega⟩ ⟨by omega,by omega⟩];by_cases h:x<y
 ·have hc:decide (dC x y<0)=true:=by unfold dC; rw[if_pos h]; rfl
  rw[hc,adh,Cz hN _ (y+x) y x rfl (by omega) (by omega) hyl,aev]
 ·have hc:decide (dC x y<0)=false:=by unfold dC; rw[if_neg h]; split <;> rfl
  rw[hc,adg,Cz hN _ (x+y) x y rfl hf (by omega) hxl]
def Fuel (N:Nat):Prop:=∃ E,4398046511104<=E/\2 ^ E<=N
theorem Fuel.lt {N:Nat} (h:Fuel N):4398046511104<N:=by obtain⟨E,h1,h2⟩:=h;have:E<2 ^ E:=Nat.lt_two_pow_self;omega
theorem Fuel.sum {N C x y:Nat} (h:Fuel N) (hC:C<=4398046511000) (hx:aP C x) (hy:aP C y):x+y<N:=by obtain⟨E,h1,h2⟩:=h;have h3:2 ^ (C+1)<=2 ^ E:=adv (by decide) (by omega);rw[adr]at h3;unfold aP at hx hy;omega
theorem Fuel.big {N:Nat} (h:Fuel N):1180591620717411303424<=N:=by
 obtain⟨E,h1,h2⟩:=h;have h3:2 ^ 70<=2 ^ E:=adv (by decide) (by omega);have e:(2:Nat) ^ 70=1180591620717411303424:=by decide
 rw[e]at h3;exact adH h3 h2
theorem wY {B n:Nat} (hB:B<=2000000000100) (h:aP B n):(ae n).length<=31250000003:=by have:=Hn h; omega
def kr (z:Int) (d:Nat) (k:Kx5):Bool:=k (decide (z<0)) (ae z.natAbs) false (ae d)
def kq (x:Rat) (k:Kx5):Bool:=kr x.num x.den k
theorem CV (g:Bool) (n d:Nat) (k:Kx5):k (sg g n) (ae n) false (ae d)=kr (aS g n) d k:=Du g n (λa b=>k a b false (ae d))
theorem Bg {N:Nat} (g:Bool) (n:Nat) (l:List Int) (b1 b2:Bool) (k:Ky2):Iz N g (ae n) l b1 b2 k=k (sg g n) false:=by
 (unfold Iz; rw[ac]; unfold ON Iw Mf Nk OY)
 cases g
 ·rfl
 ·simp only[nO,sg,aek]; rfl
theorem H4 {N:Nat} (g b:Bool) (n:Nat) (k:Kz1):BD N g (ae n) b k=k (sg g n):=by
 unfold BD RA;cases g
 ·rfl
 ·simp only[nO,sg,aek]; rfl
theorem MD (g:Bool) (n:Nat):aS (sg g n) n=aS g n:=by
 unfold aS sg;cases g
 ·rfl
 ·by_cases h:n=0
  ·subst h; rfl
  ·rw[ade h]; rfl
theorem H6 {N:Nat} (g1:Bool) (n1:Nat) (g2:Bool) (n2:Nat) (h1:kt N (ae n1)) (h2:kt N (ae n2)) (k:Ky3) :
  Ng N g2 (ae n2) g1 (ae n1) k=qI (aS g1 n1+aS g2 n2) k:=by
 (unfold Ng; rw[ac]; unfold OV)
 rw[KN _ _ (aR _) (aR _) h1 h2,iu _ _ h1 h2,aA,aA,mC g2 _ _ (n1+n2) k,<- FV];congr 1;by_cases h:n2<=n1
 ·rw[mc _ _ (aR _) (aR _) (by rw[aA,aA]; exact h) h1,aA,aA,mC g1 _ _ (n1 - n2) k,rH,ade h];rfl
 ·rw[mc _ _ (aR n2) (aR n1) (by rw[aA,aA]; omega) h2,aA,aA,mC g2 _ _ (n2 - n1) k,rH,adf h];rfl
theorem KS {N:Nat} (hF:Fuel N) {x y:Nat} (hy:0<y) (hxl:(ae x).length<=1099511627000) (hyl:(ae y).length<=1099511627000) (k:Kz6):mK N (ae x) (ae y) k=k (ae (x / y)):=by
 have hj:lW N (ae x) (ae y) k=k (ae (x / y)):=by unfold lW;rw[jN hF.big hy hxl hyl]
 (unfold mK; rw[ac]; unfold I4)
 by_cases h1:(ae y).length=1
 ·have e:((((ae y).length:Nat):Int)==1)=true:=by rw[h1]; rfl
  rw[e,show(true==true)=true from rfl,adh,aa adc];have hyw:=oK (by omega:y ≠ 0) (tB (by omega));by_cases h2:y=1
  ·have:((ae y).getD 0 0==1)=true:=by rw[hyw,h2]; rfl
   rw[this,adh,h2,ae7]
  ·have:((ae y).getD 0 0==1)=false:=by rw[hyw]; simp; omega
   rw[this,adg,hj]
 ·have e:((((ae y).length:Nat):Int)==1)=false:=by simp; omega
  rw[e,show(false==true)=false from rfl,adg,hj]
theorem gd {N:Nat} (a:Bool) (l:List Int) (b:Bool) {d:Nat} (hd:d ≠ 0) (k:Kz6):zD N a l b (ae d) k=k (ae d):=by
 unfold zD RE;have:((((ae d).length:Nat):Int)==0)=false:=by rw[bP hd]; simp; omega
 rw[this]; rfl
theorem De {N:Nat} (a:Bool) (l:List Int) (b:Bool) {d:Nat} (hd:d ≠ 0) (k:Kz6):Rj N a l b (ae d) k=k (ae d):=by
 unfold Rj RN;have:((((ae d).length:Nat):Int)==0)=false:=by rw[bP hd]; simp; omega
 rw[this]; rfl
theorem rW {N B:Nat} (hF:Fuel N) (hB:B<=2000000000100) {a b:Nat} (ha:aP B a) (hb:aP B b) (k:Kz6):pP N (ae a) (ae b) k=k (ae (a*b)):=by have h1:=wY hB ha;have h2:=wY hB hb;have:=hF.lt;rw[EW _ _ (aR _) (aR _) (by omega) (by omega),aA,aA]
theorem uq {N B:Nat} (hF:Fuel N) (hB:B<=2000000000100) {a b:Nat} (ha:aP B a) (hb:aP B b) (k:Kz6):zE N (ae a) (ae b) k=k (ae (Nat.gcd a b)):=by have h1:=wY hB ha;have h2:=wY hB hb;rw[C4 hF.big (hF.sum (by omega) ha hb) (by omega) (by omega)]
theorem nj {N B:Nat} (hF:Fuel N) (hB:B<=2000000000100) {a b:Nat} (h0:0<b) (ha:aP B a) (hb:aP B b) (k:Kz6):mK N (ae a) (ae b) k=k (ae (a / b)):=by have h1:=wY hB ha;have h2:=wY hB hb;rw[KS hF h0 (by omega) (by omega)]
theorem oR {N B:Nat} (hB:B<=2000000000100) {a:Nat} (ha:aP B a) (k:Kz6):pR N (ae a) k=k (ae a):=by have h1:=wY hB ha;rw[vq _ (by omega)]
theorem bS {B a b:Nat} (h:aP B a):aP B (a / b):=kQ h (aeS _ _)
theorem LG {N B n:Nat} (hF:Fuel N) (hB:B<=2000000000100) (h:aP B n):kt N (ae n):=by have h1:=wY hB h;have:=hF.lt;exact⟨by omega,by omega⟩
def Bq (B:Nat) (x:Rat):Prop:=aP B x.num.natAbs/\aP B x.den
theorem Bq.mono {A B:Nat} {x:Rat} (h:Bq A x) (hAB:A<=B):Bq B x:=⟨bK h.1 hAB,bK h.2 hAB⟩
theorem qJ (z:Int) (f:Nat):aS (decide (z<0)) (z.natAbs*f)=z*f:=by
 unfold aS;by_cases h:z<0
 ·rw[ade h,if_pos rfl];have:(z.natAbs:Int) = -z:=by omega
  rw[adB,this,ags,Int.neg_neg]
 ·rw[adf h,if_neg (by decide)];have:(z.natAbs:Int)=z:=by omega
  rw[adB,this]
theorem ya {z:Int} {h:Nat} (h0:0<h) (hd:h∣z.natAbs):aS (decide (z<0)) (z.natAbs / h)=z / (h:Int):=by
 obtain⟨q,hq⟩:=hd;rw[hq,adP _ h0];unfold aS;have hh:(h:Int) ≠ 0:=by omega
 by_cases hz:z<0
 ·rw[ade hz,if_pos rfl];have:z=(h:Int)*(-(q:Int)):=by
   have e:(z.natAbs:Int)=(h:Int)*q:=by rw[hq,adB]
   rw[aga,<- e]; omega
  rw[this,afd _ hh]
 ·rw[adf hz,if_neg (by decide)];have:z=(h:Int)*(q:Int):=by
   have e:(z.natAbs:Int)=(h:Int)*q:=by rw[hq,adB]
   rw[<- e]; omega
  rw[this,afd _ hh]
theorem JT (x y:Rat):(x+y).num=(x.num*((y.den / Nat.gcd x.den y.den:Nat):Int)+y.num*((x.den / Nat.gcd x.den y.den:Nat):Int)) / ((Nat.gcd (x.num*((y.den / Nat.gcd x.den y.den:Nat):Int)+y.num*((x.den / Nat.gcd x.den y.den:Nat):Int)).natAbs (Nat.gcd x.den y.den):Nat):Int)
  /\ (x+y).den=x.den / Nat.gcd x.den y.den*(y.den / Nat.gcd (x.num*((y.den / Nat.gcd x.den y.den:Nat):Int)+y.num*((x.den / Nat.gcd x.den y.den:Nat):Int)).natAbs (Nat.gcd x.den y.den)):=by
 have aux:=Rat.add.aux x y (g:=Nat.gcd x.den y.den) rfl rfl rfl;simp only at aux;have hx:=x.den_pos;have hy:=y.den_pos;obtain⟨g,hg⟩:∃ g,g=Nat.gcd x.den y.den:=⟨_,rfl⟩
 rw[<- hg]at aux ⊢;have hg0:0<g:=by rw[hg]; exact Nat.gcd_pos_of_pos_left _ hx
 have hgx:g∣x.den:=by rw[hg]; exact ad6 _ _
 have hgy:g∣y.den:=by rw[hg]; exact aeq _ _
 obtain⟨e,he⟩:∃ e,e=x.den / g:=⟨_,rfl⟩
 obtain⟨f,hf⟩:∃ f,f=y.den / g:=⟨_,rfl⟩
 rw[<- he,<- hf]at aux ⊢;have ex:x.den=e*g:=by rw[he,Nat.div_mul_cancel hgx]
 have ey:y.den=f*g:=by rw[hf,Nat.div_mul_cancel hgy]
 obtain⟨n,hn⟩:∃ n,n=x.num*(f:Int)+y.num*(e:Int):=⟨_,rfl⟩
 rw[<- hn]at aux ⊢;have hsum:x+y=mkRat n (e*y.den):=by
  rw[Rat.add_def'];have e1:x.num*(y.den:Int)+y.num*(x.den:Int)=n*(g:Int):=by rw[ex,ey,hn]; simp only[adB]; grind
  have e2:x.den*y.den=e*y.den*g:=by rw[ex]; grind
  rw[e1,e2,Rat.mkRat_mul_right (by omega)]
 have he0:0<e:=by
  rcases aez e with h | h
  ·rw[h,aeL]at ex; omega
  ·exact h
 have hd0:e*y.den ≠ 0:=by have:=afe he0 hy; omega
 have hhy:Nat.gcd n.natAbs g∣y.den:=Nat.dvd_trans (aeq _ _) hgy;constructor
 ·rw[hsum,agt,if_neg hd0,aev,<- aux]
 ·rw[hsum,agu,if_neg hd0,aev,<- aux,Nat.mul_div_assoc _ hhy]
theorem zP {A:Nat} {z w:Int} (hz:aP A z.natAbs) (hw:aP A w.natAbs):aP (A+1) (z+w).natAbs:=kQ (ua hz hw) (by omega)
theorem rG {A B:Nat} {z:Int} {n:Nat} (hz:aP A z.natAbs) (hn:aP B n):aP (A+B) (z*(n:Int)).natAbs:=by rw[ae4,aea]; exact dB hz hn
theorem yj {N B:Nat} (hF:Fuel N) (hB:B<=1000000000000) {x y:Rat} (hx:Bq B x) (hy:Bq B y) (b1 b2:Bool) (k:Kx5) :
  Nh N (decide (x.num<0)) (ae x.num.natAbs) false (ae x.den) (decide (y.num<0)) (ae y.num.natAbs) false (ae y.den) b1 b2 k=kq (x+y) k:=by
 (unfold Nh; rw[ac]; unfold Mg)
 obtain⟨m1,m2⟩:=JT x y;have hB2:B<=2000000000100:=by omega
 have hxd:=x.den_pos;have hyd:=y.den_pos;rw[gd _ _ _ x.den_nz,gd _ _ _ y.den_nz,uq hF hB2 hx.2 hy.2];obtain⟨g,hg⟩:∃ g,g=Nat.gcd x.den y.den:=⟨_,rfl⟩
 rw[<- hg]at m1 m2 ⊢;have hg0:0<g:=by rw[hg]; exact Nat.gcd_pos_of_pos_left _ hxd
 have hgb:aP B g:=by rw[hg]; exact kQ hx.2 (Nat.gcd_le_left _ hxd)
 have hgy:g∣y.den:=by rw[hg]; exact aeq _ _
 rw[nj hF hB2 hg0 hx.2 hgb,nj hF hB2 hg0 hy.2 hgb,rW hF hB2 hx.1 (bS hy.2),H4,rW hF hB2 hy.1 (bS hx.2)];have hb1:=dB hx.1 (bS (b:=g) hy.2);have hb2:=dB hy.1 (bS (b:=g) hx.2);rw[H6 _ _ _ _ (LG hF (by omega) hb1) (LG hF (by omega) hb2),MD,qJ,qJ];have hnb:aP (B+B+1) (x.num*((y.den / g:Nat):Int)+y.num*((x.den / g:Nat):Int)).natAbs:=zP (rG hx.1 (bS hy.2)) (rG hy.1 (bS hx.2));obtain⟨n,hn⟩:∃ n,n=x.num*((y.den / g:Nat):Int)+y.num*((x.den / g:Nat):Int):=⟨_,rfl⟩
 rw[<- hn]at m1 m2 hnb ⊢;have hB3:B+B+1<=2000000000100:=by omega
 unfold qI;dsimp only;rw[uq hF hB3 hnb (bK hgb (by omega))];obtain⟨h,hh⟩:∃ h,h=Nat.gcd n.natAbs g:=⟨_,rfl⟩
 rw[<- hh]at m1 m2 ⊢;have hh0:0<h:=by rw[hh]; exact ael _ hg0
 have hhb:aP B h:=by rw[hh]; exact kQ hgb (afg _ hg0)
 rw[nj hF hB3 hh0 hnb (bK hhb (by omega)),oR hB3 (bS hnb),nj hF hB2 hh0 hy.2 hhb,rW hF hB2 (bS hx.2) (bS hy.2),Bg,CV _ _ _ k,ya hh0 (by rw[hh]; exact ad6 _ _),<- m1,<- m2];rfl
theorem C0 {N B:Nat} (hF:Fuel N) (hB:B<=1000000000000) {x y:Rat} (hx:Bq B x) (hy:Bq B y) (b1 b2:Bool) (k:Kx5) :
  Q7 N (decide (x.num<0)) (ae x.num.natAbs) false (ae x.den) b1 b2 (decide (y.num<0)) (ae y.num.natAbs) false (ae y.den) k=kq (x+y) k:=by
 rw[<- yj hF hB hx hy b1 b2 k]
 (unfold Q7; rw[ac]; unfold OQ; unfold Nh; rw[ac]; unfold Mg)
 rw[gd _ _ _ x.den_nz,De _ _ _ y.den_nz,gd _ _ _ x.den_nz,gd _ _ _ y.den_nz]
theorem KB (g:Bool) (n:Nat):aS (!g) n = -(aS g n):=by unfold aS; cases g <;> simp
theorem iq (z:Int):aS (decide (z<0)) z.natAbs=z:=KA z
theorem ES {N B:Nat} (hB:B<=2000000000100) {y:Rat} (hy:Bq B y) (b1 b2:Bool) (k:Kx5) :
  Rl N (decide (y.num<0)) (ae y.num.natAbs) false (ae y.den) b1 b2 k=kq (-y) k:=by
 (unfold Rl; rw[ac]; unfold Pi)
 rw[oR hB hy.1,gd _ _ _ y.den_nz,oR hB hy.2,Bg,CV _ _ _ k,KB,iq];rfl
theorem C7 {N B:Nat} (hF:Fuel N) (hB:B<=1000000000000) {x y:Rat} (hx:Bq B x) (hy:Bq B y) (k:Kx5) :
  cG N (decide (x.num<0)) (ae x.num.natAbs) false (ae x.den) (decide (y.num<0)) (ae y.num.natAbs) false (ae y.den) k=kq (x - y) k:=by
 (unfold cG iT; unfold Oh; rw[ac]; unfold Ja)
 rw[ES (by omega) hy];unfold kq kr;dsimp only;have hny:Bq B (-y):=⟨by rw[Rat.neg_num,afR]; exact hy.1,hy.2⟩
 rw[C0 hF hB hx hny,Rat.sub_eq_add_neg];rfl
theorem MJ {N B:Nat} (hF:Fuel N) (hB:B<=1000000000000) {x y:Rat} (hx:Bq B x) (hy:Bq B y) (k:Kx5) :
  ep N (decide (x.num<0)) (ae x.num.natAbs) false (ae x.den) (decide (y.num<0)) (ae y.num.natAbs) false (ae y.den) k=kq (x+y) k:=by
 unfold ep iV;rw[yj hF hB hx hy]
theorem K8 (x w:Rat):(x*w).num=aS (decide (x.num<0)) (x.num.natAbs / Nat.gcd x.num.natAbs w.den)*aS (decide (w.num<0)) (w.num.natAbs / Nat.gcd w.num.natAbs x.den)
  /\ (x*w).den=x.den / Nat.gcd w.num.natAbs x.den*(w.den / Nat.gcd x.num.natAbs w.den):=by
 have H1:0<x.num.natAbs.gcd w.den:=ael _ w.den_pos;have H2:0<w.num.natAbs.gcd x.den:=ael _ x.den_pos;have d1:Nat.gcd x.num.natAbs w.den∣x.num.natAbs:=ad6 _ _;have d2:Nat.gcd w.num.natAbs x.den∣w.num.natAbs:=ad6 _ _;rw[ya H1 d1,ya H2 d2];have e1:(x*w).num=x.num.tdiv (Nat.gcd x.num.natAbs w.den:Nat)*w.num.tdiv (Nat.gcd w.num.natAbs x.den:Nat):=by
  show(Rat.mul x w).num=_
  delta Rat.mul
  simp only[Int.divExact_eq_tdiv]
 have e2:(x*w).den=x.den / Nat.gcd w.num.natAbs x.den*(w.den / Nat.gcd x.num.natAbs w.den):=by
  show(Rat.mul x w).den=_
  delta Rat.mul
  simp only[Nat.divExact_eq_div]
 refine⟨?_,e2⟩;rw[e1,Int.tdiv_eq_ediv_of_dvd (Int.ofNat_dvd_left.2 d1),Int.tdiv_eq_ediv_of_dvd (Int.ofNat_dvd_left.2 d2)]
theorem C9 {N B:Nat} (hF:Fuel N) (hB:B<=1000000000000) {x w:Rat} (hx:Bq B x) (hw:Bq B w) (b1 b2:Bool) (k:Kx5) :
  Nc N (decide (x.num<0) != decide (w.num<0)) (ae x.num.natAbs) (ae x.den) (ae w.num.natAbs) (ae w.den) b1 b2 k=kq (x*w) k:=by
 (unfold Nc; rw[ac]; unfold OK)
 have hB2:B<=2000000000100:=by omega
 obtain⟨m1,m2⟩:=K8 x w;have H1:0<x.num.natAbs.gcd w.den:=ael _ w.den_pos;have H2:0<w.num.natAbs.gcd x.den:=ael _ x.den_pos;have L1:aP B (x.num.natAbs.gcd w.den):=kQ hw.2 (afg _ w.den_pos);have L2:aP B (w.num.natAbs.gcd x.den):=kQ hx.2 (afg _ x.den_pos);rw[uq hF hB2 hx.1 hw.2,uq hF hB2 hw.1 hx.2,nj hF hB2 H1 hx.1 L1,nj hF hB2 H2 hw.1 L2,rW hF hB2 (bS hx.1) (bS hw.1),nj hF hB2 H2 hx.2 L2,nj hF hB2 H1 hw.2 L1,rW hF hB2 (bS hx.2) (bS hw.2),Bg,CV _ _ _ k,yb,<- m1,<- m2];rfl
theorem ML {N B:Nat} (hF:Fuel N) (hB:B<=1000000000000) {x y:Rat} (hx:Bq B x) (hy:Bq B y) (k:Kx5) :
  dT N (decide (x.num<0)) (ae x.num.natAbs) false (ae x.den) (decide (y.num<0)) (ae y.num.natAbs) false (ae y.den) k=kq (x*y) k:=by
 (unfold dT iC; unfold Of; rw[ac]; unfold I9)
 rw[gd _ _ _ x.den_nz,gd _ _ _ y.den_nz,C9 hF hB hx hy]
theorem xZ {y:Rat} (h:y.num ≠ 0):(y⁻¹).num.natAbs=y.den/\(y⁻¹).den=y.num.natAbs/\decide ((y⁻¹).num<0)=decide (y.num<0):=by
 have hd:=y.den_pos;refine⟨?_,?_,?_⟩
 ·rw[Rat.num_inv,ae4,aea,Int.natAbs_sign,if_neg h,afj]
 ·rw[Rat.den_inv,if_neg h]
 ·rw[Rat.num_inv];rcases Int.lt_trichotomy y.num 0 with h1 | h1 | h1
  ·rw[Int.sign_eq_neg_one_of_neg h1,ade h1,ade (by omega)]
  ·exact absurd h1 h
  ·rw[Int.sign_eq_one_of_pos h1,adf (by omega),adf (by omega)]
theorem MP {N B:Nat} (hF:Fuel N) (hB:B<=1000000000000) {x y:Rat} (hx:Bq B x) (hy:Bq B y) (h0:y.num ≠ 0) (k:Kx5) :
  eo N (decide (x.num<0)) (ae x.num.natAbs) false (ae x.den) (decide (y.num<0)) (ae y.num.natAbs) false (ae y.den) k=kq (x / y) k:=by
 obtain⟨i1,i2,i3⟩:=xZ h0
 (unfold eo iU; unfold Og; rw[ac]; unfold I_)
 have hw:Bq B (y⁻¹):=⟨by rw[i1]; exact hy.2,by rw[i2]; exact hy.1⟩
 have hp:=λkk=>C9 (b1:=false) (b2:=false) hF hB hx hw kk
 rw[i1,i2,i3]at hp;rw[gd _ _ _ x.den_nz,gd _ _ _ y.den_nz,hp,Rat.div_def]
theorem wl {N B:Nat} (hF:Fuel N) (hB:B<=2000000000000) (g:Bool) {n d:Nat} (hn:aP B n) (hd:aP B d) (h0:0<d) (b1 b2:Bool) (k:Kx5) :
  Re N g (ae n) (ae d) b1 b2 k=kq (mkRat (aS g n) d) k:=by
 have hB2:B<=2000000000100:=by omega
 have hl:=hF.lt;have hnum:(mkRat (aS g n) d).num=aS g (n / Nat.gcd n d):=by
  rw[agt,if_neg (by omega)];have e:(aS g n).natAbs=n:=by unfold aS; cases g <;> simp
  have hg:0<Nat.gcd n d:=ael _ h0;rw[e,aev];obtain⟨q,hq⟩:=ad6 n d;have hh:((Nat.gcd n d:Nat):Int) ≠ 0:=by omega
  have e2:aS g n=((Nat.gcd n d:Nat):Int)*aS g (n / Nat.gcd n d):=by
   have hnn:n=Nat.gcd n d*(n / Nat.gcd n d):=(Nat.mul_div_cancel' (ad6 n d)).symm;have hc:(n:Int)=((Nat.gcd n d:Nat):Int)*((n / Nat.gcd n d:Nat):Int):=by rw[<- adB,<- hnn]
   unfold aS;cases g
   ·simpa using hc
   ·simp only[aeQ]; rw[hc,aga]
  rw[e2,afd _ hh]
 have hden:(mkRat (aS g n) d).den=d / Nat.gcd n d:=by
  rw[agu,if_neg (by omega)];have e:(aS g n).natAbs=n:=by unfold aS; cases g <;> simp
  rw[e,aev]
 have hj:∀ m e:Nat,aP B m->aP B e->F4 N g (ae n) (ae d) b1 b2 (ae m) (ae e) k=k (sg g m) (ae m) false (ae e):=by
  intro m e hm he;unfold F4;rw[oR hB2 hm];unfold Iw Mf;dsimp only;rw[oR hB2 he,oR hB2 he];unfold Nk OY;cases g
  ·rfl
  ·simp only[nO,sg,aek]; rfl
 have hg0:0<Nat.gcd n d:=ael _ h0;have hgb:aP B (Nat.gcd n d):=kQ hd (afg _ h0);have h1:=wY hB2 hn;have h2:=wY hB2 hd;have h3:=wY hB2 hgb;have e1:ae 1=[1]:=oK (by decide) (by decide)
 (unfold Re; rw[ac]; unfold O6)
 rw[uq hF hB2 hn hd,<- e1,iu _ 1 ⟨by omega,by omega⟩ ⟨by rw[e1]; simp; omega,by rw[e1]; simp⟩];by_cases hc:Nat.gcd n d=1
 ·have:(dC (Nat.gcd n d) 1 != 0)=false:=by rw[hc]; rfl
  rw[this,adg,hj n d hn hd,CV _ _ _ k];rw[hc,ae7]at hnum hden;unfold kq;rw[hnum,hden]
 ·have:(dC (Nat.gcd n d) 1 != 0)=true:=by unfold dC; rw[if_neg (by omega),if_neg hc]; rfl
  rw[this,adh,jN hF.big hg0 (by omega) (by omega),jN hF.big hg0 (by omega) (by omega),hj _ _ (bS hn) (bS hd),CV _ _ _ k,<- hnum,<- hden];rfl
theorem Fe {N:Nat} (hF:Fuel N) (k:Kx5):kI N 0 k=kq 0 k:=by
 have:=hF.lt
 (unfold kI nI; unfold uD; rw[ac]; unfold oq)
 have n0:=λkk=>qK (N:=N) (by omega) 0 (by decide) kk
 have n1:=λkk=>qK (N:=N) (by omega) 1 (by decide) kk
 rw[show((0:Nat):Int)=0 from rfl]at n0;rw[show((1:Nat):Int)=1 from rfl]at n1;unfold Na OC;rw[n0,n1,wl hF (B:=10) (by decide) _ (by unfold aP; decide) (by unfold aP; decide) (by decide)];rfl
theorem ll {N:Nat} (x:Rat) (k:Kz2):be N (decide (x.num<0)) (ae x.num.natAbs) false (ae x.den) k=k (uH x.num):=by
 (unfold be iW qZ p7; unfold On; rw[ac]; unfold JC uH)
 by_cases h:x.num<0
 ·rw[ade h,adh,if_neg (by omega),if_pos h]
 ·rw[adf h,adg,if_neg h];by_cases h0:x.num=0
  ·rw[h0,if_pos rfl];have:ae (0:Int).natAbs=[]:=aZ;rw[this]; rfl
  ·have:((((ae x.num.natAbs).length:Nat):Int)==0)=false:=by rw[bP (by omega)]; simp; omega
   rw[this,adg,if_neg h0]
end Go.Proofs.YteifemaagdeomaaGreatDoor
end
