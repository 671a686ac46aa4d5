/- Laws in plain Lean. Conditions: none. -/
import Derived.Test.YtdinakfmablagaaGreatDoorC1
set_option linter.unusedVariables false
section
namespace Go.Proofs.YtdinakfmablagaaGreatDoor
open Go Go.Mach
theorem AX (N:Nat) {x:Nat} (hx:x<18446744073709551616) (k:Kz2):R8 N (x:Int) k=k (bl x:Int):=by
 have key:∀(z:Int) (m:Nat),z=(m:Int)->m<256 -> ∀ c:Nat,c<=56->((inR z 256)&&((af .i64 (List.getD aA (Int.toNat z) 0))&&((af .i64 ((c:Int)+(List.getD aA (Int.toNat z) 0)))&&k ((c:Int)+List.getD aA (Int.toNat z) 0))))=k ((c+bl m:Nat):Int):=by intro z m hz hm c hc;subst hz;have:=EW hm;rw[afo,Qf hm,aa afh,aa afg,aa afg];rfl
 have j1:∀(y z c:Nat),z<65536->c<=48->Ja N (y:Int) (z:Int) (c:Int) k=k ((c+bl z:Nat):Int):=by
  intro y z c hz hc;unfold Ja;simp only[SG,S9];by_cases h8:256<=z
  ·have e8:=me (n:=z) 8 (by simpa using h8);rw[show(2:Nat) ^ 8=256 by decide]at e8;have h:=key ((z:Int) / 256%256) (z / 256) (by omega) (by omega) (c+8) (by omega);rw[show((c+8:Nat):Int)=(c:Int)+8 by omega]at h;rw[afi (by omega:(z:Int)>=256),afl,aa afg,h];congr 1; omega
  ·rw[afj (by omega:¬(z:Int)>=256),afk,key ((z:Int)%256) z (by omega) (by omega) c (by omega)]
 have j0:∀(y z c:Nat),z<4294967296->c<=32->I_ N (y:Int) (z:Int) (c:Int) k=k ((c+bl z:Nat):Int):=by
  intro y z c hz hc;unfold I_;simp only[Oj];by_cases h16:65536<=z
  ·have e16:=me (n:=z) 16 (by simpa using h16);rw[show(2:Nat) ^ 16=65536 by decide]at e16;have h:=j1 y (z / 65536) (c+16) (by omega) (by omega);rw[show((c+16:Nat):Int)=(c:Int)+16 by omega,show((z / 65536:Nat):Int)=(z:Int) / 65536 by omega]at h;rw[afi (by omega:(z:Int)>=65536),afl,aa afg,h];congr 1; omega
  ·rw[afj (by omega:¬(z:Int)>=65536),afk,j1 y z c (by omega) (by omega)]
 (unfold R8; rw[ac]; unfold TQ)
 simp only[km];by_cases h32:4294967296<=x
 ·have e32:=me (n:=x) 32 (by rw[show(2:Nat) ^ 32=4294967296 by decide]; exact h32);rw[show(2:Nat) ^ 32=4294967296 by decide]at e32;have h:=j0 x (x / 4294967296) 32 (by omega) (by omega);rw[show((x / 4294967296:Nat):Int)=(x:Int) / 4294967296 by omega,show((32:Nat):Int)=32 from rfl]at h;rw[afi (by omega:(x:Int)>=4294967296),afl,h];congr 1; omega
 ·have h:=j0 x x 0 (by omega) (by omega);rw[show((0:Nat):Int)=0 from rfl]at h;rw[afj (by omega:¬(x:Int)>=4294967296),afk,h];congr 1; omega
theorem wJ {n j:Nat} (h:n<2 ^ j):bl n<=j:=by
 unfold bl;split
 ·omega
 ·rename_i h0;have:=(Nat.log2_lt h0).2 h;omega
theorem yD (n:Nat):n<2 ^ bl n:=by
 unfold bl;split
 ·rename_i h; subst h; decide
 ·exact Nat.lt_log2_self
theorem NL {n:Nat} (h:n ≠ 0):0<bl n/\2 ^ (bl n - 1)<=n:=by unfold bl;rw[if_neg h];exact⟨by omega,by rw[ahO]; exact Nat.log2_self_le h⟩
theorem oc:(2:Nat) ^ 64=18446744073709551616:=by decide
theorem FT (N:Nat) {x:Nat} (hx:x<18446744073709551616) (k:Kz2):RV N (x:Int) k=k ((64 - bl x:Nat):Int):=by unfold RV WM;have:=wJ (n:=x) (j:=64) (by rw[oc]; exact hx);rw[AX N hx,aa afg];congr 1; omega
theorem Ke {y:Nat} (h0:y ≠ 0) (hy:y<18446744073709551616):64 - bl y<64/\9223372036854775808<=y*2 ^ (64 - bl y)/\y*2 ^ (64 - bl y)<18446744073709551616:=by
 have h1:=wJ (n:=y) (j:=64) (by rw[oc]; exact hy);obtain⟨h2,h3⟩:=NL h0;have h4:=yD y;have hp:0<2 ^ (64 - bl y):=afy _;refine⟨by omega,?_,?_⟩
 ·have:=afm (2 ^ (64 - bl y)) h3;rw[<- afx,show bl y - 1+(64 - bl y)=63 by omega]at this;exact this
 ·have:=af2 h4 hp;rw[<- afx,show bl y+(64 - bl y)=64 by omega]at this;exact this
theorem AG {a c u u1 p r:Nat} (hc:c<4294967296) (hp:p<=4294967296) (hu:(p+1)*a+r=u) (hb:4294967296<=r+a):p*(a*4294967296+c)<=u*4294967296+u1:=by
 have e1:u*4294967296+u1=p*a*4294967296+(r+a)*4294967296+u1:=by rw[<- hu,agS,afM,afM,afM]; omega
 have e2:p*(a*4294967296+c)=p*a*4294967296+p*c:=by rw[afB,aft]
 have:=af7 hp (Nat.le_of_lt_succ hc:c<=4294967295);rw[e1,e2]; omega
theorem zM {a c u u1:Nat} (hu1:u1<4294967296) (hD:u<a*4294967296+c):(u*4294967296+u1) / (a*4294967296+c)<4294967296:=by rw[afs (by omega)]; omega
theorem HU {N:Nat} {y s un0:Int} {a c u u1:Nat} (ha2:a<4294967296) (hc:c<4294967296) (hu1:u1<4294967296) (hD:u<a*4294967296+c) {d:Nat} (hd:∀ p,p<=d↔p*(a*4294967296+c)<=u*4294967296+u1) (hlt:d<4294967296) (e0:Int->Bool) :
  ∀ q r M,q<M->q<=4294967297->q*a+r=u->r<4294967296->d<=q ->
   ah M (yo N y s (a:Int) (c:Int) (u:Int) (u1:Int) un0 e0) ((q:Int),(r:Int))=e0 (d:Int):=by
 intro q;induction q using Nat.strongRecOn with
 | ind q ih=>
 intro r M hM hqb hu hr hle;obtain⟨M,rfl⟩:∃ m,M=m+1:=⟨M - 1,by omega⟩
 show yo N y s a c u u1 un0 e0 ((q:Int),(r:Int)) (ah M _)=_;have hY:0<a*4294967296+c:=by omega
 have hdec:d<q->cond (decide ((IntKind.wrap .u64 ((r:Int)+(a:Int)))>=4294967296)) (e0 (IntKind.wrap .u64 ((q:Int) - 1))) (ah M (yo N y s (a:Int) (c:Int) (u:Int) (u1:Int) un0 e0) ((IntKind.wrap .u64 ((q:Int) - 1)),(IntKind.wrap .u64 ((r:Int)+(a:Int)))))=e0 (d:Int):=by
  intro hlq;obtain⟨p,rfl⟩:∃ p,q=p+1:=⟨q - 1,by omega⟩
  have w1:IntKind.wrap .u64 (((p+1:Nat):Int) - 1)=(p:Int):=by rw[am]; omega
  have w2:IntKind.wrap .u64 ((r:Int)+(a:Int))=((r+a:Nat):Int):=by rw[am]; omega
  rw[w1,w2];by_cases hb:4294967296<=r+a
  ·rw[afi (by omega),afl];have h1:=AG (u1:=u1) hc (by omega) hu hb;rw[<- hd]at h1;rw[show d=p by omega]
  ·rw[afj (by omega),afk];exact ih p (by omega) (r+a) M (by omega) (by omega) (by rw[<- hu,agS]; omega) (by omega) (by omega)
 simp only[yo];by_cases hq:4294967296<=q
 ·rw[afi (by omega:(q:Int)>=4294967296),show(true==false)=false from rfl,afk];exact hdec (by omega)
 ·have e1:u*4294967296+u1=q*a*4294967296+r*4294967296+u1:=by rw[<- hu,afM]
  have e2:q*(a*4294967296+c)=q*a*4294967296+q*c:=by rw[afB,aft]
  have hqc:q*c<=4294967295*4294967295:=af7 (by omega) (by omega);have w1:IntKind.wrap .u64 ((q:Int)*(c:Int))=((q*c:Nat):Int):=by rw[<- afF,am]; omega
  have w2:IntKind.wrap .u64 ((IntKind.wrap .u64 (4294967296*(r:Int)))+(u1:Int))=((r*4294967296+u1:Nat):Int):=by rw[am,am]; omega
  rw[afj (by omega:¬(q:Int)>=4294967296),show(false==false)=true from rfl,afl,w1,w2];by_cases ht:r*4294967296+u1<q*c
  ·rw[afi (by omega),afl];refine hdec ?_;rw[<- Nat.not_le,hd]; omega
  ·rw[afj (by omega),afk];have h1:q*(a*4294967296+c)<=u*4294967296+u1:=by omega
   rw[<- hd]at h1;rw[show d=q by omega]
theorem HV {N:Nat} {y s q1:Int} {x21:Int} {a c u u1:Nat} (ha2:a<4294967296) (hc:c<4294967296) (hu1:u1<4294967296) (hD:u<a*4294967296+c) {d:Nat} (hd:∀ p,p<=d↔p*(a*4294967296+c)<=u*4294967296+u1) (hlt:d<4294967296) (e0:Int->Bool) :
  ∀ q r M,q<M->q<=4294967297->q*a+r=u->r<4294967296->d<=q ->
   ah M (yp N y s (a:Int) (c:Int) (u1:Int) q1 x21 e0) ((r:Int),(q:Int))=e0 (d:Int):=by
 intro q;induction q using Nat.strongRecOn with
 | ind q ih=>
 intro r M hM hqb hu hr hle;obtain⟨M,rfl⟩:∃ m,M=m+1:=⟨M - 1,by omega⟩
 show yp N y s a c u1 q1 x21 e0 ((r:Int),(q:Int)) (ah M _)=_;have hY:0<a*4294967296+c:=by omega
 have hdec:d<q->cond (decide ((IntKind.wrap .u64 ((r:Int)+(a:Int)))>=4294967296)) (e0 (IntKind.wrap .u64 ((q:Int) - 1))) (ah M (yp N y s (a:Int) (c:Int) (u1:Int) q1 x21 e0) ((IntKind.wrap .u64 ((r:Int)+(a:Int))),(IntKind.wrap .u64 ((q:Int) - 1))))=e0 (d:Int):=by
  intro hlq;obtain⟨p,rfl⟩:∃ p,q=p+1:=⟨q - 1,by omega⟩
  have w1:IntKind.wrap .u64 (((p+1:Nat):Int) - 1)=(p:Int):=by rw[am]; omega
  have w2:IntKind.wrap .u64 ((r:Int)+(a:Int))=((r+a:Nat):Int):=by rw[am]; omega
  rw[w1,w2];by_cases hb:4294967296<=r+a
  ·rw[afi (by omega),afl];have h1:=AG (u1:=u1) hc (by omega) hu hb;rw[<- hd]at h1;rw[show d=p by omega]
  ·rw[afj (by omega),afk];exact ih p (by omega) (r+a) M (by omega) (by omega) (by rw[<- hu,agS]; omega) (by omega) (by omega)
 simp only[yp];by_cases hq:4294967296<=q
 ·rw[afi (by omega:(q:Int)>=4294967296),show(true==false)=false from rfl,afk];exact hdec (by omega)
 ·have e1:u*4294967296+u1=q*a*4294967296+r*4294967296+u1:=by rw[<- hu,afM]
  have e2:q*(a*4294967296+c)=q*a*4294967296+q*c:=by rw[afB,aft]
  have hqc:q*c<=4294967295*4294967295:=af7 (by omega) (by omega);have w1:IntKind.wrap .u64 ((q:Int)*(c:Int))=((q*c:Nat):Int):=by rw[<- afF,am]; omega
  have w2:IntKind.wrap .u64 ((IntKind.wrap .u64 (4294967296*(r:Int)))+(u1:Int))=((r*4294967296+u1:Nat):Int):=by rw[am,am]; omega
  rw[afj (by omega:¬(q:Int)>=4294967296),show(false==false)=true from rfl,afl,w1,w2];by_cases ht:r*4294967296+u1<q*c
  ·rw[afi (by omega),afl];refine hdec ?_;rw[<- Nat.not_le,hd]; omega
  ·rw[afj (by omega),afk];have h1:q*(a*4294967296+c)<=u*4294967296+u1:=by omega
   rw[<- hd]at h1;rw[show d=q by omega]
theorem AH {a c u u1:Nat} (ha:2147483648<=a) (ha2:a<4294967296) (hc:c<4294967296) (hD:u<a*4294967296+c) (hu1:u1<4294967296) :
  u / a<=4294967297/\u / a*a+u%a=u/\u%a<4294967296/\(u*4294967296+u1) / (a*4294967296+c)<=u / a:=by
 have h0:0<a:=by omega
 refine⟨?_,agi u a,ag0 (afA _ h0) ha2,?_⟩
 ·have:u / a<4294967298:=by rw[afs h0]; omega
  omega
 ·have h1:(u*4294967296+u1) / (a*4294967296)=u / a:=by rw[afn a,<- afr];congr 1; omega
  rw[<- h1];exact Nat.div_le_div_left (ag1 _ _) (by omega)
theorem KP {m p y s:Nat} (u L b D1 q1 R1 u1 u0 q0 R0 Y:Nat) (hb:b=4294967296) (hT:m*2 ^ s=u*18446744073709551616+L) (hL:L=u1*b+u0) (hY:Y=y*2 ^ s) (hY0:0<Y)
  (h1:D1=u*b+u1) (hq1:q1=D1 / Y) (hR1:R1=D1%Y) (hq0:q0=(R1*b+u0) / Y) (hR0:R0=(R1*b+u0)%Y):m / y=q1*b+q0/\m%y=R0 / 2 ^ s:=by
 have hs:0<2 ^ s:=afy s;have e1:=af_ D1 Y;have e0:=af_ (R1*b+u0) Y;rw[<- hq1,<- hR1]at e1;rw[<- hq0,<- hR0]at e0;have hlt:R0<Y:=by rw[hR0]; exact afA _ hY0
 have hm:m*2 ^ s=Y*(q1*b+q0)+R0:=by
  rw[hT,hL];have e2:u*18446744073709551616+(u1*b+u0)=(u*b+u1)*b+u0:=by subst hb; omega
  rw[e2,<- h1,<- e1,afB,afM,afY,<- e0,aft,afY]
 have d1:m / y=(m*2 ^ s) / Y:=by rw[hY,ah2 _ _ hs]
 have d2:(m%y)*2 ^ s=(m*2 ^ s)%Y:=by rw[hY,ah3]
 constructor
 ·rw[d1,hm,aij hY0,afO hlt,afR]
 ·have:(m%y)*2 ^ s=R0:=by rw[d2,hm,ahy,afu hlt]
  rw[<- this,ag8 _ hs]
theorem CM {N:Nat} (hN:8589934592<=N) {hi lo y:Nat} (hy:y<18446744073709551616) (hlo:lo<18446744073709551616) (hhi:hi<y) (k:Ky3) :
  GD N (hi:Int) (lo:Int) (y:Int) k=k (((hi*18446744073709551616+lo) / y:Nat):Int) (((hi*18446744073709551616+lo)%y:Nat):Int):=by
 (unfold GD; rw[ac]; unfold MS)
 have y0:((y:Int)==0)=false:=by simp; omega
 have y1:(!decide ((y:Int)=0))=true:=by simp; omega
 rw[y0,afk,afj (by omega:¬(y:Int)<=hi),afk];by_cases h0:hi=0
 ·subst h0;rw[show(((0:Nat):Int)==0)=true from rfl,afl,aa y1,aa y1,agE,afL];have e1:Int.tdiv (lo:Int) (y:Int)=((lo / y:Nat):Int):=rfl;have e2:Int.tmod (lo:Int) (y:Int)=((lo%y:Nat):Int):=rfl;have:=agW lo y;rw[e1,e2];generalize lo / y=d at *;rw[am];congr 1; omega
 ·have hne:((hi:Int)==0)=false:=by simp; omega
  obtain⟨hs64,hYlo,hYhi⟩:=Ke (y:=y) (by omega) hy;rw[hne,afk,FT N hy];generalize hs:64 - bl y=s at *;have hs0:0<2 ^ s:=afy s;have hs1:2 ^ s*2 ^ (64 - s)=18446744073709551616:=by rw[<- afx,show s+(64 - s)=64 by omega]
  have cp:((2:Int) ^ s)=((2 ^ s:Nat):Int):=by rw[agM]; rfl
  have cp2:((2:Int) ^ (64 - s))=((2 ^ (64 - s):Nat):Int):=by rw[agM]; rfl
  have ew:IntKind.wrap .u64 ((s:Nat):Int)=(s:Int):=by rw[am]; omega
  have ew2:IntKind.wrap .u64 (64 - ((s:Nat):Int))=((64 - s:Nat):Int):=by rw[am]; omega
  have em:min s 64=s:=by omega
  have em2:min (64 - s) 64=64 - s:=by omega
  simp only[ew,ew2,afo,em,em2];rw[cp,cp2];have eY:IntKind.wrap .u64 ((y:Int)*((2 ^ s:Nat):Int))=((y*2 ^ s:Nat):Int):=by rw[<- afF,am]; omega
  have hm:hi*2 ^ s<y*2 ^ s:=af2 hhi hs0;have eH:IntKind.wrap .u64 ((hi:Int)*((2 ^ s:Nat):Int))=((2 ^ s*hi:Nat):Int):=by rw[<- afF,afn hi,am]; rw[afn hi]at hm; generalize 2 ^ s*hi=H at *; generalize y*2 ^ s=Y at *; omega
  have hlo2:lo / 2 ^ (64 - s)<2 ^ s:=by rw[afs (afy _),hs1]; exact hlo
  have hlo3:=af_ lo (2 ^ (64 - s));have eT:(hi*18446744073709551616+lo)*2 ^ s=(2 ^ s*hi+lo / 2 ^ (64 - s))*18446744073709551616+lo*2 ^ s%18446744073709551616:=by
   have e1:lo*2 ^ s / 18446744073709551616=lo / 2 ^ (64 - s):=by rw[<- hs1,afn lo,Nat.mul_div_mul_left _ _ hs0]
   have e2:=af_ (lo*2 ^ s) 18446744073709551616;rw[e1]at e2;rw[afM,<- e2,afM,aip,afn hi];omega
  have hD:2 ^ s*hi+lo / 2 ^ (64 - s)<y*2 ^ s:=by have:2 ^ s*(hi+1)<=2 ^ s*y:=afq _ hhi;rw[afB,afn _ y]at this;omega
  have eU:aD .or .u64 ((2 ^ s*hi:Nat):Int) (Int.fdiv (lo:Int) ((2 ^ (64 - s):Nat):Int))=((2 ^ s*hi+lo / 2 ^ (64 - s):Nat):Int):=by rw[kF,uO,cP _ _ s hlo2 (by omega)]
  have eL:IntKind.wrap .u64 ((lo:Int)*((2 ^ s:Nat):Int))=((lo*2 ^ s%18446744073709551616:Nat):Int):=by rw[<- afF,am]; omega
  simp only[eY,eH,eU,eL,EU,km];have hLlt:lo*2 ^ s%18446744073709551616<18446744073709551616:=afA _ (by decide);obtain⟨d1,d2⟩:=KP (m:=hi*18446744073709551616+lo) (p:=0) (y:=y) (s:=s) (2 ^ s*hi+lo / 2 ^ (64 - s)) (lo*2 ^ s%18446744073709551616) 4294967296 _ _ _ (lo*2 ^ s%18446744073709551616 / 4294967296) (lo*2 ^ s%18446744073709551616%4294967296) _ _ (y*2 ^ s) rfl eT (by omega) rfl (by omega) rfl rfl rfl rfl rfl;rw[d1,d2];generalize y*2 ^ s=Y at *;generalize 2 ^ s*hi+lo / 2 ^ (64 - s)=u at *;generalize lo*2 ^ s%18446744073709551616=L at *;have hu1:L / 4294967296<4294967296:=by omega
  have hu0:L%4294967296<4294967296:=by omega
  have eL1:((L:Int) / 4294967296)=((L / 4294967296:Nat):Int):=by omega
  have ea:((Y:Int) / 4294967296)=((Y / 4294967296:Nat):Int):=by omega
  have eY2:Y=Y / 4294967296*4294967296+Y%4294967296:=by omega
  rw[eL1,ea];generalize hu1':L / 4294967296=u1 at *;generalize hu0':L%4294967296=u0 at *;have ha1:2147483648<=Y / 4294967296:=by omega
  have ha2:Y / 4294967296<4294967296:=by omega
  have hc:Y%4294967296<4294967296:=by omega
  generalize Y / 4294967296=a at *;generalize Y%4294967296=c at *;have a0:(!decide ((a:Int)=0))=true:=by simp; omega
  have hD':u<a*4294967296+c:=by omega
  have hY0':0<a*4294967296+c:=by omega
  rw[aa (afi (by omega)),aa (afi (by omega)),aa (afi (by omega)),aa (afi (by omega)),aa a0];have start:∀ v:Nat,v<18446744073709551616->IntKind.wrap .u64 (Int.tdiv (v:Int) (a:Int))=((v / a:Nat):Int)/\IntKind.wrap .u64 ((v:Int) - (IntKind.wrap .u64 (((v / a:Nat):Int)*(a:Int))))=((v%a:Nat):Int):=by
   intro v hv;have e1:Int.tdiv (v:Int) (a:Int)=((v / a:Nat):Int):=rfl;have h1:=agW v a;have h2:=agi v a;rw[e1,<- afF];generalize v / a*a=P at *;generalize v / a=Q at *;generalize v%a=Z at *;constructor
   ·rw[am]; omega
   ·rw[am,am]; omega
  obtain⟨g1,g2,g3,g4⟩:=AH ha1 ha2 hc hD' hu1;obtain⟨s1,s2⟩:=start u (by omega);rw[s1,s2,HU ha2 hc hu1 hD' (λp=>agT hY0') (zM hu1 hD') _ (u / a) (u%a) N (by omega) g1 g2 g3 g4];rw[aa a0];rw[<- eY2];have hY0:0<Y:=by omega
  have hR1:=afA (u*4294967296+u1) hY0;have hE1:=agi (u*4294967296+u1) Y;have e21:IntKind.wrap .u64 ((IntKind.wrap .u64 ((IntKind.wrap .u64 ((u:Int)*4294967296))+(u1:Int))) - (IntKind.wrap .u64 ((((u*4294967296+u1) / Y:Nat):Int)*(Y:Int))))=(((u*4294967296+u1)%Y:Nat):Int):=by rw[<- afF];generalize (u*4294967296+u1) / Y*Y=P at *;rw[am,am,am,am]; omega
  simp only[e21];have hq1:(u*4294967296+u1) / Y<4294967296:=by rw[eY2]; exact zM hu1 hD'
  obtain⟨q1,hq1e⟩:∃ q,q=(u*4294967296+u1) / Y:=⟨_,rfl⟩
  obtain⟨R1,hR1e⟩:∃ q,q=(u*4294967296+u1)%Y:=⟨_,rfl⟩
  rw[<- hq1e,<- hR1e];rw[<- hq1e]at hq1;rw[<- hR1e]at hR1;have hD2:R1<a*4294967296+c:=by omega
  obtain⟨g1,g2,g3,g4⟩:=AH ha1 ha2 hc hD2 hu0;obtain⟨s1,s2⟩:=start R1 (by omega);rw[s1,s2,HV ha2 hc hu0 hD2 (λp=>agT hY0') (zM hu0 hD2) _ (R1 / a) (R1%a) N (by omega) g1 g2 g3 g4,<- eY2];rw[aa (afi (by omega))];have hR0:=afA (R1*4294967296+u0) hY0;have hE0:=agi (R1*4294967296+u0) Y;have hq0:(R1*4294967296+u0) / Y<4294967296:=by rw[eY2]; exact zM hu0 hD2
  have e20:IntKind.wrap .u64 ((IntKind.wrap .u64 ((IntKind.wrap .u64 ((R1:Int)*4294967296))+(u0:Int))) - (IntKind.wrap .u64 ((((R1*4294967296+u0) / Y:Nat):Int)*(Y:Int))))=(((R1*4294967296+u0)%Y:Nat):Int):=by
   rw[<- afF];obtain⟨P,hP⟩:∃ q,q=(R1*4294967296+u0) / Y*Y:=⟨_,rfl⟩
   obtain⟨Z,hZ⟩:∃ q,q=(R1*4294967296+u0)%Y:=⟨_,rfl⟩
   rw[<- hP,<- hZ]at hE0;rw[<- hZ]at hR0;rw[<- hP,<- hZ];rw[am,am,am,am]; omega
  rw[e20,kF];obtain⟨q0,hq0e⟩:∃ q,q=(R1*4294967296+u0) / Y:=⟨_,rfl⟩
  rw[<- hq0e]at hq0;rw[<- hq0e];congr 1;rw[am,am]; omega
theorem JT (Q n m:Nat) (h:m<n):(List.replicate (m+1) (0:Int)++(dlq Q n).drop (m+1)).set m ((Q / 18446744073709551616 ^ m%18446744073709551616:Nat):Int)=List.replicate m 0++(dlq Q n).drop m:=by rw[agY,afC,List.singleton_append,bu _ _ _ _ _ (by simp),dr (n:=m) (by rw[ak]; exact h),sw Q h]
theorem Df {A d:Nat} (hd:0<d):(A / 18446744073709551616%d*18446744073709551616+A%18446744073709551616)%d=A%d/\(A / 18446744073709551616%d*18446744073709551616+A%18446744073709551616) / d=A / d%18446744073709551616:=by
 have h1:=af_ A 18446744073709551616;have h2:=af_ (A / 18446744073709551616) d;have h3:=afA (A / 18446744073709551616) hd;have h4:A%18446744073709551616<18446744073709551616:=afA _ (by decide);obtain⟨a,ha⟩:∃ a,a=A / 18446744073709551616:=⟨_,rfl⟩
 obtain⟨e,he⟩:∃ e,e=A%18446744073709551616:=⟨_,rfl⟩
 rw[<- ha]at h1 h2 h3 ⊢;rw[<- he]at h1 h4 ⊢;obtain⟨c,hc⟩:∃ c,c=a / d:=⟨_,rfl⟩
 obtain⟨r,hr⟩:∃ r,r=a%d:=⟨_,rfl⟩
 rw[<- hc,<- hr]at h2;rw[<- hr]at h3 ⊢;have h5:A=d*(c*18446744073709551616)+(r*18446744073709551616+e):=by rw[<- h1,<- h2,<- aft,afB,afn 18446744073709551616,afn 18446744073709551616]; omega
 constructor
 ·rw[h5,ahy]
 ·rw[h5,aij hd,afn c,ahy];refine(afu ?_).symm;rw[afs hd];have:=afm 18446744073709551616 h3;rw[agS]at this;rw[afn _ d,afn d];rw[afn d]at this;omega
theorem jG (x:Nat):x<18446744073709551616 ^ (ae x).length:=by have:=iL (bb x); rwa [aF]at this
theorem LA {N:Nat} (hN:8589934592<=N) {x d:Nat} (hd0:0<d) (hd:d<18446744073709551616) (hs:lC N (ae x)) (k:List Int->Int->Bool):oV N (ae x) (d:Int) k=k (ae (x / d)) ((x%d:Nat):Int):=by
 (unfold oV; rw[ac]; unfold rO)
 obtain⟨s1,s2⟩:=hs;have hx:=jG x;generalize hn:(ae x).length=n at *;rw[aa (bI (by omega) (by omega) (by omega) (by omega)),aa afg,afo];refine aJ (λi=>(((x / 18446744073709551616 ^ (n - i)%d:Nat):Int),((n:Int) - 1 - (i:Int)),List.replicate (n - i) (0:Int)++(dlq (x / d) n).drop (n - i))) n ?_ (by omega) (λi hi K=>?_) (λK=>?_)
 ·rw[aht,afO hx,Nat.zero_mod,af6 (by rw[ak]; omega),afU];simp
 ·obtain⟨m,hm⟩:∃ m,n - i=m+1:=⟨n - i - 1,by omega⟩
  have hm2:n - (i+1)=m:=by omega
  have ei:(n:Int) - 1 - (i:Int)=(m:Int):=by omega
  have ei2:(n:Int) - 1 - ((i+1:Nat):Int)=(m:Int) - 1:=by omega
  have hp:x / 18446744073709551616 ^ (m+1)=x / 18446744073709551616 ^ m / 18446744073709551616:=by rw[afv,afr]
  have hdg:x / d / 18446744073709551616 ^ m%18446744073709551616=x / 18446744073709551616 ^ m / d%18446744073709551616:=by rw[afr,afr,afn d]
  obtain⟨n1,n2⟩:=Df (A:=x / 18446744073709551616 ^ m) hd0;rw[hm,hm2,ei,ei2,hp];simp only[kU,afo];have hl:(List.replicate (m+1) (0:Int)++(dlq (x / d) n).drop (m+1)).length=n:=by simp[ak]; omega
  rw[afi (by omega:(m:Int)>=0),afl,hn,aa afh,nK,CM hN hd (afA _ (by decide)) (afA _ hd0),n1,n2,<- hdg,hl,aa afh,aa (afi (by omega)),aa afg,JT _ _ _ (by omega)]
 ·simp only[kU];have e0:(n:Int) - 1 - (n:Int) = -1:=by omega
  rw[e0,afj (by omega),afk,afT,ag7,ag_];rw[afX,aga,agN];have hq:x / d<18446744073709551616 ^ n:=agV (agW _ _) hx;rw[kA _ (gQ _ _) (by rw[ak]; omega) (by rw[ak]; omega) (λz=>k z ((x%d:Nat):Int)),mi hq]
theorem DJ {P A B U3 V2 U V g:Nat} (hA:A<P) (hU:U=A+P*U3) (hV:V=B+P*V2) (hV0:0<V) (h:U3<g*V2):U / V<g:=by rw[afs hV0,hU,hV,afB,afP g P V2];have:=afq P h;rw[aiD]at this;omega
theorem Jz {W P A B U V u0 u1 u2 v0 v1:Nat} (hA:A<P) (hU:U=A+P*(u0+W*(u2*W+u1))) (hV:V=B+P*(v0+W*v1)) (hV0:0<V) (hv1:0<v1) (hu0:u0<W):U / V<=(u2*W+u1) / v1:=by
 refine Nat.le_of_lt_succ (DJ hA hU hV hV0 ?_);have h1:=ahM (u2*W+u1) hv1;rw[afn v1]at h1;have h2:=afq W h1;rw[aiD]at h2;have e:((u2*W+u1) / v1).succ*(v0+W*v1)=((u2*W+u1) / v1).succ*v0+W*(((u2*W+u1) / v1+1)*v1):=by rw[afB,afP]
 rw[e];omega
theorem HT {N:Nat} {o n u0 v0 v1 T d:Nat} {b c:List Int} (hn:2<=n) (hc1:c.getD (n - 2) 0=(v0:Int)) (hc2:c.getD (n - 1) 0=(v1:Int)) (hb:b.getD (o+(n - 2)) 0=(u0:Int)) (hcl:n<=c.length) (hbl:o+n+1<=b.length) (hbs:b.length<=1099511627780)
  (hv0:v0<18446744073709551616) (hv1:v1<18446744073709551616) (hu0:u0<18446744073709551616) (hd:∀ g,u0+18446744073709551616*T<g*(v0+18446744073709551616*v1)->d<g) :
  ∀ q r M,q<M->q<18446744073709551616->q*v1+r=T->r<18446744073709551616->d<=q ->
   ∃ g,d<=g/\g<18446744073709551616 /\ ∀ e0,ah M (tF N o (n+1) 0 n (n:Int) b c e0) ((q:Int),(r:Int))=e0 (g:Int):=by
 intro q;induction q using Nat.strongRecOn with
 | ind q ih=>
 intro r M hM hq hT hr hdq;obtain⟨M,rfl⟩:∃ m,M=m+1:=⟨M - 1,by omega⟩
 have i2:0+Int.toNat ((n:Int) - 2)=n - 2:=by omega
 have i1:0+Int.toNat ((n:Int) - 1)=n - 1:=by omega
 have j2:o+Int.toNat ((n:Int) - 2)=o+(n - 2):=by omega
 have hqv:=af_ (q*v0) 18446744073709551616;have hlo:q*v0%18446744073709551616<18446744073709551616:=afA _ (by decide);by_cases hex:q*v0<=r*18446744073709551616+u0
 ·refine⟨q,hdq,hq,λe0=>?_⟩;show tF N o (n+1) 0 n (n:Int) b c e0 ((q:Int),(r:Int)) (ah M _)=_;simp only[tF,i2,i1,j2,hc1,hc2,hb];rw[aa afg,aa afh,aa (afi (by omega)),xU N hq hv0];generalize q*v0%18446744073709551616=lo at *;generalize q*v0 / 18446744073709551616=hi at *;rcases ahW hi r with h | h | h
  ·rw[afi (by omega:(hi:Int)<r),show(true==false)=false from rfl,afk]
  ·subst h;rw[afj (by omega:¬(hi:Int)<hi),show(false==false)=true from rfl,afl,show((hi:Int)==hi)=true by simp,show(true==true)=true from rfl,afl,aa afg,aa afh,aa (afi (by omega)),afi (by omega:(lo:Int)<=u0),afl]
  ·exfalso; omega
 ·have hgt:=hd q (by rw[afB,afP,<- hT]; rw[afB]; omega);obtain⟨p,rfl⟩:∃ p,q=p+1:=⟨q - 1,by omega⟩
  have w1:IntKind.wrap .u64 (((p+1:Nat):Int) - 1)=(p:Int):=by rw[am]; omega
  have step:∀ e0:Int->Bool,ah (M+1) (tF N o (n+1) 0 n (n:Int) b c e0) (((p+1:Nat):Int),(r:Int))
    = cond (decide (18446744073709551616<=r+v1)) (e0 (p:Int)) (ah M (tF N o (n+1) 0 n (n:Int) b c e0) ((p:Int),((r+v1:Nat):Int))):=by
   intro e0;show tF N o (n+1) 0 n (n:Int) b c e0 (((p+1:Nat):Int),(r:Int)) (ah M _)=_;simp only[tF,i2,i1,j2,hc1,hc2,hb];have tail:(af .i64 ((n:Int) - 1)&&((inR ((n:Int) - 1) n)&&((decide (n - 1<c.length))&&(sQ3 N (r:Int) (v1:Int) 0 (λ(ZR:Int) (n5:Int)=>(cond (n5 != 0) (e0 (IntKind.wrap .u64 (((p+1:Nat):Int) - 1))) (ah M (tF N o (n+1) 0 n (n:Int) b c e0) ((IntKind.wrap .u64 (((p+1:Nat):Int) - 1)),ZR))))))))
     = cond (decide (18446744073709551616<=r+v1)) (e0 (p:Int)) (ah M (tF N o (n+1) 0 n (n:Int) b c e0) ((p:Int),((r+v1:Nat):Int))):=by
    rw[aa afg,aa afh,aa (afi (by omega)),ny N (c:=0) (a:=r) (b:=v1) (d:=0) rfl rfl rfl (by omega),w1];by_cases hb2:18446744073709551616<=r+v1
    ·have:(((r+v1+0) / 18446744073709551616:Nat):Int)=1:=by omega
     rw[this,afi hb2]; rfl
    ·have:(((r+v1+0) / 18446744073709551616:Nat):Int)=0:=by omega
     have e2:(r+v1+0)%18446744073709551616=r+v1:=by omega
     rw[this,e2,afj hb2]; rfl
   rw[aa afg,aa afh,aa (afi (by omega)),xU N hq hv0];generalize (p+1)*v0%18446744073709551616=lo at *;generalize (p+1)*v0 / 18446744073709551616=hi at *;rcases ahW hi r with h | h | h
   ·exfalso; omega
   ·subst h;rw[afj (by omega:¬(hi:Int)<hi),show(false==false)=true from rfl,afl,show((hi:Int)==hi)=true by simp,show(true==true)=true from rfl,afl,aa afg,aa afh,aa (afi (by omega)),afj (by omega:¬(lo:Int)<=u0),afk];exact tail
   ·rw[afj (by omega:¬(hi:Int)<r),show(false==false)=true from rfl,afl,show((hi:Int)==r)=false by simp; omega,show(false==true)=false from rfl,afk];exact tail
  by_cases hb2:18446744073709551616<=r+v1
  ·exact⟨p,by omega,by omega,λe0=>by rw[step,afi hb2,afl]⟩
  ·obtain⟨g,g1,g2,g3⟩:=ih p (by omega) (r+v1) M (by omega) (by omega) (by rw[<- hT,agS]; omega) (by omega) (by omega);exact⟨g,g1,g2,λe0=>by rw[step,afj hb2,afk]; exact g3 e0⟩
theorem jY {b:List Int} (o i:Nat):(b.drop o).getD i 0=b.getD (o+i) 0:=by rw[List.getD_eq_getElem?_getD,List.getD_eq_getElem?_getD,List.getElem?_drop]
theorem Zs (c:List Int) (m:Nat):ar (c.take (m+3))=ar (c.take m)+18446744073709551616 ^ m*((c.getD m 0).toNat+18446744073709551616*((c.getD (m+2) 0).toNat*18446744073709551616+(c.getD (m+1) 0).toNat)):=by rw[show m+3=m+2+1 by omega,aN,show m+2=m+1+1 by omega,aN,aN];simp only[afv];generalize 18446744073709551616 ^ m=P;grind
theorem Zr (c:List Int) (m:Nat):ar (c.take (m+2))=ar (c.take m)+18446744073709551616 ^ m*((c.getD m 0).toNat+18446744073709551616*(c.getD (m+1) 0).toNat):=by rw[show m+2=m+1+1 by omega,aN,aN];simp only[afv];generalize 18446744073709551616 ^ m=P;grind
theorem Lq {N:Nat} (hN:1180591620717411303424<=N) {o n:Nat} {b c:List Int} (hn:2<=n) (hb:InWq b) (hc:InWq c) (hcl:n<=c.length) (hbl:o+n+1<=b.length) (hbs:b.length<=1099511627780)
  (htop:0<(c.getD (n - 1) 0).toNat) (hU:ar ((b.drop o).take (n+1))<ar (c.take n)*18446744073709551616) :
  ∃ g:Nat,ar ((b.drop o).take (n+1)) / ar (c.take n)<=g/\g<18446744073709551616 /\ ∀ k,R9 N o (n+1) 0 n b c k=k (g:Int):=by
 obtain⟨m,rfl⟩:∃ m,n=m+2:=⟨n - 2,by omega⟩
 have hU3:=Zs (b.drop o) m;have hV2:=Zr c m;rw[jY,jY,jY]at hU3;have a0:=hb.at (i:=o+m);have a1:=hb.at (i:=o+(m+1));have a2:=hb.at (i:=o+(m+2));have c0:=hc.at (i:=m);have c1:=hc.at (i:=m+1);have hA:=aU (hb.drop o) m;have hB:=aU hc m;rw[show m+2 - 1=m+1 by omega]at htop;obtain⟨u0,hu0⟩:∃ u,u=(b.getD (o+m) 0).toNat:=⟨_,rfl⟩
 obtain⟨u1,hu1⟩:∃ u,u=(b.getD (o+(m+1)) 0).toNat:=⟨_,rfl⟩
 obtain⟨u2,hu2⟩:∃ u,u=(b.getD (o+(m+2)) 0).toNat:=⟨_,rfl⟩
 obtain⟨v0,hv0⟩:∃ u,u=(c.getD m 0).toNat:=⟨_,rfl⟩
 obtain⟨v1,hv1⟩:∃ u,u=(c.getD (m+1) 0).toNat:=⟨_,rfl⟩
 have g0:b.getD (o+m) 0=(u0:Int):=by omega
 have g1:b.getD (o+(m+1)) 0=(u1:Int):=by omega
 have g2:b.getD (o+(m+2)) 0=(u2:Int):=by omega
 have k0:c.getD m 0=(v0:Int):=by omega
 have k1:c.getD (m+1) 0=(v1:Int):=by omega
 rw[<- hu0,<- hu1,<- hu2]at hU3;rw[<- hv0,<- hv1]at hV2;rw[<- hv1]at htop;rw[show m+2+1=m+3 by omega];rw[show m+2+1=m+3 by omega]at hU;generalize ar ((b.drop o).take (m+3))=U at *;generalize ar (c.take (m+2))=V at *;have hV0:0<V:=by
  rcases agH V with h | h
  ·rw[h,agE]at hU; omega
  ·exact h
 have hq:U / V<18446744073709551616:=by rw[afs hV0,afn]; exact hU
 have i2:o+Int.toNat (((m+2:Nat):Int))=o+(m+2):=by omega
 have i1:o+Int.toNat (((m+2:Nat):Int) - 1)=o+(m+1):=by omega
 have j1:0+Int.toNat (((m+2:Nat):Int) - 1)=m+1:=by omega
 by_cases h0:v1<=u2
 ·refine⟨18446744073709551615,by omega,by omega,λk=>?_⟩
  (unfold R9; rw[ac]; unfold Qx)
  simp only[i2,i1,j1,g2,g1,k1];rw[aa afh,aa (afi (by omega)),aa afg,aa afh,aa (afi (by omega)),afi (by omega:(u2:Int)>=v1),afl];rfl
 ·have hT:(u2*18446744073709551616+u1) / v1<18446744073709551616:=by rw[afs htop];have:=afq 18446744073709551616 (Nat.lt_of_not_le h0);rw[aiD]at this;omega
  obtain⟨g,e1,e2,e3⟩:=HT (N:=N) (o:=o) (n:=m+2) (T:=u2*18446744073709551616+u1) (d:=U / V) (u0:=u0) (v0:=v0) (v1:=v1) (by omega) (by rw[show m+2 - 2=m by omega]; exact k0) (by rw[show m+2 - 1=m+1 by omega]; exact k1) (by rw[show m+2 - 2=m by omega]; exact g0) hcl hbl hbs (by omega) (by omega) (by omega)
   (λg hg=>DJ hA hU3 hV2 hV0 hg)
   ((u2*18446744073709551616+u1) / v1) ((u2*18446744073709551616+u1)%v1) N (by omega) hT (agi _ _) (ag0 (afA _ htop) (by omega)) (Jz hA hU3 hV2 hV0 htop (by omega))
  refine⟨g,e1,e2,λk=>?_⟩
  (unfold R9; rw[ac]; unfold Qx)
  simp only[i2,i1,j1,g2,g1,k1];rw[aa afh,aa (afi (by omega)),aa afg,aa afh,aa (afi (by omega)),afj (by omega:¬(u2:Int)>=v1),afk];rw[aa afh,aa (afi (by omega)),aa afg,aa afh,aa (afi (by omega)),aa afg,aa afh,aa (afi (by omega))];rw[CM (by omega) (by omega) (by omega) (by omega),e3]
theorem Ko {b:List Int} {o i:Nat} (D:Nat) (h:o+i<=b.length):(b.take o++(dlq D i++b.drop (o+i))).length=b.length:=by simp[ak]; omega
theorem Kn {b:List Int} {o i:Nat} (D:Nat) (h:o+i<b.length):(b.take o++(dlq D i++b.drop (o+i))).getD (o+i) 0=b.getD (o+i) 0:=by rw[<- afC,dr h,ci (by simp[ak]; omega)]
theorem Kp {b:List Int} {o i:Nat} (D:Nat) (h:o+i<b.length):(b.take o++(dlq D i++b.drop (o+i))).set (o+i) ((D / 18446744073709551616 ^ i%18446744073709551616:Nat):Int)=b.take o++(dlq D (i+1)++b.drop (o+(i+1))):=by rw[<- afC,dr h,bu _ _ _ _ _ (by simp[ak]; omega),dlq];simp[afY]
theorem Kl {b:List Int} {o i n:Nat} (D E:Nat) (hi:i<=n) (h:o+n<=b.length):(b.take o++(dlq E i++((dlq D n).drop i++b.drop (o+n)))).length=b.length:=by simp[ak]; omega
theorem Kk {b:List Int} {o i n:Nat} (D E:Nat) (hi:i<n) (h:o+n<=b.length):(b.take o++(dlq E i++((dlq D n).drop i++b.drop (o+n)))).getD (o+i) 0=((D / 18446744073709551616 ^ i%18446744073709551616:Nat):Int):=by rw[<- afC,dr (n:=i) (by rw[ak]; exact hi),ahb,ci (by simp[ak]; omega),sw D hi]
theorem Km {b:List Int} {o i n:Nat} (D E:Nat) (hi:i<n) (h:o+n<=b.length):(b.take o++(dlq E i++((dlq D n).drop i++b.drop (o+n)))).set (o+i) ((E / 18446744073709551616 ^ i%18446744073709551616:Nat):Int)=b.take o++(dlq E (i+1)++((dlq D n).drop (i+1)++b.drop (o+n))):=by rw[<- afC,dr (n:=i) (by rw[ak]; exact hi),ahb,bu _ _ _ _ _ (by simp[ak]; omega),dlq];simp
theorem Jo {m:Nat} (S X:Nat):∀ n,n<=m->dlq (S+18446744073709551616 ^ m*X) n=dlq S n
 | 0,_=>rfl
 | n+1,h=>by rw[dlq,dlq,Jo S X n (by omega)];congr 3;refine iS (R:=18446744073709551616 ^ (m - (n+1))*X) ?_;rw[<- aft,<- afx,show n+1+(m - (n+1))=m by omega]
theorem Di {w:List Int} {n i U Q:Nat} (hw:InWq w) (hl:w.length=n+1) (hU:U=ar w) (hi:i<=n) (hQ:Q<18446744073709551616 ^ (n+1)) :
  (((w.getD i 0).toNat+18446744073709551616 - Q / 18446744073709551616 ^ i%18446744073709551616 - (if ar (w.take i)<Q%18446744073709551616 ^ i then 1 else 0))%18446744073709551616=(U+18446744073709551616 ^ (n+1) - Q) / 18446744073709551616 ^ i%18446744073709551616)
  /\ (if (w.getD i 0).toNat<Q / 18446744073709551616 ^ i%18446744073709551616+(if ar (w.take i)<Q%18446744073709551616 ^ i then 1 else 0)then 1 else 0)=(if ar (w.take (i+1))<Q%18446744073709551616 ^ (i+1)then 1 else(0:Nat)):=by
 have hx:=hw.at (i:=i);have hA:=aN (m:=w) i;have hAl:=aU hw i;have hp:=bf i;have hBl:=afA Q hp;have hPs:18446744073709551616 ^ (i+1)=18446744073709551616 ^ i*18446744073709551616:=afv ..;have hmm:Q%18446744073709551616 ^ (i+1)=Q%18446744073709551616 ^ i+18446744073709551616 ^ i*(Q / 18446744073709551616 ^ i%18446744073709551616):=by rw[hPs,aid]
 have hyl:Q / 18446744073709551616 ^ i%18446744073709551616<18446744073709551616:=afA _ (by decide);constructor
 ·obtain⟨R1,h1⟩:=bL w (i+1);have hW:18446744073709551616 ^ (n+1)=18446744073709551616 ^ i*18446744073709551616*18446744073709551616 ^ (n - i):=by rw[<- hPs,<- afx,show i+1+(n - i)=n+1 by omega]
  have hq:=Cw (D:=U+18446744073709551616 ^ (n+1) - Q) (a:=U+18446744073709551616 ^ (n+1)) (b:=Q) (x:=(w.getD i 0).toNat) (y:=Q / 18446744073709551616 ^ i%18446744073709551616) (R1:=R1+18446744073709551616 ^ (n - i)) (R2:=Q / (18446744073709551616 ^ i*18446744073709551616)) hAl hBl rfl
   (by rw[hU,h1,hA,hW,hPs,afB]; omega)
   (by rw[<- hmm,hPs]; exact(ahx _ _).symm)
   (by omega)
  generalize (U+18446744073709551616 ^ (n+1) - Q) / 18446744073709551616 ^ i=Z at *;generalize Q / 18446744073709551616 ^ i%18446744073709551616=y at *;generalize (w.getD i 0).toNat=x at *;generalize ((R1+18446744073709551616 ^ (n - i):Nat):Int) - ((Q / (18446744073709551616 ^ i*18446744073709551616):Nat):Int)=RR at *;split at hq <;> rename_i hh <;> simp only[hh,agU,afS] <;> omega
 ·rw[hA,hmm];exact(oB _ _ _ _ _ hAl hBl).symm
theorem kG (i:Nat):(i:Int)+1=((i+1:Nat):Int):=rfl
theorem E7 (p:Prop) [Decidable p]:(if p then(1:Int)else 0)=((if p then 1 else 0:Nat):Int):=by split <;> rfl
theorem He (p:Nat) (h:p<18446744073709551616):IntKind.wrap .u64 (((p+1:Nat):Int) - 1)=(p:Int):=by rw[am]; omega
theorem Co {D V c v i:Nat} (hc:c=(D%18446744073709551616 ^ i+V) / 18446744073709551616 ^ i) :
  (D%18446744073709551616 ^ (i+1)+(V+18446744073709551616 ^ i*v)) / 18446744073709551616 ^ (i+1)=(D / 18446744073709551616 ^ i%18446744073709551616+v+c) / 18446744073709551616 /\
  ∀ R,(D+(V+18446744073709551616 ^ i*v+18446744073709551616 ^ (i+1)*R)) / 18446744073709551616 ^ i%18446744073709551616=(D / 18446744073709551616 ^ i%18446744073709551616+v+c)%18446744073709551616:=by
 have hp:=bf i;have hPs:18446744073709551616 ^ (i+1)=18446744073709551616 ^ i*18446744073709551616:=afv ..;have hmm:D%18446744073709551616 ^ (i+1)=D%18446744073709551616 ^ i+18446744073709551616 ^ i*(D / 18446744073709551616 ^ i%18446744073709551616):=by rw[hPs,aid]
 have e:D%18446744073709551616 ^ (i+1)+(V+18446744073709551616 ^ i*v)=(D%18446744073709551616 ^ i+V)+18446744073709551616 ^ i*(D / 18446744073709551616 ^ i%18446744073709551616+v):=by rw[hmm,afB]; omega
 have e2:(D%18446744073709551616 ^ (i+1)+(V+18446744073709551616 ^ i*v)) / 18446744073709551616 ^ i=D / 18446744073709551616 ^ i%18446744073709551616+v+c:=by rw[e,dc,<- hc]; omega
 constructor
 ·rw[hPs,<- afr,<- hPs,e2]
 ·intro R;have e3:D+(V+18446744073709551616 ^ i*v+18446744073709551616 ^ (i+1)*R)=(D%18446744073709551616 ^ (i+1)+(V+18446744073709551616 ^ i*v))+18446744073709551616 ^ (i+1)*(D / 18446744073709551616 ^ (i+1)+R):=by have:=ahx D (18446744073709551616 ^ (i+1));rw[afB]; omega
  rw[iS e3,e2]
theorem Ho {D V c i:Nat} (hc:c=(D%18446744073709551616 ^ i+V) / 18446744073709551616 ^ i) :
  (D%18446744073709551616 ^ (i+1)+V) / 18446744073709551616 ^ (i+1)=(D / 18446744073709551616 ^ i%18446744073709551616+0+c) / 18446744073709551616 /\
  (D+V) / 18446744073709551616 ^ i%18446744073709551616=(D / 18446744073709551616 ^ i%18446744073709551616+0+c)%18446744073709551616:=by
 obtain⟨a1,a2⟩:=Co (v:=0) hc;have a3:=a2 0;rw[agF,afR V]at a1;rw[agF,agF,afR V]at a3;exact⟨a1,a3⟩
theorem KB {N:Nat} (hN:1180591620717411303424<=N) {o n U V d:Nat} {b c:List Int} (hn:1<=n) (hc:InWq c) (hcl:n<=c.length) (hbl:o+(n+1)<=b.length) (hbs:b.length<=1099511627780) (hV:V=ar (c.take n)) (hUW:U<18446744073709551616 ^ (n+1)) (hd:∀ g,g<=d↔g*V<=U) (e0:Int->List Int->Bool) :
  ∀ g M,g<M->g<18446744073709551616->d<=g->g*V<18446744073709551616 ^ (n+1) ->
   ah M (tD N o (n+1) 0 n (n:Int) c e0) ((g:Int),((if U<g*V then 1 else 0:Nat):Int),b.take o++(dlq (U+18446744073709551616 ^ (n+1) - g*V) (n+1)++b.drop (o+(n+1))))=e0 (d:Int) (b.take o++(dlq (U+18446744073709551616 ^ (n+1) - d*V) (n+1)++b.drop (o+(n+1)))):=by
 intro g;induction g with
 | zero=>
  intro M hM _ hdg _;obtain⟨M,rfl⟩:∃ m,M=m+1:=⟨M - 1,by omega⟩
  have:d=0:=by omega
  subst this;show tD N o (n+1) 0 n (n:Int) c e0 (_,_,_) (ah M _)=_;simp only[tD,agE];rw[if_neg (by omega:¬ U<0),show(((0:Nat):Int) != 0)=false from rfl,afk]
 | succ p ih=>
  intro M hM hg hdg hgW;obtain⟨M,rfl⟩:∃ m,M=m+1:=⟨M - 1,by omega⟩
  show tD N o (n+1) 0 n (n:Int) c e0 (_,_,_) (ah M _)=_;have hps:(p+1)*V=p*V+V:=agS _ _;by_cases hlt:U<(p+1)*V
  ·have hdp:d<=p:=by
    rcases agb p d with h | h
    ·have:=(hd (p+1)).1 h; omega
    ·exact h
   simp only[tD];rw[if_pos hlt,show(((1:Nat):Int) != 0)=true from rfl,afl];obtain⟨D,hD⟩:∃ D,D=U+18446744073709551616 ^ (n+1) - (p+1)*V:=⟨_,rfl⟩
   obtain⟨E,hE⟩:∃ E,E=U+18446744073709551616 ^ (n+1) - p*V:=⟨_,rfl⟩
   have hDE:E=D+V:=by omega
   have hDl:D<18446744073709551616 ^ (n+1):=by omega
   rw[<- hD];refine aJ (λi=>((((D%18446744073709551616 ^ i+ar (c.take i)) / 18446744073709551616 ^ i:Nat):Int),(i:Int),b.take o++(dlq E i++((dlq D (n+1)).drop i++b.drop (o+(n+1)))))) n ?_ (by omega) (λi hi K=>?_) (λK=>?_)
   ·simp[dlq,ar,ahV]
   ·have hx:=hc.at (i:=i);have hcv:=aN (m:=c) i;have hVl:=aU hc i;have hp:=bf i;have hml:=afA D hp;obtain⟨cy,hcy⟩:∃ cy,cy=(D%18446744073709551616 ^ i+ar (c.take i)) / 18446744073709551616 ^ i:=⟨_,rfl⟩
    have hcl1:cy<=1:=by
     have:cy<2:=by rw[hcy,afs hp]; omega
     omega
    obtain⟨a1,a2⟩:=Co (D:=D) (V:=ar (c.take i)) (v:=(c.getD i 0).toNat) hcy;obtain⟨R,hR⟩:=bL (c.take n) (i+1);rw[air,agz (by omega),<- hV,hcv]at hR;have a3:=a2 R;rw[<- hR,<- hDE]at a3;have hdl:D / 18446744073709551616 ^ i%18446744073709551616<18446744073709551616:=afA _ (by decide);simp only[ib,afo,afL];rw[Kl D E (by omega) (by omega),Kk D E (by omega) (by omega)];rw[afi (by omega:(i:Int)<n),afl,aa afh,aa (afi (by omega)),aa afh,aa (afi (by omega)),<- hcy,
     ny N (a:=D / 18446744073709551616 ^ i%18446744073709551616) (b:=(c.getD i 0).toNat) (d:=cy) rfl (by omega) rfl hcl1,aa afh,aa (afi (by omega)),aa afg,<- a3,Km D E (by omega) (by omega),<- a1,hcv,kG]
   ·have hp:=bf n;have hml:=afA D hp;have hVl:V<18446744073709551616 ^ n:=by rw[hV]; exact aU hc n
    obtain⟨cy,hcy⟩:∃ cy,cy=(D%18446744073709551616 ^ n+V) / 18446744073709551616 ^ n:=⟨_,rfl⟩
    have hcl1:cy<=1:=by
     have:cy<2:=by rw[hcy,afs hp]; omega
     omega
    obtain⟨a1,a3⟩:=Ho (D:=D) (V:=V) (i:=n) hcy;rw[afu hDl,<- hDE]at a1;rw[<- hDE]at a3;simp only[ib,afo];rw[afj (by omega:¬(n:Int)<n),afk,Kl D E (by omega) (by omega),Kk D E (by omega) (by omega),<- hV,<- hcy,aa afh,aa (afi (by omega)),
     ny N (y:=0) (c:=((cy:Nat):Int)) (a:=D / 18446744073709551616 ^ n%18446744073709551616) (b:=0) (d:=cy) rfl rfl rfl hcl1,aa afh,aa (afi (by omega)),<- a3,<- a1,Km D E (by omega) (by omega),He p (by omega)]
    rw[af6 (by rw[ak]; omega),aga];have eb:IntKind.wrap .u64 (((1:Nat):Int) - ((E / 18446744073709551616 ^ (n+1):Nat):Int))=((if U<p*V then 1 else 0:Nat):Int):=by
     have hp1:=bf (n+1);by_cases h:U<p*V
     ·rw[if_pos h,afO (by omega),am]; omega
     ·rw[if_neg h];have:E / 18446744073709551616 ^ (n+1)=1:=by refine Nat.div_eq_of_lt_le ?_ ?_ <;> omega
      rw[this,am]; omega
    rw[eb,hE];exact ih M (by omega) (by omega) hdp (by omega)
  ·have:d=p+1:=by have:=(hd (p+1)).2 (by omega);omega
   subst this;simp only[tD];rw[if_neg hlt,show(((0:Nat):Int) != 0)=false from rfl,afk]
theorem Ph {N:Nat} (hN:1180591620717411303424<=N) {o n:Nat} {b c:List Int} (hn:2<=n) (hb:InWq b) (hc:InWq c) (hcl:n<=c.length) (hbl:o+(n+1)<=b.length) (hbs:b.length<=1099511627780)
  (htop:0<(c.getD (n - 1) 0).toNat) (hU:ar ((b.drop o).take (n+1))<ar (c.take n)*18446744073709551616) (k:Ky7) :
  PL N o (n+1) 0 n b c k=k ((ar ((b.drop o).take (n+1)) / ar (c.take n):Nat):Int) (b.take o++(dlq (ar ((b.drop o).take (n+1))%ar (c.take n)) (n+1)++b.drop (o+(n+1)))):=by
 obtain⟨g,g1,g2,g3⟩:=Lq hN hn hb hc hcl (by omega) hbs htop hU
 (unfold PL; rw[ac]; unfold Na)
 rw[g3];have hw:InWq ((b.drop o).take (n+1)):=(hb.drop o).take _;have hwl:((b.drop o).take (n+1)).length=n+1:=by rw[af0,agZ]; omega
 have hwg:∀ i,i<=n->((b.drop o).take (n+1)).getD i 0=b.getD (o+i) 0:=λi hi=>by rw[ue (by omega),jY]
 generalize (b.drop o).take (n+1)=w at *;obtain⟨U,hUe⟩:∃ U,U=ar w:=⟨_,rfl⟩
 obtain⟨V,hVe⟩:∃ V,V=ar (c.take n):=⟨_,rfl⟩
 rw[<- hUe,<- hVe]at hU g1 ⊢;have hV0:0<V:=by
  rcases agH V with h | h
  ·rw[h,agE]at hU; omega
  ·exact h
 have hVl:V<18446744073709551616 ^ n:=by rw[hVe]; exact aU hc n
 have hUW:U<18446744073709551616 ^ (n+1):=by rw[hUe]; have:=iL hw; rwa [hwl]at this
 have hgV:g*V<18446744073709551616 ^ (n+1):=by rw[afv,afn];exact agp hVl g2
 have hres:b.take o++(dlq (U%V) (n+1)++b.drop (o+(n+1)))=b.take o++(dlq (U+18446744073709551616 ^ (n+1) - (U / V)*V) (n+1)++b.drop (o+(n+1))):=by
  have e:U+18446744073709551616 ^ (n+1) - (U / V)*V=U%V+18446744073709551616 ^ (n+1)*1:=by have:=agi U V;omega
  rw[e,Jo _ _ _ (afw _)]
 rw[hres];obtain⟨D,hD⟩:∃ D,D=U+18446744073709551616 ^ (n+1) - g*V:=⟨_,rfl⟩
 obtain⟨Q,hQ⟩:∃ Q,Q=g*V:=⟨_,rfl⟩
 have hQW:Q<18446744073709551616 ^ (n+1):=by rw[hQ]; exact hgV
 refine aJ (λi=>(((g*ar (c.take i) / 18446744073709551616 ^ i:Nat):Int),((if ar (w.take i)<Q%18446744073709551616 ^ i then 1 else 0:Nat):Int),(i:Int),b.take o++(dlq D i++b.drop (o+i)))) n ?_ (by omega) (λi hi K=>?_) (λK=>?_)
 ·simp[dlq,ar,ahV]
 ·have hx:=hb.at (i:=o+i);have hy:=hc.at (i:=i);have hcv:=aN (m:=c) i;have hp:=bf i;have hVi:=aU hc i;obtain⟨s1,s2⟩:=Di hw hwl hUe (by omega:i<=n) (by rw[hQ]; exact hgV:Q<_);rw[hwg i (by omega)]at s1 s2;rw[hQ,<- hD,<- hQ]at s1;obtain⟨cy,hcy⟩:∃ cy,cy=g*ar (c.take i) / 18446744073709551616 ^ i:=⟨_,rfl⟩
  have hcyl:cy<18446744073709551616:=by rw[hcy,afs hp];exact agp g2 hVi
  have e1:g*ar (c.take (i+1))=g*ar (c.take i)+18446744073709551616 ^ i*(g*(c.getD i 0).toNat):=by rw[hcv,afB,afP g]
  have ecy:g*ar (c.take (i+1)) / 18446744073709551616 ^ (i+1)=(g*(c.getD i 0).toNat+0+cy) / 18446744073709551616:=by rw[afv,<- afr,e1,dc,<- hcy];congr 1; omega
  obtain⟨R,hR⟩:=bL (c.take n) (i+1);rw[air,agz (by omega),<- hVe]at hR;have elo:Q / 18446744073709551616 ^ i%18446744073709551616=(g*(c.getD i 0).toNat+0+cy)%18446744073709551616:=by
   have:Q=g*ar (c.take (i+1))+18446744073709551616 ^ (i+1)*(g*R):=by rw[hQ,hR,afB,afP g]
   rw[iS this,e1,dc,<- hcy];congr 1; omega
  simp only[ia,afo,afL];rw[Ko D (by omega),Kn D (by omega),afi (by omega:(i:Int)<n),afl,aa afh,aa (afi (by omega)),<- hcy,
   A4 N (c:=0) (a:=g) (b:=(c.getD i 0).toNat) (e:=0) (f:=cy) rfl (by omega) rfl rfl g2 (by omega) (by omega) hcyl,aa afh,aa (afi (by omega)),<- elo,<- ecy,
   xV N (a:=(b.getD (o+i) 0).toNat) (b:=Q / 18446744073709551616 ^ i%18446744073709551616) (d:=if ar (w.take i)<Q%18446744073709551616 ^ i then 1 else 0) (by omega) rfl rfl (by split <;> omega),aa afh,aa (afi (by omega)),aa afg,s1,Kp D (by omega)]
  have s3:(if (b.getD (o+i) 0).toNat<Q / 18446744073709551616 ^ i%18446744073709551616+(if ar (w.take i)<Q%18446744073709551616 ^ i then 1 else 0)then(1:Int)else 0)=((if ar (w.take (i+1))<Q%18446744073709551616 ^ (i+1)then 1 else 0:Nat):Int):=by rw[E7,s2]
  rw[s3];rfl
 ·have hx:=hb.at (i:=o+n);obtain⟨s1,s2⟩:=Di hw hwl hUe (afw n) (by rw[hQ]; exact hgV:Q<_);rw[hwg n (by omega)]at s1 s2;rw[hQ,<- hD,<- hQ]at s1;have hql:Q / 18446744073709551616 ^ n<18446744073709551616:=by rw[afs (bf n),afn,<- afv,hQ]; exact hgV
  rw[afu hql]at s1 s2;have hwt:w.take (n+1)=w:=afH (by omega);rw[hwt,<- hUe,afu hQW]at s2;simp only[ia,afo];rw[afj (by omega:¬(n:Int)<n),afk,<- hVe,<- hQ,Ko D (by omega),Kn D (by omega),aa afh,aa (afi (by omega)),
   xV N (a:=(b.getD (o+n) 0).toNat) (b:=Q / 18446744073709551616 ^ n) (d:=if ar (w.take n)<Q%18446744073709551616 ^ n then 1 else 0) (by omega) rfl rfl (by split <;> omega),aa afh,aa (afi (by omega)),s1,Kp D (by omega)]
  have s3:(if (b.getD (o+n) 0).toNat<Q / 18446744073709551616 ^ n+(if ar (w.take n)<Q%18446744073709551616 ^ n then 1 else 0)then(1:Int)else 0)=((if U<g*V then 1 else 0:Nat):Int):=by rw[<- hQ,E7,s2]
  rw[s3,hD];exact KB hN (by omega) hc hcl hbl hbs hVe hUW (λp=>agT hV0) _ g N (by omega) g2 g1 hgV
theorem Ii {N:Nat} (b:List Int) (m:Nat) (hm:m<=b.length) (hN:m<N) (hs:m<9223372036854775807) (k:Kz3):qZ N 0 m b k=k (bZ b m):=by
 (unfold qZ; rw[ac]; unfold qf)
 have key:∀ n,n<=m -> ∀ M,n<M->ah M (wk N 0 m b λZS=>((decide (0<=ZS/\ZS<=((m:Nat):Int)))&&(k ((Int.toNat ZS) - 0)))) (n:Int)=k (bZ b n):=by
  intro n;induction n with
  | zero=>
   intro _ M hM;obtain⟨M,rfl⟩:∃ m,M=m+1:=⟨M - 1,by omega⟩
   show wk N 0 m b _ ((0:Nat):Int) _=_;simp only[wk,bZ];rw[afj (by omega:¬((0:Nat):Int)>0),show(false==true)=false from rfl,afk,afi (by omega),agq];rfl
  | succ n ih=>
   intro hn M hM;obtain⟨M,rfl⟩:∃ m,M=m+1:=⟨M - 1,by omega⟩
   show wk N 0 m b _ ((n+1:Nat):Int) (ah M _)=_;have e:0+Int.toNat (((n+1:Nat):Int) - 1)=n:=by omega
   have e2:((n+1:Nat):Int) - 1=(n:Int):=by omega
   simp only[wk,e];rw[afi (by omega:((n+1:Nat):Int)>0),show(true==true)=true from rfl,afl,aa afg,aa afh,aa (afi (by omega)),aa afg,e2,ih (by omega) M (by omega),oE];by_cases h0:b.getD n 0=0
   ·have:(b.getD n 0==0)=true:=by simpa using h0
    rw[this,if_pos h0]; rfl
   ·have:(b.getD n 0==0)=false:=by simpa using h0
    rw[this,if_neg h0,afk,afi (by omega),agq];rfl
 exact key m (afw _) N hN
theorem yU (N:Nat) (b:List Int) (m i:Nat) (hm:m<=b.length) (hi:i<9223372036854775807) (k:Kz2):J3 N 0 m (i:Int) b k=k ((b.take m).getD i 0):=by
 unfold J3 Sw;by_cases h:i<m
 ·rw[afi (by omega),afl,aa afh,aa (afi (by omega)),ue h];simp
 ·rw[afj (by omega),afk,eP (by rw[af0]; omega)]
theorem Gd {N:Nat} (b:List Int) (hb:InWq b) (m s:Nat) (hm:m<=b.length) (hs:s<64) (hN:m+3<N) (hms:m<=1099511627780):∃ lost:Bool,∀ k,J1 N 0 m (s:Int) b k=k (ae (ar (b.take m) / 2 ^ s)) lost:=by
 have ew:IntKind.wrap .u64 (Int.tdiv (s:Int) 64)=0:=by rw[am,ago (by omega)]; omega
 have es:Int.tmod (s:Int) 64=(s:Int):=by rw[age (by omega)]; omega
 have eml:IntKind.wrap .u64 ((m:Nat):Int)=(m:Int):=by rw[am]; omega
 have hs0:0<2 ^ s:=afy _;by_cases h0:m=0
 ·subst h0;refine⟨false,λk=>?_⟩
  (unfold J1; rw[ac]; unfold I6)
  rw[ew,ahF,show ar []=0 from rfl,Nat.zero_div,bw];rfl
 ·refine⟨aD .and .u64 (b.getD 0 0) (IntKind.wrap .u64 ((IntKind.wrap .u64 ((1:Int)*2 ^ s)) - 1)) != 0,λk=>?_⟩
  (unfold J1; rw[ac]; unfold I6)
  have emin:min s 64=s:=by omega
  have e64:min (Int.toNat (IntKind.wrap .u64 (64 - (s:Int)))) 64=64 - s:=by rw[am]; omega
  have z0:0+Int.toNat (0:Int)=0:=rfl;have z1:Int.toNat (0:Int) - 0=0:=rfl;rw[ew,es,eml,afj (by omega:¬(0:Int)>=(m:Int)),afk,aa afg,aa afh,z0,z1,aa (afi (by omega)),aa (afi (by omega)),aa (afi (by omega)),afo,emin];refine aJ (λi=>(aD .and .u64 (b.getD 0 0) (IntKind.wrap .u64 ((IntKind.wrap .u64 ((1:Int)*2 ^ s)) - 1)),(i:Int))) 0 rfl (by omega) (λi hi K=>by omega) (λK=>?_);simp only[lR];rw[afj (by omega:¬((0:Nat):Int)<((0:Nat):Int)),afk];generalize aD .and .u64 (b.getD 0 0) (IntKind.wrap .u64 ((IntKind.wrap .u64 ((1:Int)*2 ^ s)) - 1))=lo;have hw:InWq (b.take m):=hb.take m;have hwl:(b.take m).length=m:=by rw[af0]; omega
  obtain⟨X,hX⟩:∃ X,X=ar (b.take m) / 2 ^ s:=⟨_,rfl⟩
  have elen:Int.toNat ((m:Int) - 0)=m:=by omega
  have elen2:(m:Int) - 0=(m:Int):=by omega
  rw[elen2,aa afg,aa (bI (by omega) (by omega) (by omega) (by omega)),agI,afo,<- hX];refine aJ (λi=>((i:Int),dlq X i++List.replicate (m - i) 0)) m (by simp[dlq]) (by omega) (λi hi K=>?_) (λK=>?_)
  ·have hx:=hw.at (i:=i);have hy:=hw.at (i:=i+1);have hset:=ub X i m (by omega);have hl:(dlq X i++List.replicate (m - i) (0:Int)).length=m:=by simp[ak]; omega
   obtain⟨R,hR⟩:=An hw i;have hdig:X / 18446744073709551616 ^ i%18446744073709551616=(((b.take m).getD i 0).toNat+18446744073709551616*((b.take m).getD (i+1) 0).toNat) / 2 ^ s%18446744073709551616:=by
    rw[hX,afr,afn (2 ^ s),<- afr,hR];have e2:18446744073709551616*18446744073709551616*R=2 ^ s*(18446744073709551616*(2 ^ (64 - s)*R)):=by
     have hs1:2 ^ s*2 ^ (64 - s)=18446744073709551616:=by rw[<- afx,show s+(64 - s)=64 by omega]
     rw[afP (2 ^ s),<- aft (2 ^ s),hs1,aft]
    rw[e2,agh _ _ hs0,agC]
   have ea:(0:Int)+(i:Int)=(i:Int):=by omega
   have eb:(i:Int)+1=((i+1:Nat):Int):=by omega
   simp only[i6,afo,ea,eb,emin,e64,hl];rw[afi (by omega:(i:Int)<(m:Int)),afl,aa afg,yU N b m i hm (by omega),aa (afi (by omega)),aa afg,aa afg,yU N b m (i+1) hm (by omega),aa (afi (by rw[am]; omega)),aa afh,aa (afi (by omega)),aa afg];have ex:(b.take m).getD i 0=((((b.take m).getD i 0).toNat:Nat):Int):=by omega
   have ey:(b.take m).getD (i+1) 0=((((b.take m).getD (i+1) 0).toNat:Nat):Int):=by omega
   rw[ex,ey,Dk (by omega) (by omega) (by omega),<- hdig,hset]
  ·simp only[i6];rw[afj (by omega:¬(m:Int)<(m:Int)),afk,afT,afX,afU];have hXl:X<18446744073709551616 ^ m:=by have h1:=iL hw;rw[hwl]at h1;rw[hX];exact agV (agW _ _) h1
   have:=kA (N:=N) _ (gQ X m) (by rw[ak]; omega) (by rw[ak]; omega) (λl=>k l (lo != 0));rw[this,mi hXl]
theorem LG {N:Nat} (m:List Int) (hm:InWq m) (n:Nat) (hn:n<4294967296) (hN:m.length+n / 64+4<N) (hs:m.length<=1099511627776) (e0:List Int->Bool) :
  ah N (fk N ((n / 64:Nat):Int) ((n%64:Nat):Int) m ((m.length:Nat):Int) e0) (0,List.replicate (n / 64+m.length+1) (0:Int))=e0 (dlq (ar m*2 ^ n) (n / 64+m.length+1)):=by
 have hw6:n / 64<67108864:=by omega
 generalize hw:n / 64=w at *;generalize hsh:n%64=s at *;have hs32:s<64:=by omega
 have hp2:2 ^ n=18446744073709551616 ^ w*2 ^ s:=by rw[D7,hw,hsh]
 have hs0:0<2 ^ s:=afy s;have hs1:2 ^ s*2 ^ (64 - s)=18446744073709551616:=by rw[<- afx,show s+(64 - s)=64 by omega]
 let V:=ar m*2 ^ n
 let X:=ar m*2 ^ s
 have hVX:V=18446744073709551616 ^ w*X:=by simp only[V,X]; rw[hp2,afP]
 let T:=λi=>ar (m.take i)*2 ^ s
 let c:=λi=>T i / 18446744073709551616 ^ i
 have hcl:∀ i,c i<2 ^ s:=by intro i;simp only[c,T];rw[afs (bf i),afn];exact agu (aU hm i) hs0
 refine aJ (N:=N) (λi=>((i:Int),dlq V (w+i)++((c i:Nat):Int)::List.replicate (m.length - i) 0)) m.length ?_ (by omega) (λi hi K=>?_) (λK=>?_)
 ·congr 1;show List.replicate (w+m.length+1) (0:Int)=dlq V w++((c 0:Nat):Int)::List.replicate m.length 0;rw[hVX,sx];have hc0:c 0=0:=by simp[c,T,ar]
  rw[hc0];have:w+m.length+1=w+(m.length+1):=by omega
  rw[this,<- ag4,af5]; rfl
 ·have hx:=hm.at (i:=i);have hT:T (i+1)=T i+18446744073709551616 ^ i*((m.getD i 0).toNat*2 ^ s):=by simp only[T,aN,afM,aft]
  have hq:T (i+1) / 18446744073709551616 ^ i=c i+(m.getD i 0).toNat*2 ^ s:=by rw[hT,dc]
  have hci:c i<2 ^ s:=hcl i;have hc1:c (i+1)=(c i+(m.getD i 0).toNat*2 ^ s) / 18446744073709551616:=by rw[<- hq]; simp only[c]; rw[afv,afr]
  have hdig:V / 18446744073709551616 ^ (w+i)%18446744073709551616=(c i+(m.getD i 0).toNat*2 ^ s)%18446744073709551616:=by rw[<- hq,hVX,afx,<- afr,afV _ (bf w)];obtain⟨R,hR⟩:=bL m (i+1);refine iS (R:=R*2 ^ s) ?_;simp only[X,T];rw[hR,afM,aft]
  have hrep:List.replicate (m.length - i) (0:Int)=0::List.replicate (m.length - (i+1)) 0:=by rw[show m.length - i=(m.length - (i+1))+1 by omega,af5]
  have hdl:=ak V (w+i);have ei:Int.toNat ((w:Int)+(i:Int))=w+i:=by omega
  have ei1:Int.toNat ((w:Int)+(i:Int)+1)=w+i+1:=by omega
  have emin:min s 64=s:=by omega
  have e64:min (Int.toNat (IntKind.wrap .u64 (64 - (s:Int)))) 64=64 - s:=by rw[am]; omega
  simp only[fk,afo,ei,ei1,emin,e64];rw[hrep,ci hdl.symm,bu _ _ _ _ _ hdl.symm];have hmx:m.getD i 0=(((m.getD i 0).toNat:Nat):Int):=by omega
  rw[hmx];generalize hxx:(m.getD i 0).toNat=x at *;have hx32:x<18446744073709551616:=by omega
  have hlow:x*2 ^ s%18446744073709551616=2 ^ s*(x%2 ^ (64 - s)):=by
   have e:x*2 ^ s%(2 ^ s*2 ^ (64 - s))=2 ^ s*(x%2 ^ (64 - s)):=by rw[afn x]; exact ahc _ _ _
   rwa [hs1]at e
  have hsum:2 ^ s*(x%2 ^ (64 - s))+c i<18446744073709551616:=by have h1:x%2 ^ (64 - s)+1<=2 ^ (64 - s):=afA _ (afy _);have h2:=afq (2 ^ s) h1;rw[hs1,afB]at h2;omega
  have epw:(x:Int)*2 ^ s=((x*2 ^ s:Nat):Int):=by rw[afF,agM]; rfl
  have eor:aD .or .u64 ((c i:Nat):Int) (IntKind.wrap .u64 ((x:Int)*2 ^ s))=((V / 18446744073709551616 ^ (w+i)%18446744073709551616:Nat):Int):=by
   have e1:IntKind.wrap .u64 ((x*2 ^ s:Nat):Int)=((2 ^ s*(x%2 ^ (64 - s)):Nat):Int):=by rw[<- hlow,am]; omega
   rw[epw,e1,cP _ _ s hci hsum,hdig];omega
  have ehi:Int.fdiv (x:Int) (2 ^ (64 - s))=((c (i+1):Nat):Int):=by
   have e2:(2:Int) ^ (64 - s)=((2 ^ (64 - s):Nat):Int):=by rw[agM]; rfl
   rw[e2,kF,hc1];have:(c i+x*2 ^ s) / 18446744073709551616=x / 2 ^ (64 - s):=by rw[<- hs1,<- afr,afn x,agh _ _ hs0,afO hci,afL]
   rw[this]
  rw[eor,ehi];have hl1:∀(a b:Int) (ys:List Int),(dlq V (w+i)++a::b::ys).length=w+i+2+ys.length:=by intro a b ys; simp[hdl]; omega
  have hset2:(dlq V (w+i)++((V / 18446744073709551616 ^ (w+i)%18446744073709551616:Nat):Int)::0::List.replicate (m.length - (i+1)) 0).set (w+i+1) ((c (i+1):Nat):Int)=dlq V (w+(i+1))++((c (i+1):Nat):Int)::List.replicate (m.length - (i+1)) 0:=by
   have:dlq V (w+i)++((V / 18446744073709551616 ^ (w+i)%18446744073709551616:Nat):Int)::0::List.replicate (m.length - (i+1)) 0=dlq V (w+(i+1))++0::List.replicate (m.length - (i+1)) 0:=by rw[<- afY,dlq]; simp
   rw[this];exact bu _ _ _ _ _ (by rw[ak]; omega)
  rw[hset2,hl1,hl1];simp only[agI];rw[afi (by omega:(i:Int)<((m.length:Nat):Int)),afl,aa afh,aa afg,aa afh,aa (afi (by omega)),aa (afi (by omega)),aa afh,aa (afi (by omega)),aa afg,aa afg,aa (afi (by rw[am]; omega)),aa afh,aa (afi (by omega)),aa afg];rfl
 ·simp only[fk];rw[afj (by omega:¬(m.length:Int)<m.length),afk,afT,afX];have hV:V<18446744073709551616 ^ (w+m.length+1):=by
   have h1:=iL hm;simp only[V];rw[hp2,afv,afx,afP,aft];refine agu ?_ (bf w);have hs2:2 ^ s<=18446744073709551616:=by rw[<- hs1]; exact agj _ (afy _)
   exact af4 h1 hs2 (by decide)
  have hT:T m.length=X:=by simp only[T,X]; rw[af3]
  have hend:dlq V (w+m.length)++[((c m.length:Nat):Int)]=dlq V (w+m.length+1):=by
   rw[dlq];have:c m.length=V / 18446744073709551616 ^ (w+m.length)%18446744073709551616:=by
    have hX:V / 18446744073709551616 ^ (w+m.length)=X / 18446744073709551616 ^ m.length:=by rw[hVX,afx,<- afr,afV _ (bf w)]
    have h2:=hcl m.length;have hs2:2 ^ s<=18446744073709551616:=by rw[<- hs1]; exact agj _ (afy _)
    rw[hX,<- hT];exact(afu (by show c m.length<_; omega)).symm
   rw[this]
  rw[hend]
theorem Fq (n:Nat):dlq n (ae n).length=ae n:=by refine List.ext_getElem (ak n _) (λi h1 h2=>?_);have e1:=sw n h2;have e2:=nK i n;rw[List.getD_eq_getElem?_getD,List.getElem?_eq_getElem h1,af8]at e1;rw[List.getD_eq_getElem?_getD,List.getElem?_eq_getElem h2,af8]at e2;rw[e1,e2]
theorem DA {X L:Nat} (hX:X<18446744073709551616 ^ L):∀ k,dlq X (L+k)=dlq X L++List.replicate k 0
 | 0=>by simp
 | k+1=>by rw[<- afY,dlq,DA hX k,afO (afD hX (afz (by decide) (ag1 _ _))),agY,afC];rfl
theorem sy (S:Nat):∀{m n:Nat},n<=m->(dlq S m).take n=dlq S n
 | 0,n,h=>by
  have:n=0:=by omega
  subst this; rfl
 | m+1,n,h=>by
  by_cases e:n=m+1
  ·subst e; rw[afH (by rw[ak]; omega)]
  ·rw[dlq,agn (by rw[ak]; omega),sy S (by omega)]
theorem Cz (S a:Nat):∀ c,dlq S (a+c)=dlq S a++dlq (S / 18446744073709551616 ^ a) c
 | 0=>by simp[dlq]
 | c+1=>by rw[<- afY,dlq,Cz S a c,dlq,afr,<- afx,afC]
theorem Hz {V m:Nat} (h:V<18446744073709551616 ^ m):bZ (dlq V m) m=(ae V).length:=by have h1:=xn (gQ V m);rw[ak,pV,afu h]at h1;rw[<- h1,af0,ak];have:=jX (dlq V m) m;omega
theorem VS {V m:Nat} (h1:18446744073709551616 ^ m<=V) (h2:V<18446744073709551616 ^ (m+1)):(ae V).length=m+1:=by have a:=gd (m+1) V h2;have b:=VR (V:=V) (w:=m) (by have:=ahL h1 (bf m); omega);omega
theorem u7 {N:Nat} {m s:Nat} (hm:m ≠ 0) (hs:s<64) (hN:(ae m).length+4<N) (hl:(ae m).length<=1099511627776) (k0:Bool) (k1:Nat->List Int->Bool) :
  PY N (ae m) (s:Int) k0 k1=k1 (ae (m*2 ^ s)).length (dlq (m*2 ^ s) ((ae m).length+1)):=by
 have hlp:(ae m).length ≠ 0:=by rw[b_ hm]; simp
 have hV:m*2 ^ s<18446744073709551616 ^ ((ae m).length+1):=by
  rw[afv];have h2:2 ^ s<18446744073709551616:=by rw[<- oc]; exact Nat.pow_lt_pow_right (by decide) hs
  exact agp (jG m) h2
 (unfold PY; rw[ac]; unfold T1)
 have e0:((((ae m).length:Nat):Int)==0)=false:=by simp; intro h; rw[h]at hlp; simp at hlp
 have ew:IntKind.wrap .u64 (Int.tdiv (s:Int) 64)=((s / 64:Nat):Int):=by rw[am,ago (by omega)]; omega
 have es:Int.tmod (s:Int) 64=((s%64:Nat):Int):=by rw[age (by omega)]; rfl
 have elen:Int.toNat (((s / 64:Nat):Int)+(((ae m).length:Nat):Int)+1)=s / 64+(ae m).length+1:=by omega
 rw[e0,afk,ew,es,aa afg,aa afg,aa afg,aa (bI (by omega) (by omega) (by omega) (by omega)),elen];have:=LG (N:=N) (ae m) (bb m) s (by omega) (by omega) hl (λz_1=>xf N z_1 λmr=>k1 mr z_1);rw[aF,show s / 64=0 by omega,afL]at this;rw[show s / 64=0 by omega,afL];refine Eq.trans this ?_;rw[A6 _ (by rw[ak]; omega) (by rw[ak]; omega),ak,Hz hV]
theorem LP (xs:List Int) (k:Nat):ar (xs++List.replicate k 0)=ar xs:=by rw[no,zC]; simp
theorem wX {N:Nat} (hN:1180591620717411303424<=N) {x y:Nat} (hxy:y<=x) (hy2:2<=(ae y).length) (hxl:(ae x).length<=1099511627000) (k:Kz0) :
  Bv N (ae x) (ae y) k=k (ae (x / y)) (ae (x%y)):=by
 have hy0:y ≠ 0:=by intro h; rw[h,bw]at hy2; simp at hy2
 have hyx:=dC hxy;have hylt:=jG y;have hxlt:=jG x;have hylo:18446744073709551616 ^ ((ae y).length - 1)<=y:=by
  rcases agb y (18446744073709551616 ^ ((ae y).length - 1))with h | h
  ·have:=gd _ _ h; omega
  ·exact h
 (unfold Bv; rw[ac]; unfold Nr)
 rw[iW x y ⟨by omega,by omega⟩ ⟨by omega,by omega⟩];have hc:decide (dM x y<0)=false:=by unfold dM; rw[if_neg (by omega)]; split <;> rfl
 obtain⟨n,hn⟩:∃ n,(ae y).length=n+2:=⟨(ae y).length - 2,by omega⟩
 obtain⟨lx,hlx⟩:∃ lx,(ae x).length=lx:=⟨_,rfl⟩
 have htd:(ae y).getD (n+1) 0=((y / 18446744073709551616 ^ (n+1):Nat):Int):=by rw[nK,afu];rw[afs (bf _),afn,<- afv];rw[hn]at hylt; exact hylt
 rw[hn]at hylt hylo;rw[hlx]at hxlt;rw[show n+2 - 1=n+1 by omega]at hylo;obtain⟨t,ht⟩:∃ t,t=y / 18446744073709551616 ^ (n+1):=⟨_,rfl⟩
 rw[<- ht]at htd;have htl:t<18446744073709551616:=by rw[ht,afs (bf _),afn,<- afv]; exact hylt
 have ht0:t ≠ 0:=by have:=ahL hylo (bf (n+1)); omega
 obtain⟨g1,g2,g3⟩:=Ke ht0 htl;have ein:Int.toNat (((n+2:Nat):Int) - 1)=n+1:=by omega
 have e1':(((n+2:Nat):Int)==1)=false:=by simp; omega
 rw[hc,afk,hn,hlx,e1',afk,aa afg,aa afh,ein,htd,FT N htl];obtain⟨s,hs⟩:∃ s,s=64 - bl t:=⟨_,rfl⟩
 rw[<- hs]at g1 g2 g3 ⊢;have hs0:0<2 ^ s:=afy s;have ews:IntKind.wrap .u64 ((s:Nat):Int)=(s:Int):=by rw[am]; omega
 rw[ews];obtain⟨V,hV⟩:∃ V,V=y*2 ^ s:=⟨_,rfl⟩
 obtain⟨X,hX⟩:∃ X,X=x*2 ^ s:=⟨_,rfl⟩
 have hVlt:V<18446744073709551616 ^ (n+2):=by
  have h1:=ahM y (bf (n+1));rw[<- ht]at h1;have h2:y*2 ^ s<18446744073709551616 ^ (n+1)*(t+1)*2 ^ s:=af2 h1 hs0;have h3:(t+1)*2 ^ s<=18446744073709551616:=by
   have hd:2 ^ s*2 ^ (64 - s)=18446744073709551616:=by rw[<- afx,show s+(64 - s)=64 by omega]
   have h4:t<2 ^ (64 - s):=by rw[afn]at g3;rw[<- hd]at g3;exact ahG g3
   rw[<- hd,afn];exact afq _ h4
  have h5:=afq (18446744073709551616 ^ (n+1)) h3;rw[hV,show n+2=n+1+1 by omega,afv];rw[aft]at h2;omega
 have hVge:18446744073709551616 ^ (n+1)<=V:=by rw[hV]; exact afG hylo (agj _ hs0)
 have hVlen:(ae V).length=n+2:=VS hVge hVlt;have hV0:0<V:=afD (bf _) hVge;have hx0:x ≠ 0:=by omega
 rw[u7 hy0 g1 (by omega) (by omega),hn,<- hV,hVlen,u7 hx0 g1 (by omega) (by omega),hlx,<- hX];have hs2:2 ^ s<=18446744073709551616:=by rw[<- oc]; exact afz (by decide) (by omega)
 have hXlt:X<18446744073709551616 ^ (lx+1):=by rw[hX,afv]; exact af4 hxlt hs2 (by decide)
 have hXlen1:(ae X).length<=lx+1:=gd _ _ hXlt;have hXlen2:lx<=(ae X).length:=by rw[<- hlx,hX]; exact dC (agj _ hs0)
 have etk:(dlq X (lx+1)).take (ae X).length=ae X:=by rw[sy X hXlen1,Fq]
 have ebl:(ae X++[0,0]).length=(ae X).length+2:=by simp
 obtain⟨M,hM⟩:∃ M,lx+1=M+(n+2):=⟨lx+1 - (n+2),by omega⟩
 have eu1:Int.toNat ((lx:Int)+1) - 0=lx+1:=by omega
 have eM:(((lx+1:Nat):Int) - ((n+2:Nat):Int))=(M:Int):=by omega
 rw[agN,etk,ebl,eu1,eM];rw[aa (afi (by rw[ak]; omega)),aa (afi (by omega)),aa afg,aa (afi (by omega)),aa afg,aa (bI (by omega) (by omega) (by omega) (by omega)),aa afg,aa afg,afo];obtain⟨tail,htail⟩:∃ tail,tail=(ae X++[(0:Int),0]).drop (lx+1):=⟨_,rfl⟩
 have htw:InWq tail:=by
  rw[htail];refine InWq.drop (λz hz=>?_) _;rcases List.mem_append.1 hz with h | h
  ·exact bb X z h
  ·simp only[agJ,aho,or_false,or_self]at h; subst h; omega
 have htlen:tail.length<=2:=by rw[htail,agZ,ebl]; omega
 have hstart:ae X++[(0:Int),0]=dlq X M++(dlq (X / 18446744073709551616 ^ M%V) (n+2)++(List.replicate 0 0++tail)):=by
  have hXM:X / 18446744073709551616 ^ M<V:=by
   rw[afs (bf M),hX,hV];have h1:x*2 ^ s<18446744073709551616 ^ lx*2 ^ s:=af2 hxlt hs0;have h2:18446744073709551616 ^ lx=18446744073709551616 ^ (n+1)*18446744073709551616 ^ M:=by rw[<- afx]; congr 1; omega
   have h3:=afm (18446744073709551616 ^ M*2 ^ s) hylo;rw[h2,aft]at h1;have e:y*2 ^ s*18446744073709551616 ^ M=y*(18446744073709551616 ^ M*2 ^ s):=by rw[aft,afn (2 ^ s)]
   rw[e]; omega
  rw[afu hXM,afX,aga,<- afC,<- Cz,<- hM];rw[htail];have hpad:(ae X++[(0:Int),0]).take (lx+1)=dlq X (lx+1):=by
   have:ae X++[(0:Int),0]=dlq X ((ae X).length+2):=by rw[DA (jG X) 2,Fq]; rfl
   rw[this,sy X (by omega)]
  rw[<- hpad,ah1]
 rw[hstart];have hQlt:X / V<18446744073709551616 ^ M:=by
  rw[afs hV0];have h1:x*2 ^ s<18446744073709551616 ^ lx*2 ^ s:=af2 hxlt hs0;have h2:18446744073709551616 ^ lx=18446744073709551616 ^ M*18446744073709551616 ^ (n+1):=by rw[<- afx]; congr 1; omega
  have h3:=afq (18446744073709551616 ^ M) (afm (2 ^ s) hylo);rw[hX,hV];rw[h2,aft]at h1;omega
 have hmk:M<=1099511627001:=by omega
 refine aJ (λi=>((M:Int) - 1 - (i:Int),dlq X (M - i)++(dlq (X / 18446744073709551616 ^ (M - i)%V) (n+2)++(List.replicate i 0++tail)),List.replicate (M - i) (0:Int)++(dlq (X / V) M).drop (M - i))) M ?_ (by omega) (λi hi K=>?_) (λK=>?_)
 ·rw[aht,af6 (by rw[ak]; omega),afU];congr 1;omega
 ·obtain⟨j,hj⟩:∃ j,M - i=j+1:=⟨M - i - 1,by omega⟩
  have hj2:M - (i+1)=j:=by omega
  have ei:(M:Int) - 1 - (i:Int)=(j:Int):=by omega
  have ei2:(M:Int) - 1 - ((i+1:Nat):Int)=(j:Int) - 1:=by omega
  rw[hj,hj2,ei,ei2];obtain⟨A,hA⟩:∃ A,A=X / 18446744073709551616 ^ j:=⟨_,rfl⟩
  have hA1:X / 18446744073709551616 ^ (j+1)=A / 18446744073709551616:=by rw[hA,afv,afr]
  obtain⟨n1,n2⟩:=Df (A:=A) hV0;obtain⟨R,hR⟩:∃ R,R=A / 18446744073709551616%V:=⟨_,rfl⟩
  have hRV:R<V:=by rw[hR]; exact afA _ hV0
  rw[hA1,<- hR];rw[<- hR]at n1 n2;obtain⟨b,hb⟩:∃ b,b=dlq X (j+1)++(dlq R (n+2)++(List.replicate i 0++tail)):=⟨_,rfl⟩
  have hblen:b.length=j+1+(n+2)+i+tail.length:=by rw[hb]; simp[ak]; omega
  have hbw:InWq b:=by
   rw[hb];intro z hz;rcases List.mem_append.1 hz with h | h
   ·exact gQ _ _ z h
   ·rcases List.mem_append.1 h with h | h
    ·exact gQ _ _ z h
    ·rcases List.mem_append.1 h with h | h
     ·have:=(List.mem_replicate.1 h).2; subst this; omega
     ·exact htw z h
  have hbt:b.take j=dlq X j:=by rw[hb,agn (by rw[ak]; omega),sy X (by omega)]
  have hbd:b.drop j=((A%18446744073709551616:Nat):Int)::(dlq R (n+2)++(List.replicate i 0++tail)):=by rw[hb,dlq,afC,agm (by rw[ak]; omega),af6 (by rw[ak]; omega),aga,hA];rfl
  have hwv:ar ((b.drop j).take (n+2+1))=R*18446744073709551616+A%18446744073709551616:=by rw[hbd,aib,agn (by rw[ak]; omega),afH (by rw[ak]; omega),ar,pV,afu (ag0 hRV hVlt),afo];omega
  have hbd2:b.drop (j+(n+2+1))=List.replicate i 0++tail:=by rw[<- List.drop_drop,hbd,List.drop_succ_cons,agm (by rw[ak]; omega),af6 (by rw[ak]; omega),aga]
  have hcv:ar ((dlq V (n+2+1)).take (n+2))=V:=by rw[sy V (by omega),pV,afu hVlt]
  have hctop:0<((dlq V (n+2+1)).getD (n+2 - 1) 0).toNat:=by
   rw[sw V (by omega),afo,show n+2 - 1=n+1 by omega,afu]
   ·exact ahL hVge (bf _)
   ·rw[afs (bf _),afn,<- afv]; exact hVlt
  have hAm:A%18446744073709551616<18446744073709551616:=afA _ (by decide);have hstep:=λkk=>Ph hN (o:=j) (n:=n+2) (b:=b) (c:=dlq V (n+2+1)) (by omega) hbw (gQ _ _) (by rw[ak]; omega) (by omega) (by omega) hctop (by rw[hwv,hcv];have:=afm 18446744073709551616 hRV;rw[agS]at this;omega) kk
  rw[hwv,hcv,n1,n2,hbt,hbd2]at hstep;have hnext:dlq X j++(dlq (A%V) (n+2+1)++(List.replicate i 0++tail))=dlq X j++(dlq (A%V) (n+2)++(List.replicate (i+1) 0++tail)):=by rw[DA (ag0 (afA A hV0) hVlt) 1,afC,af5];rfl
  have hdg:X / V / 18446744073709551616 ^ j%18446744073709551616=A / V%18446744073709551616:=by rw[hA,afr,afr,afn V]
  have ej:0+Int.toNat (j:Int)=j:=by omega
  have ej2:Int.toNat ((j:Int)+((n+2:Nat):Int)+1) - Int.toNat (j:Int)=n+2+1:=by omega
  rw[<- hb];simp only[BI,ej,ej2];rw[afi (by omega:(j:Int)>=0),afl,aa afg,aa afg,aa (afi (by omega))];rw[hstep];have hql:(List.replicate (j+1) (0:Int)++(dlq (X / V) M).drop (j+1)).length=M:=by simp[ak]; omega
  rw[hql,aa afh,aa (afi (by omega)),aa afg,afo,<- hdg,JT _ _ _ (by omega),hnext,<- hA]
 ·simp only[BI];have e0:(M:Int) - 1 - (M:Int) = -1:=by omega
  rw[e0,afj (by omega),afk,afT,ag7,ag_,afX,aga,agN];obtain⟨L,hL⟩:∃ L,L=dlq X 0++(dlq (X%V) (n+2)++(List.replicate M 0++tail)):=⟨_,rfl⟩
  have hRlt:X%V<18446744073709551616 ^ (n+2):=ag0 (afA _ hV0) hVlt;have hLt:L.take (lx+1)=dlq (X%V) (n+2)++List.replicate M 0:=by rw[hL,hM,show dlq X 0=[] from rfl,aga,<- afC,agn (by simp[ak]; omega),afH (by simp[ak]; omega)]
  have hLw:InWq L:=by
   rw[hL];intro z hz;rcases List.mem_append.1 hz with h | h
   ·cases h
   ·rcases List.mem_append.1 h with h | h
    ·exact gQ _ _ z h
    ·rcases List.mem_append.1 h with h | h
     ·have:=(List.mem_replicate.1 h).2; subst this; omega
     ·exact htw z h
  have hLlen:lx+1<=L.length:=by rw[hL]; simp[ak]; omega
  rw[<- hL];unfold Nx;rw[Ii L (lx+1) hLlen (by omega) (by omega)];have hcl:=jX L (lx+1);obtain⟨lost,hlost⟩:=Gd (N:=N) L hLw (bZ L (lx+1)) s (by omega) g1 (by omega) (by omega);rw[hlost,qv,hLt,LP,pV,afu hRlt];have:=kA (N:=N) (dlq (X / V) M) (gQ _ _) (by rw[ak]; omega) (by rw[ak]; omega) (λz=>k z (ae (X%V / 2 ^ s)));rw[this,mi hQlt,hX,hV,ah2 _ _ hs0,ah3,ag8 _ hs0]
theorem kB {N:Nat} (hN:1180591620717411303424<=N) {x y:Nat} (hy:0<y) (hxl:(ae x).length<=1099511627000) (hyl:(ae y).length<=1099511627000) (k:Kz0) :
  Bv N (ae x) (ae y) k=k (ae (x / y)) (ae (x%y)):=by
 by_cases hxy:y<=x
 ·by_cases h2:2<=(ae y).length
  ·exact wX hN hxy h2 hxl k
  ·have hylt:=jG y;have hl1:(ae y).length=1:=by rw[b_ (by omega)]at h2 ⊢; simp at h2 ⊢; exact h2
   rw[hl1,aik]at hylt;have hd:=qy (by omega:y ≠ 0) hylt;have hc:decide (dM x y<0)=false:=by unfold dM; rw[if_neg (by omega)]; split <;> rfl
   (unfold Bv; rw[ac]; unfold Nr)
   rw[iW x y ⟨by omega,by omega⟩ ⟨by omega,by omega⟩,hc,afk,hd];show cond (((1:Nat):Int)==1) _ _=_;rw[show(((1:Nat):Int)==1)=true from rfl,afl,aa (ai (by omega) (by simp))];show oV N (ae x) (y:Int) _=_;have hm:x%y<18446744073709551616:=ag0 (afA _ hy) hylt;rw[LA (by omega) hy hylt ⟨by omega,by omega⟩,um (by omega) _ hm]
 ·have hc:decide (dM x y<0)=true:=by unfold dM; rw[if_pos (by omega)]; rfl
  (unfold Bv; rw[ac]; unfold Nr)
  rw[iW x y ⟨by omega,by omega⟩ ⟨by omega,by omega⟩,hc,afl,xY _ (by omega),afO (by omega),afu (by omega),bw]
theorem zt:∀ n,n ≠ 0->bl n=64*((ae n).length - 1)+bl ((ae n).getD ((ae n).length - 1) 0).toNat/\0<(ae n).length:=by
 intro n;induction n using Nat.strongRecOn with
 | ind n ih=>
  intro h;rw[b_ h];by_cases h1:n / 18446744073709551616=0
  ·rw[h1,bw];have:n%18446744073709551616=n:=afu (by omega);simp[this]
  ·obtain⟨i1,i2⟩:=ih (n / 18446744073709551616) (by omega) h1;have e:=me (n:=n) 64 (by rw[oc]; omega);rw[oc]at e;refine⟨?_,by simp⟩;have e2:(((n%18446744073709551616:Nat):Int)::ae (n / 18446744073709551616)).getD ((((n%18446744073709551616:Nat):Int)::ae (n / 18446744073709551616)).length - 1) 0=(ae (n / 18446744073709551616)).getD ((ae (n / 18446744073709551616)).length - 1) 0:=by
    simp only[afW,ahO];generalize ae (n / 18446744073709551616)=l at i2 ⊢;cases l with
    | nil=>simp at i2
    | cons y l=>simp
   rw[e2,e,i1];simp only[afW];omega
theorem FZ {N:Nat} {n:Nat} (hs:(ae n).length<=1099511627776) (k:Kz2):qY N (ae n) k=k (bl n:Int):=by
 (unfold qY; rw[ac]; unfold qe)
 by_cases h:n=0
 ·subst h; rw[bw]; rfl
 ·obtain⟨e1,e2⟩:=zt n h;have e0:(((ae n).length:Int)==0)=false:=by simp; intro h'; rw[h']at e2; simp at e2
  have e3:Int.toNat (((ae n).length:Int) - 1)=(ae n).length - 1:=by omega
  have hw:=(bb n).at (i:=(ae n).length - 1);have e4:(ae n).getD ((ae n).length - 1) 0=((((ae n).getD ((ae n).length - 1) 0).toNat:Nat):Int):=by omega
  have hb:=wJ (n:=((ae n).getD ((ae n).length - 1) 0).toNat) (j:=64) (by rw[oc]; omega);rw[e0,afk,aa afg,aa afg,aa afg,aa afh,e3,e4,AX N (by omega),aa afg,e1];congr 1;omega
theorem JG {N:Nat} {x f:Nat} (hf:f<140737488355328) (k:Kz2):uD N (ae x) (f:Int) k=k ((x / 2 ^ f%18446744073709551616:Nat):Int):=by
 (unfold uD; rw[ac]; unfold xy)
 have e1:Int.tdiv (f:Int) 64=((f / 64:Nat):Int):=by rw[ago (by omega)]; rfl
 have e2:IntKind.wrap .u64 (Int.tmod (f:Int) 64)=((f%64:Nat):Int):=by rw[am,age (by omega)]; omega
 have e3:min (f%64) 64=f%64:=by omega
 have e4:min (Int.toNat (IntKind.wrap .u64 (64 - ((f%64:Nat):Int)))) 64=64 - f%64:=by rw[am]; omega
 have e5:((f / 64:Nat):Int)+1=((f / 64+1:Nat):Int):=by omega
 have hx:=(bb x).at (i:=f / 64);have hy:=(bb x).at (i:=f / 64+1);have ex:(ae x).getD (f / 64) 0=((((ae x).getD (f / 64) 0).toNat:Nat):Int):=by omega
 have ey:(ae x).getD (f / 64+1) 0=((((ae x).getD (f / 64+1) 0).toNat:Nat):Int):=by omega
 rw[e1,e2,e5,aa afg,nA N _ (f / 64) (by omega),aa (afi (by omega)),aa afg,nA N _ (f / 64+1) (by omega),aa (afi (by rw[am]; omega)),afo,e3,e4,ex,ey,Dk (by omega) (by omega) (by omega)];obtain⟨R,hR⟩:=An (bb x) (f / 64);rw[aF]at hR;have hp:2 ^ f=18446744073709551616 ^ (f / 64)*2 ^ (f%64):=D7 f;have hs0:0<2 ^ (f%64):=afy _;rw[hp,<- afr,hR];have e6:18446744073709551616*18446744073709551616*R=2 ^ (f%64)*(18446744073709551616*(2 ^ (64 - f%64)*R)):=by
  have hs1:2 ^ (f%64)*2 ^ (64 - f%64)=18446744073709551616:=by rw[<- afx,show f%64+(64 - f%64)=64 by omega]
  rw[afP (2 ^ (f%64)),<- aft (2 ^ (f%64)),hs1,aft]
 rw[e6,agh _ _ hs0,agC]
theorem Gb {N:Nat} {x d e:Nat} (hd:d<18446744073709551616) (he:e<18446744073709551616) (hs:lC N (ae x)) (k:Kz6):va N (ae x) (d:Int) (e:Int) k=k (ae (x*d+e)):=by
 (unfold va; rw[ac]; unfold M_)
 obtain⟨s1,s2⟩:=hs;obtain⟨L,hL⟩:∃ L,(ae x).length=L:=⟨_,rfl⟩
 have hx:=jG x;rw[hL]at hx;have eL:Int.toNat ((L:Int)+1)=L+1:=by omega
 rw[hL,aa afg,aa (bI (by omega) (by omega) (by omega) (by omega)),eL];obtain⟨m,hm⟩:∃ m,m=ae x:=⟨_,rfl⟩
 have hmw:InWq m:=by rw[hm]; exact bb x
 have hmv:ar m=x:=by rw[hm]; exact aF x
 have hml:m.length=L:=by rw[hm]; exact hL
 rw[<- hm];obtain⟨S,hS⟩:∃ S,S=x*d+e:=⟨_,rfl⟩
 rw[<- hS];refine aJ (λi=>((((ar (m.take i)*d+e) / 18446744073709551616 ^ i:Nat):Int),(i:Int),dlq S i++List.replicate (L+1 - i) 0)) L (by simp[ar,dlq]) (by omega) (λi hi K=>?_) (λK=>?_)
 ·have hz:=hmw.at (i:=i);have hp:=bf i;have hXi:=aU hmw i;have hcv:=aN (m:=m) i;obtain⟨cy,hcy⟩:∃ cy,cy=(ar (m.take i)*d+e) / 18446744073709551616 ^ i:=⟨_,rfl⟩
  have e1:ar (m.take (i+1))*d+e=(ar (m.take i)*d+e)+18446744073709551616 ^ i*((m.getD i 0).toNat*d):=by rw[hcv,afM,aft]; omega
  have hcyl:cy<18446744073709551616:=by
   rw[hcy,afs hp];have:=af7 (ahE hXi) (ahE hd);have h1:1<=18446744073709551616 ^ i:=hp;have h2:(18446744073709551616 ^ i - 1)*(18446744073709551616 - 1)+18446744073709551615=18446744073709551616 ^ i*18446744073709551615:=by
    obtain⟨P,hP⟩:∃ P,18446744073709551616 ^ i=P+1:=⟨18446744073709551616 ^ i - 1,by omega⟩
    rw[hP]; omega
   omega
  have ecy:(ar (m.take (i+1))*d+e) / 18446744073709551616 ^ (i+1)=((m.getD i 0).toNat*d+0+cy) / 18446744073709551616:=by rw[afv,<- afr,e1,dc,<- hcy];congr 1; omega
  obtain⟨R,hR⟩:=bL m (i+1);have elo:S / 18446744073709551616 ^ i%18446744073709551616=((m.getD i 0).toNat*d+0+cy)%18446744073709551616:=by
   have:S=(ar (m.take (i+1))*d+e)+18446744073709551616 ^ (i+1)*(R*d):=by rw[hS,<- hmv,hR,afM,aft]; omega
   rw[iS this,e1,dc,<- hcy];congr 1; omega
  have hset:=ub S i (L+1) (by omega);have hl:(dlq S i++List.replicate (L+1 - i) (0:Int)).length=L+1:=by simp[ak]; omega
  simp only[l7,afo];rw[afi (by omega:(i:Int)<(L:Int)),afl,hml,aa afh,<- hcy,A4 N (c:=0) (a:=(m.getD i 0).toNat) (b:=d) (e:=0) (f:=cy) (by omega) rfl rfl rfl (by omega) hd (by omega) hcyl,hl,aa afh,aa (afi (by omega)),aa afg,<- elo,<- ecy,hset,kG]
 ·simp only[l7];have hl:(dlq S L++List.replicate (L+1 - L) (0:Int)).length=L+1:=by simp[ak]
  have hSl:S<18446744073709551616 ^ (L+1):=by
   rw[hS,afv];have h1:=af7 (ahE hx) (ahE hd);obtain⟨P,hP⟩:∃ P,18446744073709551616 ^ L=P+1:=⟨18446744073709551616 ^ L - 1,by have:=bf L; omega⟩
   rw[hP]at h1 ⊢;omega
  have ee:(ar (m.take L)*d+e) / 18446744073709551616 ^ L=S / 18446744073709551616 ^ L%18446744073709551616:=by rw[afH (by omega),hmv,<- hS,afu];rw[afs (bf L),afn,<- afv]; exact hSl
  rw[afj (by omega:¬(L:Int)<(L:Int)),afk,hl,ee,afo,ub S L (L+1) (by omega),aa afh,aa (afi (by omega)),afT,afX,afU,kA _ (gQ _ _) (by rw[ak]; omega) (by rw[ak]; omega),mi hSl]
def zY (x0 y0 a b c d:Nat) (odd:Bool):Prop:=
 ∃ p q,x0=d*p+b*q/\y0=c*p+a*q/\(cond odd (b*c=a*d+1) (a*d=b*c+1))/\a<=b/\c<=d/\d<=q/\q+b+d<=p/\1<=b/\1<=c/\b<18446744073709551616/\d<18446744073709551616
theorem IV {N:Nat} {x0 y0:Nat} (hx0:x0<18446744073709551616) (hy0:y0<18446744073709551616) (t1 t2 t3 t4:Int) (t5:Bool) :
  ∀ y x u v a b c d odd M,y<M->y<=x->x0=v*x+d*y->y0=u*x+c*y->(cond odd (c*v=d*u+1) (d*u=c*v+1))->1<=v ->
   ((d=0/\u=0/\b=0/\c=1/\v=1)\/(1<=u/\c<=d/\u<=v/\(b=0\/zY x0 y0 a b c d odd))) ->
   ∃ a' b' c' d':Nat,∃ odd',(b'=0\/zY x0 y0 a' b' c' d' odd') /\ ∀ e0,ah M (oj N t1 t2 t3 t4 t5 e0) ((x:Int),(y:Int),(u:Int),(v:Int),(a:Int),(b:Int),(c:Int),(d:Int),odd)=e0 (a':Int) (b':Int) (c':Int) (d':Int) odd':=by
 intro y;induction y using Nat.strongRecOn with
 | ind y ih=>
 intro x u v a b c d odd M hM hyx h1 h2 hdet hv hor;obtain⟨M,rfl⟩:∃ m,M=m+1:=⟨M - 1,by omega⟩
 have hend:b=0\/zY x0 y0 a b c d odd:=by
  rcases hor with h | h
  ·exact .inl h.2.2.1
  ·exact h.2.2.2
 by_cases c1:v<=y
 ·have hy1:1<=y:=by omega
  have b1:v*1<=v*x:=afq _ (by omega);have b2:d*1<=d*y:=afq _ hy1;have w1:IntKind.wrap .u64 ((x:Int) - (y:Int))=((x - y:Nat):Int):=by have:1*x<=v*x:=afm _ hv;rw[am]; omega
  have w2:IntKind.wrap .u64 ((d:Int)+(v:Int))=((d+v:Nat):Int):=by rw[am]; omega
  by_cases c2:d+v<=x - y
  ·-- one step more
   obtain⟨q,hq⟩:∃ q,q=x / y:=⟨_,rfl⟩
   obtain⟨r,hr⟩:∃ r,r=x%y:=⟨_,rfl⟩
   have hxq:x=q*y+r:=by rw[hq,hr]; exact(agi x y).symm
   have hry:r<y:=by rw[hr]; exact afA _ hy1
   have hq1:1<=q:=by rw[hq]; exact ahL hyx hy1
   have n1:x0=(d+q*v)*y+v*r:=by rw[h1,hxq]; grind
   have n2:y0=(c+q*u)*y+u*r:=by rw[h2,hxq]; grind
   have m1:(d+q*v)*1<=(d+q*v)*y:=afq _ hy1;have m2:(c+q*u)*1<=(c+q*u)*y:=afq _ hy1;have hvq:v<=d+q*v:=by have:=afm v hq1;omega
   have hg:∀(e0:Int->Int->Int->Int->Bool->Bool),ah (M+1) (oj N t1 t2 t3 t4 t5 e0) ((x:Int),(y:Int),(u:Int),(v:Int),(a:Int),(b:Int),(c:Int),(d:Int),odd)=ah M (oj N t1 t2 t3 t4 t5 e0) ((y:Int),(r:Int),((c+q*u:Nat):Int),((d+q*v:Nat):Int),(c:Int),(d:Int),(u:Int),(v:Int),!odd):=by
    intro e0;show oj N t1 t2 t3 t4 t5 e0 _ (ah M _)=_;simp only[oj];have y1:(!decide ((y:Int)=0))=true:=by simp; omega
    have ediv:Int.tdiv (x:Int) (y:Int)=(q:Int):=by rw[hq]; rfl
    have emod:Int.tmod (x:Int) (y:Int)=(r:Int):=by rw[hr]; rfl
    have wq:IntKind.wrap .u64 (q:Int)=(q:Int):=by have:q*1<=q*v:=afq _ hv;rw[am]; omega
    have wu:IntKind.wrap .u64 ((c:Int)+IntKind.wrap .u64 ((q:Int)*(u:Int)))=((c+q*u:Nat):Int):=by rw[<- afF,am,am]; omega
    have wv:IntKind.wrap .u64 ((d:Int)+IntKind.wrap .u64 ((q:Int)*(v:Int)))=((d+q*v:Nat):Int):=by rw[<- afF,am,am]; omega
    rw[afi (by omega:(y:Int)>=v),show(true==true)=true from rfl,afl,w1,w2,afi (by omega),afl,aa y1,aa y1,ediv,emod,wq,wu,wv]
   have hstep:=ih r hry y (c+q*u) (d+q*v) c d u v (!odd) M (by omega) (by omega) n1 n2 (by
    cases odd with
    | true=>
     simp only[afl,agd,afk]at hdet ⊢;have:v*(c+q*u)=v*c+q*u*v:=by grind
     have:u*(d+q*v)=u*d+q*u*v:=by grind
     have:c*v=v*c:=afn _ _;have:d*u=u*d:=afn _ _;omega
    | false=>
     simp only[afl,af1,afk]at hdet ⊢;have:u*(d+q*v)=u*d+q*u*v:=by grind
     have:v*(c+q*u)=v*c+q*u*v:=by grind
     have:c*v=v*c:=afn _ _;have:d*u=u*d:=afn _ _;omega) (by omega) (by
    refine .inr ?_;rcases hor with⟨k1,k2,k3,k4,k5⟩ | ⟨k1,k2,k3,k4⟩
    ·subst k1 k2 k4 k5;exact⟨by omega,by omega,by omega,.inl rfl⟩
    ·have hu1:u<=c+q*u:=by have:=afm u hq1;omega
     refine⟨by omega,k3,?_,?_⟩
     ·have:=afq q k3;omega
     ·rcases agH d with hd0 | hd0
      ·exact .inl hd0
      ·refine .inr ⟨x,y,h1,h2,?_,k2,k3,c1,by omega,hd0,k1,by omega,by omega⟩;cases odd with
       | true=>simp only[agd,afk,afl]at hdet ⊢; exact hdet
       | false=>simp only[af1,afl,afk]at hdet ⊢; exact hdet)
   obtain⟨a',b',c',d',odd',g1,g2⟩:=hstep;exact⟨a',b',c',d',odd',g1,λe0=>by rw[hg,g2]⟩
  ·refine⟨a,b,c,d,odd,hend,λe0=>?_⟩;show oj N t1 t2 t3 t4 t5 e0 _ (ah M _)=_;simp only[oj];rw[afi (by omega:(y:Int)>=v),show(true==true)=true from rfl,afl,w1,w2,afj (by omega),afk]
 ·refine⟨a,b,c,d,odd,hend,λe0=>?_⟩;show oj N t1 t2 t3 t4 t5 e0 _ (ah M _)=_;simp only[oj];rw[afj (by omega:¬(y:Int)>=v),show(false==true)=false from rfl,afk]
theorem LB {N:Nat} (hN:1180591620717411303424<=N) {x0 y0:Nat} (hx0:x0<18446744073709551616) (hyx:y0<=x0):∃ a b c d:Nat,∃ odd,(b=0\/zY x0 y0 a b c d odd) /\ ∀ k,tg N (x0:Int) (y0:Int) k=k (a:Int) (b:Int) (c:Int) (d:Int) odd:=by obtain⟨a,b,c,d,odd,h1,h2⟩:=IV (N:=N) (x0:=x0) (y0:=y0) hx0 (by omega) 0 0 0 0 false y0 x0 0 1 0 0 1 0 true N (by omega) hyx (by omega) (by omega) rfl (afw _) (.inl ⟨rfl,rfl,rfl,rfl,rfl⟩);exact⟨a,b,c,d,odd,h1,λk=>by unfold tg; rw[ac]; exact h2 _⟩
theorem Kx {x0 y0 a b c d F rx ry X Y:Nat} (h:zY x0 y0 a b c d true) (hrx:rx<F) (hry:ry<F) (hX:X=x0*F+rx) (hY:Y=y0*F+ry) :
  a*X<=b*Y/\d*Y<=c*X/\c*X - d*Y<=b*Y - a*X/\X=d*(b*Y - a*X)+b*(c*X - d*Y)/\Y=c*(b*Y - a*X)+a*(c*X - d*Y):=by
 obtain⟨p,q,h1,h2,hdet,hab,hcd,hdq,hpq,hb1,hc1,hbl,hdl⟩:=h;simp only[afl]at hdet;have e1:b*Y+a*rx=a*X+(p*F+b*ry):=by
  subst h1 h2 hX hY;have:b*(c*p*F)=(a*d+1)*(p*F):=by rw[<- hdet]; grind
  grind
 have e2:c*X+d*ry=d*Y+(q*F+c*rx):=by
  subst h1 h2 hX hY;have:b*c*(q*F)=(a*d+1)*(q*F):=by rw[<- hdet]
  grind
 have m1:a*rx<=a*F:=afq _ (by omega);have m2:a*F<=b*F:=afm _ hab;have m3:d*ry<=d*F:=afq _ (by omega);have m4:d*F<=q*F:=afm _ hdq;have m5:(q+b+d)*F<=p*F:=afm _ hpq;rw[afM,afM]at m5;have m6:c*rx<=c*F:=afq _ (by omega);have m7:c*F<=d*F:=afm _ hcd;have g1:a*X<=b*Y:=by omega
 have g2:d*Y<=c*X:=by omega
 refine⟨g1,g2,by omega,?_,?_⟩
 ·obtain⟨U,hU⟩:=ag5 g1;obtain⟨V,hV⟩:=ag5 g2;rw[<- hU,<- hV,afZ,afZ];have t1:d*(b*Y)=d*(a*X)+d*U:=by rw[<- hU,afB]
  have t2:b*(c*X)=b*(d*Y)+b*V:=by rw[<- hV,afB]
  have t3:b*(c*X)=(a*d+1)*X:=by rw[<- hdet,aft]
  have t4:(a*d+1)*X=d*(a*X)+X:=by grind
  have t5:d*(b*Y)=b*(d*Y):=by grind
  omega
 ·obtain⟨U,hU⟩:=ag5 g1;obtain⟨V,hV⟩:=ag5 g2;rw[<- hU,<- hV,afZ,afZ];have t1:c*(b*Y)=c*(a*X)+c*U:=by rw[<- hU,afB]
  have t2:a*(c*X)=a*(d*Y)+a*V:=by rw[<- hV,afB]
  have t3:c*(b*Y)=(a*d+1)*Y:=by rw[<- hdet]; grind
  have t4:(a*d+1)*Y=a*(d*Y)+Y:=by grind
  have t5:c*(a*X)=a*(c*X):=by grind
  omega
theorem Hq {x0 y0 a b c d F rx ry X Y:Nat} (h:zY x0 y0 a b c d false) (hrx:rx<F) (hry:ry<F) (hX:X=x0*F+rx) (hY:Y=y0*F+ry) :
  b*Y<=a*X/\c*X<=d*Y/\d*Y - c*X<=a*X - b*Y/\X=d*(a*X - b*Y)+b*(d*Y - c*X)/\Y=c*(a*X - b*Y)+a*(d*Y - c*X):=by
 obtain⟨p,q,h1,h2,hdet,hab,hcd,hdq,hpq,hb1,hc1,hbl,hdl⟩:=h;simp only[afk]at hdet;have e1:a*X+b*ry=b*Y+(p*F+a*rx):=by
  subst h1 h2 hX hY;have:a*d*(p*F)=(b*c+1)*(p*F):=by rw[<- hdet]
  grind
 have e2:d*Y+c*rx=c*X+(q*F+d*ry):=by
  subst h1 h2 hX hY;have:a*d*(q*F)=(b*c+1)*(q*F):=by rw[<- hdet]
  grind
 have m1:b*ry<=b*F:=afq _ (by omega);have m3:c*rx<=c*F:=afq _ (by omega);have m4:d*F<=q*F:=afm _ hdq;have m5:(q+b+d)*F<=p*F:=afm _ hpq;rw[afM,afM]at m5;have m6:d*ry<=d*F:=afq _ (by omega);have m7:c*F<=d*F:=afm _ hcd;have g1:b*Y<=a*X:=by omega
 have g2:c*X<=d*Y:=by omega
 refine⟨g1,g2,by omega,?_,?_⟩
 ·obtain⟨U,hU⟩:=ag5 g1;obtain⟨V,hV⟩:=ag5 g2;rw[<- hU,<- hV,afZ,afZ];have t1:d*(a*X)=d*(b*Y)+d*U:=by rw[<- hU,afB]
  have t2:b*(d*Y)=b*(c*X)+b*V:=by rw[<- hV,afB]
  have t3:d*(a*X)=(b*c+1)*X:=by rw[<- hdet]; grind
  have t4:(b*c+1)*X=b*(c*X)+X:=by grind
  have t5:d*(b*Y)=b*(d*Y):=by grind
  omega
 ·obtain⟨U,hU⟩:=ag5 g1;obtain⟨V,hV⟩:=ag5 g2;rw[<- hU,<- hV,afZ,afZ];have t1:c*(a*X)=c*(b*Y)+c*U:=by rw[<- hU,afB]
  have t2:a*(d*Y)=a*(c*X)+a*V:=by rw[<- hV,afB]
  have t3:a*(d*Y)=(b*c+1)*Y:=by rw[<- hdet]; grind
  have t4:(b*c+1)*Y=c*(b*Y)+Y:=by grind
  have t5:c*(a*X)=a*(c*X):=by grind
  omega
theorem wO {X Y U V a b c d:Nat} (h1:X=d*U+b*V) (h2:Y=c*U+a*V) (hU:Nat.gcd X Y∣U) (hV:Nat.gcd X Y∣V):Nat.gcd U V=Nat.gcd X Y:=by
 refine Nat.dvd_antisymm (Nat.dvd_gcd ?_ ?_) (Nat.dvd_gcd hU hV)
 ·rw[h1];exact Nat.dvd_add (afJ (agc _ _) _) (afJ (agx _ _) _)
 ·rw[h2];exact Nat.dvd_add (afJ (agc _ _) _) (afJ (agx _ _) _)
theorem Ll {N:Nat} {x0 y0 a b c d F rx ry X Y:Nat} {odd:Bool} (h:zY x0 y0 a b c d odd) (hrx:rx<F) (hry:ry<F) (hX:X=x0*F+rx) (hY:Y=y0*F+ry) (hY0:0<Y) (sX:(ae X).length+10<N/\(ae X).length<=1099511627000) (sY:(ae Y).length+10<N/\(ae Y).length<=1099511627000) :
  ∃ U V,V<=U/\U+V<X+Y/\U<=X/\Nat.gcd U V=Nat.gcd X Y /\ ∀ k,eV N (a:Int) (b:Int) (c:Int) (d:Int) odd (ae X) (ae Y) k=k (ae U) (ae V):=by
 have hb:=h;obtain⟨p,q,h1,h2,hdet,hab,hcd,hdq,hpq,hb1,hc1,hbl,hdl⟩:=hb;have len1:∀ z e:Nat,(ae z).length+10<N/\(ae z).length<=1099511627000->e<18446744073709551616->lC N (ae (z*e+0)):=by
  intro z e hz he;have:=gd ((ae z).length+1) (z*e+0) (by rw[afR,afv]; exact agp (jG z) he)
  exact⟨by omega,by omega⟩
 have fin:∀ U V:Nat,X=d*U+b*V->Y=c*U+a*V->V<=U->U+V<X+Y/\U<=X:=by
  intro U V hx hy hvu;have k1:1*U<=d*U:=afm _ (by omega);have k2:1*V<=b*V:=afm _ hb1;have k3:1*U<=c*U:=afm _ hc1;have hU0:0<U:=by
   rcases agH U with hu | hu
   ·exfalso;have hv:V=0:=by omega
    rw[hu,hv,agF,agF]at hy;omega
   ·exact hu
  exact⟨by omega,by omega⟩
 cases odd with
 | true=>
  obtain⟨g1,g2,g3,g4,g5⟩:=Kx h hrx hry hX hY;obtain⟨f1,f2⟩:=fin _ _ g4 g5 g3;refine⟨b*Y - a*X,c*X - d*Y,g3,f1,f2,wO g4 g5 ?_ ?_,λk=>?_⟩
  ·exact ahN (afJ (agx _ _) _) (afJ (agc _ _) _)
  ·exact ahN (afJ (agc _ _) _) (afJ (agx _ _) _)
  ·(unfold eV; rw[ac]; unfold eJ)
   have m:=λ(z e:Nat) (he:e<18446744073709551616) (hz:lC N (ae z)) (kk:List Int->Bool)=>Gb (N:=N) (e:=0) he (by decide) hz kk
   rw[show((0:Nat):Int)=0 from rfl]at m;rw[afl,m Y b hbl ⟨by omega,by omega⟩,m X a (by omega) ⟨by omega,by omega⟩,nz _ _ (bb _) (bb _) (by rw[aF,aF,afR,afR,afn X,afn Y]; exact g1) (len1 Y b sY hbl),m X c (by omega) ⟨by omega,by omega⟩,m Y d hdl ⟨by omega,by omega⟩,nz _ _ (bb _) (bb _) (by rw[aF,aF,afR,afR,afn X,afn Y]; exact g2) (len1 X c sX (by omega)),aF,aF,aF,aF,afR,afR,afR,afR,afn Y b,afn X a,afn X c,afn Y d]
 | false=>
  obtain⟨g1,g2,g3,g4,g5⟩:=Hq h hrx hry hX hY;obtain⟨f1,f2⟩:=fin _ _ g4 g5 g3;refine⟨a*X - b*Y,d*Y - c*X,g3,f1,f2,wO g4 g5 ?_ ?_,λk=>?_⟩
  ·exact ahN (afJ (agc _ _) _) (afJ (agx _ _) _)
  ·exact ahN (afJ (agx _ _) _) (afJ (agc _ _) _)
  ·(unfold eV; rw[ac]; unfold eJ)
   have m:=λ(z e:Nat) (he:e<18446744073709551616) (hz:lC N (ae z)) (kk:List Int->Bool)=>Gb (N:=N) (e:=0) he (by decide) hz kk
   rw[show((0:Nat):Int)=0 from rfl]at m;rw[afk,m X a (by omega) ⟨by omega,by omega⟩,m Y b hbl ⟨by omega,by omega⟩,nz _ _ (bb _) (bb _) (by rw[aF,aF,afR,afR,afn X,afn Y]; exact g1) (len1 X a sX (by omega)),m Y d hdl ⟨by omega,by omega⟩,m X c (by omega) ⟨by omega,by omega⟩,nz _ _ (bb _) (bb _) (by rw[aF,aF,afR,afR,afn X,afn Y]; exact g2) (len1 Y d sY hdl),aF,aF,aF,aF,afR,afR,afR,afR,afn Y b,afn X a,afn X c,afn Y d]
theorem JF (N x:Nat) (k:Kz2):uC N (ae x) k=k ((x%18446744073709551616:Nat):Int):=by unfold uC Ck;have:=nA N (ae x) 0 (by omega) k;rw[show((0:Nat):Int)=0 from rfl]at this;rw[this,nK,ag7,ag_]
theorem Fx {N:Nat} (e0:Int->Bool):∀(b a M:Nat),b<M->ah M (fT N e0) ((a:Int),(b:Int))=e0 ((Nat.gcd a b:Nat):Int):=by
 intro b;induction b using Nat.strongRecOn with
 | ind b ih=>
 intro a M hM;obtain⟨M,rfl⟩:∃ m,M=m+1:=⟨M - 1,by omega⟩
 show fT N e0 ((a:Int),(b:Int)) (ah M _)=_;simp only[fT];by_cases h:b=0
 ·subst h;rw[afj (by omega),afk,ahS]
 ·have y1:(!decide ((b:Int)=0))=true:=by simp; omega
  have emod:Int.tmod (a:Int) (b:Int)=((a%b:Nat):Int):=rfl;rw[afi (by omega),afl,aa y1,emod,ih (a%b) (afA _ (by omega)) b M (by have:=afA a (by omega:b>0); omega),agB b,<- ail,agB]
theorem vO {y:Nat} (h:(ae y).length<=1):y<18446744073709551616:=by have:=jG y;have h2:18446744073709551616 ^ (ae y).length<=18446744073709551616 ^ 1:=afz (by decide) h;rw[aik]at h2;omega
theorem Am {N:Nat} (hN:1180591620717411303424<=N) {u v:List Int} {x y:Nat} (hy:(ae y).length<=1) (hx:y=0\/(ae x).length<=1) (k:Kz6) :
  yz N u v (ae x) (ae y) k=k (ae (Nat.gcd x y)):=by
 unfold yz;have hyl:=vO hy;by_cases h:y=0
 ·subst h;rw[bw,ahS]; rfl
 ·have e0:((((ae y).length:Nat):Int)==0)=false:=by rw[b_ h]; simp; omega
  have hxl:=vO (hx.resolve_left h);rw[e0,afk,JF,JF,afu hxl,afu hyl,Fx _ y x N (by omega)];refine um (by omega) _ ?_ k;have:=ahp x (ahs h);omega
theorem Fp {N:Nat} (hN:1180591620717411303424<=N) {u v:List Int} (k:Kz6) :
  ∀ s x y,x+y=s->s<N->y<=x->(ae x).length<=1099511626000 ->
   Qy N u v (ae x) (ae y) k=k (ae (Nat.gcd x y)):=by
 intro s x y hs hsN hyx hxl;unfold Qy;have main:∀ s x y M,x+y=s->s<M->M<=N->y<=x->(ae x).length<=1099511626000 ->
   ah M (G2 N (λ(Z9:List Int) (y_3:List Int)=>(cond ((decide ((((List.length y_3):Nat):Int)>0))==true) (cond (decide ((((List.length Z9):Nat):Int)>1)) (Bv N Z9 y_3 (λ(ZN:List Int) (ZL:List Int)=>(yz N u v y_3 ZL k))) (yz N u v Z9 y_3 k)) (yz N u v Z9 y_3 k)))) (ae x,ae y)=k (ae (Nat.gcd x y)):=by
  intro s;induction s using Nat.strongRecOn with
  | ind s ih=>
  intro x y M hs hsM hMN hyx hxl;obtain⟨M,rfl⟩:∃ m,M=m+1:=⟨M - 1,by omega⟩
  have hyl:=dC hyx;show G2 N _ (ae x,ae y) (ah M _)=_;simp only[G2];by_cases h2:2<=(ae y).length
  ·have hyge:18446744073709551616<=y:=by
    rcases agb y 18446744073709551616 with h | h
    ·have:=gd 1 y (by rw[aik]; exact h); omega
    ·exact h
   have hblx:64<bl x:=by
    rcases agb 64 (bl x)with h | h
    ·exact h
    ·have h1:=yD x;have h3:2 ^ bl x<=2 ^ 64:=afz (by decide) h;rw[oc]at h3;omega
   have hblu:bl x<=64*(ae x).length:=by refine wJ ?_;rw[aif,oc]; exact jG x
   obtain⟨f,hf⟩:∃ f,bl x=f+64:=⟨bl x - 64,by omega⟩
   have ef:(bl x:Int) - 64=(f:Int):=by omega
   have hF0:0<2 ^ f:=afy f;have hx0l:x / 2 ^ f<18446744073709551616:=by rw[afs hF0,<- oc,<- afx,ahi,<- hf]; exact yD x
   have hy0l:y / 2 ^ f<=x / 2 ^ f:=ahD hyx;rw[afi (by omega),afl,FZ (by omega),ef,aa afg,JG (by omega),JG (by omega),afu hx0l,afu (by omega)];obtain⟨a,b,c,d,odd,g1,g2⟩:=LB hN hx0l hy0l;rw[g2];by_cases hb:b=0
   ·subst hb;rw[show(((0:Nat):Int) != 0)=false from rfl,afk,kB hN (by omega) (by omega) (by omega)];have hm:=afA x (by omega:y>0);rw[ih (y+x%y) (by omega) y (x%y) M rfl (by omega) (by omega) (by omega) (by omega),agB y,<- ail,agB]
   ·have hbn:((b:Int) != 0)=true:=by simp; omega
    rw[hbn,afl];obtain⟨U,V,k1,k2,k3,k4,k5⟩:=Ll (N:=N) (g1.resolve_left hb) (afA x hF0) (afA y hF0) (agi x (2 ^ f)).symm (agi y (2 ^ f)).symm (by omega) ⟨by omega,by omega⟩ ⟨by omega,by omega⟩;have hUl:=dC k3;rw[k5,ih (U+V) (by omega) U V M rfl (by omega) (by omega) k1 (by omega),k4]
  ·rw[afj (by omega),afk];by_cases h0:y=0
   ·have:(((ae y).length:Nat):Int)=0:=by rw[h0,bw]; rfl
    rw[this,afj (by omega),show(false==true)=false from rfl,afk,Am hN (by omega) (.inl h0)]
   ·have hpos:0<(ae y).length:=by rw[b_ h0]; simp
    rw[afi (by omega),show(true==true)=true from rfl,afl];by_cases h1:1<(ae x).length
    ·have hm:=afA x (ahs h0);have hml:=dC (Nat.le_of_lt hm);rw[afi (by omega),afl,kB hN (ahs h0) (by omega) (by omega),Am hN (by omega) (.inr (by omega)),agB y,<- ail,agB]
    ·rw[afj (by omega),afk,Am hN (by omega) (.inr (by omega))]
 exact main s x y N hs hsN (afw _) hyx hxl
theorem F4 {N:Nat} (hN:1180591620717411303424<=N) {x y:Nat} (hf:x+y<N) (hxl:(ae x).length<=1099511626000) (hyl:(ae y).length<=1099511626000) (k:Kz6):Ce N (ae x) (ae y) k=k (ae (Nat.gcd x y)):=by
 (unfold Ce; rw[ac]; unfold TB)
 rw[iW x y ⟨by omega,by omega⟩ ⟨by omega,by omega⟩];by_cases h:x<y
 ·have hc:decide (dM x y<0)=true:=by unfold dM; rw[if_pos h]; rfl
  rw[hc,afl,Fp hN _ (y+x) y x rfl (by omega) (by omega) hyl,agB]
 ·have hc:decide (dM x y<0)=false:=by unfold dM; rw[if_neg h]; split <;> rfl
  rw[hc,afk,Fp hN _ (x+y) x y rfl hf (by omega) hxl]
def Fuel (N:Nat):Prop:=∃ E,4398046511104<=E/\2 ^ E<=N
theorem Fuel.lt {N:Nat} (h:Fuel N):4398046511104<N:=by obtain⟨E,h1,h2⟩:=h;have:E<2 ^ E:=Nat.lt_two_pow_self;omega
theorem Fuel.sum {N C x y:Nat} (h:Fuel N) (hC:C<=4398046511000) (hx:aX C x) (hy:aX C y):x+y<N:=by obtain⟨E,h1,h2⟩:=h;have h3:2 ^ (C+1)<=2 ^ E:=afz (by decide) (by omega);rw[afv]at h3;unfold aX at hx hy;omega
theorem Fuel.big {N:Nat} (h:Fuel N):1180591620717411303424<=N:=by
 obtain⟨E,h1,h2⟩:=h;have h3:2 ^ 70<=2 ^ E:=afz (by decide) (by omega);have e:(2:Nat) ^ 70=1180591620717411303424:=by decide
 rw[e]at h3;exact afG h3 h2
theorem zB {B n:Nat} (hB:B<=2000000000100) (h:aX B n):(ae n).length<=31250000003:=by have:=KD h; omega
def kr (z:Int) (d:Nat) (k:Kx4):Bool:=k (decide (z<0)) (ae z.natAbs) false (ae d)
def kq (x:Rat) (k:Kx4):Bool:=kr x.num x.den k
theorem FN (g:Bool) (n d:Nat) (k:Kx4):k (sg g n) (ae n) false (ae d)=kr (bc g n) d k:=Gw g n (λa b=>k a b false (ae d))
theorem DP {N:Nat} (g:Bool) (n:Nat) (l:List Int) (b1 b2:Bool) (k:Ky1):Ml N g (ae n) l b1 b2 k=k (sg g n) false:=by
 (unfold Ml; rw[ac]; unfold Ts Mj Qu RZ TA)
 cases g
 ·rfl
 ·simp only[pM,sg,agq]; rfl
theorem Lt {N:Nat} (g b:Bool) (n:Nat) (k:Kz1):Ee N g (ae n) b k=k (sg g n):=by
 unfold Ee WJ;cases g
 ·rfl
 ·simp only[pM,sg,agq]; rfl
theorem Q7 (g:Bool) (n:Nat):bc (sg g n) n=bc g n:=by
 unfold bc sg;cases g
 ·rfl
 ·by_cases h:n=0
  ·subst h; rfl
  ·rw[afi h]; rfl
theorem Lv {N:Nat} (g1:Bool) (n1:Nat) (g2:Bool) (n2:Nat) (h1:lC N (ae n1)) (h2:lC N (ae n2)) (k:Ky2) :
  RW N g2 (ae n2) g1 (ae n1) k=sD (bc g1 n1+bc g2 n2) k:=by
 (unfold RW; rw[ac]; unfold Tv)
 rw[OX _ _ (bb _) (bb _) h1 h2,iW _ _ h1 h2,aF,aF,nV g2 _ _ (n1+n2) k,<- IX];congr 1;by_cases h:n2<=n1
 ·rw[nz _ _ (bb _) (bb _) (by rw[aF,aF]; exact h) h1,aF,aF,nV g1 _ _ (n1 - n2) k,tZ,afi h];rfl
 ·rw[nz _ _ (bb n2) (bb n1) (by rw[aF,aF]; omega) h2,aF,aF,nV g2 _ _ (n2 - n1) k,tZ,afj h];rfl
theorem Pa {N:Nat} (hF:Fuel N) {x y:Nat} (hy:0<y) (hxl:(ae x).length<=1099511627000) (hyl:(ae y).length<=1099511627000) (k:Kz6):v8 N (ae x) (ae y) k=k (ae (x / y)):=by
 have hj:ng N (ae x) (ae y) k=k (ae (x / y)):=by unfold ng;rw[kB hF.big hy hxl hyl]
 (unfold v8; rw[ac]; unfold T2)
 by_cases h1:(ae y).length=1
 ·have e:((((ae y).length:Nat):Int)==1)=true:=by rw[h1]; rfl
  rw[e,show(true==true)=true from rfl,afl,aa afh];have hyw:=qy (by omega:y ≠ 0) (vO (by omega));by_cases h2:y=1
  ·have:((ae y).getD 0 0==1)=true:=by rw[hyw,h2]; rfl
   rw[this,afl,h2,ag_]
  ·have:((ae y).getD 0 0==1)=false:=by rw[hyw]; simp; omega
   rw[this,afk,hj]
 ·have e:((((ae y).length:Nat):Int)==1)=false:=by simp; omega
  rw[e,show(false==true)=false from rfl,afk,hj]
theorem gI {N:Nat} (a:Bool) (l:List Int) (b:Bool) {d:Nat} (hd:d ≠ 0) (k:Kz6):Cc N a l b (ae d) k=k (ae d):=by
 unfold Cc WN;have:((((ae d).length:Nat):Int)==0)=false:=by rw[b_ hd]; simp; omega
 rw[this]; rfl
theorem Ge {N:Nat} (a:Bool) (l:List Int) (b:Bool) {d:Nat} (hd:d ≠ 0) (k:Kz6):Wk N a l b (ae d) k=k (ae d):=by
 unfold Wk WX;have:((((ae d).length:Nat):Int)==0)=false:=by rw[b_ hd]; simp; omega
 rw[this]; rfl
theorem ut {N B:Nat} (hF:Fuel N) (hB:B<=2000000000100) {a b:Nat} (ha:aX B a) (hb:aX B b) (k:Kz6):zE N (ae a) (ae b) k=k (ae (a*b)):=by have h1:=zB hB ha;have h2:=zB hB hb;have:=hF.lt;rw[H8 _ _ (bb _) (bb _) (by omega) (by omega),aF,aF]
theorem wW {N B:Nat} (hF:Fuel N) (hB:B<=2000000000100) {a b:Nat} (ha:aX B a) (hb:aX B b) (k:Kz6):Ce N (ae a) (ae b) k=k (ae (Nat.gcd a b)):=by have h1:=zB hB ha;have h2:=zB hB hb;rw[F4 hF.big (hF.sum (by omega) ha hb) (by omega) (by omega)]
theorem oS {N B:Nat} (hF:Fuel N) (hB:B<=2000000000100) {a b:Nat} (h0:0<b) (ha:aX B a) (hb:aX B b) (k:Kz6):v8 N (ae a) (ae b) k=k (ae (a / b)):=by have h1:=zB hB ha;have h2:=zB hB hb;rw[Pa hF h0 (by omega) (by omega)]
theorem qJ {N B:Nat} (hB:B<=2000000000100) {a:Nat} (ha:aX B a) (k:Kz6):rG N (ae a) k=k (ae a):=by have h1:=zB hB ha;rw[xY _ (by omega)]
theorem cd {B a b:Nat} (h:aX B a):aX B (a / b):=lV h (agW _ _)
theorem P3 {N B n:Nat} (hF:Fuel N) (hB:B<=2000000000100) (h:aX B n):lC N (ae n):=by have h1:=zB hB h;have:=hF.lt;exact⟨by omega,by omega⟩
def Bq (B:Nat) (x:Rat):Prop:=aX B x.num.natAbs/\aX B x.den
theorem Bq.mono {A B:Nat} {x:Rat} (h:Bq A x) (hAB:A<=B):Bq B x:=⟨bX h.1 hAB,bX h.2 hAB⟩
theorem sE (z:Int) (f:Nat):bc (decide (z<0)) (z.natAbs*f)=z*f:=by
 unfold bc;by_cases h:z<0
 ·rw[afi h,if_pos rfl];have:(z.natAbs:Int) = -z:=by omega
  rw[afF,this,aiw,Int.neg_neg]
 ·rw[afj h,if_neg (by decide)];have:(z.natAbs:Int)=z:=by omega
  rw[afF,this]
theorem AN {z:Int} {h:Nat} (h0:0<h) (hd:h∣z.natAbs):bc (decide (z<0)) (z.natAbs / h)=z / (h:Int):=by
 obtain⟨q,hq⟩:=hd;rw[hq,afV _ h0];unfold bc;have hh:(h:Int) ≠ 0:=by omega
 by_cases hz:z<0
 ·rw[afi hz,if_pos rfl];have:z=(h:Int)*(-(q:Int)):=by
   have e:(z.natAbs:Int)=(h:Int)*q:=by rw[hq,afF]
   rw[aig,<- e]; omega
  rw[this,ahn _ hh]
 ·rw[afj hz,if_neg (by decide)];have:z=(h:Int)*(q:Int):=by
   have e:(z.natAbs:Int)=(h:Int)*q:=by rw[hq,afF]
   rw[<- e]; omega
  rw[this,ahn _ hh]
theorem NH (x y:Rat):(x+y).num=(x.num*((y.den / Nat.gcd x.den y.den:Nat):Int)+y.num*((x.den / Nat.gcd x.den y.den:Nat):Int)) / ((Nat.gcd (x.num*((y.den / Nat.gcd x.den y.den:Nat):Int)+y.num*((x.den / Nat.gcd x.den y.den:Nat):Int)).natAbs (Nat.gcd x.den y.den):Nat):Int)
  /\ (x+y).den=x.den / Nat.gcd x.den y.den*(y.den / Nat.gcd (x.num*((y.den / Nat.gcd x.den y.den:Nat):Int)+y.num*((x.den / Nat.gcd x.den y.den:Nat):Int)).natAbs (Nat.gcd x.den y.den)):=by
 have aux:=Rat.add.aux x y (g:=Nat.gcd x.den y.den) rfl rfl rfl;simp only at aux;have hx:=x.den_pos;have hy:=y.den_pos;obtain⟨g,hg⟩:∃ g,g=Nat.gcd x.den y.den:=⟨_,rfl⟩
 rw[<- hg]at aux ⊢;have hg0:0<g:=by rw[hg]; exact Nat.gcd_pos_of_pos_left _ hx
 have hgx:g∣x.den:=by rw[hg]; exact agc _ _
 have hgy:g∣y.den:=by rw[hg]; exact agx _ _
 obtain⟨e,he⟩:∃ e,e=x.den / g:=⟨_,rfl⟩
 obtain⟨f,hf⟩:∃ f,f=y.den / g:=⟨_,rfl⟩
 rw[<- he,<- hf]at aux ⊢;have ex:x.den=e*g:=by rw[he,Nat.div_mul_cancel hgx]
 have ey:y.den=f*g:=by rw[hf,Nat.div_mul_cancel hgy]
 obtain⟨n,hn⟩:∃ n,n=x.num*(f:Int)+y.num*(e:Int):=⟨_,rfl⟩
 rw[<- hn]at aux ⊢;have hsum:x+y=mkRat n (e*y.den):=by
  rw[Rat.add_def'];have e1:x.num*(y.den:Int)+y.num*(x.den:Int)=n*(g:Int):=by rw[ex,ey,hn]; simp only[afF]; grind
  have e2:x.den*y.den=e*y.den*g:=by rw[ex]; grind
  rw[e1,e2,Rat.mkRat_mul_right (by omega)]
 have he0:0<e:=by
  rcases agH e with h | h
  ·rw[h,agE]at ex; omega
  ·exact h
 have hd0:e*y.den ≠ 0:=by have:=ahj he0 hy; omega
 have hhy:Nat.gcd n.natAbs g∣y.den:=Nat.dvd_trans (agx _ _) hgy;constructor
 ·rw[hsum,aix,if_neg hd0,agB,<- aux]
 ·rw[hsum,aiy,if_neg hd0,agB,<- aux,Nat.mul_div_assoc _ hhy]
theorem Cp {A:Nat} {z w:Int} (hz:aX A z.natAbs) (hw:aX A w.natAbs):aX (A+1) (z+w).natAbs:=lV (wI hz hw) (by omega)
theorem tW {A B:Nat} {z:Int} {n:Nat} (hz:aX A z.natAbs) (hn:aX B n):aX (A+B) (z*(n:Int)).natAbs:=by rw[ahf,agf]; exact dJ hz hn
theorem A0 {N B:Nat} (hF:Fuel N) (hB:B<=1000000000000) {x y:Rat} (hx:Bq B x) (hy:Bq B y) (b1 b2:Bool) (k:Kx4) :
  RX N (decide (x.num<0)) (ae x.num.natAbs) false (ae x.den) (decide (y.num<0)) (ae y.num.natAbs) false (ae y.den) b1 b2 k=kq (x+y) k:=by
 (unfold RX; rw[ac]; unfold Qv)
 obtain⟨m1,m2⟩:=NH x y;have hB2:B<=2000000000100:=by omega
 have hxd:=x.den_pos;have hyd:=y.den_pos;rw[gI _ _ _ x.den_nz,gI _ _ _ y.den_nz,wW hF hB2 hx.2 hy.2];obtain⟨g,hg⟩:∃ g,g=Nat.gcd x.den y.den:=⟨_,rfl⟩
 rw[<- hg]at m1 m2 ⊢;have hg0:0<g:=by rw[hg]; exact Nat.gcd_pos_of_pos_left _ hxd
 have hgb:aX B g:=by rw[hg]; exact lV hx.2 (Nat.gcd_le_left _ hxd)
 have hgy:g∣y.den:=by rw[hg]; exact agx _ _
 rw[oS hF hB2 hg0 hx.2 hgb,oS hF hB2 hg0 hy.2 hgb,ut hF hB2 hx.1 (cd hy.2),Lt,ut hF hB2 hy.1 (cd hx.2)];have hb1:=dJ hx.1 (cd (b:=g) hy.2);have hb2:=dJ hy.1 (cd (b:=g) hx.2);rw[Lv _ _ _ _ (P3 hF (by omega) hb1) (P3 hF (by omega) hb2),Q7,sE,sE];have hnb:aX (B+B+1) (x.num*((y.den / g:Nat):Int)+y.num*((x.den / g:Nat):Int)).natAbs:=Cp (tW hx.1 (cd hy.2)) (tW hy.1 (cd hx.2));obtain⟨n,hn⟩:∃ n,n=x.num*((y.den / g:Nat):Int)+y.num*((x.den / g:Nat):Int):=⟨_,rfl⟩
 rw[<- hn]at m1 m2 hnb ⊢;have hB3:B+B+1<=2000000000100:=by omega
 unfold sD;dsimp only;rw[wW hF hB3 hnb (bX hgb (by omega))];obtain⟨h,hh⟩:∃ h,h=Nat.gcd n.natAbs g:=⟨_,rfl⟩
 rw[<- hh]at m1 m2 ⊢;have hh0:0<h:=by rw[hh]; exact agr _ hg0
 have hhb:aX B h:=by rw[hh]; exact lV hgb (ahp _ hg0)
 rw[oS hF hB3 hh0 hnb (bX hhb (by omega)),qJ hB3 (cd hnb),oS hF hB2 hh0 hy.2 hhb,ut hF hB2 (cd hx.2) (cd hy.2),DP,FN _ _ _ k,AN hh0 (by rw[hh]; exact agc _ _),<- m1,<- m2];rfl
theorem FU {N B:Nat} (hF:Fuel N) (hB:B<=1000000000000) {x y:Rat} (hx:Bq B x) (hy:Bq B y) (b1 b2:Bool) (k:Kx4) :
  V_ N (decide (x.num<0)) (ae x.num.natAbs) false (ae x.den) b1 b2 (decide (y.num<0)) (ae y.num.natAbs) false (ae y.den) k=kq (x+y) k:=by
 rw[<- A0 hF hB hx hy b1 b2 k]
 (unfold V_; rw[ac]; unfold Tt; unfold RX; rw[ac]; unfold Qv)
 rw[gI _ _ _ x.den_nz,Ge _ _ _ y.den_nz,gI _ _ _ x.den_nz,gI _ _ _ y.den_nz]
theorem OH (g:Bool) (n:Nat):bc (!g) n = -(bc g n):=by unfold bc; cases g <;> simp
theorem iV (z:Int):bc (decide (z<0)) z.natAbs=z:=OG z
theorem H7 {N B:Nat} (hB:B<=2000000000100) {y:Rat} (hy:Bq B y) (b1 b2:Bool) (k:Kx4) :
  Wn N (decide (y.num<0)) (ae y.num.natAbs) false (ae y.den) b1 b2 k=kq (-y) k:=by
 (unfold Wn; rw[ac]; unfold TW)
 rw[qJ hB hy.1,gI _ _ _ y.den_nz,qJ hB hy.2,DP,FN _ _ _ k,OH,iV];rfl
theorem F9 {N B:Nat} (hF:Fuel N) (hB:B<=1000000000000) {x y:Rat} (hx:Bq B x) (hy:Bq B y) (k:Kx4) :
  dd N (decide (x.num<0)) (ae x.num.natAbs) false (ae x.den) (decide (y.num<0)) (ae y.num.natAbs) false (ae y.den) k=kq (x - y) k:=by
 (unfold dd jp; unfold SW; rw[ac]; unfold MQ)
 rw[H7 (by omega) hy];unfold kq kr;dsimp only;have hny:Bq B (-y):=⟨by rw[Rat.neg_num,ahZ]; exact hy.1,hy.2⟩
 rw[FU hF hB hx hny,Rat.sub_eq_add_neg];rfl
theorem Rd {N B:Nat} (hF:Fuel N) (hB:B<=1000000000000) {x y:Rat} (hx:Bq B x) (hy:Bq B y) (k:Kx4) :
  fj N (decide (x.num<0)) (ae x.num.natAbs) false (ae x.den) (decide (y.num<0)) (ae y.num.natAbs) false (ae y.den) k=kq (x+y) k:=by
 unfold fj jr;rw[A0 hF hB hx hy]
theorem Pq (x w:Rat):(x*w).num=bc (decide (x.num<0)) (x.num.natAbs / Nat.gcd x.num.natAbs w.den)*bc (decide (w.num<0)) (w.num.natAbs / Nat.gcd w.num.natAbs x.den)
  /\ (x*w).den=x.den / Nat.gcd w.num.natAbs x.den*(w.den / Nat.gcd x.num.natAbs w.den):=by
 have H1:0<x.num.natAbs.gcd w.den:=agr _ w.den_pos;have H2:0<w.num.natAbs.gcd x.den:=agr _ x.den_pos;have d1:Nat.gcd x.num.natAbs w.den∣x.num.natAbs:=agc _ _;have d2:Nat.gcd w.num.natAbs x.den∣w.num.natAbs:=agc _ _;rw[AN H1 d1,AN H2 d2];have e1:(x*w).num=x.num.tdiv (Nat.gcd x.num.natAbs w.den:Nat)*w.num.tdiv (Nat.gcd w.num.natAbs x.den:Nat):=by
  show(Rat.mul x w).num=_
  delta Rat.mul
  simp only[Int.divExact_eq_tdiv]
 have e2:(x*w).den=x.den / Nat.gcd w.num.natAbs x.den*(w.den / Nat.gcd x.num.natAbs w.den):=by
  show(Rat.mul x w).den=_
  delta Rat.mul
  simp only[Nat.divExact_eq_div]
 refine⟨?_,e2⟩;rw[e1,Int.tdiv_eq_ediv_of_dvd (Int.ofNat_dvd_left.2 d1),Int.tdiv_eq_ediv_of_dvd (Int.ofNat_dvd_left.2 d2)]
theorem Gc {N B:Nat} (hF:Fuel N) (hB:B<=1000000000000) {x w:Rat} (hx:Bq B x) (hw:Bq B w) (b1 b2:Bool) (k:Kx4) :
  RS N (decide (x.num<0) != decide (w.num<0)) (ae x.num.natAbs) (ae x.den) (ae w.num.natAbs) (ae w.den) b1 b2 k=kq (x*w) k:=by
 (unfold RS; rw[ac]; unfold To)
 have hB2:B<=2000000000100:=by omega
 obtain⟨m1,m2⟩:=Pq x w;have H1:0<x.num.natAbs.gcd w.den:=agr _ w.den_pos;have H2:0<w.num.natAbs.gcd x.den:=agr _ x.den_pos;have L1:aX B (x.num.natAbs.gcd w.den):=lV hw.2 (ahp _ w.den_pos);have L2:aX B (w.num.natAbs.gcd x.den):=lV hx.2 (ahp _ x.den_pos);rw[wW hF hB2 hx.1 hw.2,wW hF hB2 hw.1 hx.2,oS hF hB2 H1 hx.1 L1,oS hF hB2 H2 hw.1 L2,ut hF hB2 (cd hx.1) (cd hw.1),oS hF hB2 H2 hx.2 L2,oS hF hB2 H1 hw.2 L1,ut hF hB2 (cd hx.2) (cd hw.2),DP,FN _ _ _ k,AO,<- m1,<- m2];rfl
theorem Rh {N B:Nat} (hF:Fuel N) (hB:B<=1000000000000) {x y:Rat} (hx:Bq B x) (hy:Bq B y) (k:Kx4) :
  eG N (decide (x.num<0)) (ae x.num.natAbs) false (ae x.den) (decide (y.num<0)) (ae y.num.natAbs) false (ae y.den) k=kq (x*y) k:=by
 (unfold eG jc; unfold SU; rw[ac]; unfold MO)
 rw[gI _ _ _ x.den_nz,gI _ _ _ y.den_nz,Gc hF hB hx hy]
theorem AL {y:Rat} (h:y.num ≠ 0):(y⁻¹).num.natAbs=y.den/\(y⁻¹).den=y.num.natAbs/\decide ((y⁻¹).num<0)=decide (y.num<0):=by
 have hd:=y.den_pos;refine⟨?_,?_,?_⟩
 ·rw[Rat.num_inv,ahf,agf,Int.natAbs_sign,if_neg h,agQ]
 ·rw[Rat.den_inv,if_neg h]
 ·rw[Rat.num_inv];rcases Int.lt_trichotomy y.num 0 with h1 | h1 | h1
  ·rw[Int.sign_eq_neg_one_of_neg h1,afi h1,afi (by omega)]
  ·exact absurd h1 h
  ·rw[Int.sign_eq_one_of_pos h1,afj (by omega),afj (by omega)]
theorem Rm {N B:Nat} (hF:Fuel N) (hB:B<=1000000000000) {x y:Rat} (hx:Bq B x) (hy:Bq B y) (h0:y.num ≠ 0) (k:Kx4) :
  fi N (decide (x.num<0)) (ae x.num.natAbs) false (ae x.den) (decide (y.num<0)) (ae y.num.natAbs) false (ae y.den) k=kq (x / y) k:=by
 obtain⟨i1,i2,i3⟩:=AL h0
 (unfold fi jq; unfold SV; rw[ac]; unfold MP)
 have hw:Bq B (y⁻¹):=⟨by rw[i1]; exact hy.2,by rw[i2]; exact hy.1⟩
 have hp:=λkk=>Gc (b1:=false) (b2:=false) hF hB hx hw kk
 rw[i1,i2,i3]at hp;rw[gI _ _ _ x.den_nz,gI _ _ _ y.den_nz,hp,Rat.div_def]
theorem yS {N B:Nat} (hF:Fuel N) (hB:B<=2000000000000) (g:Bool) {n d:Nat} (hn:aX B n) (hd:aX B d) (h0:0<d) (b1 b2:Bool) (k:Kx4) :
  Wg N g (ae n) (ae d) b1 b2 k=kq (mkRat (bc g n) d) k:=by
 have hB2:B<=2000000000100:=by omega
 have hl:=hF.lt;have hnum:(mkRat (bc g n) d).num=bc g (n / Nat.gcd n d):=by
  rw[aix,if_neg (by omega)];have e:(bc g n).natAbs=n:=by unfold bc; cases g <;> simp
  have hg:0<Nat.gcd n d:=agr _ h0;rw[e,agB];obtain⟨q,hq⟩:=agc n d;have hh:((Nat.gcd n d:Nat):Int) ≠ 0:=by omega
  have e2:bc g n=((Nat.gcd n d:Nat):Int)*bc g (n / Nat.gcd n d):=by
   have hnn:n=Nat.gcd n d*(n / Nat.gcd n d):=(Nat.mul_div_cancel' (agc n d)).symm;have hc:(n:Int)=((Nat.gcd n d:Nat):Int)*((n / Nat.gcd n d:Nat):Int):=by rw[<- afF,<- hnn]
   unfold bc;cases g
   ·simpa using hc
   ·simp only[agU]; rw[hc,aig]
  rw[e2,ahn _ hh]
 have hden:(mkRat (bc g n) d).den=d / Nat.gcd n d:=by
  rw[aiy,if_neg (by omega)];have e:(bc g n).natAbs=n:=by unfold bc; cases g <;> simp
  rw[e,agB]
 have hj:∀ m e:Nat,aX B m->aX B e->I9 N g (ae n) (ae d) b1 b2 (ae m) (ae e) k=k (sg g m) (ae m) false (ae e):=by
  intro m e hm he;unfold I9;rw[qJ hB2 hm];unfold Mj Qu;dsimp only;rw[qJ hB2 he,qJ hB2 he];unfold RZ TA;cases g
  ·rfl
  ·simp only[pM,sg,agq]; rfl
 have hg0:0<Nat.gcd n d:=agr _ h0;have hgb:aX B (Nat.gcd n d):=lV hd (ahp _ h0);have h1:=zB hB2 hn;have h2:=zB hB2 hd;have h3:=zB hB2 hgb;have e1:ae 1=[1]:=qy (by decide) (by decide)
 (unfold Wg; rw[ac]; unfold TL)
 rw[wW hF hB2 hn hd,<- e1,iW _ 1 ⟨by omega,by omega⟩ ⟨by rw[e1]; simp; omega,by rw[e1]; simp⟩];by_cases hc:Nat.gcd n d=1
 ·have:(dM (Nat.gcd n d) 1 != 0)=false:=by rw[hc]; rfl
  rw[this,afk,hj n d hn hd,FN _ _ _ k];rw[hc,ag_]at hnum hden;unfold kq;rw[hnum,hden]
 ·have:(dM (Nat.gcd n d) 1 != 0)=true:=by unfold dM; rw[if_neg (by omega),if_neg hc]; rfl
  rw[this,afl,kB hF.big hg0 (by omega) (by omega),kB hF.big hg0 (by omega) (by omega),hj _ _ (cd hn) (cd hd),FN _ _ _ k,<- hnum,<- hden];rfl
theorem Im {N:Nat} (hF:Fuel N) (k:Kx4):lN N 0 k=kq 0 k:=by
 have:=hF.lt
 (unfold lN pG; unfold xh; rw[ac]; unfold qb)
 have n0:=λkk=>sG (N:=N) (by omega) 0 (by decide) kk
 have n1:=λkk=>sG (N:=N) (by omega) 1 (by decide) kk
 rw[show((0:Nat):Int)=0 from rfl]at n0;rw[show((1:Nat):Int)=1 from rfl]at n1;unfold RP Tg;rw[n0,n1,yS hF (B:=10) (by decide) _ (by unfold aX; decide) (by unfold aX; decide) (by decide)];rfl
theorem my {N:Nat} (x:Rat) (k:Kz2):bD N (decide (x.num<0)) (ae x.num.natAbs) false (ae x.den) k=k (xl x.num):=by
 (unfold bD js tf rN; unfold S1; rw[ac]; unfold Nm xl)
 by_cases h:x.num<0
 ·rw[afi h,afl,if_neg (by omega),if_pos h]
 ·rw[afj h,afk,if_neg h];by_cases h0:x.num=0
  ·rw[h0,if_pos rfl];have:ae (0:Int).natAbs=[]:=bw;rw[this]; rfl
  ·have:((((ae x.num.natAbs).length:Nat):Int)==0)=false:=by rw[b_ (by omega)]; simp; omega
   rw[this,afk,if_neg h0]
end Go.Proofs.YtdinakfmablagaaGreatDoor
end
