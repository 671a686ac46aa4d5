/- Laws in plain Lean. Conditions: none. -/
import Derived.Test.YtdinakfmablagaaGreatDoorC1
set_option linter.unusedVariables false
section
namespace Go.Proofs.YtdinakfmablagaaGreatDoor
open Go Go.Mach
theorem Bd (N:Nat) {x:Nat} (hx:x<18446744073709551616) (k:Kz4):R4 N (x:Int) k=k (bl x:Int):=by
 have key:∀(z:Int) (m:Nat),z=(m:Int)->m<256 -> ∀ c:Nat,c<=56->((inR z 256)&&((af .i64 (List.getD ay (Int.toNat z) 0))&&((af .i64 ((c:Int)+(List.getD ay (Int.toNat z) 0)))&&k ((c:Int)+List.getD ay (Int.toNat z) 0))))=k ((c+bl m:Nat):Int):=by intro z m hz hm c hc;subst hz;have:=Fa hm;rw[afz,P9 hm,aa aft,aa afs,aa afs];rfl
 have j1:∀(y z c:Nat),z<65536->c<=48->Jl N (y:Int) (z:Int) (c:Int) k=k ((c+bl z:Nat):Int):=by
  intro y z c hz hc;unfold Jl;simp only[SD,S8];by_cases h8:256<=z
  ·have e8:=mg (n:=z) 8 (by simpa using h8);rw[show(2:Nat) ^ 8=256 by decide]at e8;have h:=key ((z:Int) / 256%256) (z / 256) (by omega) (by omega) (c+8) (by omega);rw[show((c+8:Nat):Int)=(c:Int)+8 by omega]at h;rw[afu (by omega:(z:Int)>=256),afx,aa afs,h];congr 1; omega
  ·rw[afv (by omega:¬(z:Int)>=256),afw,key ((z:Int)%256) z (by omega) (by omega) c (by omega)]
 have j0:∀(y z c:Nat),z<4294967296->c<=32->Jk N (y:Int) (z:Int) (c:Int) k=k ((c+bl z:Nat):Int):=by
  intro y z c hz hc;unfold Jk;simp only[Ou];by_cases h16:65536<=z
  ·have e16:=mg (n:=z) 16 (by simpa using h16);rw[show(2:Nat) ^ 16=65536 by decide]at e16;have h:=j1 y (z / 65536) (c+16) (by omega) (by omega);rw[show((c+16:Nat):Int)=(c:Int)+16 by omega,show((z / 65536:Nat):Int)=(z:Int) / 65536 by omega]at h;rw[afu (by omega:(z:Int)>=65536),afx,aa afs,h];congr 1; omega
  ·rw[afv (by omega:¬(z:Int)>=65536),afw,j1 y z c (by omega) (by omega)]
 (unfold R4; rw[ac]; unfold TM)
 simp only[kh];by_cases h32:4294967296<=x
 ·have e32:=mg (n:=x) 32 (by rw[show(2:Nat) ^ 32=4294967296 by decide]; exact h32);rw[show(2:Nat) ^ 32=4294967296 by decide]at e32;have h:=j0 x (x / 4294967296) 32 (by omega) (by omega);rw[show((x / 4294967296:Nat):Int)=(x:Int) / 4294967296 by omega,show((32:Nat):Int)=32 from rfl]at h;rw[afu (by omega:(x:Int)>=4294967296),afx,h];congr 1; omega
 ·have h:=j0 x x 0 (by omega) (by omega);rw[show((0:Nat):Int)=0 from rfl]at h;rw[afv (by omega:¬(x:Int)>=4294967296),afw,h];congr 1; omega
theorem wM {n j:Nat} (h:n<2 ^ j):bl n<=j:=by
 unfold bl;split
 ·omega
 ·rename_i h0;have:=(Nat.log2_lt h0).2 h;omega
theorem yM (n:Nat):n<2 ^ bl n:=by
 unfold bl;split
 ·rename_i h; subst h; decide
 ·exact Nat.lt_log2_self
theorem NV {n:Nat} (h:n ≠ 0):0<bl n/\2 ^ (bl n - 1)<=n:=by unfold bl;rw[if_neg h];exact⟨by omega,by rw[ahY]; exact Nat.log2_self_le h⟩
theorem oi:(2:Nat) ^ 64=18446744073709551616:=by decide
theorem F6 (N:Nat) {x:Nat} (hx:x<18446744073709551616) (k:Kz4):RO N (x:Int) k=k ((64 - bl x:Nat):Int):=by unfold RO W1;have:=wM (n:=x) (j:=64) (by rw[oi]; exact hx);rw[Bd N hx,aa afs];congr 1; omega
theorem Kt {y:Nat} (h0:y ≠ 0) (hy:y<18446744073709551616):64 - bl y<64/\9223372036854775808<=y*2 ^ (64 - bl y)/\y*2 ^ (64 - bl y)<18446744073709551616:=by
 have h1:=wM (n:=y) (j:=64) (by rw[oi]; exact hy);obtain⟨h2,h3⟩:=NV h0;have h4:=yM y;have hp:0<2 ^ (64 - bl y):=afJ _;refine⟨by omega,?_,?_⟩
 ·have:=afA (2 ^ (64 - bl y)) h3;rw[<- afO,show bl y - 1+(64 - bl y)=63 by omega]at this;exact this
 ·have:=agl h4 hp;rw[<- afO,show bl y+(64 - bl y)=64 by omega]at this;exact this
theorem AZ {a c u u1 p r:Nat} (hc:c<4294967296) (hp:p<=4294967296) (hu:(p+1)*a+r=u) (hb:4294967296<=r+a):p*(a*4294967296+c)<=u*4294967296+u1:=by
 have e1:u*4294967296+u1=p*a*4294967296+(r+a)*4294967296+u1:=by rw[<- hu,ag3,af0,af0,af0]; omega
 have e2:p*(a*4294967296+c)=p*a*4294967296+p*c:=by rw[afM,afG]
 have:=agj hp (Nat.le_of_lt_succ hc:c<=4294967295);rw[e1,e2]; omega
theorem zV {a c u u1:Nat} (hu1:u1<4294967296) (hD:u<a*4294967296+c):(u*4294967296+u1) / (a*4294967296+c)<4294967296:=by rw[afE (by omega)]; omega
theorem H9 {N:Nat} {y s un0:Int} {a c u u1:Nat} (ha2:a<4294967296) (hc:c<4294967296) (hu1:u1<4294967296) (hD:u<a*4294967296+c) {d:Nat} (hd:∀ p,p<=d↔p*(a*4294967296+c)<=u*4294967296+u1) (hlt:d<4294967296) (e0:Int->Bool) :
  ∀ q r M,q<M->q<=4294967297->q*a+r=u->r<4294967296->d<=q ->
   ah M (yx N y s (a:Int) (c:Int) (u:Int) (u1:Int) un0 e0) ((q:Int),(r:Int))=e0 (d:Int):=by
 intro q;induction q using Nat.strongRecOn with
 | ind q ih=>
 intro r M hM hqb hu hr hle;obtain⟨M,rfl⟩:∃ m,M=m+1:=⟨M - 1,by omega⟩
 show yx N y s a c u u1 un0 e0 ((q:Int),(r:Int)) (ah M _)=_;have hY:0<a*4294967296+c:=by omega
 have hdec:d<q->cond (decide ((IntKind.wrap .u64 ((r:Int)+(a:Int)))>=4294967296)) (e0 (IntKind.wrap .u64 ((q:Int) - 1))) (ah M (yx N y s (a:Int) (c:Int) (u:Int) (u1:Int) un0 e0) ((IntKind.wrap .u64 ((q:Int) - 1)),(IntKind.wrap .u64 ((r:Int)+(a:Int)))))=e0 (d:Int):=by
  intro hlq;obtain⟨p,rfl⟩:∃ p,q=p+1:=⟨q - 1,by omega⟩
  have w1:IntKind.wrap .u64 (((p+1:Nat):Int) - 1)=(p:Int):=by rw[am]; omega
  have w2:IntKind.wrap .u64 ((r:Int)+(a:Int))=((r+a:Nat):Int):=by rw[am]; omega
  rw[w1,w2];by_cases hb:4294967296<=r+a
  ·rw[afu (by omega),afx];have h1:=AZ (u1:=u1) hc (by omega) hu hb;rw[<- hd]at h1;rw[show d=p by omega]
  ·rw[afv (by omega),afw];exact ih p (by omega) (r+a) M (by omega) (by omega) (by rw[<- hu,ag3]; omega) (by omega) (by omega)
 simp only[yx];by_cases hq:4294967296<=q
 ·rw[afu (by omega:(q:Int)>=4294967296),show(true==false)=false from rfl,afw];exact hdec (by omega)
 ·have e1:u*4294967296+u1=q*a*4294967296+r*4294967296+u1:=by rw[<- hu,af0]
  have e2:q*(a*4294967296+c)=q*a*4294967296+q*c:=by rw[afM,afG]
  have hqc:q*c<=4294967295*4294967295:=agj (by omega) (by omega);have w1:IntKind.wrap .u64 ((q:Int)*(c:Int))=((q*c:Nat):Int):=by rw[<- afR,am]; omega
  have w2:IntKind.wrap .u64 ((IntKind.wrap .u64 (4294967296*(r:Int)))+(u1:Int))=((r*4294967296+u1:Nat):Int):=by rw[am,am]; omega
  rw[afv (by omega:¬(q:Int)>=4294967296),show(false==false)=true from rfl,afx,w1,w2];by_cases ht:r*4294967296+u1<q*c
  ·rw[afu (by omega),afx];refine hdec ?_;rw[<- Nat.not_le,hd]; omega
  ·rw[afv (by omega),afw];have h1:q*(a*4294967296+c)<=u*4294967296+u1:=by omega
   rw[<- hd]at h1;rw[show d=q by omega]
theorem H_ {N:Nat} {y s q1:Int} {x21:Int} {a c u u1:Nat} (ha2:a<4294967296) (hc:c<4294967296) (hu1:u1<4294967296) (hD:u<a*4294967296+c) {d:Nat} (hd:∀ p,p<=d↔p*(a*4294967296+c)<=u*4294967296+u1) (hlt:d<4294967296) (e0:Int->Bool) :
  ∀ q r M,q<M->q<=4294967297->q*a+r=u->r<4294967296->d<=q ->
   ah M (yy N y s (a:Int) (c:Int) (u1:Int) q1 x21 e0) ((r:Int),(q:Int))=e0 (d:Int):=by
 intro q;induction q using Nat.strongRecOn with
 | ind q ih=>
 intro r M hM hqb hu hr hle;obtain⟨M,rfl⟩:∃ m,M=m+1:=⟨M - 1,by omega⟩
 show yy N y s a c u1 q1 x21 e0 ((r:Int),(q:Int)) (ah M _)=_;have hY:0<a*4294967296+c:=by omega
 have hdec:d<q->cond (decide ((IntKind.wrap .u64 ((r:Int)+(a:Int)))>=4294967296)) (e0 (IntKind.wrap .u64 ((q:Int) - 1))) (ah M (yy N y s (a:Int) (c:Int) (u1:Int) q1 x21 e0) ((IntKind.wrap .u64 ((r:Int)+(a:Int))),(IntKind.wrap .u64 ((q:Int) - 1))))=e0 (d:Int):=by
  intro hlq;obtain⟨p,rfl⟩:∃ p,q=p+1:=⟨q - 1,by omega⟩
  have w1:IntKind.wrap .u64 (((p+1:Nat):Int) - 1)=(p:Int):=by rw[am]; omega
  have w2:IntKind.wrap .u64 ((r:Int)+(a:Int))=((r+a:Nat):Int):=by rw[am]; omega
  rw[w1,w2];by_cases hb:4294967296<=r+a
  ·rw[afu (by omega),afx];have h1:=AZ (u1:=u1) hc (by omega) hu hb;rw[<- hd]at h1;rw[show d=p by omega]
  ·rw[afv (by omega),afw];exact ih p (by omega) (r+a) M (by omega) (by omega) (by rw[<- hu,ag3]; omega) (by omega) (by omega)
 simp only[yy];by_cases hq:4294967296<=q
 ·rw[afu (by omega:(q:Int)>=4294967296),show(true==false)=false from rfl,afw];exact hdec (by omega)
 ·have e1:u*4294967296+u1=q*a*4294967296+r*4294967296+u1:=by rw[<- hu,af0]
  have e2:q*(a*4294967296+c)=q*a*4294967296+q*c:=by rw[afM,afG]
  have hqc:q*c<=4294967295*4294967295:=agj (by omega) (by omega);have w1:IntKind.wrap .u64 ((q:Int)*(c:Int))=((q*c:Nat):Int):=by rw[<- afR,am]; omega
  have w2:IntKind.wrap .u64 ((IntKind.wrap .u64 (4294967296*(r:Int)))+(u1:Int))=((r*4294967296+u1:Nat):Int):=by rw[am,am]; omega
  rw[afv (by omega:¬(q:Int)>=4294967296),show(false==false)=true from rfl,afx,w1,w2];by_cases ht:r*4294967296+u1<q*c
  ·rw[afu (by omega),afx];refine hdec ?_;rw[<- Nat.not_le,hd]; omega
  ·rw[afv (by omega),afw];have h1:q*(a*4294967296+c)<=u*4294967296+u1:=by omega
   rw[<- hd]at h1;rw[show d=q by omega]
theorem A0 {a c u u1:Nat} (ha:2147483648<=a) (ha2:a<4294967296) (hc:c<4294967296) (hD:u<a*4294967296+c) (hu1:u1<4294967296) :
  u / a<=4294967297/\u / a*a+u%a=u/\u%a<4294967296/\(u*4294967296+u1) / (a*4294967296+c)<=u / a:=by
 have h0:0<a:=by omega
 refine⟨?_,ags u a,ahj (afK _ h0) ha2,?_⟩
 ·have:u / a<4294967298:=by rw[afE h0]; omega
  omega
 ·have h1:(u*4294967296+u1) / (a*4294967296)=u / a:=by rw[afy a,<- afD];congr 1; omega
  rw[<- h1];exact Nat.div_le_div_left (ahQ _ _) (by omega)
theorem K0 {m p y s:Nat} (u L b D1 q1 R1 u1 u0 q0 R0 Y:Nat) (hb:b=4294967296) (hT:m*2 ^ s=u*18446744073709551616+L) (hL:L=u1*b+u0) (hY:Y=y*2 ^ s) (hY0:0<Y)
  (h1:D1=u*b+u1) (hq1:q1=D1 / Y) (hR1:R1=D1%Y) (hq0:q0=(R1*b+u0) / Y) (hR0:R0=(R1*b+u0)%Y):m / y=q1*b+q0/\m%y=R0 / 2 ^ s:=by
 have hs:0<2 ^ s:=afJ s;have e1:=agp D1 Y;have e0:=agp (R1*b+u0) Y;rw[<- hq1,<- hR1]at e1;rw[<- hq0,<- hR0]at e0;have hlt:R0<Y:=by rw[hR0]; exact afK _ hY0
 have hm:m*2 ^ s=Y*(q1*b+q0)+R0:=by
  rw[hT,hL];have e2:u*18446744073709551616+(u1*b+u0)=(u*b+u1)*b+u0:=by subst hb; omega
  rw[e2,<- h1,<- e1,afM,af0,agc,<- e0,afG,agc]
 have d1:m / y=(m*2 ^ s) / Y:=by rw[hY,aib _ _ hs]
 have d2:(m%y)*2 ^ s=(m*2 ^ s)%Y:=by rw[hY,aic]
 constructor
 ·rw[d1,hm,ais hY0,af2 hlt,af3]
 ·have:(m%y)*2 ^ s=R0:=by rw[d2,hm,ahH,afF hlt]
  rw[<- this,ahe _ hs]
theorem C6 {N:Nat} (hN:8589934592<=N) {hi lo y:Nat} (hy:y<18446744073709551616) (hlo:lo<18446744073709551616) (hhi:hi<y) (k:Ky5) :
  GM N (hi:Int) (lo:Int) (y:Int) k=k (((hi*18446744073709551616+lo) / y:Nat):Int) (((hi*18446744073709551616+lo)%y:Nat):Int):=by
 (unfold GM; rw[ac]; unfold MW)
 have y0:((y:Int)==0)=false:=by simp; omega
 have y1:(!decide ((y:Int)=0))=true:=by simp; omega
 rw[y0,afw,afv (by omega:¬(y:Int)<=hi),afw];by_cases h0:hi=0
 ·subst h0;rw[show(((0:Nat):Int)==0)=true from rfl,afx,aa y1,aa y1,agV,af1];have e1:Int.tdiv (lo:Int) (y:Int)=((lo / y:Nat):Int):=rfl;have e2:Int.tmod (lo:Int) (y:Int)=((lo%y:Nat):Int):=rfl;have:=ag5 lo y;rw[e1,e2];generalize lo / y=d at *;rw[am];congr 1; omega
 ·have hne:((hi:Int)==0)=false:=by simp; omega
  obtain⟨hs64,hYlo,hYhi⟩:=Kt (y:=y) (by omega) hy;rw[hne,afw,F6 N hy];generalize hs:64 - bl y=s at *;have hs0:0<2 ^ s:=afJ s;have hs1:2 ^ s*2 ^ (64 - s)=18446744073709551616:=by rw[<- afO,show s+(64 - s)=64 by omega]
  have cp:((2:Int) ^ s)=((2 ^ s:Nat):Int):=by rw[agX]; rfl
  have cp2:((2:Int) ^ (64 - s))=((2 ^ (64 - s):Nat):Int):=by rw[agX]; rfl
  have ew:IntKind.wrap .u64 ((s:Nat):Int)=(s:Int):=by rw[am]; omega
  have ew2:IntKind.wrap .u64 (64 - ((s:Nat):Int))=((64 - s:Nat):Int):=by rw[am]; omega
  have em:min s 64=s:=by omega
  have em2:min (64 - s) 64=64 - s:=by omega
  simp only[ew,ew2,afz,em,em2];rw[cp,cp2];have eY:IntKind.wrap .u64 ((y:Int)*((2 ^ s:Nat):Int))=((y*2 ^ s:Nat):Int):=by rw[<- afR,am]; omega
  have hm:hi*2 ^ s<y*2 ^ s:=agl hhi hs0;have eH:IntKind.wrap .u64 ((hi:Int)*((2 ^ s:Nat):Int))=((2 ^ s*hi:Nat):Int):=by rw[<- afR,afy hi,am]; rw[afy hi]at hm; generalize 2 ^ s*hi=H at *; generalize y*2 ^ s=Y at *; omega
  have hlo2:lo / 2 ^ (64 - s)<2 ^ s:=by rw[afE (afJ _),hs1]; exact hlo
  have hlo3:=agp lo (2 ^ (64 - s));have eT:(hi*18446744073709551616+lo)*2 ^ s=(2 ^ s*hi+lo / 2 ^ (64 - s))*18446744073709551616+lo*2 ^ s%18446744073709551616:=by
   have e1:lo*2 ^ s / 18446744073709551616=lo / 2 ^ (64 - s):=by rw[<- hs1,afy lo,Nat.mul_div_mul_left _ _ hs0]
   have e2:=agp (lo*2 ^ s) 18446744073709551616;rw[e1]at e2;rw[af0,<- e2,af0,aix,afy hi];omega
  have hD:2 ^ s*hi+lo / 2 ^ (64 - s)<y*2 ^ s:=by have:2 ^ s*(hi+1)<=2 ^ s*y:=afC _ hhi;rw[afM,afy _ y]at this;omega
  have eU:aD .or .u64 ((2 ^ s*hi:Nat):Int) (Int.fdiv (lo:Int) ((2 ^ (64 - s):Nat):Int))=((2 ^ s*hi+lo / 2 ^ (64 - s):Nat):Int):=by rw[kx,u_,cu _ _ s hlo2 (by omega)]
  have eL:IntKind.wrap .u64 ((lo:Int)*((2 ^ s:Nat):Int))=((lo*2 ^ s%18446744073709551616:Nat):Int):=by rw[<- afR,am]; omega
  simp only[eY,eH,eU,eL,E_,kh];have hLlt:lo*2 ^ s%18446744073709551616<18446744073709551616:=afK _ (by decide);obtain⟨d1,d2⟩:=K0 (m:=hi*18446744073709551616+lo) (p:=0) (y:=y) (s:=s) (2 ^ s*hi+lo / 2 ^ (64 - s)) (lo*2 ^ s%18446744073709551616) 4294967296 _ _ _ (lo*2 ^ s%18446744073709551616 / 4294967296) (lo*2 ^ s%18446744073709551616%4294967296) _ _ (y*2 ^ s) rfl eT (by omega) rfl (by omega) rfl rfl rfl rfl rfl;rw[d1,d2];generalize y*2 ^ s=Y at *;generalize 2 ^ s*hi+lo / 2 ^ (64 - s)=u at *;generalize lo*2 ^ s%18446744073709551616=L at *;have hu1:L / 4294967296<4294967296:=by omega
  have hu0:L%4294967296<4294967296:=by omega
  have eL1:((L:Int) / 4294967296)=((L / 4294967296:Nat):Int):=by omega
  have ea:((Y:Int) / 4294967296)=((Y / 4294967296:Nat):Int):=by omega
  have eY2:Y=Y / 4294967296*4294967296+Y%4294967296:=by omega
  rw[eL1,ea];generalize hu1':L / 4294967296=u1 at *;generalize hu0':L%4294967296=u0 at *;have ha1:2147483648<=Y / 4294967296:=by omega
  have ha2:Y / 4294967296<4294967296:=by omega
  have hc:Y%4294967296<4294967296:=by omega
  generalize Y / 4294967296=a at *;generalize Y%4294967296=c at *;have a0:(!decide ((a:Int)=0))=true:=by simp; omega
  have hD':u<a*4294967296+c:=by omega
  have hY0':0<a*4294967296+c:=by omega
  rw[aa (afu (by omega)),aa (afu (by omega)),aa (afu (by omega)),aa (afu (by omega)),aa a0];have start:∀ v:Nat,v<18446744073709551616->IntKind.wrap .u64 (Int.tdiv (v:Int) (a:Int))=((v / a:Nat):Int)/\IntKind.wrap .u64 ((v:Int) - (IntKind.wrap .u64 (((v / a:Nat):Int)*(a:Int))))=((v%a:Nat):Int):=by
   intro v hv;have e1:Int.tdiv (v:Int) (a:Int)=((v / a:Nat):Int):=rfl;have h1:=ag5 v a;have h2:=ags v a;rw[e1,<- afR];generalize v / a*a=P at *;generalize v / a=Q at *;generalize v%a=Z at *;constructor
   ·rw[am]; omega
   ·rw[am,am]; omega
  obtain⟨g1,g2,g3,g4⟩:=A0 ha1 ha2 hc hD' hu1;obtain⟨s1,s2⟩:=start u (by omega);rw[s1,s2,H9 ha2 hc hu1 hD' (λp=>ahd hY0') (zV hu1 hD') _ (u / a) (u%a) N (by omega) g1 g2 g3 g4];rw[aa a0];rw[<- eY2];have hY0:0<Y:=by omega
  have hR1:=afK (u*4294967296+u1) hY0;have hE1:=ags (u*4294967296+u1) Y;have e21:IntKind.wrap .u64 ((IntKind.wrap .u64 ((IntKind.wrap .u64 ((u:Int)*4294967296))+(u1:Int))) - (IntKind.wrap .u64 ((((u*4294967296+u1) / Y:Nat):Int)*(Y:Int))))=(((u*4294967296+u1)%Y:Nat):Int):=by rw[<- afR];generalize (u*4294967296+u1) / Y*Y=P at *;rw[am,am,am,am]; omega
  simp only[e21];have hq1:(u*4294967296+u1) / Y<4294967296:=by rw[eY2]; exact zV hu1 hD'
  obtain⟨q1,hq1e⟩:∃ q,q=(u*4294967296+u1) / Y:=⟨_,rfl⟩
  obtain⟨R1,hR1e⟩:∃ q,q=(u*4294967296+u1)%Y:=⟨_,rfl⟩
  rw[<- hq1e,<- hR1e];rw[<- hq1e]at hq1;rw[<- hR1e]at hR1;have hD2:R1<a*4294967296+c:=by omega
  obtain⟨g1,g2,g3,g4⟩:=A0 ha1 ha2 hc hD2 hu0;obtain⟨s1,s2⟩:=start R1 (by omega);rw[s1,s2,H_ ha2 hc hu0 hD2 (λp=>ahd hY0') (zV hu0 hD2) _ (R1 / a) (R1%a) N (by omega) g1 g2 g3 g4,<- eY2];rw[aa (afu (by omega))];have hR0:=afK (R1*4294967296+u0) hY0;have hE0:=ags (R1*4294967296+u0) Y;have hq0:(R1*4294967296+u0) / Y<4294967296:=by rw[eY2]; exact zV hu0 hD2
  have e20:IntKind.wrap .u64 ((IntKind.wrap .u64 ((IntKind.wrap .u64 ((R1:Int)*4294967296))+(u0:Int))) - (IntKind.wrap .u64 ((((R1*4294967296+u0) / Y:Nat):Int)*(Y:Int))))=(((R1*4294967296+u0)%Y:Nat):Int):=by
   rw[<- afR];obtain⟨P,hP⟩:∃ q,q=(R1*4294967296+u0) / Y*Y:=⟨_,rfl⟩
   obtain⟨Z,hZ⟩:∃ q,q=(R1*4294967296+u0)%Y:=⟨_,rfl⟩
   rw[<- hP,<- hZ]at hE0;rw[<- hZ]at hR0;rw[<- hP,<- hZ];rw[am,am,am,am]; omega
  rw[e20,kx];obtain⟨q0,hq0e⟩:∃ q,q=(R1*4294967296+u0) / Y:=⟨_,rfl⟩
  rw[<- hq0e]at hq0;rw[<- hq0e];congr 1;rw[am,am]; omega
theorem J_ (Q n m:Nat) (h:m<n):(List.replicate (m+1) (0:Int)++(dlq Q n).drop (m+1)).set m ((Q / 18446744073709551616 ^ m%18446744073709551616:Nat):Int)=List.replicate m 0++(dlq Q n).drop m:=by rw[ag6,afN,List.singleton_append,bf _ _ _ _ _ (by simp),cW (n:=m) (by rw[ak]; exact h),sS Q h]
theorem DB {A d:Nat} (hd:0<d):(A / 18446744073709551616%d*18446744073709551616+A%18446744073709551616)%d=A%d/\(A / 18446744073709551616%d*18446744073709551616+A%18446744073709551616) / d=A / d%18446744073709551616:=by
 have h1:=agp A 18446744073709551616;have h2:=agp (A / 18446744073709551616) d;have h3:=afK (A / 18446744073709551616) hd;have h4:A%18446744073709551616<18446744073709551616:=afK _ (by decide);obtain⟨a,ha⟩:∃ a,a=A / 18446744073709551616:=⟨_,rfl⟩
 obtain⟨e,he⟩:∃ e,e=A%18446744073709551616:=⟨_,rfl⟩
 rw[<- ha]at h1 h2 h3 ⊢;rw[<- he]at h1 h4 ⊢;obtain⟨c,hc⟩:∃ c,c=a / d:=⟨_,rfl⟩
 obtain⟨r,hr⟩:∃ r,r=a%d:=⟨_,rfl⟩
 rw[<- hc,<- hr]at h2;rw[<- hr]at h3 ⊢;have h5:A=d*(c*18446744073709551616)+(r*18446744073709551616+e):=by rw[<- h1,<- h2,<- afG,afM,afy 18446744073709551616,afy 18446744073709551616]; omega
 constructor
 ·rw[h5,ahH]
 ·rw[h5,ais hd,afy c,ahH];refine(afF ?_).symm;rw[afE hd];have:=afA 18446744073709551616 h3;rw[ag3]at this;rw[afy _ d,afy d];rw[afy d]at this;omega
theorem jJ (x:Nat):x<18446744073709551616 ^ (ae x).length:=by have:=iN (aX x); rwa [aE]at this
theorem LO {N:Nat} (hN:8589934592<=N) {x d:Nat} (hd0:0<d) (hd:d<18446744073709551616) (hs:lw N (ae x)) (k:List Int->Int->Bool):oX N (ae x) (d:Int) k=k (ae (x / d)) ((x%d:Nat):Int):=by
 (unfold oX; rw[ac]; unfold sa)
 obtain⟨s1,s2⟩:=hs;have hx:=jJ x;generalize hn:(ae x).length=n at *;rw[aa (bF (by omega) (by omega) (by omega) (by omega)),aa afs,afz];refine aH (λi=>(((x / 18446744073709551616 ^ (n - i)%d:Nat):Int),((n:Int) - 1 - (i:Int)),List.replicate (n - i) (0:Int)++(dlq (x / d) n).drop (n - i))) n ?_ (by omega) (λi hi K=>?_) (λK=>?_)
 ·rw[ahC,af2 hx,Nat.zero_mod,agh (by rw[ak]; omega),af5];simp
 ·obtain⟨m,hm⟩:∃ m,n - i=m+1:=⟨n - i - 1,by omega⟩
  have hm2:n - (i+1)=m:=by omega
  have ei:(n:Int) - 1 - (i:Int)=(m:Int):=by omega
  have ei2:(n:Int) - 1 - ((i+1:Nat):Int)=(m:Int) - 1:=by omega
  have hp:x / 18446744073709551616 ^ (m+1)=x / 18446744073709551616 ^ m / 18446744073709551616:=by rw[afI,afD]
  have hdg:x / d / 18446744073709551616 ^ m%18446744073709551616=x / 18446744073709551616 ^ m / d%18446744073709551616:=by rw[afD,afD,afy d]
  obtain⟨n1,n2⟩:=DB (A:=x / 18446744073709551616 ^ m) hd0;rw[hm,hm2,ei,ei2,hp];simp only[kN,afz];have hl:(List.replicate (m+1) (0:Int)++(dlq (x / d) n).drop (m+1)).length=n:=by simp[ak]; omega
  rw[afu (by omega:(m:Int)>=0),afx,hn,aa aft,nO,C6 hN hd (afK _ (by decide)) (afK _ hd0),n1,n2,<- hdg,hl,aa aft,aa (afu (by omega)),aa afs,J_ _ _ _ (by omega)]
 ·simp only[kN];have e0:(n:Int) - 1 - (n:Int) = -1:=by omega
  rw[e0,afv (by omega),afw,af6,ahr,aho];rw[af9,agk,agY];have hq:x / d<18446744073709551616 ^ n:=ag4 (ag5 _ _) hx;rw[kv _ (gI _ _) (by rw[ak]; omega) (by rw[ak]; omega) (λz=>k z ((x%d:Nat):Int)),mj hq]
theorem D7 {P A B U3 V2 U V g:Nat} (hA:A<P) (hU:U=A+P*U3) (hV:V=B+P*V2) (hV0:0<V) (h:U3<g*V2):U / V<g:=by rw[afE hV0,hU,hV,afM,afY g P V2];have:=afC P h;rw[aiN]at this;omega
theorem JK {W P A B U V u0 u1 u2 v0 v1:Nat} (hA:A<P) (hU:U=A+P*(u0+W*(u2*W+u1))) (hV:V=B+P*(v0+W*v1)) (hV0:0<V) (hv1:0<v1) (hu0:u0<W):U / V<=(u2*W+u1) / v1:=by
 refine Nat.le_of_lt_succ (D7 hA hU hV hV0 ?_);have h1:=ahW (u2*W+u1) hv1;rw[afy v1]at h1;have h2:=afC W h1;rw[aiN]at h2;have e:((u2*W+u1) / v1).succ*(v0+W*v1)=((u2*W+u1) / v1).succ*v0+W*(((u2*W+u1) / v1+1)*v1):=by rw[afM,afY]
 rw[e];omega
theorem H8 {N:Nat} {o n u0 v0 v1 T d:Nat} {b c:List Int} (hn:2<=n) (hc1:c.getD (n - 2) 0=(v0:Int)) (hc2:c.getD (n - 1) 0=(v1:Int)) (hb:b.getD (o+(n - 2)) 0=(u0:Int)) (hcl:n<=c.length) (hbl:o+n+1<=b.length) (hbs:b.length<=1099511627780)
  (hv0:v0<18446744073709551616) (hv1:v1<18446744073709551616) (hu0:u0<18446744073709551616) (hd:∀ g,u0+18446744073709551616*T<g*(v0+18446744073709551616*v1)->d<g) :
  ∀ q r M,q<M->q<18446744073709551616->q*v1+r=T->r<18446744073709551616->d<=q ->
   ∃ g,d<=g/\g<18446744073709551616 /\ ∀ e0,ah M (ua N o (n+1) 0 n (n:Int) b c e0) ((q:Int),(r:Int))=e0 (g:Int):=by
 intro q;induction q using Nat.strongRecOn with
 | ind q ih=>
 intro r M hM hq hT hr hdq;obtain⟨M,rfl⟩:∃ m,M=m+1:=⟨M - 1,by omega⟩
 have i2:0+Int.toNat ((n:Int) - 2)=n - 2:=by omega
 have i1:0+Int.toNat ((n:Int) - 1)=n - 1:=by omega
 have j2:o+Int.toNat ((n:Int) - 2)=o+(n - 2):=by omega
 have hqv:=agp (q*v0) 18446744073709551616;have hlo:q*v0%18446744073709551616<18446744073709551616:=afK _ (by decide);by_cases hex:q*v0<=r*18446744073709551616+u0
 ·refine⟨q,hdq,hq,λe0=>?_⟩;show ua N o (n+1) 0 n (n:Int) b c e0 ((q:Int),(r:Int)) (ah M _)=_;simp only[ua,i2,i1,j2,hc1,hc2,hb];rw[aa afs,aa aft,aa (afu (by omega)),xU N hq hv0];generalize q*v0%18446744073709551616=lo at *;generalize q*v0 / 18446744073709551616=hi at *;rcases ah6 hi r with h | h | h
  ·rw[afu (by omega:(hi:Int)<r),show(true==false)=false from rfl,afw]
  ·subst h;rw[afv (by omega:¬(hi:Int)<hi),show(false==false)=true from rfl,afx,show((hi:Int)==hi)=true by simp,show(true==true)=true from rfl,afx,aa afs,aa aft,aa (afu (by omega)),afu (by omega:(lo:Int)<=u0),afx]
  ·exfalso; omega
 ·have hgt:=hd q (by rw[afM,afY,<- hT]; rw[afM]; omega);obtain⟨p,rfl⟩:∃ p,q=p+1:=⟨q - 1,by omega⟩
  have w1:IntKind.wrap .u64 (((p+1:Nat):Int) - 1)=(p:Int):=by rw[am]; omega
  have step:∀ e0:Int->Bool,ah (M+1) (ua N o (n+1) 0 n (n:Int) b c e0) (((p+1:Nat):Int),(r:Int))
    = cond (decide (18446744073709551616<=r+v1)) (e0 (p:Int)) (ah M (ua N o (n+1) 0 n (n:Int) b c e0) ((p:Int),((r+v1:Nat):Int))):=by
   intro e0;show ua N o (n+1) 0 n (n:Int) b c e0 (((p+1:Nat):Int),(r:Int)) (ah M _)=_;simp only[ua,i2,i1,j2,hc1,hc2,hb];have tail:(af .i64 ((n:Int) - 1)&&((inR ((n:Int) - 1) n)&&((decide (n - 1<c.length))&&(sQ2 N (r:Int) (v1:Int) 0 (λ(aae:Int) (n5:Int)=>(cond (n5 != 0) (e0 (IntKind.wrap .u64 (((p+1:Nat):Int) - 1))) (ah M (ua N o (n+1) 0 n (n:Int) b c e0) ((IntKind.wrap .u64 (((p+1:Nat):Int) - 1)),aae))))))))
     = cond (decide (18446744073709551616<=r+v1)) (e0 (p:Int)) (ah M (ua N o (n+1) 0 n (n:Int) b c e0) ((p:Int),((r+v1:Nat):Int))):=by
    rw[aa afs,aa aft,aa (afu (by omega)),nz N (c:=0) (a:=r) (b:=v1) (d:=0) rfl rfl rfl (by omega),w1];by_cases hb2:18446744073709551616<=r+v1
    ·have:(((r+v1+0) / 18446744073709551616:Nat):Int)=1:=by omega
     rw[this,afu hb2]; rfl
    ·have:(((r+v1+0) / 18446744073709551616:Nat):Int)=0:=by omega
     have e2:(r+v1+0)%18446744073709551616=r+v1:=by omega
     rw[this,e2,afv hb2]; rfl
   rw[aa afs,aa aft,aa (afu (by omega)),xU N hq hv0];generalize (p+1)*v0%18446744073709551616=lo at *;generalize (p+1)*v0 / 18446744073709551616=hi at *;rcases ah6 hi r with h | h | h
   ·exfalso; omega
   ·subst h;rw[afv (by omega:¬(hi:Int)<hi),show(false==false)=true from rfl,afx,show((hi:Int)==hi)=true by simp,show(true==true)=true from rfl,afx,aa afs,aa aft,aa (afu (by omega)),afv (by omega:¬(lo:Int)<=u0),afw];exact tail
   ·rw[afv (by omega:¬(hi:Int)<r),show(false==false)=true from rfl,afx,show((hi:Int)==r)=false by simp; omega,show(false==true)=false from rfl,afw];exact tail
  by_cases hb2:18446744073709551616<=r+v1
  ·exact⟨p,by omega,by omega,λe0=>by rw[step,afu hb2,afx]⟩
  ·obtain⟨g,g1,g2,g3⟩:=ih p (by omega) (r+v1) M (by omega) (by omega) (by rw[<- hT,ag3]; omega) (by omega) (by omega);exact⟨g,g1,g2,λe0=>by rw[step,afv hb2,afw]; exact g3 e0⟩
theorem j8 {b:List Int} (o i:Nat):(b.drop o).getD i 0=b.getD (o+i) 0:=by rw[List.getD_eq_getElem?_getD,List.getD_eq_getElem?_getD,List.getElem?_drop]
theorem ZP (c:List Int) (m:Nat):av (c.take (m+3))=av (c.take m)+18446744073709551616 ^ m*((c.getD m 0).toNat+18446744073709551616*((c.getD (m+2) 0).toNat*18446744073709551616+(c.getD (m+1) 0).toNat)):=by rw[show m+3=m+2+1 by omega,aM,show m+2=m+1+1 by omega,aM,aM];simp only[afI];generalize 18446744073709551616 ^ m=P;grind
theorem ZO (c:List Int) (m:Nat):av (c.take (m+2))=av (c.take m)+18446744073709551616 ^ m*((c.getD m 0).toNat+18446744073709551616*(c.getD (m+1) 0).toNat):=by rw[show m+2=m+1+1 by omega,aM,aM];simp only[afI];generalize 18446744073709551616 ^ m=P;grind
theorem Lx {N:Nat} (hN:1180591620717411303424<=N) {o n:Nat} {b c:List Int} (hn:2<=n) (hb:InWq b) (hc:InWq c) (hcl:n<=c.length) (hbl:o+n+1<=b.length) (hbs:b.length<=1099511627780)
  (htop:0<(c.getD (n - 1) 0).toNat) (hU:av ((b.drop o).take (n+1))<av (c.take n)*18446744073709551616) :
  ∃ g:Nat,av ((b.drop o).take (n+1)) / av (c.take n)<=g/\g<18446744073709551616 /\ ∀ k,R5 N o (n+1) 0 n b c k=k (g:Int):=by
 obtain⟨m,rfl⟩:∃ m,n=m+2:=⟨n - 2,by omega⟩
 have hU3:=ZP (b.drop o) m;have hV2:=ZO c m;rw[j8,j8,j8]at hU3;have a0:=hb.at (i:=o+m);have a1:=hb.at (i:=o+(m+1));have a2:=hb.at (i:=o+(m+2));have c0:=hc.at (i:=m);have c1:=hc.at (i:=m+1);have hA:=aR (hb.drop o) m;have hB:=aR hc m;rw[show m+2 - 1=m+1 by omega]at htop;obtain⟨u0,hu0⟩:∃ u,u=(b.getD (o+m) 0).toNat:=⟨_,rfl⟩
 obtain⟨u1,hu1⟩:∃ u,u=(b.getD (o+(m+1)) 0).toNat:=⟨_,rfl⟩
 obtain⟨u2,hu2⟩:∃ u,u=(b.getD (o+(m+2)) 0).toNat:=⟨_,rfl⟩
 obtain⟨v0,hv0⟩:∃ u,u=(c.getD m 0).toNat:=⟨_,rfl⟩
 obtain⟨v1,hv1⟩:∃ u,u=(c.getD (m+1) 0).toNat:=⟨_,rfl⟩
 have g0:b.getD (o+m) 0=(u0:Int):=by omega
 have g1:b.getD (o+(m+1)) 0=(u1:Int):=by omega
 have g2:b.getD (o+(m+2)) 0=(u2:Int):=by omega
 have k0:c.getD m 0=(v0:Int):=by omega
 have k1:c.getD (m+1) 0=(v1:Int):=by omega
 rw[<- hu0,<- hu1,<- hu2]at hU3;rw[<- hv0,<- hv1]at hV2;rw[<- hv1]at htop;rw[show m+2+1=m+3 by omega];rw[show m+2+1=m+3 by omega]at hU;generalize av ((b.drop o).take (m+3))=U at *;generalize av (c.take (m+2))=V at *;have hV0:0<V:=by
  rcases agQ V with h | h
  ·rw[h,agV]at hU; omega
  ·exact h
 have hq:U / V<18446744073709551616:=by rw[afE hV0,afy]; exact hU
 have i2:o+Int.toNat (((m+2:Nat):Int))=o+(m+2):=by omega
 have i1:o+Int.toNat (((m+2:Nat):Int) - 1)=o+(m+1):=by omega
 have j1:0+Int.toNat (((m+2:Nat):Int) - 1)=m+1:=by omega
 by_cases h0:v1<=u2
 ·refine⟨18446744073709551615,by omega,by omega,λk=>?_⟩
  (unfold R5; rw[ac]; unfold Qq)
  simp only[i2,i1,j1,g2,g1,k1];rw[aa aft,aa (afu (by omega)),aa afs,aa aft,aa (afu (by omega)),afu (by omega:(u2:Int)>=v1),afx];rfl
 ·have hT:(u2*18446744073709551616+u1) / v1<18446744073709551616:=by rw[afE htop];have:=afC 18446744073709551616 (Nat.lt_of_not_le h0);rw[aiN]at this;omega
  obtain⟨g,e1,e2,e3⟩:=H8 (N:=N) (o:=o) (n:=m+2) (T:=u2*18446744073709551616+u1) (d:=U / V) (u0:=u0) (v0:=v0) (v1:=v1) (by omega) (by rw[show m+2 - 2=m by omega]; exact k0) (by rw[show m+2 - 1=m+1 by omega]; exact k1) (by rw[show m+2 - 2=m by omega]; exact g0) hcl hbl hbs (by omega) (by omega) (by omega)
   (λg hg=>D7 hA hU3 hV2 hV0 hg)
   ((u2*18446744073709551616+u1) / v1) ((u2*18446744073709551616+u1)%v1) N (by omega) hT (ags _ _) (ahj (afK _ htop) (by omega)) (JK hA hU3 hV2 hV0 htop (by omega))
  refine⟨g,e1,e2,λk=>?_⟩
  (unfold R5; rw[ac]; unfold Qq)
  simp only[i2,i1,j1,g2,g1,k1];rw[aa aft,aa (afu (by omega)),aa afs,aa aft,aa (afu (by omega)),afv (by omega:¬(u2:Int)>=v1),afw];rw[aa aft,aa (afu (by omega)),aa afs,aa aft,aa (afu (by omega)),aa afs,aa aft,aa (afu (by omega))];rw[C6 (by omega) (by omega) (by omega) (by omega),e3]
theorem KD {b:List Int} {o i:Nat} (D:Nat) (h:o+i<=b.length):(b.take o++(dlq D i++b.drop (o+i))).length=b.length:=by simp[ak]; omega
theorem KB {b:List Int} {o i:Nat} (D:Nat) (h:o+i<b.length):(b.take o++(dlq D i++b.drop (o+i))).getD (o+i) 0=b.getD (o+i) 0:=by rw[<- afN,cW h,b6 (by simp[ak]; omega)]
theorem KE {b:List Int} {o i:Nat} (D:Nat) (h:o+i<b.length):(b.take o++(dlq D i++b.drop (o+i))).set (o+i) ((D / 18446744073709551616 ^ i%18446744073709551616:Nat):Int)=b.take o++(dlq D (i+1)++b.drop (o+(i+1))):=by rw[<- afN,cW h,bf _ _ _ _ _ (by simp[ak]; omega),dlq];simp[agc]
theorem Kz {b:List Int} {o i n:Nat} (D E:Nat) (hi:i<=n) (h:o+n<=b.length):(b.take o++(dlq E i++((dlq D n).drop i++b.drop (o+n)))).length=b.length:=by simp[ak]; omega
theorem Ky {b:List Int} {o i n:Nat} (D E:Nat) (hi:i<n) (h:o+n<=b.length):(b.take o++(dlq E i++((dlq D n).drop i++b.drop (o+n)))).getD (o+i) 0=((D / 18446744073709551616 ^ i%18446744073709551616:Nat):Int):=by rw[<- afN,cW (n:=i) (by rw[ak]; exact hi),ahg,b6 (by simp[ak]; omega),sS D hi]
theorem KA {b:List Int} {o i n:Nat} (D E:Nat) (hi:i<n) (h:o+n<=b.length):(b.take o++(dlq E i++((dlq D n).drop i++b.drop (o+n)))).set (o+i) ((E / 18446744073709551616 ^ i%18446744073709551616:Nat):Int)=b.take o++(dlq E (i+1)++((dlq D n).drop (i+1)++b.drop (o+n))):=by rw[<- afN,cW (n:=i) (by rw[ak]; exact hi),ahg,bf _ _ _ _ _ (by simp[ak]; omega),dlq];simp
theorem Jx {m:Nat} (S X:Nat):∀ n,n<=m->dlq (S+18446744073709551616 ^ m*X) n=dlq S n
 | 0,_=>rfl
 | n+1,h=>by rw[dlq,dlq,Jx S X n (by omega)];congr 3;refine iT (R:=18446744073709551616 ^ (m - (n+1))*X) ?_;rw[<- afG,<- afO,show n+1+(m - (n+1))=m by omega]
theorem DD {w:List Int} {n i U Q:Nat} (hw:InWq w) (hl:w.length=n+1) (hU:U=av w) (hi:i<=n) (hQ:Q<18446744073709551616 ^ (n+1)) :
  (((w.getD i 0).toNat+18446744073709551616 - Q / 18446744073709551616 ^ i%18446744073709551616 - (if av (w.take i)<Q%18446744073709551616 ^ i then 1 else 0))%18446744073709551616=(U+18446744073709551616 ^ (n+1) - Q) / 18446744073709551616 ^ i%18446744073709551616)
  /\ (if (w.getD i 0).toNat<Q / 18446744073709551616 ^ i%18446744073709551616+(if av (w.take i)<Q%18446744073709551616 ^ i then 1 else 0)then 1 else 0)=(if av (w.take (i+1))<Q%18446744073709551616 ^ (i+1)then 1 else(0:Nat)):=by
 have hx:=hw.at (i:=i);have hA:=aM (m:=w) i;have hAl:=aR hw i;have hp:=bb i;have hBl:=afK Q hp;have hPs:18446744073709551616 ^ (i+1)=18446744073709551616 ^ i*18446744073709551616:=afI ..;have hmm:Q%18446744073709551616 ^ (i+1)=Q%18446744073709551616 ^ i+18446744073709551616 ^ i*(Q / 18446744073709551616 ^ i%18446744073709551616):=by rw[hPs,aim]
 have hyl:Q / 18446744073709551616 ^ i%18446744073709551616<18446744073709551616:=afK _ (by decide);constructor
 ·obtain⟨R1,h1⟩:=bE w (i+1);have hW:18446744073709551616 ^ (n+1)=18446744073709551616 ^ i*18446744073709551616*18446744073709551616 ^ (n - i):=by rw[<- hPs,<- afO,show i+1+(n - i)=n+1 by omega]
  have hq:=CS (D:=U+18446744073709551616 ^ (n+1) - Q) (a:=U+18446744073709551616 ^ (n+1)) (b:=Q) (x:=(w.getD i 0).toNat) (y:=Q / 18446744073709551616 ^ i%18446744073709551616) (R1:=R1+18446744073709551616 ^ (n - i)) (R2:=Q / (18446744073709551616 ^ i*18446744073709551616)) hAl hBl rfl
   (by rw[hU,h1,hA,hW,hPs,afM]; omega)
   (by rw[<- hmm,hPs]; exact(ahG _ _).symm)
   (by omega)
  generalize (U+18446744073709551616 ^ (n+1) - Q) / 18446744073709551616 ^ i=Z at *;generalize Q / 18446744073709551616 ^ i%18446744073709551616=y at *;generalize (w.getD i 0).toNat=x at *;generalize ((R1+18446744073709551616 ^ (n - i):Nat):Int) - ((Q / (18446744073709551616 ^ i*18446744073709551616):Nat):Int)=RR at *;split at hq <;> rename_i hh <;> simp only[hh,ag8,af4] <;> omega
 ·rw[hA,hmm];exact(oF _ _ _ _ _ hAl hBl).symm
theorem ky (i:Nat):(i:Int)+1=((i+1:Nat):Int):=rfl
theorem Fo (p:Prop) [Decidable p]:(if p then(1:Int)else 0)=((if p then 1 else 0:Nat):Int):=by split <;> rfl
theorem Hq (p:Nat) (h:p<18446744073709551616):IntKind.wrap .u64 (((p+1:Nat):Int) - 1)=(p:Int):=by rw[am]; omega
theorem CK {D V c v i:Nat} (hc:c=(D%18446744073709551616 ^ i+V) / 18446744073709551616 ^ i) :
  (D%18446744073709551616 ^ (i+1)+(V+18446744073709551616 ^ i*v)) / 18446744073709551616 ^ (i+1)=(D / 18446744073709551616 ^ i%18446744073709551616+v+c) / 18446744073709551616 /\
  ∀ R,(D+(V+18446744073709551616 ^ i*v+18446744073709551616 ^ (i+1)*R)) / 18446744073709551616 ^ i%18446744073709551616=(D / 18446744073709551616 ^ i%18446744073709551616+v+c)%18446744073709551616:=by
 have hp:=bb i;have hPs:18446744073709551616 ^ (i+1)=18446744073709551616 ^ i*18446744073709551616:=afI ..;have hmm:D%18446744073709551616 ^ (i+1)=D%18446744073709551616 ^ i+18446744073709551616 ^ i*(D / 18446744073709551616 ^ i%18446744073709551616):=by rw[hPs,aim]
 have e:D%18446744073709551616 ^ (i+1)+(V+18446744073709551616 ^ i*v)=(D%18446744073709551616 ^ i+V)+18446744073709551616 ^ i*(D / 18446744073709551616 ^ i%18446744073709551616+v):=by rw[hmm,afM]; omega
 have e2:(D%18446744073709551616 ^ (i+1)+(V+18446744073709551616 ^ i*v)) / 18446744073709551616 ^ i=D / 18446744073709551616 ^ i%18446744073709551616+v+c:=by rw[e,cH,<- hc]; omega
 constructor
 ·rw[hPs,<- afD,<- hPs,e2]
 ·intro R;have e3:D+(V+18446744073709551616 ^ i*v+18446744073709551616 ^ (i+1)*R)=(D%18446744073709551616 ^ (i+1)+(V+18446744073709551616 ^ i*v))+18446744073709551616 ^ (i+1)*(D / 18446744073709551616 ^ (i+1)+R):=by have:=ahG D (18446744073709551616 ^ (i+1));rw[afM]; omega
  rw[iT e3,e2]
theorem Hy {D V c i:Nat} (hc:c=(D%18446744073709551616 ^ i+V) / 18446744073709551616 ^ i) :
  (D%18446744073709551616 ^ (i+1)+V) / 18446744073709551616 ^ (i+1)=(D / 18446744073709551616 ^ i%18446744073709551616+0+c) / 18446744073709551616 /\
  (D+V) / 18446744073709551616 ^ i%18446744073709551616=(D / 18446744073709551616 ^ i%18446744073709551616+0+c)%18446744073709551616:=by
 obtain⟨a1,a2⟩:=CK (v:=0) hc;have a3:=a2 0;rw[agS,af3 V]at a1;rw[agS,agS,af3 V]at a3;exact⟨a1,a3⟩
theorem KP {N:Nat} (hN:1180591620717411303424<=N) {o n U V d:Nat} {b c:List Int} (hn:1<=n) (hc:InWq c) (hcl:n<=c.length) (hbl:o+(n+1)<=b.length) (hbs:b.length<=1099511627780) (hV:V=av (c.take n)) (hUW:U<18446744073709551616 ^ (n+1)) (hd:∀ g,g<=d↔g*V<=U) (e0:Int->List Int->Bool) :
  ∀ g M,g<M->g<18446744073709551616->d<=g->g*V<18446744073709551616 ^ (n+1) ->
   ah M (tZ N o (n+1) 0 n (n:Int) c e0) ((g:Int),((if U<g*V then 1 else 0:Nat):Int),b.take o++(dlq (U+18446744073709551616 ^ (n+1) - g*V) (n+1)++b.drop (o+(n+1))))=e0 (d:Int) (b.take o++(dlq (U+18446744073709551616 ^ (n+1) - d*V) (n+1)++b.drop (o+(n+1)))):=by
 intro g;induction g with
 | zero=>
  intro M hM _ hdg _;obtain⟨M,rfl⟩:∃ m,M=m+1:=⟨M - 1,by omega⟩
  have:d=0:=by omega
  subst this;show tZ N o (n+1) 0 n (n:Int) c e0 (_,_,_) (ah M _)=_;simp only[tZ,agV];rw[if_neg (by omega:¬ U<0),show(((0:Nat):Int) != 0)=false from rfl,afw]
 | succ p ih=>
  intro M hM hg hdg hgW;obtain⟨M,rfl⟩:∃ m,M=m+1:=⟨M - 1,by omega⟩
  show tZ N o (n+1) 0 n (n:Int) c e0 (_,_,_) (ah M _)=_;have hps:(p+1)*V=p*V+V:=ag3 _ _;by_cases hlt:U<(p+1)*V
  ·have hdp:d<=p:=by
    rcases agv p d with h | h
    ·have:=(hd (p+1)).1 h; omega
    ·exact h
   simp only[tZ];rw[if_pos hlt,show(((1:Nat):Int) != 0)=true from rfl,afx];obtain⟨D,hD⟩:∃ D,D=U+18446744073709551616 ^ (n+1) - (p+1)*V:=⟨_,rfl⟩
   obtain⟨E,hE⟩:∃ E,E=U+18446744073709551616 ^ (n+1) - p*V:=⟨_,rfl⟩
   have hDE:E=D+V:=by omega
   have hDl:D<18446744073709551616 ^ (n+1):=by omega
   rw[<- hD];refine aH (λi=>((((D%18446744073709551616 ^ i+av (c.take i)) / 18446744073709551616 ^ i:Nat):Int),(i:Int),b.take o++(dlq E i++((dlq D (n+1)).drop i++b.drop (o+(n+1)))))) n ?_ (by omega) (λi hi K=>?_) (λK=>?_)
   ·simp[dlq,av,ail]
   ·have hx:=hc.at (i:=i);have hcv:=aM (m:=c) i;have hVl:=aR hc i;have hp:=bb i;have hml:=afK D hp;obtain⟨cy,hcy⟩:∃ cy,cy=(D%18446744073709551616 ^ i+av (c.take i)) / 18446744073709551616 ^ i:=⟨_,rfl⟩
    have hcl1:cy<=1:=by
     have:cy<2:=by rw[hcy,afE hp]; omega
     omega
    obtain⟨a1,a2⟩:=CK (D:=D) (V:=av (c.take i)) (v:=(c.getD i 0).toNat) hcy;obtain⟨R,hR⟩:=bE (c.take n) (i+1);rw[aiz,agW (by omega),<- hV,hcv]at hR;have a3:=a2 R;rw[<- hR,<- hDE]at a3;have hdl:D / 18446744073709551616 ^ i%18446744073709551616<18446744073709551616:=afK _ (by decide);simp only[gY,afz,af1];rw[Kz D E (by omega) (by omega),Ky D E (by omega) (by omega)];rw[afu (by omega:(i:Int)<n),afx,aa aft,aa (afu (by omega)),aa aft,aa (afu (by omega)),<- hcy,
     nz N (a:=D / 18446744073709551616 ^ i%18446744073709551616) (b:=(c.getD i 0).toNat) (d:=cy) rfl (by omega) rfl hcl1,aa aft,aa (afu (by omega)),aa afs,<- a3,KA D E (by omega) (by omega),<- a1,hcv,ky]
   ·have hp:=bb n;have hml:=afK D hp;have hVl:V<18446744073709551616 ^ n:=by rw[hV]; exact aR hc n
    obtain⟨cy,hcy⟩:∃ cy,cy=(D%18446744073709551616 ^ n+V) / 18446744073709551616 ^ n:=⟨_,rfl⟩
    have hcl1:cy<=1:=by
     have:cy<2:=by rw[hcy,afE hp]; omega
     omega
    obtain⟨a1,a3⟩:=Hy (D:=D) (V:=V) (i:=n) hcy;rw[afF hDl,<- hDE]at a1;rw[<- hDE]at a3;simp only[gY,afz];rw[afv (by omega:¬(n:Int)<n),afw,Kz D E (by omega) (by omega),Ky D E (by omega) (by omega),<- hV,<- hcy,aa aft,aa (afu (by omega)),
     nz N (y:=0) (c:=((cy:Nat):Int)) (a:=D / 18446744073709551616 ^ n%18446744073709551616) (b:=0) (d:=cy) rfl rfl rfl hcl1,aa aft,aa (afu (by omega)),<- a3,<- a1,KA D E (by omega) (by omega),Hq p (by omega)]
    rw[agh (by rw[ak]; omega),agk];have eb:IntKind.wrap .u64 (((1:Nat):Int) - ((E / 18446744073709551616 ^ (n+1):Nat):Int))=((if U<p*V then 1 else 0:Nat):Int):=by
     have hp1:=bb (n+1);by_cases h:U<p*V
     ·rw[if_pos h,af2 (by omega),am]; omega
     ·rw[if_neg h];have:E / 18446744073709551616 ^ (n+1)=1:=by refine Nat.div_eq_of_lt_le ?_ ?_ <;> omega
      rw[this,am]; omega
    rw[eb,hE];exact ih M (by omega) (by omega) hdp (by omega)
  ·have:d=p+1:=by have:=(hd (p+1)).2 (by omega);omega
   subst this;simp only[tZ];rw[if_neg hlt,show(((0:Nat):Int) != 0)=false from rfl,afw]
theorem Pm {N:Nat} (hN:1180591620717411303424<=N) {o n:Nat} {b c:List Int} (hn:2<=n) (hb:InWq b) (hc:InWq c) (hcl:n<=c.length) (hbl:o+(n+1)<=b.length) (hbs:b.length<=1099511627780)
  (htop:0<(c.getD (n - 1) 0).toNat) (hU:av ((b.drop o).take (n+1))<av (c.take n)*18446744073709551616) (k:Ky9) :
  PK N o (n+1) 0 n b c k=k ((av ((b.drop o).take (n+1)) / av (c.take n):Nat):Int) (b.take o++(dlq (av ((b.drop o).take (n+1))%av (c.take n)) (n+1)++b.drop (o+(n+1)))):=by
 obtain⟨g,g1,g2,g3⟩:=Lx hN hn hb hc hcl (by omega) hbs htop hU
 (unfold PK; rw[ac]; unfold Ni)
 rw[g3];have hw:InWq ((b.drop o).take (n+1)):=(hb.drop o).take _;have hwl:((b.drop o).take (n+1)).length=n+1:=by rw[aga,ag7]; omega
 have hwg:∀ i,i<=n->((b.drop o).take (n+1)).getD i 0=b.getD (o+i) 0:=λi hi=>by rw[uy (by omega),j8]
 generalize (b.drop o).take (n+1)=w at *;obtain⟨U,hUe⟩:∃ U,U=av w:=⟨_,rfl⟩
 obtain⟨V,hVe⟩:∃ V,V=av (c.take n):=⟨_,rfl⟩
 rw[<- hUe,<- hVe]at hU g1 ⊢;have hV0:0<V:=by
  rcases agQ V with h | h
  ·rw[h,agV]at hU; omega
  ·exact h
 have hVl:V<18446744073709551616 ^ n:=by rw[hVe]; exact aR hc n
 have hUW:U<18446744073709551616 ^ (n+1):=by rw[hUe]; have:=iN hw; rwa [hwl]at this
 have hgV:g*V<18446744073709551616 ^ (n+1):=by rw[afI,afy];exact agB hVl g2
 have hres:b.take o++(dlq (U%V) (n+1)++b.drop (o+(n+1)))=b.take o++(dlq (U+18446744073709551616 ^ (n+1) - (U / V)*V) (n+1)++b.drop (o+(n+1))):=by
  have e:U+18446744073709551616 ^ (n+1) - (U / V)*V=U%V+18446744073709551616 ^ (n+1)*1:=by have:=ags U V;omega
  rw[e,Jx _ _ _ (afH _)]
 rw[hres];obtain⟨D,hD⟩:∃ D,D=U+18446744073709551616 ^ (n+1) - g*V:=⟨_,rfl⟩
 obtain⟨Q,hQ⟩:∃ Q,Q=g*V:=⟨_,rfl⟩
 have hQW:Q<18446744073709551616 ^ (n+1):=by rw[hQ]; exact hgV
 refine aH (λi=>(((g*av (c.take i) / 18446744073709551616 ^ i:Nat):Int),((if av (w.take i)<Q%18446744073709551616 ^ i then 1 else 0:Nat):Int),(i:Int),b.take o++(dlq D i++b.drop (o+i)))) n ?_ (by omega) (λi hi K=>?_) (λK=>?_)
 ·simp[dlq,av,ail]
 ·have hx:=hb.at (i:=o+i);have hy:=hc.at (i:=i);have hcv:=aM (m:=c) i;have hp:=bb i;have hVi:=aR hc i;obtain⟨s1,s2⟩:=DD hw hwl hUe (by omega:i<=n) (by rw[hQ]; exact hgV:Q<_);rw[hwg i (by omega)]at s1 s2;rw[hQ,<- hD,<- hQ]at s1;obtain⟨cy,hcy⟩:∃ cy,cy=g*av (c.take i) / 18446744073709551616 ^ i:=⟨_,rfl⟩
  have hcyl:cy<18446744073709551616:=by rw[hcy,afE hp];exact agB g2 hVi
  have e1:g*av (c.take (i+1))=g*av (c.take i)+18446744073709551616 ^ i*(g*(c.getD i 0).toNat):=by rw[hcv,afM,afY g]
  have ecy:g*av (c.take (i+1)) / 18446744073709551616 ^ (i+1)=(g*(c.getD i 0).toNat+0+cy) / 18446744073709551616:=by rw[afI,<- afD,e1,cH,<- hcy];congr 1; omega
  obtain⟨R,hR⟩:=bE (c.take n) (i+1);rw[aiz,agW (by omega),<- hVe]at hR;have elo:Q / 18446744073709551616 ^ i%18446744073709551616=(g*(c.getD i 0).toNat+0+cy)%18446744073709551616:=by
   have:Q=g*av (c.take (i+1))+18446744073709551616 ^ (i+1)*(g*R):=by rw[hQ,hR,afM,afY g]
   rw[iT this,e1,cH,<- hcy];congr 1; omega
  simp only[gX,afz,af1];rw[KD D (by omega),KB D (by omega),afu (by omega:(i:Int)<n),afx,aa aft,aa (afu (by omega)),<- hcy,
   Bm N (c:=0) (a:=g) (b:=(c.getD i 0).toNat) (e:=0) (f:=cy) rfl (by omega) rfl rfl g2 (by omega) (by omega) hcyl,aa aft,aa (afu (by omega)),<- elo,<- ecy,
   xV N (a:=(b.getD (o+i) 0).toNat) (b:=Q / 18446744073709551616 ^ i%18446744073709551616) (d:=if av (w.take i)<Q%18446744073709551616 ^ i then 1 else 0) (by omega) rfl rfl (by split <;> omega),aa aft,aa (afu (by omega)),aa afs,s1,KE D (by omega)]
  have s3:(if (b.getD (o+i) 0).toNat<Q / 18446744073709551616 ^ i%18446744073709551616+(if av (w.take i)<Q%18446744073709551616 ^ i then 1 else 0)then(1:Int)else 0)=((if av (w.take (i+1))<Q%18446744073709551616 ^ (i+1)then 1 else 0:Nat):Int):=by rw[Fo,s2]
  rw[s3];rfl
 ·have hx:=hb.at (i:=o+n);obtain⟨s1,s2⟩:=DD hw hwl hUe (afH n) (by rw[hQ]; exact hgV:Q<_);rw[hwg n (by omega)]at s1 s2;rw[hQ,<- hD,<- hQ]at s1;have hql:Q / 18446744073709551616 ^ n<18446744073709551616:=by rw[afE (bb n),afy,<- afI,hQ]; exact hgV
  rw[afF hql]at s1 s2;have hwt:w.take (n+1)=w:=afS (by omega);rw[hwt,<- hUe,afF hQW]at s2;simp only[gX,afz];rw[afv (by omega:¬(n:Int)<n),afw,<- hVe,<- hQ,KD D (by omega),KB D (by omega),aa aft,aa (afu (by omega)),
   xV N (a:=(b.getD (o+n) 0).toNat) (b:=Q / 18446744073709551616 ^ n) (d:=if av (w.take n)<Q%18446744073709551616 ^ n then 1 else 0) (by omega) rfl rfl (by split <;> omega),aa aft,aa (afu (by omega)),s1,KE D (by omega)]
  have s3:(if (b.getD (o+n) 0).toNat<Q / 18446744073709551616 ^ n+(if av (w.take n)<Q%18446744073709551616 ^ n then 1 else 0)then(1:Int)else 0)=((if U<g*V then 1 else 0:Nat):Int):=by rw[<- hQ,Fo,s2]
  rw[s3,hD];exact KP hN (by omega) hc hcl hbl hbs hVe hUW (λp=>ahd hV0) _ g N (by omega) g2 g1 hgV
theorem Iv {N:Nat} (b:List Int) (m:Nat) (hm:m<=b.length) (hN:m<N) (hs:m<9223372036854775807) (k:Kz5):ra N 0 m b k=k (bS b m):=by
 (unfold ra; rw[ac]; unfold qh)
 have key:∀ n,n<=m -> ∀ M,n<M->ah M (wo N 0 m b λn_1=>((decide (0<=n_1/\n_1<=((m:Nat):Int)))&&(k ((Int.toNat n_1) - 0)))) (n:Int)=k (bS b n):=by
  intro n;induction n with
  | zero=>
   intro _ M hM;obtain⟨M,rfl⟩:∃ m,M=m+1:=⟨M - 1,by omega⟩
   show wo N 0 m b _ ((0:Nat):Int) _=_;simp only[wo,bS];rw[afv (by omega:¬((0:Nat):Int)>0),show(false==true)=false from rfl,afw,afu (by omega),agC];rfl
  | succ n ih=>
   intro hn M hM;obtain⟨M,rfl⟩:∃ m,M=m+1:=⟨M - 1,by omega⟩
   show wo N 0 m b _ ((n+1:Nat):Int) (ah M _)=_;have e:0+Int.toNat (((n+1:Nat):Int) - 1)=n:=by omega
   have e2:((n+1:Nat):Int) - 1=(n:Int):=by omega
   simp only[wo,e];rw[afu (by omega:((n+1:Nat):Int)>0),show(true==true)=true from rfl,afx,aa afs,aa aft,aa (afu (by omega)),aa afs,e2,ih (by omega) M (by omega),oI];by_cases h0:b.getD n 0=0
   ·have:(b.getD n 0==0)=true:=by simpa using h0
    rw[this,if_pos h0]; rfl
   ·have:(b.getD n 0==0)=false:=by simpa using h0
    rw[this,if_neg h0,afw,afu (by omega),agC];rfl
 exact key m (afH _) N hN
theorem zc (N:Nat) (b:List Int) (m i:Nat) (hm:m<=b.length) (hi:i<9223372036854775807) (k:Kz4):Ki N 0 m (i:Int) b k=k ((b.take m).getD i 0):=by
 unfold Ki Su;by_cases h:i<m
 ·rw[afu (by omega),afx,aa aft,aa (afu (by omega)),uy h];simp
 ·rw[afv (by omega),afw,dU (by rw[aga]; omega)]
theorem Gm {N:Nat} (b:List Int) (hb:InWq b) (m s:Nat) (hm:m<=b.length) (hs:s<64) (hN:m+3<N) (hms:m<=1099511627780):∃ lost:Bool,∀ k,Kh N 0 m (s:Int) b k=k (ae (av (b.take m) / 2 ^ s)) lost:=by
 have ew:IntKind.wrap .u64 (Int.tdiv (s:Int) 64)=0:=by rw[am,agA (by omega)]; omega
 have es:Int.tmod (s:Int) 64=(s:Int):=by rw[ago (by omega)]; omega
 have eml:IntKind.wrap .u64 ((m:Nat):Int)=(m:Int):=by rw[am]; omega
 have hs0:0<2 ^ s:=afJ _;by_cases h0:m=0
 ·subst h0;refine⟨false,λk=>?_⟩
  (unfold Kh; rw[ac]; unfold Jf)
  rw[ew,ahO,show av []=0 from rfl,Nat.zero_div,bh];rfl
 ·refine⟨aD .and .u64 (b.getD 0 0) (IntKind.wrap .u64 ((IntKind.wrap .u64 ((1:Int)*2 ^ s)) - 1)) != 0,λk=>?_⟩
  (unfold Kh; rw[ac]; unfold Jf)
  have emin:min s 64=s:=by omega
  have e64:min (Int.toNat (IntKind.wrap .u64 (64 - (s:Int)))) 64=64 - s:=by rw[am]; omega
  have z0:0+Int.toNat (0:Int)=0:=rfl;have z1:Int.toNat (0:Int) - 0=0:=rfl;rw[ew,es,eml,afv (by omega:¬(0:Int)>=(m:Int)),afw,aa afs,aa aft,z0,z1,aa (afu (by omega)),aa (afu (by omega)),aa (afu (by omega)),afz,emin];refine aH (λi=>(aD .and .u64 (b.getD 0 0) (IntKind.wrap .u64 ((IntKind.wrap .u64 ((1:Int)*2 ^ s)) - 1)),(i:Int))) 0 rfl (by omega) (λi hi K=>by omega) (λK=>?_);simp only[lP];rw[afv (by omega:¬((0:Nat):Int)<((0:Nat):Int)),afw];generalize aD .and .u64 (b.getD 0 0) (IntKind.wrap .u64 ((IntKind.wrap .u64 ((1:Int)*2 ^ s)) - 1))=lo;have hw:InWq (b.take m):=hb.take m;have hwl:(b.take m).length=m:=by rw[aga]; omega
  obtain⟨X,hX⟩:∃ X,X=av (b.take m) / 2 ^ s:=⟨_,rfl⟩
  have elen:Int.toNat ((m:Int) - 0)=m:=by omega
  have elen2:(m:Int) - 0=(m:Int):=by omega
  rw[elen2,aa afs,aa (bF (by omega) (by omega) (by omega) (by omega)),agR,afz,<- hX];refine aH (λi=>((i:Int),dlq X i++List.replicate (m - i) 0)) m (by simp[dlq]) (by omega) (λi hi K=>?_) (λK=>?_)
  ·have hx:=hw.at (i:=i);have hy:=hw.at (i:=i+1);have hset:=uw X i m (by omega);have hl:(dlq X i++List.replicate (m - i) (0:Int)).length=m:=by simp[ak]; omega
   obtain⟨R,hR⟩:=AD hw i;have hdig:X / 18446744073709551616 ^ i%18446744073709551616=(((b.take m).getD i 0).toNat+18446744073709551616*((b.take m).getD (i+1) 0).toNat) / 2 ^ s%18446744073709551616:=by
    rw[hX,afD,afy (2 ^ s),<- afD,hR];have e2:18446744073709551616*18446744073709551616*R=2 ^ s*(18446744073709551616*(2 ^ (64 - s)*R)):=by
     have hs1:2 ^ s*2 ^ (64 - s)=18446744073709551616:=by rw[<- afO,show s+(64 - s)=64 by omega]
     rw[afY (2 ^ s),<- afG (2 ^ s),hs1,afG]
    rw[e2,agr _ _ hs0,agN]
   have ea:(0:Int)+(i:Int)=(i:Int):=by omega
   have eb:(i:Int)+1=((i+1:Nat):Int):=by omega
   simp only[i5,afz,ea,eb,emin,e64,hl];rw[afu (by omega:(i:Int)<(m:Int)),afx,aa afs,zc N b m i hm (by omega),aa (afu (by omega)),aa afs,aa afs,zc N b m (i+1) hm (by omega),aa (afu (by rw[am]; omega)),aa aft,aa (afu (by omega)),aa afs];have ex:(b.take m).getD i 0=((((b.take m).getD i 0).toNat:Nat):Int):=by omega
   have ey:(b.take m).getD (i+1) 0=((((b.take m).getD (i+1) 0).toNat:Nat):Int):=by omega
   rw[ex,ey,DF (by omega) (by omega) (by omega),<- hdig,hset]
  ·simp only[i5];rw[afv (by omega:¬(m:Int)<(m:Int)),afw,af6,af9,af5];have hXl:X<18446744073709551616 ^ m:=by have h1:=iN hw;rw[hwl]at h1;rw[hX];exact ag4 (ag5 _ _) h1
   have:=kv (N:=N) _ (gI X m) (by rw[ak]; omega) (by rw[ak]; omega) (λl=>k l (lo != 0));rw[this,mj hXl]
theorem LS {N:Nat} (m:List Int) (hm:InWq m) (n:Nat) (hn:n<4294967296) (hN:m.length+n / 64+4<N) (hs:m.length<=1099511627776) (e0:List Int->Bool) :
  ah N (eC N ((n / 64:Nat):Int) ((n%64:Nat):Int) m ((m.length:Nat):Int) e0) (0,List.replicate (n / 64+m.length+1) (0:Int))=e0 (dlq (av m*2 ^ n) (n / 64+m.length+1)):=by
 have hw6:n / 64<67108864:=by omega
 generalize hw:n / 64=w at *;generalize hsh:n%64=s at *;have hs32:s<64:=by omega
 have hp2:2 ^ n=18446744073709551616 ^ w*2 ^ s:=by rw[Er,hw,hsh]
 have hs0:0<2 ^ s:=afJ s;have hs1:2 ^ s*2 ^ (64 - s)=18446744073709551616:=by rw[<- afO,show s+(64 - s)=64 by omega]
 let V:=av m*2 ^ n
 let X:=av m*2 ^ s
 have hVX:V=18446744073709551616 ^ w*X:=by simp only[V,X]; rw[hp2,afY]
 let T:=λi=>av (m.take i)*2 ^ s
 let c:=λi=>T i / 18446744073709551616 ^ i
 have hcl:∀ i,c i<2 ^ s:=by intro i;simp only[c,T];rw[afE (bb i),afy];exact agG (aR hm i) hs0
 refine aH (N:=N) (λi=>((i:Int),dlq V (w+i)++((c i:Nat):Int)::List.replicate (m.length - i) 0)) m.length ?_ (by omega) (λi hi K=>?_) (λK=>?_)
 ·congr 1;show List.replicate (w+m.length+1) (0:Int)=dlq V w++((c 0:Nat):Int)::List.replicate m.length 0;rw[hVX,sT];have hc0:c 0=0:=by simp[c,T,av]
  rw[hc0];have:w+m.length+1=w+(m.length+1):=by omega
  rw[this,<- aha,agf]; rfl
 ·have hx:=hm.at (i:=i);have hT:T (i+1)=T i+18446744073709551616 ^ i*((m.getD i 0).toNat*2 ^ s):=by simp only[T,aM,af0,afG]
  have hq:T (i+1) / 18446744073709551616 ^ i=c i+(m.getD i 0).toNat*2 ^ s:=by rw[hT,cH]
  have hci:c i<2 ^ s:=hcl i;have hc1:c (i+1)=(c i+(m.getD i 0).toNat*2 ^ s) / 18446744073709551616:=by rw[<- hq]; simp only[c]; rw[afI,afD]
  have hdig:V / 18446744073709551616 ^ (w+i)%18446744073709551616=(c i+(m.getD i 0).toNat*2 ^ s)%18446744073709551616:=by rw[<- hq,hVX,afO,<- afD,af7 _ (bb w)];obtain⟨R,hR⟩:=bE m (i+1);refine iT (R:=R*2 ^ s) ?_;simp only[X,T];rw[hR,af0,afG]
  have hrep:List.replicate (m.length - i) (0:Int)=0::List.replicate (m.length - (i+1)) 0:=by rw[show m.length - i=(m.length - (i+1))+1 by omega,agf]
  have hdl:=ak V (w+i);have ei:Int.toNat ((w:Int)+(i:Int))=w+i:=by omega
  have ei1:Int.toNat ((w:Int)+(i:Int)+1)=w+i+1:=by omega
  have emin:min s 64=s:=by omega
  have e64:min (Int.toNat (IntKind.wrap .u64 (64 - (s:Int)))) 64=64 - s:=by rw[am]; omega
  simp only[eC,afz,ei,ei1,emin,e64];rw[hrep,b6 hdl.symm,bf _ _ _ _ _ hdl.symm];have hmx:m.getD i 0=(((m.getD i 0).toNat:Nat):Int):=by omega
  rw[hmx];generalize hxx:(m.getD i 0).toNat=x at *;have hx32:x<18446744073709551616:=by omega
  have hlow:x*2 ^ s%18446744073709551616=2 ^ s*(x%2 ^ (64 - s)):=by
   have e:x*2 ^ s%(2 ^ s*2 ^ (64 - s))=2 ^ s*(x%2 ^ (64 - s)):=by rw[afy x]; exact ahh _ _ _
   rwa [hs1]at e
  have hsum:2 ^ s*(x%2 ^ (64 - s))+c i<18446744073709551616:=by have h1:x%2 ^ (64 - s)+1<=2 ^ (64 - s):=afK _ (afJ _);have h2:=afC (2 ^ s) h1;rw[hs1,afM]at h2;omega
  have epw:(x:Int)*2 ^ s=((x*2 ^ s:Nat):Int):=by rw[afR,agX]; rfl
  have eor:aD .or .u64 ((c i:Nat):Int) (IntKind.wrap .u64 ((x:Int)*2 ^ s))=((V / 18446744073709551616 ^ (w+i)%18446744073709551616:Nat):Int):=by
   have e1:IntKind.wrap .u64 ((x*2 ^ s:Nat):Int)=((2 ^ s*(x%2 ^ (64 - s)):Nat):Int):=by rw[<- hlow,am]; omega
   rw[epw,e1,cu _ _ s hci hsum,hdig];omega
  have ehi:Int.fdiv (x:Int) (2 ^ (64 - s))=((c (i+1):Nat):Int):=by
   have e2:(2:Int) ^ (64 - s)=((2 ^ (64 - s):Nat):Int):=by rw[agX]; rfl
   rw[e2,kx,hc1];have:(c i+x*2 ^ s) / 18446744073709551616=x / 2 ^ (64 - s):=by rw[<- hs1,<- afD,afy x,agr _ _ hs0,af2 hci,af1]
   rw[this]
  rw[eor,ehi];have hl1:∀(a b:Int) (ys:List Int),(dlq V (w+i)++a::b::ys).length=w+i+2+ys.length:=by intro a b ys; simp[hdl]; omega
  have hset2:(dlq V (w+i)++((V / 18446744073709551616 ^ (w+i)%18446744073709551616:Nat):Int)::0::List.replicate (m.length - (i+1)) 0).set (w+i+1) ((c (i+1):Nat):Int)=dlq V (w+(i+1))++((c (i+1):Nat):Int)::List.replicate (m.length - (i+1)) 0:=by
   have:dlq V (w+i)++((V / 18446744073709551616 ^ (w+i)%18446744073709551616:Nat):Int)::0::List.replicate (m.length - (i+1)) 0=dlq V (w+(i+1))++0::List.replicate (m.length - (i+1)) 0:=by rw[<- agc,dlq]; simp
   rw[this];exact bf _ _ _ _ _ (by rw[ak]; omega)
  rw[hset2,hl1,hl1];simp only[agR];rw[afu (by omega:(i:Int)<((m.length:Nat):Int)),afx,aa aft,aa afs,aa aft,aa (afu (by omega)),aa (afu (by omega)),aa aft,aa (afu (by omega)),aa afs,aa afs,aa (afu (by rw[am]; omega)),aa aft,aa (afu (by omega)),aa afs];rfl
 ·simp only[eC];rw[afv (by omega:¬(m.length:Int)<m.length),afw,af6,af9];have hV:V<18446744073709551616 ^ (w+m.length+1):=by
   have h1:=iN hm;simp only[V];rw[hp2,afI,afO,afY,afG];refine agG ?_ (bb w);have hs2:2 ^ s<=18446744073709551616:=by rw[<- hs1]; exact agt _ (afJ _)
   exact age h1 hs2 (by decide)
  have hT:T m.length=X:=by simp only[T,X]; rw[agd]
  have hend:dlq V (w+m.length)++[((c m.length:Nat):Int)]=dlq V (w+m.length+1):=by
   rw[dlq];have:c m.length=V / 18446744073709551616 ^ (w+m.length)%18446744073709551616:=by
    have hX:V / 18446744073709551616 ^ (w+m.length)=X / 18446744073709551616 ^ m.length:=by rw[hVX,afO,<- afD,af7 _ (bb w)]
    have h2:=hcl m.length;have hs2:2 ^ s<=18446744073709551616:=by rw[<- hs1]; exact agt _ (afJ _)
    rw[hX,<- hT];exact(afF (by show c m.length<_; omega)).symm
   rw[this]
  rw[hend]
theorem FF (n:Nat):dlq n (ae n).length=ae n:=by refine List.ext_getElem (ak n _) (λi h1 h2=>?_);have e1:=sS n h2;have e2:=nO i n;rw[List.getD_eq_getElem?_getD,List.getElem?_eq_getElem h1,agi]at e1;rw[List.getD_eq_getElem?_getD,List.getElem?_eq_getElem h2,agi]at e2;rw[e1,e2]
theorem DV {X L:Nat} (hX:X<18446744073709551616 ^ L):∀ k,dlq X (L+k)=dlq X L++List.replicate k 0
 | 0=>by simp
 | k+1=>by rw[<- agc,dlq,DV hX k,af2 (afP hX (afL (by decide) (ahQ _ _))),ag6,afN];rfl
theorem sU (S:Nat):∀{m n:Nat},n<=m->(dlq S m).take n=dlq S n
 | 0,n,h=>by
  have:n=0:=by omega
  subst this; rfl
 | m+1,n,h=>by
  by_cases e:n=m+1
  ·subst e; rw[afS (by rw[ak]; omega)]
  ·rw[dlq,agz (by rw[ak]; omega),sU S (by omega)]
theorem CU (S a:Nat):∀ c,dlq S (a+c)=dlq S a++dlq (S / 18446744073709551616 ^ a) c
 | 0=>by simp[dlq]
 | c+1=>by rw[<- agc,dlq,CU S a c,dlq,afD,<- afO,afN]
theorem HO {V m:Nat} (h:V<18446744073709551616 ^ m):bS (dlq V m) m=(ae V).length:=by have h1:=xu (gI V m);rw[ak,pS,afF h]at h1;rw[<- h1,aga,ak];have:=j7 (dlq V m) m;omega
theorem VY {V m:Nat} (h1:18446744073709551616 ^ m<=V) (h2:V<18446744073709551616 ^ (m+1)):(ae V).length=m+1:=by have a:=fN (m+1) V h2;have b:=VX (V:=V) (w:=m) (by have:=ahV h1 (bb m); omega);omega
theorem vk {N:Nat} {m s:Nat} (hm:m ≠ 0) (hs:s<64) (hN:(ae m).length+4<N) (hl:(ae m).length<=1099511627776) (k0:Bool) (k1:Nat->List Int->Bool) :
  PX N (ae m) (s:Int) k0 k1=k1 (ae (m*2 ^ s)).length (dlq (m*2 ^ s) ((ae m).length+1)):=by
 have hlp:(ae m).length ≠ 0:=by rw[bU hm]; simp
 have hV:m*2 ^ s<18446744073709551616 ^ ((ae m).length+1):=by
  rw[afI];have h2:2 ^ s<18446744073709551616:=by rw[<- oi]; exact Nat.pow_lt_pow_right (by decide) hs
  exact agB (jJ m) h2
 (unfold PX; rw[ac]; unfold TZ)
 have e0:((((ae m).length:Nat):Int)==0)=false:=by simp; intro h; rw[h]at hlp; simp at hlp
 have ew:IntKind.wrap .u64 (Int.tdiv (s:Int) 64)=((s / 64:Nat):Int):=by rw[am,agA (by omega)]; omega
 have es:Int.tmod (s:Int) 64=((s%64:Nat):Int):=by rw[ago (by omega)]; rfl
 have elen:Int.toNat (((s / 64:Nat):Int)+(((ae m).length:Nat):Int)+1)=s / 64+(ae m).length+1:=by omega
 rw[e0,afw,ew,es,aa afs,aa afs,aa afs,aa (bF (by omega) (by omega) (by omega) (by omega)),elen];have:=LS (N:=N) (ae m) (aX m) s (by omega) (by omega) hl (λz_1=>xh N z_1 λmr=>k1 mr z_1);rw[aE,show s / 64=0 by omega,af1]at this;rw[show s / 64=0 by omega,af1];refine Eq.trans this ?_;rw[Bn _ (by rw[ak]; omega) (by rw[ak]; omega),ak,HO hV]
theorem LZ (xs:List Int) (k:Nat):av (xs++List.replicate k 0)=av xs:=by rw[np,zK]; simp
theorem w5 {N:Nat} (hN:1180591620717411303424<=N) {x y:Nat} (hxy:y<=x) (hy2:2<=(ae y).length) (hxl:(ae x).length<=1099511627000) (k:Kz2) :
  BL N (ae x) (ae y) k=k (ae (x / y)) (ae (x%y)):=by
 have hy0:y ≠ 0:=by intro h; rw[h,bh]at hy2; simp at hy2
 have hyx:=dc hxy;have hylt:=jJ y;have hxlt:=jJ x;have hylo:18446744073709551616 ^ ((ae y).length - 1)<=y:=by
  rcases agv y (18446744073709551616 ^ ((ae y).length - 1))with h | h
  ·have:=fN _ _ h; omega
  ·exact h
 (unfold BL; rw[ac]; unfold Nu)
 rw[iW x y ⟨by omega,by omega⟩ ⟨by omega,by omega⟩];have hc:decide (dz x y<0)=false:=by unfold dz; rw[if_neg (by omega)]; split <;> rfl
 obtain⟨n,hn⟩:∃ n,(ae y).length=n+2:=⟨(ae y).length - 2,by omega⟩
 obtain⟨lx,hlx⟩:∃ lx,(ae x).length=lx:=⟨_,rfl⟩
 have htd:(ae y).getD (n+1) 0=((y / 18446744073709551616 ^ (n+1):Nat):Int):=by rw[nO,afF];rw[afE (bb _),afy,<- afI];rw[hn]at hylt; exact hylt
 rw[hn]at hylt hylo;rw[hlx]at hxlt;rw[show n+2 - 1=n+1 by omega]at hylo;obtain⟨t,ht⟩:∃ t,t=y / 18446744073709551616 ^ (n+1):=⟨_,rfl⟩
 rw[<- ht]at htd;have htl:t<18446744073709551616:=by rw[ht,afE (bb _),afy,<- afI]; exact hylt
 have ht0:t ≠ 0:=by have:=ahV hylo (bb (n+1)); omega
 obtain⟨g1,g2,g3⟩:=Kt ht0 htl;have ein:Int.toNat (((n+2:Nat):Int) - 1)=n+1:=by omega
 have e1':(((n+2:Nat):Int)==1)=false:=by simp; omega
 rw[hc,afw,hn,hlx,e1',afw,aa afs,aa aft,ein,htd,F6 N htl];obtain⟨s,hs⟩:∃ s,s=64 - bl t:=⟨_,rfl⟩
 rw[<- hs]at g1 g2 g3 ⊢;have hs0:0<2 ^ s:=afJ s;have ews:IntKind.wrap .u64 ((s:Nat):Int)=(s:Int):=by rw[am]; omega
 rw[ews];obtain⟨V,hV⟩:∃ V,V=y*2 ^ s:=⟨_,rfl⟩
 obtain⟨X,hX⟩:∃ X,X=x*2 ^ s:=⟨_,rfl⟩
 have hVlt:V<18446744073709551616 ^ (n+2):=by
  have h1:=ahW y (bb (n+1));rw[<- ht]at h1;have h2:y*2 ^ s<18446744073709551616 ^ (n+1)*(t+1)*2 ^ s:=agl h1 hs0;have h3:(t+1)*2 ^ s<=18446744073709551616:=by
   have hd:2 ^ s*2 ^ (64 - s)=18446744073709551616:=by rw[<- afO,show s+(64 - s)=64 by omega]
   have h4:t<2 ^ (64 - s):=by rw[afy]at g3;rw[<- hd]at g3;exact ahP g3
   rw[<- hd,afy];exact afC _ h4
  have h5:=afC (18446744073709551616 ^ (n+1)) h3;rw[hV,show n+2=n+1+1 by omega,afI];rw[afG]at h2;omega
 have hVge:18446744073709551616 ^ (n+1)<=V:=by rw[hV]; exact afV hylo (agt _ hs0)
 have hVlen:(ae V).length=n+2:=VY hVge hVlt;have hV0:0<V:=afP (bb _) hVge;have hx0:x ≠ 0:=by omega
 rw[vk hy0 g1 (by omega) (by omega),hn,<- hV,hVlen,vk hx0 g1 (by omega) (by omega),hlx,<- hX];have hs2:2 ^ s<=18446744073709551616:=by rw[<- oi]; exact afL (by decide) (by omega)
 have hXlt:X<18446744073709551616 ^ (lx+1):=by rw[hX,afI]; exact age hxlt hs2 (by decide)
 have hXlen1:(ae X).length<=lx+1:=fN _ _ hXlt;have hXlen2:lx<=(ae X).length:=by rw[<- hlx,hX]; exact dc (agt _ hs0)
 have etk:(dlq X (lx+1)).take (ae X).length=ae X:=by rw[sU X hXlen1,FF]
 have ebl:(ae X++[0,0]).length=(ae X).length+2:=by simp
 obtain⟨M,hM⟩:∃ M,lx+1=M+(n+2):=⟨lx+1 - (n+2),by omega⟩
 have eu1:Int.toNat ((lx:Int)+1) - 0=lx+1:=by omega
 have eM:(((lx+1:Nat):Int) - ((n+2:Nat):Int))=(M:Int):=by omega
 rw[agY,etk,ebl,eu1,eM];rw[aa (afu (by rw[ak]; omega)),aa (afu (by omega)),aa afs,aa (afu (by omega)),aa afs,aa (bF (by omega) (by omega) (by omega) (by omega)),aa afs,aa afs,afz];obtain⟨tail,htail⟩:∃ tail,tail=(ae X++[(0:Int),0]).drop (lx+1):=⟨_,rfl⟩
 have htw:InWq tail:=by
  rw[htail];refine InWq.drop (λz hz=>?_) _;rcases List.mem_append.1 hz with h | h
  ·exact aX X z h
  ·simp only[agT,ahy,or_false,or_self]at h; subst h; omega
 have htlen:tail.length<=2:=by rw[htail,ag7,ebl]; omega
 have hstart:ae X++[(0:Int),0]=dlq X M++(dlq (X / 18446744073709551616 ^ M%V) (n+2)++(List.replicate 0 0++tail)):=by
  have hXM:X / 18446744073709551616 ^ M<V:=by
   rw[afE (bb M),hX,hV];have h1:x*2 ^ s<18446744073709551616 ^ lx*2 ^ s:=agl hxlt hs0;have h2:18446744073709551616 ^ lx=18446744073709551616 ^ (n+1)*18446744073709551616 ^ M:=by rw[<- afO]; congr 1; omega
   have h3:=afA (18446744073709551616 ^ M*2 ^ s) hylo;rw[h2,afG]at h1;have e:y*2 ^ s*18446744073709551616 ^ M=y*(18446744073709551616 ^ M*2 ^ s):=by rw[afG,afy (2 ^ s)]
   rw[e]; omega
  rw[afF hXM,af9,agk,<- afN,<- CU,<- hM];rw[htail];have hpad:(ae X++[(0:Int),0]).take (lx+1)=dlq X (lx+1):=by
   have:ae X++[(0:Int),0]=dlq X ((ae X).length+2):=by rw[DV (jJ X) 2,FF]; rfl
   rw[this,sU X (by omega)]
  rw[<- hpad,aia]
 rw[hstart];have hQlt:X / V<18446744073709551616 ^ M:=by
  rw[afE hV0];have h1:x*2 ^ s<18446744073709551616 ^ lx*2 ^ s:=agl hxlt hs0;have h2:18446744073709551616 ^ lx=18446744073709551616 ^ M*18446744073709551616 ^ (n+1):=by rw[<- afO]; congr 1; omega
  have h3:=afC (18446744073709551616 ^ M) (afA (2 ^ s) hylo);rw[hX,hV];rw[h2,afG]at h1;omega
 have hmk:M<=1099511627001:=by omega
 refine aH (λi=>((M:Int) - 1 - (i:Int),dlq X (M - i)++(dlq (X / 18446744073709551616 ^ (M - i)%V) (n+2)++(List.replicate i 0++tail)),List.replicate (M - i) (0:Int)++(dlq (X / V) M).drop (M - i))) M ?_ (by omega) (λi hi K=>?_) (λK=>?_)
 ·rw[ahC,agh (by rw[ak]; omega),af5];congr 1;omega
 ·obtain⟨j,hj⟩:∃ j,M - i=j+1:=⟨M - i - 1,by omega⟩
  have hj2:M - (i+1)=j:=by omega
  have ei:(M:Int) - 1 - (i:Int)=(j:Int):=by omega
  have ei2:(M:Int) - 1 - ((i+1:Nat):Int)=(j:Int) - 1:=by omega
  rw[hj,hj2,ei,ei2];obtain⟨A,hA⟩:∃ A,A=X / 18446744073709551616 ^ j:=⟨_,rfl⟩
  have hA1:X / 18446744073709551616 ^ (j+1)=A / 18446744073709551616:=by rw[hA,afI,afD]
  obtain⟨n1,n2⟩:=DB (A:=A) hV0;obtain⟨R,hR⟩:∃ R,R=A / 18446744073709551616%V:=⟨_,rfl⟩
  have hRV:R<V:=by rw[hR]; exact afK _ hV0
  rw[hA1,<- hR];rw[<- hR]at n1 n2;obtain⟨b,hb⟩:∃ b,b=dlq X (j+1)++(dlq R (n+2)++(List.replicate i 0++tail)):=⟨_,rfl⟩
  have hblen:b.length=j+1+(n+2)+i+tail.length:=by rw[hb]; simp[ak]; omega
  have hbw:InWq b:=by
   rw[hb];intro z hz;rcases List.mem_append.1 hz with h | h
   ·exact gI _ _ z h
   ·rcases List.mem_append.1 h with h | h
    ·exact gI _ _ z h
    ·rcases List.mem_append.1 h with h | h
     ·have:=(List.mem_replicate.1 h).2; subst this; omega
     ·exact htw z h
  have hbt:b.take j=dlq X j:=by rw[hb,agz (by rw[ak]; omega),sU X (by omega)]
  have hbd:b.drop j=((A%18446744073709551616:Nat):Int)::(dlq R (n+2)++(List.replicate i 0++tail)):=by rw[hb,dlq,afN,agy (by rw[ak]; omega),agh (by rw[ak]; omega),agk,hA];rfl
  have hwv:av ((b.drop j).take (n+2+1))=R*18446744073709551616+A%18446744073709551616:=by rw[hbd,aik,agz (by rw[ak]; omega),afS (by rw[ak]; omega),av,pS,afF (ahj hRV hVlt),afz];omega
  have hbd2:b.drop (j+(n+2+1))=List.replicate i 0++tail:=by rw[<- List.drop_drop,hbd,List.drop_succ_cons,agy (by rw[ak]; omega),agh (by rw[ak]; omega),agk]
  have hcv:av ((dlq V (n+2+1)).take (n+2))=V:=by rw[sU V (by omega),pS,afF hVlt]
  have hctop:0<((dlq V (n+2+1)).getD (n+2 - 1) 0).toNat:=by
   rw[sS V (by omega),afz,show n+2 - 1=n+1 by omega,afF]
   ·exact ahV hVge (bb _)
   ·rw[afE (bb _),afy,<- afI]; exact hVlt
  have hAm:A%18446744073709551616<18446744073709551616:=afK _ (by decide);have hstep:=λkk=>Pm hN (o:=j) (n:=n+2) (b:=b) (c:=dlq V (n+2+1)) (by omega) hbw (gI _ _) (by rw[ak]; omega) (by omega) (by omega) hctop (by rw[hwv,hcv];have:=afA 18446744073709551616 hRV;rw[ag3]at this;omega) kk
  rw[hwv,hcv,n1,n2,hbt,hbd2]at hstep;have hnext:dlq X j++(dlq (A%V) (n+2+1)++(List.replicate i 0++tail))=dlq X j++(dlq (A%V) (n+2)++(List.replicate (i+1) 0++tail)):=by rw[DV (ahj (afK A hV0) hVlt) 1,afN,agf];rfl
  have hdg:X / V / 18446744073709551616 ^ j%18446744073709551616=A / V%18446744073709551616:=by rw[hA,afD,afD,afy V]
  have ej:0+Int.toNat (j:Int)=j:=by omega
  have ej2:Int.toNat ((j:Int)+((n+2:Nat):Int)+1) - Int.toNat (j:Int)=n+2+1:=by omega
  rw[<- hb];simp only[BW,ej,ej2];rw[afu (by omega:(j:Int)>=0),afx,aa afs,aa afs,aa (afu (by omega))];rw[hstep];have hql:(List.replicate (j+1) (0:Int)++(dlq (X / V) M).drop (j+1)).length=M:=by simp[ak]; omega
  rw[hql,aa aft,aa (afu (by omega)),aa afs,afz,<- hdg,J_ _ _ _ (by omega),hnext,<- hA]
 ·simp only[BW];have e0:(M:Int) - 1 - (M:Int) = -1:=by omega
  rw[e0,afv (by omega),afw,af6,ahr,aho,af9,agk,agY];obtain⟨L,hL⟩:∃ L,L=dlq X 0++(dlq (X%V) (n+2)++(List.replicate M 0++tail)):=⟨_,rfl⟩
  have hRlt:X%V<18446744073709551616 ^ (n+2):=ahj (afK _ hV0) hVlt;have hLt:L.take (lx+1)=dlq (X%V) (n+2)++List.replicate M 0:=by rw[hL,hM,show dlq X 0=[] from rfl,agk,<- afN,agz (by simp[ak]; omega),afS (by simp[ak]; omega)]
  have hLw:InWq L:=by
   rw[hL];intro z hz;rcases List.mem_append.1 hz with h | h
   ·cases h
   ·rcases List.mem_append.1 h with h | h
    ·exact gI _ _ z h
    ·rcases List.mem_append.1 h with h | h
     ·have:=(List.mem_replicate.1 h).2; subst this; omega
     ·exact htw z h
  have hLlen:lx+1<=L.length:=by rw[hL]; simp[ak]; omega
  rw[<- hL];unfold NI;rw[Iv L (lx+1) hLlen (by omega) (by omega)];have hcl:=j7 L (lx+1);obtain⟨lost,hlost⟩:=Gm (N:=N) L hLw (bS L (lx+1)) s (by omega) g1 (by omega) (by omega);rw[hlost,qy,hLt,LZ,pS,afF hRlt];have:=kv (N:=N) (dlq (X / V) M) (gI _ _) (by rw[ak]; omega) (by rw[ak]; omega) (λz=>k z (ae (X%V / 2 ^ s)));rw[this,mj hQlt,hX,hV,aib _ _ hs0,aic,ahe _ hs0]
theorem kw {N:Nat} (hN:1180591620717411303424<=N) {x y:Nat} (hy:0<y) (hxl:(ae x).length<=1099511627000) (hyl:(ae y).length<=1099511627000) (k:Kz2) :
  BL N (ae x) (ae y) k=k (ae (x / y)) (ae (x%y)):=by
 by_cases hxy:y<=x
 ·by_cases h2:2<=(ae y).length
  ·exact w5 hN hxy h2 hxl k
  ·have hylt:=jJ y;have hl1:(ae y).length=1:=by rw[bU (by omega)]at h2 ⊢; simp at h2 ⊢; exact h2
   rw[hl1,ait]at hylt;have hd:=qB (by omega:y ≠ 0) hylt;have hc:decide (dz x y<0)=false:=by unfold dz; rw[if_neg (by omega)]; split <;> rfl
   (unfold BL; rw[ac]; unfold Nu)
   rw[iW x y ⟨by omega,by omega⟩ ⟨by omega,by omega⟩,hc,afw,hd];show cond (((1:Nat):Int)==1) _ _=_;rw[show(((1:Nat):Int)==1)=true from rfl,afx,aa (ai (by omega) (by simp))];show oX N (ae x) (y:Int) _=_;have hm:x%y<18446744073709551616:=ahj (afK _ hy) hylt;rw[LO (by omega) hy hylt ⟨by omega,by omega⟩,uC (by omega) _ hm]
 ·have hc:decide (dz x y<0)=true:=by unfold dz; rw[if_pos (by omega)]; rfl
  (unfold BL; rw[ac]; unfold Nu)
  rw[iW x y ⟨by omega,by omega⟩ ⟨by omega,by omega⟩,hc,afx,xZ _ (by omega),af2 (by omega),afF (by omega),bh]
theorem zD:∀ n,n ≠ 0->bl n=64*((ae n).length - 1)+bl ((ae n).getD ((ae n).length - 1) 0).toNat/\0<(ae n).length:=by
 intro n;induction n using Nat.strongRecOn with
 | ind n ih=>
  intro h;rw[bU h];by_cases h1:n / 18446744073709551616=0
  ·rw[h1,bh];have:n%18446744073709551616=n:=afF (by omega);simp[this]
  ·obtain⟨i1,i2⟩:=ih (n / 18446744073709551616) (by omega) h1;have e:=mg (n:=n) 64 (by rw[oi]; omega);rw[oi]at e;refine⟨?_,by simp⟩;have e2:(((n%18446744073709551616:Nat):Int)::ae (n / 18446744073709551616)).getD ((((n%18446744073709551616:Nat):Int)::ae (n / 18446744073709551616)).length - 1) 0=(ae (n / 18446744073709551616)).getD ((ae (n / 18446744073709551616)).length - 1) 0:=by
    simp only[af8,ahY];generalize ae (n / 18446744073709551616)=l at i2 ⊢;cases l with
    | nil=>simp at i2
    | cons y l=>simp
   rw[e2,e,i1];simp only[af8];omega
theorem Gc {N:Nat} {n:Nat} (hs:(ae n).length<=1099511627776) (k:Kz4):q_ N (ae n) k=k (bl n:Int):=by
 (unfold q_; rw[ac]; unfold qg)
 by_cases h:n=0
 ·subst h; rw[bh]; rfl
 ·obtain⟨e1,e2⟩:=zD n h;have e0:(((ae n).length:Int)==0)=false:=by simp; intro h'; rw[h']at e2; simp at e2
  have e3:Int.toNat (((ae n).length:Int) - 1)=(ae n).length - 1:=by omega
  have hw:=(aX n).at (i:=(ae n).length - 1);have e4:(ae n).getD ((ae n).length - 1) 0=((((ae n).getD ((ae n).length - 1) 0).toNat:Nat):Int):=by omega
  have hb:=wM (n:=((ae n).getD ((ae n).length - 1) 0).toNat) (j:=64) (by rw[oi]; omega);rw[e0,afw,aa afs,aa afs,aa afs,aa aft,e3,e4,Bd N (by omega),aa afs,e1];congr 1;omega
theorem JW {N:Nat} {x f:Nat} (hf:f<140737488355328) (k:Kz4):uR N (ae x) (f:Int) k=k ((x / 2 ^ f%18446744073709551616:Nat):Int):=by
 (unfold uR; rw[ac]; unfold xz)
 have e1:Int.tdiv (f:Int) 64=((f / 64:Nat):Int):=by rw[agA (by omega)]; rfl
 have e2:IntKind.wrap .u64 (Int.tmod (f:Int) 64)=((f%64:Nat):Int):=by rw[am,ago (by omega)]; omega
 have e3:min (f%64) 64=f%64:=by omega
 have e4:min (Int.toNat (IntKind.wrap .u64 (64 - ((f%64:Nat):Int)))) 64=64 - f%64:=by rw[am]; omega
 have e5:((f / 64:Nat):Int)+1=((f / 64+1:Nat):Int):=by omega
 have hx:=(aX x).at (i:=f / 64);have hy:=(aX x).at (i:=f / 64+1);have ex:(ae x).getD (f / 64) 0=((((ae x).getD (f / 64) 0).toNat:Nat):Int):=by omega
 have ey:(ae x).getD (f / 64+1) 0=((((ae x).getD (f / 64+1) 0).toNat:Nat):Int):=by omega
 rw[e1,e2,e5,aa afs,nB N _ (f / 64) (by omega),aa (afu (by omega)),aa afs,nB N _ (f / 64+1) (by omega),aa (afu (by rw[am]; omega)),afz,e3,e4,ex,ey,DF (by omega) (by omega) (by omega)];obtain⟨R,hR⟩:=AD (aX x) (f / 64);rw[aE]at hR;have hp:2 ^ f=18446744073709551616 ^ (f / 64)*2 ^ (f%64):=Er f;have hs0:0<2 ^ (f%64):=afJ _;rw[hp,<- afD,hR];have e6:18446744073709551616*18446744073709551616*R=2 ^ (f%64)*(18446744073709551616*(2 ^ (64 - f%64)*R)):=by
  have hs1:2 ^ (f%64)*2 ^ (64 - f%64)=18446744073709551616:=by rw[<- afO,show f%64+(64 - f%64)=64 by omega]
  rw[afY (2 ^ (f%64)),<- afG (2 ^ (f%64)),hs1,afG]
 rw[e6,agr _ _ hs0,agN]
theorem Gk {N:Nat} {x d e:Nat} (hd:d<18446744073709551616) (he:e<18446744073709551616) (hs:lw N (ae x)) (k:Kz8):vm N (ae x) (d:Int) (e:Int) k=k (ae (x*d+e)):=by
 (unfold vm; rw[ac]; unfold Ng)
 obtain⟨s1,s2⟩:=hs;obtain⟨L,hL⟩:∃ L,(ae x).length=L:=⟨_,rfl⟩
 have hx:=jJ x;rw[hL]at hx;have eL:Int.toNat ((L:Int)+1)=L+1:=by omega
 rw[hL,aa afs,aa (bF (by omega) (by omega) (by omega) (by omega)),eL];obtain⟨m,hm⟩:∃ m,m=ae x:=⟨_,rfl⟩
 have hmw:InWq m:=by rw[hm]; exact aX x
 have hmv:av m=x:=by rw[hm]; exact aE x
 have hml:m.length=L:=by rw[hm]; exact hL
 rw[<- hm];obtain⟨S,hS⟩:∃ S,S=x*d+e:=⟨_,rfl⟩
 rw[<- hS];refine aH (λi=>((((av (m.take i)*d+e) / 18446744073709551616 ^ i:Nat):Int),(i:Int),dlq S i++List.replicate (L+1 - i) 0)) L (by simp[av,dlq]) (by omega) (λi hi K=>?_) (λK=>?_)
 ·have hz:=hmw.at (i:=i);have hp:=bb i;have hXi:=aR hmw i;have hcv:=aM (m:=m) i;obtain⟨cy,hcy⟩:∃ cy,cy=(av (m.take i)*d+e) / 18446744073709551616 ^ i:=⟨_,rfl⟩
  have e1:av (m.take (i+1))*d+e=(av (m.take i)*d+e)+18446744073709551616 ^ i*((m.getD i 0).toNat*d):=by rw[hcv,af0,afG]; omega
  have hcyl:cy<18446744073709551616:=by
   rw[hcy,afE hp];have:=agj (ahN hXi) (ahN hd);have h1:1<=18446744073709551616 ^ i:=hp;have h2:(18446744073709551616 ^ i - 1)*(18446744073709551616 - 1)+18446744073709551615=18446744073709551616 ^ i*18446744073709551615:=by
    obtain⟨P,hP⟩:∃ P,18446744073709551616 ^ i=P+1:=⟨18446744073709551616 ^ i - 1,by omega⟩
    rw[hP]; omega
   omega
  have ecy:(av (m.take (i+1))*d+e) / 18446744073709551616 ^ (i+1)=((m.getD i 0).toNat*d+0+cy) / 18446744073709551616:=by rw[afI,<- afD,e1,cH,<- hcy];congr 1; omega
  obtain⟨R,hR⟩:=bE m (i+1);have elo:S / 18446744073709551616 ^ i%18446744073709551616=((m.getD i 0).toNat*d+0+cy)%18446744073709551616:=by
   have:S=(av (m.take (i+1))*d+e)+18446744073709551616 ^ (i+1)*(R*d):=by rw[hS,<- hmv,hR,af0,afG]; omega
   rw[iT this,e1,cH,<- hcy];congr 1; omega
  have hset:=uw S i (L+1) (by omega);have hl:(dlq S i++List.replicate (L+1 - i) (0:Int)).length=L+1:=by simp[ak]; omega
  simp only[l7,afz];rw[afu (by omega:(i:Int)<(L:Int)),afx,hml,aa aft,<- hcy,Bm N (c:=0) (a:=(m.getD i 0).toNat) (b:=d) (e:=0) (f:=cy) (by omega) rfl rfl rfl (by omega) hd (by omega) hcyl,hl,aa aft,aa (afu (by omega)),aa afs,<- elo,<- ecy,hset,ky]
 ·simp only[l7];have hl:(dlq S L++List.replicate (L+1 - L) (0:Int)).length=L+1:=by simp[ak]
  have hSl:S<18446744073709551616 ^ (L+1):=by
   rw[hS,afI];have h1:=agj (ahN hx) (ahN hd);obtain⟨P,hP⟩:∃ P,18446744073709551616 ^ L=P+1:=⟨18446744073709551616 ^ L - 1,by have:=bb L; omega⟩
   rw[hP]at h1 ⊢;omega
  have ee:(av (m.take L)*d+e) / 18446744073709551616 ^ L=S / 18446744073709551616 ^ L%18446744073709551616:=by rw[afS (by omega),hmv,<- hS,afF];rw[afE (bb L),afy,<- afI]; exact hSl
  rw[afv (by omega:¬(L:Int)<(L:Int)),afw,hl,ee,afz,uw S L (L+1) (by omega),aa aft,aa (afu (by omega)),af6,af9,af5,kv _ (gI _ _) (by rw[ak]; omega) (by rw[ak]; omega),mj hSl]
def Aj (x0 y0 a b c d:Nat) (odd:Bool):Prop:=
 ∃ p q,x0=d*p+b*q/\y0=c*p+a*q/\(cond odd (b*c=a*d+1) (a*d=b*c+1))/\a<=b/\c<=d/\d<=q/\q+b+d<=p/\1<=b/\1<=c/\b<18446744073709551616/\d<18446744073709551616
theorem I7 {N:Nat} {x0 y0:Nat} (hx0:x0<18446744073709551616) (hy0:y0<18446744073709551616) (t1 t2 t3 t4:Int) (t5:Bool) :
  ∀ y x u v a b c d odd M,y<M->y<=x->x0=v*x+d*y->y0=u*x+c*y->(cond odd (c*v=d*u+1) (d*u=c*v+1))->1<=v ->
   ((d=0/\u=0/\b=0/\c=1/\v=1)\/(1<=u/\c<=d/\u<=v/\(b=0\/Aj x0 y0 a b c d odd))) ->
   ∃ a' b' c' d':Nat,∃ odd',(b'=0\/Aj x0 y0 a' b' c' d' odd') /\ ∀ e0,ah M (ow N t1 t2 t3 t4 t5 e0) ((x:Int),(y:Int),(u:Int),(v:Int),(a:Int),(b:Int),(c:Int),(d:Int),odd)=e0 (a':Int) (b':Int) (c':Int) (d':Int) odd':=by
 intro y;induction y using Nat.strongRecOn with
 | ind y ih=>
 intro x u v a b c d odd M hM hyx h1 h2 hdet hv hor;obtain⟨M,rfl⟩:∃ m,M=m+1:=⟨M - 1,by omega⟩
 have hend:b=0\/Aj x0 y0 a b c d odd:=by
  rcases hor with h | h
  ·exact .inl h.2.2.1
  ·exact h.2.2.2
 by_cases c1:v<=y
 ·have hy1:1<=y:=by omega
  have b1:v*1<=v*x:=afC _ (by omega);have b2:d*1<=d*y:=afC _ hy1;have w1:IntKind.wrap .u64 ((x:Int) - (y:Int))=((x - y:Nat):Int):=by have:1*x<=v*x:=afA _ hv;rw[am]; omega
  have w2:IntKind.wrap .u64 ((d:Int)+(v:Int))=((d+v:Nat):Int):=by rw[am]; omega
  by_cases c2:d+v<=x - y
  ·-- one step more
   obtain⟨q,hq⟩:∃ q,q=x / y:=⟨_,rfl⟩
   obtain⟨r,hr⟩:∃ r,r=x%y:=⟨_,rfl⟩
   have hxq:x=q*y+r:=by rw[hq,hr]; exact(ags x y).symm
   have hry:r<y:=by rw[hr]; exact afK _ hy1
   have hq1:1<=q:=by rw[hq]; exact ahV hyx hy1
   have n1:x0=(d+q*v)*y+v*r:=by rw[h1,hxq]; grind
   have n2:y0=(c+q*u)*y+u*r:=by rw[h2,hxq]; grind
   have m1:(d+q*v)*1<=(d+q*v)*y:=afC _ hy1;have m2:(c+q*u)*1<=(c+q*u)*y:=afC _ hy1;have hvq:v<=d+q*v:=by have:=afA v hq1;omega
   have hg:∀(e0:Int->Int->Int->Int->Bool->Bool),ah (M+1) (ow N t1 t2 t3 t4 t5 e0) ((x:Int),(y:Int),(u:Int),(v:Int),(a:Int),(b:Int),(c:Int),(d:Int),odd)=ah M (ow N t1 t2 t3 t4 t5 e0) ((y:Int),(r:Int),((c+q*u:Nat):Int),((d+q*v:Nat):Int),(c:Int),(d:Int),(u:Int),(v:Int),!odd):=by
    intro e0;show ow N t1 t2 t3 t4 t5 e0 _ (ah M _)=_;simp only[ow];have y1:(!decide ((y:Int)=0))=true:=by simp; omega
    have ediv:Int.tdiv (x:Int) (y:Int)=(q:Int):=by rw[hq]; rfl
    have emod:Int.tmod (x:Int) (y:Int)=(r:Int):=by rw[hr]; rfl
    have wq:IntKind.wrap .u64 (q:Int)=(q:Int):=by have:q*1<=q*v:=afC _ hv;rw[am]; omega
    have wu:IntKind.wrap .u64 ((c:Int)+IntKind.wrap .u64 ((q:Int)*(u:Int)))=((c+q*u:Nat):Int):=by rw[<- afR,am,am]; omega
    have wv:IntKind.wrap .u64 ((d:Int)+IntKind.wrap .u64 ((q:Int)*(v:Int)))=((d+q*v:Nat):Int):=by rw[<- afR,am,am]; omega
    rw[afu (by omega:(y:Int)>=v),show(true==true)=true from rfl,afx,w1,w2,afu (by omega),afx,aa y1,aa y1,ediv,emod,wq,wu,wv]
   have hstep:=ih r hry y (c+q*u) (d+q*v) c d u v (!odd) M (by omega) (by omega) n1 n2 (by
    cases odd with
    | true=>
     simp only[afx,agn,afw]at hdet ⊢;have:v*(c+q*u)=v*c+q*u*v:=by grind
     have:u*(d+q*v)=u*d+q*u*v:=by grind
     have:c*v=v*c:=afy _ _;have:d*u=u*d:=afy _ _;omega
    | false=>
     simp only[afx,agb,afw]at hdet ⊢;have:u*(d+q*v)=u*d+q*u*v:=by grind
     have:v*(c+q*u)=v*c+q*u*v:=by grind
     have:c*v=v*c:=afy _ _;have:d*u=u*d:=afy _ _;omega) (by omega) (by
    refine .inr ?_;rcases hor with⟨k1,k2,k3,k4,k5⟩ | ⟨k1,k2,k3,k4⟩
    ·subst k1 k2 k4 k5;exact⟨by omega,by omega,by omega,.inl rfl⟩
    ·have hu1:u<=c+q*u:=by have:=afA u hq1;omega
     refine⟨by omega,k3,?_,?_⟩
     ·have:=afC q k3;omega
     ·rcases agQ d with hd0 | hd0
      ·exact .inl hd0
      ·refine .inr ⟨x,y,h1,h2,?_,k2,k3,c1,by omega,hd0,k1,by omega,by omega⟩;cases odd with
       | true=>simp only[agn,afw,afx]at hdet ⊢; exact hdet
       | false=>simp only[agb,afx,afw]at hdet ⊢; exact hdet)
   obtain⟨a',b',c',d',odd',g1,g2⟩:=hstep;exact⟨a',b',c',d',odd',g1,λe0=>by rw[hg,g2]⟩
  ·refine⟨a,b,c,d,odd,hend,λe0=>?_⟩;show ow N t1 t2 t3 t4 t5 e0 _ (ah M _)=_;simp only[ow];rw[afu (by omega:(y:Int)>=v),show(true==true)=true from rfl,afx,w1,w2,afv (by omega),afw]
 ·refine⟨a,b,c,d,odd,hend,λe0=>?_⟩;show ow N t1 t2 t3 t4 t5 e0 _ (ah M _)=_;simp only[ow];rw[afv (by omega:¬(y:Int)>=v),show(false==true)=false from rfl,afw]
theorem LP {N:Nat} (hN:1180591620717411303424<=N) {x0 y0:Nat} (hx0:x0<18446744073709551616) (hyx:y0<=x0):∃ a b c d:Nat,∃ odd,(b=0\/Aj x0 y0 a b c d odd) /\ ∀ k,tH N (x0:Int) (y0:Int) k=k (a:Int) (b:Int) (c:Int) (d:Int) odd:=by obtain⟨a,b,c,d,odd,h1,h2⟩:=I7 (N:=N) (x0:=x0) (y0:=y0) hx0 (by omega) 0 0 0 0 false y0 x0 0 1 0 0 1 0 true N (by omega) hyx (by omega) (by omega) rfl (afH _) (.inl ⟨rfl,rfl,rfl,rfl,rfl⟩);exact⟨a,b,c,d,odd,h1,λk=>by unfold tH; rw[ac]; exact h2 _⟩
theorem KL {x0 y0 a b c d F rx ry X Y:Nat} (h:Aj x0 y0 a b c d true) (hrx:rx<F) (hry:ry<F) (hX:X=x0*F+rx) (hY:Y=y0*F+ry) :
  a*X<=b*Y/\d*Y<=c*X/\c*X - d*Y<=b*Y - a*X/\X=d*(b*Y - a*X)+b*(c*X - d*Y)/\Y=c*(b*Y - a*X)+a*(c*X - d*Y):=by
 obtain⟨p,q,h1,h2,hdet,hab,hcd,hdq,hpq,hb1,hc1,hbl,hdl⟩:=h;simp only[afx]at hdet;have e1:b*Y+a*rx=a*X+(p*F+b*ry):=by
  subst h1 h2 hX hY;have:b*(c*p*F)=(a*d+1)*(p*F):=by rw[<- hdet]; grind
  grind
 have e2:c*X+d*ry=d*Y+(q*F+c*rx):=by
  subst h1 h2 hX hY;have:b*c*(q*F)=(a*d+1)*(q*F):=by rw[<- hdet]
  grind
 have m1:a*rx<=a*F:=afC _ (by omega);have m2:a*F<=b*F:=afA _ hab;have m3:d*ry<=d*F:=afC _ (by omega);have m4:d*F<=q*F:=afA _ hdq;have m5:(q+b+d)*F<=p*F:=afA _ hpq;rw[af0,af0]at m5;have m6:c*rx<=c*F:=afC _ (by omega);have m7:c*F<=d*F:=afA _ hcd;have g1:a*X<=b*Y:=by omega
 have g2:d*Y<=c*X:=by omega
 refine⟨g1,g2,by omega,?_,?_⟩
 ·obtain⟨U,hU⟩:=ahb g1;obtain⟨V,hV⟩:=ahb g2;rw[<- hU,<- hV,af_,af_];have t1:d*(b*Y)=d*(a*X)+d*U:=by rw[<- hU,afM]
  have t2:b*(c*X)=b*(d*Y)+b*V:=by rw[<- hV,afM]
  have t3:b*(c*X)=(a*d+1)*X:=by rw[<- hdet,afG]
  have t4:(a*d+1)*X=d*(a*X)+X:=by grind
  have t5:d*(b*Y)=b*(d*Y):=by grind
  omega
 ·obtain⟨U,hU⟩:=ahb g1;obtain⟨V,hV⟩:=ahb g2;rw[<- hU,<- hV,af_,af_];have t1:c*(b*Y)=c*(a*X)+c*U:=by rw[<- hU,afM]
  have t2:a*(c*X)=a*(d*Y)+a*V:=by rw[<- hV,afM]
  have t3:c*(b*Y)=(a*d+1)*Y:=by rw[<- hdet]; grind
  have t4:(a*d+1)*Y=a*(d*Y)+Y:=by grind
  have t5:c*(a*X)=a*(c*X):=by grind
  omega
theorem HA {x0 y0 a b c d F rx ry X Y:Nat} (h:Aj x0 y0 a b c d false) (hrx:rx<F) (hry:ry<F) (hX:X=x0*F+rx) (hY:Y=y0*F+ry) :
  b*Y<=a*X/\c*X<=d*Y/\d*Y - c*X<=a*X - b*Y/\X=d*(a*X - b*Y)+b*(d*Y - c*X)/\Y=c*(a*X - b*Y)+a*(d*Y - c*X):=by
 obtain⟨p,q,h1,h2,hdet,hab,hcd,hdq,hpq,hb1,hc1,hbl,hdl⟩:=h;simp only[afw]at hdet;have e1:a*X+b*ry=b*Y+(p*F+a*rx):=by
  subst h1 h2 hX hY;have:a*d*(p*F)=(b*c+1)*(p*F):=by rw[<- hdet]
  grind
 have e2:d*Y+c*rx=c*X+(q*F+d*ry):=by
  subst h1 h2 hX hY;have:a*d*(q*F)=(b*c+1)*(q*F):=by rw[<- hdet]
  grind
 have m1:b*ry<=b*F:=afC _ (by omega);have m3:c*rx<=c*F:=afC _ (by omega);have m4:d*F<=q*F:=afA _ hdq;have m5:(q+b+d)*F<=p*F:=afA _ hpq;rw[af0,af0]at m5;have m6:d*ry<=d*F:=afC _ (by omega);have m7:c*F<=d*F:=afA _ hcd;have g1:b*Y<=a*X:=by omega
 have g2:c*X<=d*Y:=by omega
 refine⟨g1,g2,by omega,?_,?_⟩
 ·obtain⟨U,hU⟩:=ahb g1;obtain⟨V,hV⟩:=ahb g2;rw[<- hU,<- hV,af_,af_];have t1:d*(a*X)=d*(b*Y)+d*U:=by rw[<- hU,afM]
  have t2:b*(d*Y)=b*(c*X)+b*V:=by rw[<- hV,afM]
  have t3:d*(a*X)=(b*c+1)*X:=by rw[<- hdet]; grind
  have t4:(b*c+1)*X=b*(c*X)+X:=by grind
  have t5:d*(b*Y)=b*(d*Y):=by grind
  omega
 ·obtain⟨U,hU⟩:=ahb g1;obtain⟨V,hV⟩:=ahb g2;rw[<- hU,<- hV,af_,af_];have t1:c*(a*X)=c*(b*Y)+c*U:=by rw[<- hU,afM]
  have t2:a*(d*Y)=a*(c*X)+a*V:=by rw[<- hV,afM]
  have t3:a*(d*Y)=(b*c+1)*Y:=by rw[<- hdet]; grind
  have t4:(b*c+1)*Y=c*(b*Y)+Y:=by grind
  have t5:c*(a*X)=a*(c*X):=by grind
  omega
theorem wS {X Y U V a b c d:Nat} (h1:X=d*U+b*V) (h2:Y=c*U+a*V) (hU:Nat.gcd X Y∣U) (hV:Nat.gcd X Y∣V):Nat.gcd U V=Nat.gcd X Y:=by
 refine Nat.dvd_antisymm (Nat.dvd_gcd ?_ ?_) (Nat.dvd_gcd hU hV)
 ·rw[h1];exact Nat.dvd_add (afU (agm _ _) _) (afU (agJ _ _) _)
 ·rw[h2];exact Nat.dvd_add (afU (agm _ _) _) (afU (agJ _ _) _)
theorem Lt {N:Nat} {x0 y0 a b c d F rx ry X Y:Nat} {odd:Bool} (h:Aj x0 y0 a b c d odd) (hrx:rx<F) (hry:ry<F) (hX:X=x0*F+rx) (hY:Y=y0*F+ry) (hY0:0<Y) (sX:(ae X).length+10<N/\(ae X).length<=1099511627000) (sY:(ae Y).length+10<N/\(ae Y).length<=1099511627000) :
  ∃ U V,V<=U/\U+V<X+Y/\U<=X/\Nat.gcd U V=Nat.gcd X Y /\ ∀ k,d_ N (a:Int) (b:Int) (c:Int) (d:Int) odd (ae X) (ae Y) k=k (ae U) (ae V):=by
 have hb:=h;obtain⟨p,q,h1,h2,hdet,hab,hcd,hdq,hpq,hb1,hc1,hbl,hdl⟩:=hb;have len1:∀ z e:Nat,(ae z).length+10<N/\(ae z).length<=1099511627000->e<18446744073709551616->lw N (ae (z*e+0)):=by
  intro z e hz he;have:=fN ((ae z).length+1) (z*e+0) (by rw[af3,afI]; exact agB (jJ z) he)
  exact⟨by omega,by omega⟩
 have fin:∀ U V:Nat,X=d*U+b*V->Y=c*U+a*V->V<=U->U+V<X+Y/\U<=X:=by
  intro U V hx hy hvu;have k1:1*U<=d*U:=afA _ (by omega);have k2:1*V<=b*V:=afA _ hb1;have k3:1*U<=c*U:=afA _ hc1;have hU0:0<U:=by
   rcases agQ U with hu | hu
   ·exfalso;have hv:V=0:=by omega
    rw[hu,hv,agS,agS]at hy;omega
   ·exact hu
  exact⟨by omega,by omega⟩
 cases odd with
 | true=>
  obtain⟨g1,g2,g3,g4,g5⟩:=KL h hrx hry hX hY;obtain⟨f1,f2⟩:=fin _ _ g4 g5 g3;refine⟨b*Y - a*X,c*X - d*Y,g3,f1,f2,wS g4 g5 ?_ ?_,λk=>?_⟩
  ·exact ahX (afU (agJ _ _) _) (afU (agm _ _) _)
  ·exact ahX (afU (agm _ _) _) (afU (agJ _ _) _)
  ·(unfold d_; rw[ac]; unfold dQ)
   have m:=λ(z e:Nat) (he:e<18446744073709551616) (hz:lw N (ae z)) (kk:List Int->Bool)=>Gk (N:=N) (e:=0) he (by decide) hz kk
   rw[show((0:Nat):Int)=0 from rfl]at m;rw[afx,m Y b hbl ⟨by omega,by omega⟩,m X a (by omega) ⟨by omega,by omega⟩,nA _ _ (aX _) (aX _) (by rw[aE,aE,af3,af3,afy X,afy Y]; exact g1) (len1 Y b sY hbl),m X c (by omega) ⟨by omega,by omega⟩,m Y d hdl ⟨by omega,by omega⟩,nA _ _ (aX _) (aX _) (by rw[aE,aE,af3,af3,afy X,afy Y]; exact g2) (len1 X c sX (by omega)),aE,aE,aE,aE,af3,af3,af3,af3,afy Y b,afy X a,afy X c,afy Y d]
 | false=>
  obtain⟨g1,g2,g3,g4,g5⟩:=HA h hrx hry hX hY;obtain⟨f1,f2⟩:=fin _ _ g4 g5 g3;refine⟨a*X - b*Y,d*Y - c*X,g3,f1,f2,wS g4 g5 ?_ ?_,λk=>?_⟩
  ·exact ahX (afU (agm _ _) _) (afU (agJ _ _) _)
  ·exact ahX (afU (agJ _ _) _) (afU (agm _ _) _)
  ·(unfold d_; rw[ac]; unfold dQ)
   have m:=λ(z e:Nat) (he:e<18446744073709551616) (hz:lw N (ae z)) (kk:List Int->Bool)=>Gk (N:=N) (e:=0) he (by decide) hz kk
   rw[show((0:Nat):Int)=0 from rfl]at m;rw[afw,m X a (by omega) ⟨by omega,by omega⟩,m Y b hbl ⟨by omega,by omega⟩,nA _ _ (aX _) (aX _) (by rw[aE,aE,af3,af3,afy X,afy Y]; exact g1) (len1 X a sX (by omega)),m Y d hdl ⟨by omega,by omega⟩,m X c (by omega) ⟨by omega,by omega⟩,nA _ _ (aX _) (aX _) (by rw[aE,aE,af3,af3,afy X,afy Y]; exact g2) (len1 Y d sY hdl),aE,aE,aE,aE,af3,af3,af3,af3,afy Y b,afy X a,afy X c,afy Y d]
theorem JR (N x:Nat) (k:Kz4):uQ N (ae x) k=k ((x%18446744073709551616:Nat):Int):=by unfold uQ CG;have:=nB N (ae x) 0 (by omega) k;rw[show((0:Nat):Int)=0 from rfl]at this;rw[this,nO,ahr,aho]
theorem FL {N:Nat} (e0:Int->Bool):∀(b a M:Nat),b<M->ah M (fu N e0) ((a:Int),(b:Int))=e0 ((Nat.gcd a b:Nat):Int):=by
 intro b;induction b using Nat.strongRecOn with
 | ind b ih=>
 intro a M hM;obtain⟨M,rfl⟩:∃ m,M=m+1:=⟨M - 1,by omega⟩
 show fu N e0 ((a:Int),(b:Int)) (ah M _)=_;simp only[fu];by_cases h:b=0
 ·subst h;rw[afv (by omega),afw,ah3]
 ·have y1:(!decide ((b:Int)=0))=true:=by simp; omega
  have emod:Int.tmod (a:Int) (b:Int)=((a%b:Nat):Int):=rfl;rw[afu (by omega),afx,aa y1,emod,ih (a%b) (afK _ (by omega)) b M (by have:=afK a (by omega:b>0); omega),agM b,<- aiu,agM]
theorem vX {y:Nat} (h:(ae y).length<=1):y<18446744073709551616:=by have:=jJ y;have h2:18446744073709551616 ^ (ae y).length<=18446744073709551616 ^ 1:=afL (by decide) h;rw[ait]at h2;omega
theorem AC {N:Nat} (hN:1180591620717411303424<=N) {u v:List Int} {x y:Nat} (hy:(ae y).length<=1) (hx:y=0\/(ae x).length<=1) (k:Kz8) :
  yI N u v (ae x) (ae y) k=k (ae (Nat.gcd x y)):=by
 unfold yI;have hyl:=vX hy;by_cases h:y=0
 ·subst h;rw[bh,ah3]; rfl
 ·have e0:((((ae y).length:Nat):Int)==0)=false:=by rw[bU h]; simp; omega
  have hxl:=vX (hx.resolve_left h);rw[e0,afw,JR,JR,afF hxl,afF hyl,FL _ y x N (by omega)];refine uC (by omega) _ ?_ k;have:=ahz x (ah4 h);omega
theorem FE {N:Nat} (hN:1180591620717411303424<=N) {u v:List Int} (k:Kz8) :
  ∀ s x y,x+y=s->s<N->y<=x->(ae x).length<=1099511626000 ->
   Qr N u v (ae x) (ae y) k=k (ae (Nat.gcd x y)):=by
 intro s x y hs hsN hyx hxl;unfold Qr;have main:∀ s x y M,x+y=s->s<M->M<=N->y<=x->(ae x).length<=1099511626000 ->
   ah M (Hg N (λ(x_3:List Int) (y_3:List Int)=>(cond ((decide ((((List.length y_3):Nat):Int)>0))==true) (cond (decide ((((List.length x_3):Nat):Int)>1)) (BL N x_3 y_3 (λ(aac:List Int) (Z_:List Int)=>(yI N u v y_3 Z_ k))) (yI N u v x_3 y_3 k)) (yI N u v x_3 y_3 k)))) (ae x,ae y)=k (ae (Nat.gcd x y)):=by
  intro s;induction s using Nat.strongRecOn with
  | ind s ih=>
  intro x y M hs hsM hMN hyx hxl;obtain⟨M,rfl⟩:∃ m,M=m+1:=⟨M - 1,by omega⟩
  have hyl:=dc hyx;show Hg N _ (ae x,ae y) (ah M _)=_;simp only[Hg];by_cases h2:2<=(ae y).length
  ·have hyge:18446744073709551616<=y:=by
    rcases agv y 18446744073709551616 with h | h
    ·have:=fN 1 y (by rw[ait]; exact h); omega
    ·exact h
   have hblx:64<bl x:=by
    rcases agv 64 (bl x)with h | h
    ·exact h
    ·have h1:=yM x;have h3:2 ^ bl x<=2 ^ 64:=afL (by decide) h;rw[oi]at h3;omega
   have hblu:bl x<=64*(ae x).length:=by refine wM ?_;rw[aio,oi]; exact jJ x
   obtain⟨f,hf⟩:∃ f,bl x=f+64:=⟨bl x - 64,by omega⟩
   have ef:(bl x:Int) - 64=(f:Int):=by omega
   have hF0:0<2 ^ f:=afJ f;have hx0l:x / 2 ^ f<18446744073709551616:=by rw[afE hF0,<- oi,<- afO,ahq,<- hf]; exact yM x
   have hy0l:y / 2 ^ f<=x / 2 ^ f:=ahM hyx;rw[afu (by omega),afx,Gc (by omega),ef,aa afs,JW (by omega),JW (by omega),afF hx0l,afF (by omega)];obtain⟨a,b,c,d,odd,g1,g2⟩:=LP hN hx0l hy0l;rw[g2];by_cases hb:b=0
   ·subst hb;rw[show(((0:Nat):Int) != 0)=false from rfl,afw,kw hN (by omega) (by omega) (by omega)];have hm:=afK x (by omega:y>0);rw[ih (y+x%y) (by omega) y (x%y) M rfl (by omega) (by omega) (by omega) (by omega),agM y,<- aiu,agM]
   ·have hbn:((b:Int) != 0)=true:=by simp; omega
    rw[hbn,afx];obtain⟨U,V,k1,k2,k3,k4,k5⟩:=Lt (N:=N) (g1.resolve_left hb) (afK x hF0) (afK y hF0) (ags x (2 ^ f)).symm (ags y (2 ^ f)).symm (by omega) ⟨by omega,by omega⟩ ⟨by omega,by omega⟩;have hUl:=dc k3;rw[k5,ih (U+V) (by omega) U V M rfl (by omega) (by omega) k1 (by omega),k4]
  ·rw[afv (by omega),afw];by_cases h0:y=0
   ·have:(((ae y).length:Nat):Int)=0:=by rw[h0,bh]; rfl
    rw[this,afv (by omega),show(false==true)=false from rfl,afw,AC hN (by omega) (.inl h0)]
   ·have hpos:0<(ae y).length:=by rw[bU h0]; simp
    rw[afu (by omega),show(true==true)=true from rfl,afx];by_cases h1:1<(ae x).length
    ·have hm:=afK x (ah4 h0);have hml:=dc (Nat.le_of_lt hm);rw[afu (by omega),afx,kw hN (ah4 h0) (by omega) (by omega),AC hN (by omega) (.inr (by omega)),agM y,<- aiu,agM]
    ·rw[afv (by omega),afw,AC hN (by omega) (.inr (by omega))]
 exact main s x y N hs hsN (afH _) hyx hxl
theorem Gd {N:Nat} (hN:1180591620717411303424<=N) {x y:Nat} (hf:x+y<N) (hxl:(ae x).length<=1099511626000) (hyl:(ae y).length<=1099511626000) (k:Kz8):CA N (ae x) (ae y) k=k (ae (Nat.gcd x y)):=by
 (unfold CA; rw[ac]; unfold TA)
 rw[iW x y ⟨by omega,by omega⟩ ⟨by omega,by omega⟩];by_cases h:x<y
 ·have hc:decide (dz x y<0)=true:=by unfold dz; rw[if_pos h]; rfl
  rw[hc,afx,FE hN _ (y+x) y x rfl (by omega) (by omega) hyl,agM]
 ·have hc:decide (dz x y<0)=false:=by unfold dz; rw[if_neg h]; split <;> rfl
  rw[hc,afw,FE hN _ (x+y) x y rfl hf (by omega) hxl]
def Fuel (N:Nat):Prop:=∃ E,4398046511104<=E/\2 ^ E<=N
theorem Fuel.lt {N:Nat} (h:Fuel N):4398046511104<N:=by obtain⟨E,h1,h2⟩:=h;have:E<2 ^ E:=Nat.lt_two_pow_self;omega
theorem Fuel.sum {N C x y:Nat} (h:Fuel N) (hC:C<=4398046511000) (hx:aU C x) (hy:aU C y):x+y<N:=by obtain⟨E,h1,h2⟩:=h;have h3:2 ^ (C+1)<=2 ^ E:=afL (by decide) (by omega);rw[afI]at h3;unfold aU at hx hy;omega
theorem Fuel.big {N:Nat} (h:Fuel N):1180591620717411303424<=N:=by
 obtain⟨E,h1,h2⟩:=h;have h3:2 ^ 70<=2 ^ E:=afL (by decide) (by omega);have e:(2:Nat) ^ 70=1180591620717411303424:=by decide
 rw[e]at h3;exact afV h3 h2
theorem zJ {B n:Nat} (hB:B<=2000000000100) (h:aU B n):(ae n).length<=31250000003:=by have:=KQ h; omega
def kr (z:Int) (d:Nat) (k:Kx5):Bool:=k (decide (z<0)) (ae z.natAbs) false (ae d)
def kq (x:Rat) (k:Kx5):Bool:=kr x.num x.den k
theorem F2 (g:Bool) (n d:Nat) (k:Kx5):k (sg g n) (ae n) false (ae d)=kr (aY g n) d k:=GG g n (λa b=>k a b false (ae d))
theorem Ec {N:Nat} (g:Bool) (n:Nat) (l:List Int) (b1 b2:Bool) (k:Ky3):Mo N g (ae n) l b1 b2 k=k (sg g n) false:=by
 (unfold Mo; rw[ac]; unfold Tq Ml Qk RW Tz)
 cases g
 ·rfl
 ·simp only[pF,sg,agC]; rfl
theorem LA {N:Nat} (g b:Bool) (n:Nat) (k:Kz3):Eu N g (ae n) b k=k (sg g n):=by
 unfold Eu WY;cases g
 ·rfl
 ·simp only[pF,sg,agC]; rfl
theorem QX (g:Bool) (n:Nat):aY (sg g n) n=aY g n:=by
 unfold aY sg;cases g
 ·rfl
 ·by_cases h:n=0
  ·subst h; rfl
  ·rw[afu h]; rfl
theorem LC {N:Nat} (g1:Bool) (n1:Nat) (g2:Bool) (n2:Nat) (h1:lw N (ae n1)) (h2:lw N (ae n2)) (k:Ky4) :
  RQ N g2 (ae n2) g1 (ae n1) k=ta (aY g1 n1+aY g2 n2) k:=by
 (unfold RQ; rw[ac]; unfold Tu)
 rw[O3 _ _ (aX _) (aX _) h1 h2,iW _ _ h1 h2,aE,aE,nY g2 _ _ (n1+n2) k,<- I9];congr 1;by_cases h:n2<=n1
 ·rw[nA _ _ (aX _) (aX _) (by rw[aE,aE]; exact h) h1,aE,aE,nY g1 _ _ (n1 - n2) k,ut,afu h];rfl
 ·rw[nA _ _ (aX n2) (aX n1) (by rw[aE,aE]; omega) h2,aE,aE,nY g2 _ _ (n2 - n1) k,ut,afv h];rfl
theorem Pe {N:Nat} (hF:Fuel N) {x y:Nat} (hy:0<y) (hxl:(ae x).length<=1099511627000) (hyl:(ae y).length<=1099511627000) (k:Kz8):ol N (ae x) (ae y) k=k (ae (x / y)):=by
 have hj:nj N (ae x) (ae y) k=k (ae (x / y)):=by unfold nj;rw[kw hF.big hy hxl hyl]
 (unfold ol; rw[ac]; unfold MN)
 by_cases h1:(ae y).length=1
 ·have e:((((ae y).length:Nat):Int)==1)=true:=by rw[h1]; rfl
  rw[e,show(true==true)=true from rfl,afx,aa aft];have hyw:=qB (by omega:y ≠ 0) (vX (by omega));by_cases h2:y=1
  ·have:((ae y).getD 0 0==1)=true:=by rw[hyw,h2]; rfl
   rw[this,afx,h2,aho]
  ·have:((ae y).getD 0 0==1)=false:=by rw[hyw]; simp; omega
   rw[this,afw,hj]
 ·have e:((((ae y).length:Nat):Int)==1)=false:=by simp; omega
  rw[e,show(false==true)=false from rfl,afw,hj]
theorem gB {N:Nat} (a:Bool) (l:List Int) (b:Bool) {d:Nat} (hd:d ≠ 0) (k:Kz8):Cy N a l b (ae d) k=k (ae d):=by
 unfold Cy W3;have:((((ae d).length:Nat):Int)==0)=false:=by rw[bU hd]; simp; omega
 rw[this]; rfl
theorem Gn {N:Nat} (a:Bool) (l:List Int) (b:Bool) {d:Nat} (hd:d ≠ 0) (k:Kz8):Ws N a l b (ae d) k=k (ae d):=by
 unfold Ws Xd;have:((((ae d).length:Nat):Int)==0)=false:=by rw[bU hd]; simp; omega
 rw[this]; rfl
theorem uH {N B:Nat} (hF:Fuel N) (hB:B<=2000000000100) {a b:Nat} (ha:aU B a) (hb:aU B b) (k:Kz8):zM N (ae a) (ae b) k=k (ae (a*b)):=by have h1:=zJ hB ha;have h2:=zJ hB hb;have:=hF.lt;rw[Il _ _ (aX _) (aX _) (by omega) (by omega),aE,aE]
theorem wZ {N B:Nat} (hF:Fuel N) (hB:B<=2000000000100) {a b:Nat} (ha:aU B a) (hb:aU B b) (k:Kz8):CA N (ae a) (ae b) k=k (ae (Nat.gcd a b)):=by have h1:=zJ hB ha;have h2:=zJ hB hb;rw[Gd hF.big (hF.sum (by omega) ha hb) (by omega) (by omega)]
theorem oV {N B:Nat} (hF:Fuel N) (hB:B<=2000000000100) {a b:Nat} (h0:0<b) (ha:aU B a) (hb:aU B b) (k:Kz8):ol N (ae a) (ae b) k=k (ae (a / b)):=by have h1:=zJ hB ha;have h2:=zJ hB hb;rw[Pe hF h0 (by omega) (by omega)]
theorem qM {N B:Nat} (hB:B<=2000000000100) {a:Nat} (ha:aU B a) (k:Kz8):rR N (ae a) k=k (ae a):=by have h1:=zJ hB ha;rw[xZ _ (by omega)]
theorem bY {B a b:Nat} (h:aU B a):aU B (a / b):=lT h (ag5 _ _)
theorem P1 {N B n:Nat} (hF:Fuel N) (hB:B<=2000000000100) (h:aU B n):lw N (ae n):=by have h1:=zJ hB h;have:=hF.lt;exact⟨by omega,by omega⟩
def Bq (B:Nat) (x:Rat):Prop:=aU B x.num.natAbs/\aU B x.den
theorem Bq.mono {A B:Nat} {x:Rat} (h:Bq A x) (hAB:A<=B):Bq B x:=⟨bO h.1 hAB,bO h.2 hAB⟩
theorem tc (z:Int) (f:Nat):aY (decide (z<0)) (z.natAbs*f)=z*f:=by
 unfold aY;by_cases h:z<0
 ·rw[afu h,if_pos rfl];have:(z.natAbs:Int) = -z:=by omega
  rw[afR,this,aiF,Int.neg_neg]
 ·rw[afv h,if_neg (by decide)];have:(z.natAbs:Int)=z:=by omega
  rw[afR,this]
theorem A5 {z:Int} {h:Nat} (h0:0<h) (hd:h∣z.natAbs):aY (decide (z<0)) (z.natAbs / h)=z / (h:Int):=by
 obtain⟨q,hq⟩:=hd;rw[hq,af7 _ h0];unfold aY;have hh:(h:Int) ≠ 0:=by omega
 by_cases hz:z<0
 ·rw[afu hz,if_pos rfl];have:z=(h:Int)*(-(q:Int)):=by
   have e:(z.natAbs:Int)=(h:Int)*q:=by rw[hq,afR]
   rw[aip,<- e]; omega
  rw[this,ahv _ hh]
 ·rw[afv hz,if_neg (by decide)];have:z=(h:Int)*(q:Int):=by
   have e:(z.natAbs:Int)=(h:Int)*q:=by rw[hq,afR]
   rw[<- e]; omega
  rw[this,ahv _ hh]
theorem NS (x y:Rat):(x+y).num=(x.num*((y.den / Nat.gcd x.den y.den:Nat):Int)+y.num*((x.den / Nat.gcd x.den y.den:Nat):Int)) / ((Nat.gcd (x.num*((y.den / Nat.gcd x.den y.den:Nat):Int)+y.num*((x.den / Nat.gcd x.den y.den:Nat):Int)).natAbs (Nat.gcd x.den y.den):Nat):Int)
  /\ (x+y).den=x.den / Nat.gcd x.den y.den*(y.den / Nat.gcd (x.num*((y.den / Nat.gcd x.den y.den:Nat):Int)+y.num*((x.den / Nat.gcd x.den y.den:Nat):Int)).natAbs (Nat.gcd x.den y.den)):=by
 have aux:=Rat.add.aux x y (g:=Nat.gcd x.den y.den) rfl rfl rfl;simp only at aux;have hx:=x.den_pos;have hy:=y.den_pos;obtain⟨g,hg⟩:∃ g,g=Nat.gcd x.den y.den:=⟨_,rfl⟩
 rw[<- hg]at aux ⊢;have hg0:0<g:=by rw[hg]; exact Nat.gcd_pos_of_pos_left _ hx
 have hgx:g∣x.den:=by rw[hg]; exact agm _ _
 have hgy:g∣y.den:=by rw[hg]; exact agJ _ _
 obtain⟨e,he⟩:∃ e,e=x.den / g:=⟨_,rfl⟩
 obtain⟨f,hf⟩:∃ f,f=y.den / g:=⟨_,rfl⟩
 rw[<- he,<- hf]at aux ⊢;have ex:x.den=e*g:=by rw[he,Nat.div_mul_cancel hgx]
 have ey:y.den=f*g:=by rw[hf,Nat.div_mul_cancel hgy]
 obtain⟨n,hn⟩:∃ n,n=x.num*(f:Int)+y.num*(e:Int):=⟨_,rfl⟩
 rw[<- hn]at aux ⊢;have hsum:x+y=mkRat n (e*y.den):=by
  rw[Rat.add_def'];have e1:x.num*(y.den:Int)+y.num*(x.den:Int)=n*(g:Int):=by rw[ex,ey,hn]; simp only[afR]; grind
  have e2:x.den*y.den=e*y.den*g:=by rw[ex]; grind
  rw[e1,e2,Rat.mkRat_mul_right (by omega)]
 have he0:0<e:=by
  rcases agQ e with h | h
  ·rw[h,agV]at ex; omega
  ·exact h
 have hd0:e*y.den ≠ 0:=by have:=ahx he0 hy; omega
 have hhy:Nat.gcd n.natAbs g∣y.den:=Nat.dvd_trans (agJ _ _) hgy;constructor
 ·rw[hsum,aiG,if_neg hd0,agM,<- aux]
 ·rw[hsum,aiH,if_neg hd0,agM,<- aux,Nat.mul_div_assoc _ hhy]
theorem CL {A:Nat} {z w:Int} (hz:aU A z.natAbs) (hw:aU A w.natAbs):aU (A+1) (z+w).natAbs:=lT (wL hz hw) (by omega)
theorem ur {A B:Nat} {z:Int} {n:Nat} (hz:aU A z.natAbs) (hn:aU B n):aU (A+B) (z*(n:Int)).natAbs:=by rw[ahk,agq]; exact dy hz hn
theorem Bf {N B:Nat} (hF:Fuel N) (hB:B<=1000000000000) {x y:Rat} (hx:Bq B x) (hy:Bq B y) (b1 b2:Bool) (k:Kx5) :
  RU N (decide (x.num<0)) (ae x.num.natAbs) false (ae x.den) (decide (y.num<0)) (ae y.num.natAbs) false (ae y.den) b1 b2 k=kq (x+y) k:=by
 (unfold RU; rw[ac]; unfold Qm)
 obtain⟨m1,m2⟩:=NS x y;have hB2:B<=2000000000100:=by omega
 have hxd:=x.den_pos;have hyd:=y.den_pos;rw[gB _ _ _ x.den_nz,gB _ _ _ y.den_nz,wZ hF hB2 hx.2 hy.2];obtain⟨g,hg⟩:∃ g,g=Nat.gcd x.den y.den:=⟨_,rfl⟩
 rw[<- hg]at m1 m2 ⊢;have hg0:0<g:=by rw[hg]; exact Nat.gcd_pos_of_pos_left _ hxd
 have hgb:aU B g:=by rw[hg]; exact lT hx.2 (Nat.gcd_le_left _ hxd)
 have hgy:g∣y.den:=by rw[hg]; exact agJ _ _
 rw[oV hF hB2 hg0 hx.2 hgb,oV hF hB2 hg0 hy.2 hgb,uH hF hB2 hx.1 (bY hy.2),LA,uH hF hB2 hy.1 (bY hx.2)];have hb1:=dy hx.1 (bY (b:=g) hy.2);have hb2:=dy hy.1 (bY (b:=g) hx.2);rw[LC _ _ _ _ (P1 hF (by omega) hb1) (P1 hF (by omega) hb2),QX,tc,tc];have hnb:aU (B+B+1) (x.num*((y.den / g:Nat):Int)+y.num*((x.den / g:Nat):Int)).natAbs:=CL (ur hx.1 (bY hy.2)) (ur hy.1 (bY hx.2));obtain⟨n,hn⟩:∃ n,n=x.num*((y.den / g:Nat):Int)+y.num*((x.den / g:Nat):Int):=⟨_,rfl⟩
 rw[<- hn]at m1 m2 hnb ⊢;have hB3:B+B+1<=2000000000100:=by omega
 unfold ta;dsimp only;rw[wZ hF hB3 hnb (bO hgb (by omega))];obtain⟨h,hh⟩:∃ h,h=Nat.gcd n.natAbs g:=⟨_,rfl⟩
 rw[<- hh]at m1 m2 ⊢;have hh0:0<h:=by rw[hh]; exact agD _ hg0
 have hhb:aU B h:=by rw[hh]; exact lT hgb (ahz _ hg0)
 rw[oV hF hB3 hh0 hnb (bO hhb (by omega)),qM hB3 (bY hnb),oV hF hB2 hh0 hy.2 hhb,uH hF hB2 (bY hx.2) (bY hy.2),Ec,F2 _ _ _ k,A5 hh0 (by rw[hh]; exact agm _ _),<- m1,<- m2];rfl
theorem F7 {N B:Nat} (hF:Fuel N) (hB:B<=1000000000000) {x y:Rat} (hx:Bq B x) (hy:Bq B y) (b1 b2:Bool) (k:Kx5) :
  Wh N (decide (x.num<0)) (ae x.num.natAbs) false (ae x.den) b1 b2 (decide (y.num<0)) (ae y.num.natAbs) false (ae y.den) k=kq (x+y) k:=by
 rw[<- Bf hF hB hx hy b1 b2 k]
 (unfold Wh; rw[ac]; unfold Ts; unfold RU; rw[ac]; unfold Qm)
 rw[gB _ _ _ x.den_nz,Gn _ _ _ y.den_nz,gB _ _ _ x.den_nz,gB _ _ _ y.den_nz]
theorem OP (g:Bool) (n:Nat):aY (!g) n = -(aY g n):=by unfold aY; cases g <;> simp
theorem iV (z:Int):aY (decide (z<0)) z.natAbs=z:=OO z
theorem Ii {N B:Nat} (hB:B<=2000000000100) {y:Rat} (hy:Bq B y) (b1 b2:Bool) (k:Kx5) :
  Wy N (decide (y.num<0)) (ae y.num.natAbs) false (ae y.den) b1 b2 k=kq (-y) k:=by
 (unfold Wy; rw[ac]; unfold TS)
 rw[qM hB hy.1,gB _ _ _ y.den_nz,qM hB hy.2,Ec,F2 _ _ _ k,OP,iV];rfl
theorem Gi {N B:Nat} (hF:Fuel N) (hB:B<=1000000000000) {x y:Rat} (hx:Bq B x) (hy:Bq B y) (k:Kx5) :
  cI N (decide (x.num<0)) (ae x.num.natAbs) false (ae x.den) (decide (y.num<0)) (ae y.num.natAbs) false (ae y.den) k=kq (x - y) k:=by
 (unfold cI jm; unfold SS; rw[ac]; unfold MV)
 rw[Ii (by omega) hy];unfold kq kr;dsimp only;have hny:Bq B (-y):=⟨by rw[Rat.neg_num,ah9]; exact hy.1,hy.2⟩
 rw[F7 hF hB hx hny,Rat.sub_eq_add_neg];rfl
theorem Q4 {N B:Nat} (hF:Fuel N) (hB:B<=1000000000000) {x y:Rat} (hx:Bq B x) (hy:Bq B y) (k:Kx5) :
  eB N (decide (x.num<0)) (ae x.num.natAbs) false (ae x.den) (decide (y.num<0)) (ae y.num.natAbs) false (ae y.den) k=kq (x+y) k:=by
 unfold eB jp;rw[Bf hF hB hx hy]
theorem Pt (x w:Rat):(x*w).num=aY (decide (x.num<0)) (x.num.natAbs / Nat.gcd x.num.natAbs w.den)*aY (decide (w.num<0)) (w.num.natAbs / Nat.gcd w.num.natAbs x.den)
  /\ (x*w).den=x.den / Nat.gcd w.num.natAbs x.den*(w.den / Nat.gcd x.num.natAbs w.den):=by
 have H1:0<x.num.natAbs.gcd w.den:=agD _ w.den_pos;have H2:0<w.num.natAbs.gcd x.den:=agD _ x.den_pos;have d1:Nat.gcd x.num.natAbs w.den∣x.num.natAbs:=agm _ _;have d2:Nat.gcd w.num.natAbs x.den∣w.num.natAbs:=agm _ _;rw[A5 H1 d1,A5 H2 d2];have e1:(x*w).num=x.num.tdiv (Nat.gcd x.num.natAbs w.den:Nat)*w.num.tdiv (Nat.gcd w.num.natAbs x.den:Nat):=by
  show(Rat.mul x w).num=_
  delta Rat.mul
  simp only[Int.divExact_eq_tdiv]
 have e2:(x*w).den=x.den / Nat.gcd w.num.natAbs x.den*(w.den / Nat.gcd x.num.natAbs w.den):=by
  show(Rat.mul x w).den=_
  delta Rat.mul
  simp only[Nat.divExact_eq_div]
 refine⟨?_,e2⟩;rw[e1,Int.tdiv_eq_ediv_of_dvd (Int.ofNat_dvd_left.2 d1),Int.tdiv_eq_ediv_of_dvd (Int.ofNat_dvd_left.2 d2)]
theorem Gl {N B:Nat} (hF:Fuel N) (hB:B<=1000000000000) {x w:Rat} (hx:Bq B x) (hw:Bq B w) (b1 b2:Bool) (k:Kx5) :
  RM N (decide (x.num<0) != decide (w.num<0)) (ae x.num.natAbs) (ae x.den) (ae w.num.natAbs) (ae w.den) b1 b2 k=kq (x*w) k:=by
 (unfold RM; rw[ac]; unfold Tn)
 have hB2:B<=2000000000100:=by omega
 obtain⟨m1,m2⟩:=Pt x w;have H1:0<x.num.natAbs.gcd w.den:=agD _ w.den_pos;have H2:0<w.num.natAbs.gcd x.den:=agD _ x.den_pos;have L1:aU B (x.num.natAbs.gcd w.den):=lT hw.2 (ahz _ w.den_pos);have L2:aU B (w.num.natAbs.gcd x.den):=lT hx.2 (ahz _ x.den_pos);rw[wZ hF hB2 hx.1 hw.2,wZ hF hB2 hw.1 hx.2,oV hF hB2 H1 hx.1 L1,oV hF hB2 H2 hw.1 L2,uH hF hB2 (bY hx.1) (bY hw.1),oV hF hB2 H2 hx.2 L2,oV hF hB2 H1 hw.2 L1,uH hF hB2 (bY hx.2) (bY hw.2),Ec,F2 _ _ _ k,A6,<- m1,<- m2];rfl
theorem Q7 {N B:Nat} (hF:Fuel N) (hB:B<=1000000000000) {x y:Rat} (hx:Bq B x) (hy:Bq B y) (k:Kx5) :
  dN N (decide (x.num<0)) (ae x.num.natAbs) false (ae x.den) (decide (y.num<0)) (ae y.num.natAbs) false (ae y.den) k=kq (x*y) k:=by
 (unfold dN jb; unfold SQ; rw[ac]; unfold MT)
 rw[gB _ _ _ x.den_nz,gB _ _ _ y.den_nz,Gl hF hB hx hy]
theorem A2 {y:Rat} (h:y.num ≠ 0):(y⁻¹).num.natAbs=y.den/\(y⁻¹).den=y.num.natAbs/\decide ((y⁻¹).num<0)=decide (y.num<0):=by
 have hd:=y.den_pos;refine⟨?_,?_,?_⟩
 ·rw[Rat.num_inv,ahk,agq,Int.natAbs_sign,if_neg h,ahw]
 ·rw[Rat.den_inv,if_neg h]
 ·rw[Rat.num_inv];rcases Int.lt_trichotomy y.num 0 with h1 | h1 | h1
  ·rw[Int.sign_eq_neg_one_of_neg h1,afu h1,afu (by omega)]
  ·exact absurd h1 h
  ·rw[Int.sign_eq_one_of_pos h1,afv (by omega),afv (by omega)]
theorem Ra {N B:Nat} (hF:Fuel N) (hB:B<=1000000000000) {x y:Rat} (hx:Bq B x) (hy:Bq B y) (h0:y.num ≠ 0) (k:Kx5) :
  eA N (decide (x.num<0)) (ae x.num.natAbs) false (ae x.den) (decide (y.num<0)) (ae y.num.natAbs) false (ae y.den) k=kq (x / y) k:=by
 obtain⟨i1,i2,i3⟩:=A2 h0
 (unfold eA jo; unfold SR; rw[ac]; unfold MU)
 have hw:Bq B (y⁻¹):=⟨by rw[i1]; exact hy.2,by rw[i2]; exact hy.1⟩
 have hp:=λkk=>Gl (b1:=false) (b2:=false) hF hB hx hw kk
 rw[i1,i2,i3]at hp;rw[gB _ _ _ x.den_nz,gB _ _ _ y.den_nz,hp,Rat.div_def]
theorem za {N B:Nat} (hF:Fuel N) (hB:B<=2000000000000) (g:Bool) {n d:Nat} (hn:aU B n) (hd:aU B d) (h0:0<d) (b1 b2:Bool) (k:Kx5) :
  Wo N g (ae n) (ae d) b1 b2 k=kq (mkRat (aY g n) d) k:=by
 have hB2:B<=2000000000100:=by omega
 have hl:=hF.lt;have hnum:(mkRat (aY g n) d).num=aY g (n / Nat.gcd n d):=by
  rw[aiG,if_neg (by omega)];have e:(aY g n).natAbs=n:=by unfold aY; cases g <;> simp
  have hg:0<Nat.gcd n d:=agD _ h0;rw[e,agM];obtain⟨q,hq⟩:=agm n d;have hh:((Nat.gcd n d:Nat):Int) ≠ 0:=by omega
  have e2:aY g n=((Nat.gcd n d:Nat):Int)*aY g (n / Nat.gcd n d):=by
   have hnn:n=Nat.gcd n d*(n / Nat.gcd n d):=(Nat.mul_div_cancel' (agm n d)).symm;have hc:(n:Int)=((Nat.gcd n d:Nat):Int)*((n / Nat.gcd n d:Nat):Int):=by rw[<- afR,<- hnn]
   unfold aY;cases g
   ·simpa using hc
   ·simp only[ag8]; rw[hc,aip]
  rw[e2,ahv _ hh]
 have hden:(mkRat (aY g n) d).den=d / Nat.gcd n d:=by
  rw[aiH,if_neg (by omega)];have e:(aY g n).natAbs=n:=by unfold aY; cases g <;> simp
  rw[e,agM]
 have hj:∀ m e:Nat,aU B m->aU B e->Jj N g (ae n) (ae d) b1 b2 (ae m) (ae e) k=k (sg g m) (ae m) false (ae e):=by
  intro m e hm he;unfold Jj;rw[qM hB2 hm];unfold Ml Qk;dsimp only;rw[qM hB2 he,qM hB2 he];unfold RW Tz;cases g
  ·rfl
  ·simp only[pF,sg,agC]; rfl
 have hg0:0<Nat.gcd n d:=agD _ h0;have hgb:aU B (Nat.gcd n d):=lT hd (ahz _ h0);have h1:=zJ hB2 hn;have h2:=zJ hB2 hd;have h3:=zJ hB2 hgb;have e1:ae 1=[1]:=qB (by decide) (by decide)
 (unfold Wo; rw[ac]; unfold TI)
 rw[wZ hF hB2 hn hd,<- e1,iW _ 1 ⟨by omega,by omega⟩ ⟨by rw[e1]; simp; omega,by rw[e1]; simp⟩];by_cases hc:Nat.gcd n d=1
 ·have:(dz (Nat.gcd n d) 1 != 0)=false:=by rw[hc]; rfl
  rw[this,afw,hj n d hn hd,F2 _ _ _ k];rw[hc,aho]at hnum hden;unfold kq;rw[hnum,hden]
 ·have:(dz (Nat.gcd n d) 1 != 0)=true:=by unfold dz; rw[if_neg (by omega),if_neg hc]; rfl
  rw[this,afx,kw hF.big hg0 (by omega) (by omega),kw hF.big hg0 (by omega) (by omega),hj _ _ (bY hn) (bY hd),F2 _ _ _ k,<- hnum,<- hden];rfl
theorem IE {N:Nat} (hF:Fuel N) (k:Kx5):lK N 0 k=kq 0 k:=by
 have:=hF.lt
 (unfold lK px; unfold xi; rw[ac]; unfold qf)
 have n0:=λkk=>tf (N:=N) (by omega) 0 (by decide) kk
 have n1:=λkk=>tf (N:=N) (by omega) 1 (by decide) kk
 rw[show((0:Nat):Int)=0 from rfl]at n0;rw[show((1:Nat):Int)=1 from rfl]at n1;unfold RK Tg;rw[n0,n1,za hF (B:=10) (by decide) _ (by unfold aU; decide) (by unfold aU; decide) (by decide)];rfl
theorem my {N:Nat} (x:Rat) (k:Kz4):bv N (decide (x.num<0)) (ae x.num.natAbs) false (ae x.den) k=k (xo x.num):=by
 (unfold bv jq tG r_; unfold SZ; rw[ac]; unfold NA xo)
 by_cases h:x.num<0
 ·rw[afu h,afx,if_neg (by omega),if_pos h]
 ·rw[afv h,afw,if_neg h];by_cases h0:x.num=0
  ·rw[h0,if_pos rfl];have:ae (0:Int).natAbs=[]:=bh;rw[this]; rfl
  ·have:((((ae x.num.natAbs).length:Nat):Int)==0)=false:=by rw[bU (by omega)]; simp; omega
   rw[this,afw,if_neg h0]
end Go.Proofs.YtdinakfmablagaaGreatDoor
end
