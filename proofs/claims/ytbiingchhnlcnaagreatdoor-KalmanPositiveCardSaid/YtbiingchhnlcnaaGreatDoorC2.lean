/- Laws in plain Lean. Conditions: none. -/
import Derived.Test.YtbiingchhnlcnaaGreatDoorC1
set_option linter.defProp false
set_option linter.unusedVariables false
section
namespace Go.Proofs.YtbiingchhnlcnaaGreatDoor
open Go Go.Mach
def AO (N:Nat) {x:Nat} (hx:x<18446744073709551616) (k:Kz5):PY N (x:Int) k=k (bl x:Int):=by
 have key:∀(z:Int) (m:Nat),z=(m:Int)->m<256 -> ∀ c:Nat,c<=56->((inR z 256)&&((ac .i64 (List.getD ay (Int.toNat z) 0))&&((ac .i64 ((c:Int)+(List.getD ay (Int.toNat z) 0)))&&k ((c:Int)+List.getD ay (Int.toNat z) 0))))=k ((c+bl m:Nat):Int):=by intro z m hz hm c hc;subst hz;have:=EC hm;rw[aiA,Ow hm,aa ais,aa air,aa air];rfl
 have j1:∀(y z c:Nat),z<65536->c<=48->Ix N (y:Int) (z:Int) (c:Int) k=k ((c+bl z:Nat):Int):=by
  intro y z c hz hc;unfold Ix;simp only[Qj,QF];by_cases h8:256<=z
  ·have e8:=mY (n:=z) 8 (by simpa using h8);rw[show(2:Nat) ^ 8=256 by decide]at e8;have h:=key ((z:Int) / 256%256) (z / 256) (by omega) (by omega) (c+8) (by omega);rw[show((c+8:Nat):Int)=(c:Int)+8 by omega]at h;rw[ait (by omega:(z:Int)>=256),aiw,aa air,h];congr 1; omega
  ·rw[aiu (by omega:¬(z:Int)>=256),aiv,key ((z:Int)%256) z (by omega) (by omega) c (by omega)]
 have j0:∀(y z c:Nat),z<4294967296->c<=32->Iw N (y:Int) (z:Int) (c:Int) k=k ((c+bl z:Nat):Int):=by
  intro y z c hz hc;unfold Iw;simp only[MX];by_cases h16:65536<=z
  ·have e16:=mY (n:=z) 16 (by simpa using h16);rw[show(2:Nat) ^ 16=65536 by decide]at e16;have h:=j1 y (z / 65536) (c+16) (by omega) (by omega);rw[show((c+16:Nat):Int)=(c:Int)+16 by omega,show((z / 65536:Nat):Int)=(z:Int) / 65536 by omega]at h;rw[ait (by omega:(z:Int)>=65536),aiw,aa air,h];congr 1; omega
  ·rw[aiu (by omega:¬(z:Int)>=65536),aiv,j1 y z c (by omega) (by omega)]
 (unfold PY; rw[ae]; unfold Rm)
 simp only[kV];by_cases h32:4294967296<=x
 ·have e32:=mY (n:=x) 32 (by rw[show(2:Nat) ^ 32=4294967296 by decide]; exact h32);rw[show(2:Nat) ^ 32=4294967296 by decide]at e32;have h:=j0 x (x / 4294967296) 32 (by omega) (by omega);rw[show((x / 4294967296:Nat):Int)=(x:Int) / 4294967296 by omega,show((32:Nat):Int)=32 from rfl]at h;rw[ait (by omega:(x:Int)>=4294967296),aiw,h];congr 1; omega
 ·have h:=j0 x x 0 (by omega) (by omega);rw[show((0:Nat):Int)=0 from rfl]at h;rw[aiu (by omega:¬(x:Int)>=4294967296),aiv,h];congr 1; omega
def wR {n j:Nat} (h:n<2 ^ j):bl n<=j:=by
 unfold bl;split
 ·omega
 ·rename_i h0;have:=(Nat.log2_lt h0).2 h;omega
def yu (n:Nat):n<2 ^ bl n:=by
 unfold bl;split
 ·rename_i h; subst h; decide
 ·exact Nat.lt_log2_self
def Mt {n:Nat} (h:n ≠ 0):0<bl n/\2 ^ (bl n - 1)<=n:=by unfold bl;rw[if_neg h];exact⟨by omega,by rw[akT]; exact Nat.log2_self_le h⟩
def oL:(2:Nat) ^ 64=18446744073709551616:=by decide
def Fx (N:Nat) {x:Nat} (hx:x<18446744073709551616) (k:Kz5):PM N (x:Int) k=k ((64 - bl x:Nat):Int):=by unfold PM Ue;have:=wR (n:=x) (j:=64) (by rw[oL]; exact hx);rw[AO N hx,aa air];congr 1; omega
def Jr {y:Nat} (h0:y ≠ 0) (hy:y<18446744073709551616):64 - bl y<64/\9223372036854775808<=y*2 ^ (64 - bl y)/\y*2 ^ (64 - bl y)<18446744073709551616:=by
 have h1:=wR (n:=y) (j:=64) (by rw[oL]; exact hy);obtain⟨h2,h3⟩:=Mt h0;have h4:=yu y;have hp:0<2 ^ (64 - bl y):=aiI _;refine⟨by omega,?_,?_⟩
 ·have:=aiy (2 ^ (64 - bl y)) h3;rw[<- aiN,show bl y - 1+(64 - bl y)=63 by omega]at this;exact this
 ·have:=aji h4 hp;rw[<- aiN,show bl y+(64 - bl y)=64 by omega]at this;exact this
def AA {a c u u1 p r:Nat} (hc:c<4294967296) (hp:p<=4294967296) (hu:(p+1)*a+r=u) (hb:4294967296<=r+a):p*(a*4294967296+c)<=u*4294967296+u1:=by
 have e1:u*4294967296+u1=p*a*4294967296+(r+a)*4294967296+u1:=by rw[<- hu,aj1,aiY,aiY,aiY]; omega
 have e2:p*(a*4294967296+c)=p*a*4294967296+p*c:=by rw[aiL,aiF]
 have:=ajl hp (Nat.le_of_lt_succ hc:c<=4294967295);rw[e1,e2]; omega
def zC {a c u u1:Nat} (hu1:u1<4294967296) (hD:u<a*4294967296+c):(u*4294967296+u1) / (a*4294967296+c)<4294967296:=by rw[aiD (by omega)]; omega
def Hr {N:Nat} {y s un0:Int} {a c u u1:Nat} (ha2:a<4294967296) (hc:c<4294967296) (hu1:u1<4294967296) (hD:u<a*4294967296+c) {d:Nat} (hd:∀ p,p<=d↔p*(a*4294967296+c)<=u*4294967296+u1) (hlt:d<4294967296) (e0:Int->Bool) :
  ∀ q r M,q<M->q<=4294967297->q*a+r=u->r<4294967296->d<=q ->
   ah M (yf N y s (a:Int) (c:Int) (u:Int) (u1:Int) un0 e0) ((q:Int),(r:Int))=e0 (d:Int):=by
 intro q;induction q using Nat.strongRecOn with
 | ind q ih=>
 intro r M hM hqb hu hr hle;obtain⟨M,rfl⟩:∃ m,M=m+1:=⟨M - 1,by omega⟩
 show yf N y s a c u u1 un0 e0 ((q:Int),(r:Int)) (ah M _)=_;have hY:0<a*4294967296+c:=by omega
 have hdec:d<q->cond (decide ((IntKind.wrap .u64 ((r:Int)+(a:Int)))>=4294967296)) (e0 (IntKind.wrap .u64 ((q:Int) - 1))) (ah M (yf N y s (a:Int) (c:Int) (u:Int) (u1:Int) un0 e0) ((IntKind.wrap .u64 ((q:Int) - 1)),(IntKind.wrap .u64 ((r:Int)+(a:Int)))))=e0 (d:Int):=by
  intro hlq;obtain⟨p,rfl⟩:∃ p,q=p+1:=⟨q - 1,by omega⟩
  have w1:IntKind.wrap .u64 (((p+1:Nat):Int) - 1)=(p:Int):=by rw[aq]; omega
  have w2:IntKind.wrap .u64 ((r:Int)+(a:Int))=((r+a:Nat):Int):=by rw[aq]; omega
  rw[w1,w2];by_cases hb:4294967296<=r+a
  ·rw[ait (by omega),aiw];have h1:=AA (u1:=u1) hc (by omega) hu hb;rw[<- hd]at h1;rw[show d=p by omega]
  ·rw[aiu (by omega),aiv];exact ih p (by omega) (r+a) M (by omega) (by omega) (by rw[<- hu,aj1]; omega) (by omega) (by omega)
 simp only[yf];by_cases hq:4294967296<=q
 ·rw[ait (by omega:(q:Int)>=4294967296),show(true==false)=false from rfl,aiv];exact hdec (by omega)
 ·have e1:u*4294967296+u1=q*a*4294967296+r*4294967296+u1:=by rw[<- hu,aiY]
  have e2:q*(a*4294967296+c)=q*a*4294967296+q*c:=by rw[aiL,aiF]
  have hqc:q*c<=4294967295*4294967295:=ajl (by omega) (by omega);have w1:IntKind.wrap .u64 ((q:Int)*(c:Int))=((q*c:Nat):Int):=by rw[<- aiQ,aq]; omega
  have w2:IntKind.wrap .u64 ((IntKind.wrap .u64 (4294967296*(r:Int)))+(u1:Int))=((r*4294967296+u1:Nat):Int):=by rw[aq,aq]; omega
  rw[aiu (by omega:¬(q:Int)>=4294967296),show(false==false)=true from rfl,aiw,w1,w2];by_cases ht:r*4294967296+u1<q*c
  ·rw[ait (by omega),aiw];refine hdec ?_;rw[<- Nat.not_le,hd]; omega
  ·rw[aiu (by omega),aiv];have h1:q*(a*4294967296+c)<=u*4294967296+u1:=by omega
   rw[<- hd]at h1;rw[show d=q by omega]
def Hs {N:Nat} {y s q1:Int} {x21:Int} {a c u u1:Nat} (ha2:a<4294967296) (hc:c<4294967296) (hu1:u1<4294967296) (hD:u<a*4294967296+c) {d:Nat} (hd:∀ p,p<=d↔p*(a*4294967296+c)<=u*4294967296+u1) (hlt:d<4294967296) (e0:Int->Bool) :
  ∀ q r M,q<M->q<=4294967297->q*a+r=u->r<4294967296->d<=q ->
   ah M (yg N y s (a:Int) (c:Int) (u1:Int) q1 x21 e0) ((r:Int),(q:Int))=e0 (d:Int):=by
 intro q;induction q using Nat.strongRecOn with
 | ind q ih=>
 intro r M hM hqb hu hr hle;obtain⟨M,rfl⟩:∃ m,M=m+1:=⟨M - 1,by omega⟩
 show yg N y s a c u1 q1 x21 e0 ((r:Int),(q:Int)) (ah M _)=_;have hY:0<a*4294967296+c:=by omega
 have hdec:d<q->cond (decide ((IntKind.wrap .u64 ((r:Int)+(a:Int)))>=4294967296)) (e0 (IntKind.wrap .u64 ((q:Int) - 1))) (ah M (yg N y s (a:Int) (c:Int) (u1:Int) q1 x21 e0) ((IntKind.wrap .u64 ((r:Int)+(a:Int))),(IntKind.wrap .u64 ((q:Int) - 1))))=e0 (d:Int):=by
  intro hlq;obtain⟨p,rfl⟩:∃ p,q=p+1:=⟨q - 1,by omega⟩
  have w1:IntKind.wrap .u64 (((p+1:Nat):Int) - 1)=(p:Int):=by rw[aq]; omega
  have w2:IntKind.wrap .u64 ((r:Int)+(a:Int))=((r+a:Nat):Int):=by rw[aq]; omega
  rw[w1,w2];by_cases hb:4294967296<=r+a
  ·rw[ait (by omega),aiw];have h1:=AA (u1:=u1) hc (by omega) hu hb;rw[<- hd]at h1;rw[show d=p by omega]
  ·rw[aiu (by omega),aiv];exact ih p (by omega) (r+a) M (by omega) (by omega) (by rw[<- hu,aj1]; omega) (by omega) (by omega)
 simp only[yg];by_cases hq:4294967296<=q
 ·rw[ait (by omega:(q:Int)>=4294967296),show(true==false)=false from rfl,aiv];exact hdec (by omega)
 ·have e1:u*4294967296+u1=q*a*4294967296+r*4294967296+u1:=by rw[<- hu,aiY]
  have e2:q*(a*4294967296+c)=q*a*4294967296+q*c:=by rw[aiL,aiF]
  have hqc:q*c<=4294967295*4294967295:=ajl (by omega) (by omega);have w1:IntKind.wrap .u64 ((q:Int)*(c:Int))=((q*c:Nat):Int):=by rw[<- aiQ,aq]; omega
  have w2:IntKind.wrap .u64 ((IntKind.wrap .u64 (4294967296*(r:Int)))+(u1:Int))=((r*4294967296+u1:Nat):Int):=by rw[aq,aq]; omega
  rw[aiu (by omega:¬(q:Int)>=4294967296),show(false==false)=true from rfl,aiw,w1,w2];by_cases ht:r*4294967296+u1<q*c
  ·rw[ait (by omega),aiw];refine hdec ?_;rw[<- Nat.not_le,hd]; omega
  ·rw[aiu (by omega),aiv];have h1:q*(a*4294967296+c)<=u*4294967296+u1:=by omega
   rw[<- hd]at h1;rw[show d=q by omega]
def AB {a c u u1:Nat} (ha:2147483648<=a) (ha2:a<4294967296) (hc:c<4294967296) (hD:u<a*4294967296+c) (hu1:u1<4294967296) :
  u / a<=4294967297/\u / a*a+u%a=u/\u%a<4294967296/\(u*4294967296+u1) / (a*4294967296+c)<=u / a:=by
 have h0:0<a:=by omega
 refine⟨?_,ajr u a,ake (aiJ _ h0) ha2,?_⟩
 ·have:u / a<4294967298:=by rw[aiD h0]; omega
  omega
 ·have h1:(u*4294967296+u1) / (a*4294967296)=u / a:=by rw[aix a,<- aiC];congr 1; omega
  rw[<- h1];exact Nat.div_le_div_left (akM _ _) (by omega)
def JT {m p y s:Nat} (u L b D1 q1 R1 u1 u0 q0 R0 Y:Nat) (hb:b=4294967296) (hT:m*2 ^ s=u*18446744073709551616+L) (hL:L=u1*b+u0) (hY:Y=y*2 ^ s) (hY0:0<Y)
  (h1:D1=u*b+u1) (hq1:q1=D1 / Y) (hR1:R1=D1%Y) (hq0:q0=(R1*b+u0) / Y) (hR0:R0=(R1*b+u0)%Y):m / y=q1*b+q0/\m%y=R0 / 2 ^ s:=by
 have hs:0<2 ^ s:=aiI s;have e1:=ajo D1 Y;have e0:=ajo (R1*b+u0) Y;rw[<- hq1,<- hR1]at e1;rw[<- hq0,<- hR0]at e0;have hlt:R0<Y:=by rw[hR0]; exact aiJ _ hY0
 have hm:m*2 ^ s=Y*(q1*b+q0)+R0:=by
  rw[hT,hL];have e2:u*18446744073709551616+(u1*b+u0)=(u*b+u1)*b+u0:=by subst hb; omega
  rw[e2,<- h1,<- e1,aiL,aiY,aja,<- e0,aiF,aja]
 have d1:m / y=(m*2 ^ s) / Y:=by rw[hY,ak7 _ _ hs]
 have d2:(m%y)*2 ^ s=(m*2 ^ s)%Y:=by rw[hY,ak8]
 constructor
 ·rw[d1,hm,alr hY0,ai0 hlt,ai1]
 ·have:(m%y)*2 ^ s=R0:=by rw[d2,hm,akE,aiE hlt]
  rw[<- this,aka _ hs]
def Cv {N:Nat} (hN:8589934592<=N) {hi lo y:Nat} (hy:y<18446744073709551616) (hlo:lo<18446744073709551616) (hhi:hi<y) (k:Ky6) :
  Gg N (hi:Int) (lo:Int) (y:Int) k=k (((hi*18446744073709551616+lo) / y:Nat):Int) (((hi*18446744073709551616+lo)%y:Nat):Int):=by
 (unfold Gg; rw[ae]; unfold Lq)
 have y0:((y:Int)==0)=false:=by simp; omega
 have y1:(!decide ((y:Int)=0))=true:=by simp; omega
 rw[y0,aiv,aiu (by omega:¬(y:Int)<=hi),aiv];by_cases h0:hi=0
 ·subst h0;rw[show(((0:Nat):Int)==0)=true from rfl,aiw,aa y1,aa y1,ajT,aiZ];have e1:Int.tdiv (lo:Int) (y:Int)=((lo / y:Nat):Int):=rfl;have e2:Int.tmod (lo:Int) (y:Int)=((lo%y:Nat):Int):=rfl;have:=aj3 lo y;rw[e1,e2];generalize lo / y=d at *;rw[aq];congr 1; omega
 ·have hne:((hi:Int)==0)=false:=by simp; omega
  obtain⟨hs64,hYlo,hYhi⟩:=Jr (y:=y) (by omega) hy;rw[hne,aiv,Fx N hy];generalize hs:64 - bl y=s at *;have hs0:0<2 ^ s:=aiI s;have hs1:2 ^ s*2 ^ (64 - s)=18446744073709551616:=by rw[<- aiN,show s+(64 - s)=64 by omega]
  have cp:((2:Int) ^ s)=((2 ^ s:Nat):Int):=by rw[ajV]; rfl
  have cp2:((2:Int) ^ (64 - s))=((2 ^ (64 - s):Nat):Int):=by rw[ajV]; rfl
  have ew:IntKind.wrap .u64 ((s:Nat):Int)=(s:Int):=by rw[aq]; omega
  have ew2:IntKind.wrap .u64 (64 - ((s:Nat):Int))=((64 - s:Nat):Int):=by rw[aq]; omega
  have em:min s 64=s:=by omega
  have em2:min (64 - s) 64=64 - s:=by omega
  simp only[ew,ew2,aiA,em,em2];rw[cp,cp2];have eY:IntKind.wrap .u64 ((y:Int)*((2 ^ s:Nat):Int))=((y*2 ^ s:Nat):Int):=by rw[<- aiQ,aq]; omega
  have hm:hi*2 ^ s<y*2 ^ s:=aji hhi hs0;have eH:IntKind.wrap .u64 ((hi:Int)*((2 ^ s:Nat):Int))=((2 ^ s*hi:Nat):Int):=by rw[<- aiQ,aix hi,aq]; rw[aix hi]at hm; generalize 2 ^ s*hi=H at *; generalize y*2 ^ s=Y at *; omega
  have hlo2:lo / 2 ^ (64 - s)<2 ^ s:=by rw[aiD (aiI _),hs1]; exact hlo
  have hlo3:=ajo lo (2 ^ (64 - s));have eT:(hi*18446744073709551616+lo)*2 ^ s=(2 ^ s*hi+lo / 2 ^ (64 - s))*18446744073709551616+lo*2 ^ s%18446744073709551616:=by
   have e1:lo*2 ^ s / 18446744073709551616=lo / 2 ^ (64 - s):=by rw[<- hs1,aix lo,Nat.mul_div_mul_left _ _ hs0]
   have e2:=ajo (lo*2 ^ s) 18446744073709551616;rw[e1]at e2;rw[aiY,<- e2,aiY,alx,aix hi];omega
  have hD:2 ^ s*hi+lo / 2 ^ (64 - s)<y*2 ^ s:=by have:2 ^ s*(hi+1)<=2 ^ s*y:=aiB _ hhi;rw[aiL,aix _ y]at this;omega
  have eU:aA .or .u64 ((2 ^ s*hi:Nat):Int) (Int.fdiv (lo:Int) ((2 ^ (64 - s):Nat):Int))=((2 ^ s*hi+lo / 2 ^ (64 - s):Nat):Int):=by rw[lq,vn,cL _ _ s hlo2 (by omega)]
  have eL:IntKind.wrap .u64 ((lo:Int)*((2 ^ s:Nat):Int))=((lo*2 ^ s%18446744073709551616:Nat):Int):=by rw[<- aiQ,aq]; omega
  simp only[eY,eH,eU,eL,EA,kV];have hLlt:lo*2 ^ s%18446744073709551616<18446744073709551616:=aiJ _ (by decide);obtain⟨d1,d2⟩:=JT (m:=hi*18446744073709551616+lo) (p:=0) (y:=y) (s:=s) (2 ^ s*hi+lo / 2 ^ (64 - s)) (lo*2 ^ s%18446744073709551616) 4294967296 _ _ _ (lo*2 ^ s%18446744073709551616 / 4294967296) (lo*2 ^ s%18446744073709551616%4294967296) _ _ (y*2 ^ s) rfl eT (by omega) rfl (by omega) rfl rfl rfl rfl rfl;rw[d1,d2];generalize y*2 ^ s=Y at *;generalize 2 ^ s*hi+lo / 2 ^ (64 - s)=u at *;generalize lo*2 ^ s%18446744073709551616=L at *;have hu1:L / 4294967296<4294967296:=by omega
  have hu0:L%4294967296<4294967296:=by omega
  have eL1:((L:Int) / 4294967296)=((L / 4294967296:Nat):Int):=by omega
  have ea:((Y:Int) / 4294967296)=((Y / 4294967296:Nat):Int):=by omega
  have eY2:Y=Y / 4294967296*4294967296+Y%4294967296:=by omega
  rw[eL1,ea];generalize hu1':L / 4294967296=u1 at *;generalize hu0':L%4294967296=u0 at *;have ha1:2147483648<=Y / 4294967296:=by omega
  have ha2:Y / 4294967296<4294967296:=by omega
  have hc:Y%4294967296<4294967296:=by omega
  generalize Y / 4294967296=a at *;generalize Y%4294967296=c at *;have a0:(!decide ((a:Int)=0))=true:=by simp; omega
  have hD':u<a*4294967296+c:=by omega
  have hY0':0<a*4294967296+c:=by omega
  rw[aa (ait (by omega)),aa (ait (by omega)),aa (ait (by omega)),aa (ait (by omega)),aa a0];have start:∀ v:Nat,v<18446744073709551616->IntKind.wrap .u64 (Int.tdiv (v:Int) (a:Int))=((v / a:Nat):Int)/\IntKind.wrap .u64 ((v:Int) - (IntKind.wrap .u64 (((v / a:Nat):Int)*(a:Int))))=((v%a:Nat):Int):=by
   intro v hv;have e1:Int.tdiv (v:Int) (a:Int)=((v / a:Nat):Int):=rfl;have h1:=aj3 v a;have h2:=ajr v a;rw[e1,<- aiQ];generalize v / a*a=P at *;generalize v / a=Q at *;generalize v%a=Z at *;constructor
   ·rw[aq]; omega
   ·rw[aq,aq]; omega
  obtain⟨g1,g2,g3,g4⟩:=AB ha1 ha2 hc hD' hu1;obtain⟨s1,s2⟩:=start u (by omega);rw[s1,s2,Hr ha2 hc hu1 hD' (λp=>aj_ hY0') (zC hu1 hD') _ (u / a) (u%a) N (by omega) g1 g2 g3 g4];rw[aa a0];rw[<- eY2];have hY0:0<Y:=by omega
  have hR1:=aiJ (u*4294967296+u1) hY0;have hE1:=ajr (u*4294967296+u1) Y;have e21:IntKind.wrap .u64 ((IntKind.wrap .u64 ((IntKind.wrap .u64 ((u:Int)*4294967296))+(u1:Int))) - (IntKind.wrap .u64 ((((u*4294967296+u1) / Y:Nat):Int)*(Y:Int))))=(((u*4294967296+u1)%Y:Nat):Int):=by rw[<- aiQ];generalize (u*4294967296+u1) / Y*Y=P at *;rw[aq,aq,aq,aq]; omega
  simp only[e21];have hq1:(u*4294967296+u1) / Y<4294967296:=by rw[eY2]; exact zC hu1 hD'
  obtain⟨q1,hq1e⟩:∃ q,q=(u*4294967296+u1) / Y:=⟨_,rfl⟩
  obtain⟨R1,hR1e⟩:∃ q,q=(u*4294967296+u1)%Y:=⟨_,rfl⟩
  rw[<- hq1e,<- hR1e];rw[<- hq1e]at hq1;rw[<- hR1e]at hR1;have hD2:R1<a*4294967296+c:=by omega
  obtain⟨g1,g2,g3,g4⟩:=AB ha1 ha2 hc hD2 hu0;obtain⟨s1,s2⟩:=start R1 (by omega);rw[s1,s2,Hs ha2 hc hu0 hD2 (λp=>aj_ hY0') (zC hu0 hD2) _ (R1 / a) (R1%a) N (by omega) g1 g2 g3 g4,<- eY2];rw[aa (ait (by omega))];have hR0:=aiJ (R1*4294967296+u0) hY0;have hE0:=ajr (R1*4294967296+u0) Y;have hq0:(R1*4294967296+u0) / Y<4294967296:=by rw[eY2]; exact zC hu0 hD2
  have e20:IntKind.wrap .u64 ((IntKind.wrap .u64 ((IntKind.wrap .u64 ((R1:Int)*4294967296))+(u0:Int))) - (IntKind.wrap .u64 ((((R1*4294967296+u0) / Y:Nat):Int)*(Y:Int))))=(((R1*4294967296+u0)%Y:Nat):Int):=by
   rw[<- aiQ];obtain⟨P,hP⟩:∃ q,q=(R1*4294967296+u0) / Y*Y:=⟨_,rfl⟩
   obtain⟨Z,hZ⟩:∃ q,q=(R1*4294967296+u0)%Y:=⟨_,rfl⟩
   rw[<- hP,<- hZ]at hE0;rw[<- hZ]at hR0;rw[<- hP,<- hZ];rw[aq,aq,aq,aq]; omega
  rw[e20,lq];obtain⟨q0,hq0e⟩:∃ q,q=(R1*4294967296+u0) / Y:=⟨_,rfl⟩
  rw[<- hq0e]at hq0;rw[<- hq0e];congr 1;rw[aq,aq]; omega
def Jb (Q n m:Nat) (h:m<n):(List.replicate (m+1) (0:Int)++(dlq Q n).drop (m+1)).set m ((Q / 18446744073709551616 ^ m%18446744073709551616:Nat):Int)=List.replicate m 0++(dlq Q n).drop m:=by rw[aj4,aiM,List.singleton_append,aZ _ _ _ _ _ (by simp),dq (n:=m) (by rw[ak]; exact h),tc Q h]
def CZ {A d:Nat} (hd:0<d):(A / 18446744073709551616%d*18446744073709551616+A%18446744073709551616)%d=A%d/\(A / 18446744073709551616%d*18446744073709551616+A%18446744073709551616) / d=A / d%18446744073709551616:=by
 have h1:=ajo A 18446744073709551616;have h2:=ajo (A / 18446744073709551616) d;have h3:=aiJ (A / 18446744073709551616) hd;have h4:A%18446744073709551616<18446744073709551616:=aiJ _ (by decide);obtain⟨a,ha⟩:∃ a,a=A / 18446744073709551616:=⟨_,rfl⟩
 obtain⟨e,he⟩:∃ e,e=A%18446744073709551616:=⟨_,rfl⟩
 rw[<- ha]at h1 h2 h3 ⊢;rw[<- he]at h1 h4 ⊢;obtain⟨c,hc⟩:∃ c,c=a / d:=⟨_,rfl⟩
 obtain⟨r,hr⟩:∃ r,r=a%d:=⟨_,rfl⟩
 rw[<- hc,<- hr]at h2;rw[<- hr]at h3 ⊢;have h5:A=d*(c*18446744073709551616)+(r*18446744073709551616+e):=by rw[<- h1,<- h2,<- aiF,aiL,aix 18446744073709551616,aix 18446744073709551616]; omega
 constructor
 ·rw[h5,akE]
 ·rw[h5,alr hd,aix c,akE];refine(aiE ?_).symm;rw[aiD hd];have:=aiy 18446744073709551616 h3;rw[aj1]at this;rw[aix _ d,aix d];rw[aix d]at this;omega
def kb (x:Nat):x<18446744073709551616 ^ (af x).length:=by have:=iJ (aU x); rwa [aC]at this
def Kx {N:Nat} (hN:8589934592<=N) {x d:Nat} (hd0:0<d) (hd:d<18446744073709551616) (hs:mu N (af x)) (k:List Int->Int->Bool):px N (af x) (d:Int) k=k (af (x / d)) ((x%d:Nat):Int):=by
 (unfold px; rw[ae]; unfold su)
 obtain⟨s1,s2⟩:=hs;have hx:=kb x;generalize hn:(af x).length=n at *;rw[aa (bP (by omega) (by omega) (by omega) (by omega)),aa air,aiA];refine aG (λi=>(((x / 18446744073709551616 ^ (n - i)%d:Nat):Int),((n:Int) - 1 - (i:Int)),List.replicate (n - i) (0:Int)++(dlq (x / d) n).drop (n - i))) n ?_ (by omega) (λi hi K=>?_) (λK=>?_)
 ·rw[akz,ai0 hx,Nat.zero_mod,aje (by rw[ak]; omega),ai3];simp
 ·obtain⟨m,hm⟩:∃ m,n - i=m+1:=⟨n - i - 1,by omega⟩
  have hm2:n - (i+1)=m:=by omega
  have ei:(n:Int) - 1 - (i:Int)=(m:Int):=by omega
  have ei2:(n:Int) - 1 - ((i+1:Nat):Int)=(m:Int) - 1:=by omega
  have hp:x / 18446744073709551616 ^ (m+1)=x / 18446744073709551616 ^ m / 18446744073709551616:=by rw[aiG,aiC]
  have hdg:x / d / 18446744073709551616 ^ m%18446744073709551616=x / 18446744073709551616 ^ m / d%18446744073709551616:=by rw[aiC,aiC,aix d]
  obtain⟨n1,n2⟩:=CZ (A:=x / 18446744073709551616 ^ m) hd0;rw[hm,hm2,ei,ei2,hp];simp only[lI,aiA];have hl:(List.replicate (m+1) (0:Int)++(dlq (x / d) n).drop (m+1)).length=n:=by simp[ak]; omega
  rw[ait (by omega:(m:Int)>=0),aiw,hn,aa ais,ox,Cv hN hd (aiJ _ (by decide)) (aiJ _ hd0),n1,n2,<- hdg,hl,aa ais,aa (ait (by omega)),aa air,Jb _ _ _ (by omega)]
 ·simp only[lI];have e0:(n:Int) - 1 - (n:Int) = -1:=by omega
  rw[e0,aiu (by omega),aiv,ai4,akn,aki];rw[ai8,ajh,aj0];have hq:x / d<18446744073709551616 ^ n:=aj2 (aj3 _ _) hx;rw[lh _ (gy _ _) (by rw[ak]; omega) (by rw[ak]; omega) (λz=>k z ((x%d:Nat):Int)),m0 hq]
def Dw {P A B U3 V2 U V g:Nat} (hA:A<P) (hU:U=A+P*U3) (hV:V=B+P*V2) (hV0:0<V) (h:U3<g*V2):U / V<g:=by rw[aiD hV0,hU,hV,aiL,aiW g P V2];have:=aiB P h;rw[alN]at this;omega
def IV {W P A B U V u0 u1 u2 v0 v1:Nat} (hA:A<P) (hU:U=A+P*(u0+W*(u2*W+u1))) (hV:V=B+P*(v0+W*v1)) (hV0:0<V) (hv1:0<v1) (hu0:u0<W):U / V<=(u2*W+u1) / v1:=by
 refine Nat.le_of_lt_succ (Dw hA hU hV hV0 ?_);have h1:=akR (u2*W+u1) hv1;rw[aix v1]at h1;have h2:=aiB W h1;rw[alN]at h2;have e:((u2*W+u1) / v1).succ*(v0+W*v1)=((u2*W+u1) / v1).succ*v0+W*(((u2*W+u1) / v1+1)*v1):=by rw[aiL,aiW]
 rw[e];omega
def Hq {N:Nat} {o n u0 v0 v1 T d:Nat} {b c:List Int} (hn:2<=n) (hc1:c.getD (n - 2) 0=(v0:Int)) (hc2:c.getD (n - 1) 0=(v1:Int)) (hb:b.getD (o+(n - 2)) 0=(u0:Int)) (hcl:n<=c.length) (hbl:o+n+1<=b.length) (hbs:b.length<=1099511627780)
  (hv0:v0<18446744073709551616) (hv1:v1<18446744073709551616) (hu0:u0<18446744073709551616) (hd:∀ g,u0+18446744073709551616*T<g*(v0+18446744073709551616*v1)->d<g) :
  ∀ q r M,q<M->q<18446744073709551616->q*v1+r=T->r<18446744073709551616->d<=q ->
   ∃ g,d<=g/\g<18446744073709551616 /\ ∀ e0,ah M (ub N o (n+1) 0 n (n:Int) b c e0) ((q:Int),(r:Int))=e0 (g:Int):=by
 intro q;induction q using Nat.strongRecOn with
 | ind q ih=>
 intro r M hM hq hT hr hdq;obtain⟨M,rfl⟩:∃ m,M=m+1:=⟨M - 1,by omega⟩
 have i2:0+Int.toNat ((n:Int) - 2)=n - 2:=by omega
 have i1:0+Int.toNat ((n:Int) - 1)=n - 1:=by omega
 have j2:o+Int.toNat ((n:Int) - 2)=o+(n - 2):=by omega
 have hqv:=ajo (q*v0) 18446744073709551616;have hlo:q*v0%18446744073709551616<18446744073709551616:=aiJ _ (by decide);by_cases hex:q*v0<=r*18446744073709551616+u0
 ·refine⟨q,hdq,hq,λe0=>?_⟩;show ub N o (n+1) 0 n (n:Int) b c e0 ((q:Int),(r:Int)) (ah M _)=_;simp only[ub,i2,i1,j2,hc1,hc2,hb];rw[aa air,aa ais,aa (ait (by omega)),xP N hq hv0];generalize q*v0%18446744073709551616=lo at *;generalize q*v0 / 18446744073709551616=hi at *;rcases ak1 hi r with h | h | h
  ·rw[ait (by omega:(hi:Int)<r),show(true==false)=false from rfl,aiv]
  ·subst h;rw[aiu (by omega:¬(hi:Int)<hi),show(false==false)=true from rfl,aiw,show((hi:Int)==hi)=true by simp,show(true==true)=true from rfl,aiw,aa air,aa ais,aa (ait (by omega)),ait (by omega:(lo:Int)<=u0),aiw]
  ·exfalso; omega
 ·have hgt:=hd q (by rw[aiL,aiW,<- hT]; rw[aiL]; omega);obtain⟨p,rfl⟩:∃ p,q=p+1:=⟨q - 1,by omega⟩
  have w1:IntKind.wrap .u64 (((p+1:Nat):Int) - 1)=(p:Int):=by rw[aq]; omega
  have step:∀ e0:Int->Bool,ah (M+1) (ub N o (n+1) 0 n (n:Int) b c e0) (((p+1:Nat):Int),(r:Int))
    = cond (decide (18446744073709551616<=r+v1)) (e0 (p:Int)) (ah M (ub N o (n+1) 0 n (n:Int) b c e0) ((p:Int),((r+v1:Nat):Int))):=by
   intro e0;show ub N o (n+1) 0 n (n:Int) b c e0 (((p+1:Nat):Int),(r:Int)) (ah M _)=_;simp only[ub,i2,i1,j2,hc1,hc2,hb];have tail:(ac .i64 ((n:Int) - 1)&&((inR ((n:Int) - 1) n)&&((decide (n - 1<c.length))&&(sQ3 N (r:Int) (v1:Int) 0 (λ(XJ:Int) (n5:Int)=>(cond (n5 != 0) (e0 (IntKind.wrap .u64 (((p+1:Nat):Int) - 1))) (ah M (ub N o (n+1) 0 n (n:Int) b c e0) ((IntKind.wrap .u64 (((p+1:Nat):Int) - 1)),XJ))))))))
     = cond (decide (18446744073709551616<=r+v1)) (e0 (p:Int)) (ah M (ub N o (n+1) 0 n (n:Int) b c e0) ((p:Int),((r+v1:Nat):Int))):=by
    rw[aa air,aa ais,aa (ait (by omega)),ob N (c:=0) (a:=r) (b:=v1) (d:=0) rfl rfl rfl (by omega),w1];by_cases hb2:18446744073709551616<=r+v1
    ·have:(((r+v1+0) / 18446744073709551616:Nat):Int)=1:=by omega
     rw[this,ait hb2]; rfl
    ·have:(((r+v1+0) / 18446744073709551616:Nat):Int)=0:=by omega
     have e2:(r+v1+0)%18446744073709551616=r+v1:=by omega
     rw[this,e2,aiu hb2]; rfl
   rw[aa air,aa ais,aa (ait (by omega)),xP N hq hv0];generalize (p+1)*v0%18446744073709551616=lo at *;generalize (p+1)*v0 / 18446744073709551616=hi at *;rcases ak1 hi r with h | h | h
   ·exfalso; omega
   ·subst h;rw[aiu (by omega:¬(hi:Int)<hi),show(false==false)=true from rfl,aiw,show((hi:Int)==hi)=true by simp,show(true==true)=true from rfl,aiw,aa air,aa ais,aa (ait (by omega)),aiu (by omega:¬(lo:Int)<=u0),aiv];exact tail
   ·rw[aiu (by omega:¬(hi:Int)<r),show(false==false)=true from rfl,aiw,show((hi:Int)==r)=false by simp; omega,show(false==true)=false from rfl,aiv];exact tail
  by_cases hb2:18446744073709551616<=r+v1
  ·exact⟨p,by omega,by omega,λe0=>by rw[step,ait hb2,aiw]⟩
  ·obtain⟨g,g1,g2,g3⟩:=ih p (by omega) (r+v1) M (by omega) (by omega) (by rw[<- hT,aj1]; omega) (by omega) (by omega);exact⟨g,g1,g2,λe0=>by rw[step,aiu hb2,aiv]; exact g3 e0⟩
def ky {b:List Int} (o i:Nat):(b.drop o).getD i 0=b.getD (o+i) 0:=by rw[List.getD_eq_getElem?_getD,List.getD_eq_getElem?_getD,List.getElem?_drop]
def WS (c:List Int) (m:Nat):au (c.take (m+3))=au (c.take m)+18446744073709551616 ^ m*((c.getD m 0).toNat+18446744073709551616*((c.getD (m+2) 0).toNat*18446744073709551616+(c.getD (m+1) 0).toNat)):=by rw[show m+3=m+2+1 by omega,aL,show m+2=m+1+1 by omega,aL,aL];simp only[aiG];generalize 18446744073709551616 ^ m=P;grind
def WR (c:List Int) (m:Nat):au (c.take (m+2))=au (c.take m)+18446744073709551616 ^ m*((c.getD m 0).toNat+18446744073709551616*(c.getD (m+1) 0).toNat):=by rw[show m+2=m+1+1 by omega,aL,aL];simp only[aiG];generalize 18446744073709551616 ^ m=P;grind
def Ko {N:Nat} (hN:1180591620717411303424<=N) {o n:Nat} {b c:List Int} (hn:2<=n) (hb:InWq b) (hc:InWq c) (hcl:n<=c.length) (hbl:o+n+1<=b.length) (hbs:b.length<=1099511627780)
  (htop:0<(c.getD (n - 1) 0).toNat) (hU:au ((b.drop o).take (n+1))<au (c.take n)*18446744073709551616) :
  ∃ g:Nat,au ((b.drop o).take (n+1)) / au (c.take n)<=g/\g<18446744073709551616 /\ ∀ k,PZ N o (n+1) 0 n b c k=k (g:Int):=by
 obtain⟨m,rfl⟩:∃ m,n=m+2:=⟨n - 2,by omega⟩
 have hU3:=WS (b.drop o) m;have hV2:=WR c m;rw[ky,ky,ky]at hU3;have a0:=hb.at (i:=o+m);have a1:=hb.at (i:=o+(m+1));have a2:=hb.at (i:=o+(m+2));have c0:=hc.at (i:=m);have c1:=hc.at (i:=m+1);have hA:=aQ (hb.drop o) m;have hB:=aQ hc m;rw[show m+2 - 1=m+1 by omega]at htop;obtain⟨u0,hu0⟩:∃ u,u=(b.getD (o+m) 0).toNat:=⟨_,rfl⟩
 obtain⟨u1,hu1⟩:∃ u,u=(b.getD (o+(m+1)) 0).toNat:=⟨_,rfl⟩
 obtain⟨u2,hu2⟩:∃ u,u=(b.getD (o+(m+2)) 0).toNat:=⟨_,rfl⟩
 obtain⟨v0,hv0⟩:∃ u,u=(c.getD m 0).toNat:=⟨_,rfl⟩
 obtain⟨v1,hv1⟩:∃ u,u=(c.getD (m+1) 0).toNat:=⟨_,rfl⟩
 have g0:b.getD (o+m) 0=(u0:Int):=by omega
 have g1:b.getD (o+(m+1)) 0=(u1:Int):=by omega
 have g2:b.getD (o+(m+2)) 0=(u2:Int):=by omega
 have k0:c.getD m 0=(v0:Int):=by omega
 have k1:c.getD (m+1) 0=(v1:Int):=by omega
 rw[<- hu0,<- hu1,<- hu2]at hU3;rw[<- hv0,<- hv1]at hV2;rw[<- hv1]at htop;rw[show m+2+1=m+3 by omega];rw[show m+2+1=m+3 by omega]at hU;generalize au ((b.drop o).take (m+3))=U at *;generalize au (c.take (m+2))=V at *;have hV0:0<V:=by
  rcases ajM V with h | h
  ·rw[h,ajT]at hU; omega
  ·exact h
 have hq:U / V<18446744073709551616:=by rw[aiD hV0,aix]; exact hU
 have i2:o+Int.toNat (((m+2:Nat):Int))=o+(m+2):=by omega
 have i1:o+Int.toNat (((m+2:Nat):Int) - 1)=o+(m+1):=by omega
 have j1:0+Int.toNat (((m+2:Nat):Int) - 1)=m+1:=by omega
 by_cases h0:v1<=u2
 ·refine⟨18446744073709551615,by omega,by omega,λk=>?_⟩
  (unfold PZ; rw[ae]; unfold OL)
  simp only[i2,i1,j1,g2,g1,k1];rw[aa ais,aa (ait (by omega)),aa air,aa ais,aa (ait (by omega)),ait (by omega:(u2:Int)>=v1),aiw];rfl
 ·have hT:(u2*18446744073709551616+u1) / v1<18446744073709551616:=by rw[aiD htop];have:=aiB 18446744073709551616 (Nat.lt_of_not_le h0);rw[alN]at this;omega
  obtain⟨g,e1,e2,e3⟩:=Hq (N:=N) (o:=o) (n:=m+2) (T:=u2*18446744073709551616+u1) (d:=U / V) (u0:=u0) (v0:=v0) (v1:=v1) (by omega) (by rw[show m+2 - 2=m by omega]; exact k0) (by rw[show m+2 - 1=m+1 by omega]; exact k1) (by rw[show m+2 - 2=m by omega]; exact g0) hcl hbl hbs (by omega) (by omega) (by omega)
   (λg hg=>Dw hA hU3 hV2 hV0 hg)
   ((u2*18446744073709551616+u1) / v1) ((u2*18446744073709551616+u1)%v1) N (by omega) hT (ajr _ _) (ake (aiJ _ htop) (by omega)) (IV hA hU3 hV2 hV0 htop (by omega))
  refine⟨g,e1,e2,λk=>?_⟩
  (unfold PZ; rw[ae]; unfold OL)
  simp only[i2,i1,j1,g2,g1,k1];rw[aa ais,aa (ait (by omega)),aa air,aa ais,aa (ait (by omega)),aiu (by omega:¬(u2:Int)>=v1),aiv];rw[aa ais,aa (ait (by omega)),aa air,aa ais,aa (ait (by omega)),aa air,aa ais,aa (ait (by omega))];rw[Cv (by omega) (by omega) (by omega) (by omega),e3]
def Jz {b:List Int} {o i:Nat} (D:Nat) (h:o+i<=b.length):(b.take o++(dlq D i++b.drop (o+i))).length=b.length:=by simp[ak]; omega
def Jy {b:List Int} {o i:Nat} (D:Nat) (h:o+i<b.length):(b.take o++(dlq D i++b.drop (o+i))).getD (o+i) 0=b.getD (o+i) 0:=by rw[<- aiM,dq h,ci (by simp[ak]; omega)]
def JA {b:List Int} {o i:Nat} (D:Nat) (h:o+i<b.length):(b.take o++(dlq D i++b.drop (o+i))).set (o+i) ((D / 18446744073709551616 ^ i%18446744073709551616:Nat):Int)=b.take o++(dlq D (i+1)++b.drop (o+(i+1))):=by rw[<- aiM,dq h,aZ _ _ _ _ _ (by simp[ak]; omega),dlq];simp[aja]
def Jw {b:List Int} {o i n:Nat} (D E:Nat) (hi:i<=n) (h:o+n<=b.length):(b.take o++(dlq E i++((dlq D n).drop i++b.drop (o+n)))).length=b.length:=by simp[ak]; omega
def Jv {b:List Int} {o i n:Nat} (D E:Nat) (hi:i<n) (h:o+n<=b.length):(b.take o++(dlq E i++((dlq D n).drop i++b.drop (o+n)))).getD (o+i) 0=((D / 18446744073709551616 ^ i%18446744073709551616:Nat):Int):=by rw[<- aiM,dq (n:=i) (by rw[ak]; exact hi),akc,ci (by simp[ak]; omega),tc D hi]
def Jx {b:List Int} {o i n:Nat} (D E:Nat) (hi:i<n) (h:o+n<=b.length):(b.take o++(dlq E i++((dlq D n).drop i++b.drop (o+n)))).set (o+i) ((E / 18446744073709551616 ^ i%18446744073709551616:Nat):Int)=b.take o++(dlq E (i+1)++((dlq D n).drop (i+1)++b.drop (o+n))):=by rw[<- aiM,dq (n:=i) (by rw[ak]; exact hi),akc,aZ _ _ _ _ _ (by simp[ak]; omega),dlq];simp
def II {m:Nat} (S X:Nat):∀ n,n<=m->dlq (S+18446744073709551616 ^ m*X) n=dlq S n
 | 0,_=>rfl
 | n+1,h=>by rw[dlq,dlq,II S X n (by omega)];congr 3;refine iR (R:=18446744073709551616 ^ (m - (n+1))*X) ?_;rw[<- aiF,<- aiN,show n+1+(m - (n+1))=m by omega]
def C0 {w:List Int} {n i U Q:Nat} (hw:InWq w) (hl:w.length=n+1) (hU:U=au w) (hi:i<=n) (hQ:Q<18446744073709551616 ^ (n+1)) :
  (((w.getD i 0).toNat+18446744073709551616 - Q / 18446744073709551616 ^ i%18446744073709551616 - (if au (w.take i)<Q%18446744073709551616 ^ i then 1 else 0))%18446744073709551616=(U+18446744073709551616 ^ (n+1) - Q) / 18446744073709551616 ^ i%18446744073709551616)
  /\ (if (w.getD i 0).toNat<Q / 18446744073709551616 ^ i%18446744073709551616+(if au (w.take i)<Q%18446744073709551616 ^ i then 1 else 0)then 1 else 0)=(if au (w.take (i+1))<Q%18446744073709551616 ^ (i+1)then 1 else(0:Nat)):=by
 have hx:=hw.at (i:=i);have hA:=aL (m:=w) i;have hAl:=aQ hw i;have hp:=aX i;have hBl:=aiJ Q hp;have hPs:18446744073709551616 ^ (i+1)=18446744073709551616 ^ i*18446744073709551616:=aiG ..;have hmm:Q%18446744073709551616 ^ (i+1)=Q%18446744073709551616 ^ i+18446744073709551616 ^ i*(Q / 18446744073709551616 ^ i%18446744073709551616):=by rw[hPs,alk]
 have hyl:Q / 18446744073709551616 ^ i%18446744073709551616<18446744073709551616:=aiJ _ (by decide);constructor
 ·obtain⟨R1,h1⟩:=bA w (i+1);have hW:18446744073709551616 ^ (n+1)=18446744073709551616 ^ i*18446744073709551616*18446744073709551616 ^ (n - i):=by rw[<- hPs,<- aiN,show i+1+(n - i)=n+1 by omega]
  have hq:=Ck (D:=U+18446744073709551616 ^ (n+1) - Q) (a:=U+18446744073709551616 ^ (n+1)) (b:=Q) (x:=(w.getD i 0).toNat) (y:=Q / 18446744073709551616 ^ i%18446744073709551616) (R1:=R1+18446744073709551616 ^ (n - i)) (R2:=Q / (18446744073709551616 ^ i*18446744073709551616)) hAl hBl rfl
   (by rw[hU,h1,hA,hW,hPs,aiL]; omega)
   (by rw[<- hmm,hPs]; exact(akD _ _).symm)
   (by omega)
  generalize (U+18446744073709551616 ^ (n+1) - Q) / 18446744073709551616 ^ i=Z at *;generalize Q / 18446744073709551616 ^ i%18446744073709551616=y at *;generalize (w.getD i 0).toNat=x at *;generalize ((R1+18446744073709551616 ^ (n - i):Nat):Int) - ((Q / (18446744073709551616 ^ i*18446744073709551616):Nat):Int)=RR at *;split at hq <;> rename_i hh <;> simp only[hh,aj6,ai2] <;> omega
 ·rw[hA,hmm];exact(o_ _ _ _ _ _ hAl hBl).symm
def lw (i:Nat):(i:Int)+1=((i+1:Nat):Int):=rfl
def EK (p:Prop) [Decidable p]:(if p then(1:Int)else 0)=((if p then 1 else 0:Nat):Int):=by split <;> rfl
def GP (p:Nat) (h:p<18446744073709551616):IntKind.wrap .u64 (((p+1:Nat):Int) - 1)=(p:Int):=by rw[aq]; omega
def Cc {D V c v i:Nat} (hc:c=(D%18446744073709551616 ^ i+V) / 18446744073709551616 ^ i) :
  (D%18446744073709551616 ^ (i+1)+(V+18446744073709551616 ^ i*v)) / 18446744073709551616 ^ (i+1)=(D / 18446744073709551616 ^ i%18446744073709551616+v+c) / 18446744073709551616 /\
  ∀ R,(D+(V+18446744073709551616 ^ i*v+18446744073709551616 ^ (i+1)*R)) / 18446744073709551616 ^ i%18446744073709551616=(D / 18446744073709551616 ^ i%18446744073709551616+v+c)%18446744073709551616:=by
 have hp:=aX i;have hPs:18446744073709551616 ^ (i+1)=18446744073709551616 ^ i*18446744073709551616:=aiG ..;have hmm:D%18446744073709551616 ^ (i+1)=D%18446744073709551616 ^ i+18446744073709551616 ^ i*(D / 18446744073709551616 ^ i%18446744073709551616):=by rw[hPs,alk]
 have e:D%18446744073709551616 ^ (i+1)+(V+18446744073709551616 ^ i*v)=(D%18446744073709551616 ^ i+V)+18446744073709551616 ^ i*(D / 18446744073709551616 ^ i%18446744073709551616+v):=by rw[hmm,aiL]; omega
 have e2:(D%18446744073709551616 ^ (i+1)+(V+18446744073709551616 ^ i*v)) / 18446744073709551616 ^ i=D / 18446744073709551616 ^ i%18446744073709551616+v+c:=by rw[e,cW,<- hc]; omega
 constructor
 ·rw[hPs,<- aiC,<- hPs,e2]
 ·intro R;have e3:D+(V+18446744073709551616 ^ i*v+18446744073709551616 ^ (i+1)*R)=(D%18446744073709551616 ^ (i+1)+(V+18446744073709551616 ^ i*v))+18446744073709551616 ^ (i+1)*(D / 18446744073709551616 ^ (i+1)+R):=by have:=akD D (18446744073709551616 ^ (i+1));rw[aiL]; omega
  rw[iR e3,e2]
def GW {D V c i:Nat} (hc:c=(D%18446744073709551616 ^ i+V) / 18446744073709551616 ^ i) :
  (D%18446744073709551616 ^ (i+1)+V) / 18446744073709551616 ^ (i+1)=(D / 18446744073709551616 ^ i%18446744073709551616+0+c) / 18446744073709551616 /\
  (D+V) / 18446744073709551616 ^ i%18446744073709551616=(D / 18446744073709551616 ^ i%18446744073709551616+0+c)%18446744073709551616:=by
 obtain⟨a1,a2⟩:=Cc (v:=0) hc;have a3:=a2 0;rw[ajP,ai1 V]at a1;rw[ajP,ajP,ai1 V]at a3;exact⟨a1,a3⟩
def JK {N:Nat} (hN:1180591620717411303424<=N) {o n U V d:Nat} {b c:List Int} (hn:1<=n) (hc:InWq c) (hcl:n<=c.length) (hbl:o+(n+1)<=b.length) (hbs:b.length<=1099511627780) (hV:V=au (c.take n)) (hUW:U<18446744073709551616 ^ (n+1)) (hd:∀ g,g<=d↔g*V<=U) (e0:Int->List Int->Bool) :
  ∀ g M,g<M->g<18446744073709551616->d<=g->g*V<18446744073709551616 ^ (n+1) ->
   ah M (t_ N o (n+1) 0 n (n:Int) c e0) ((g:Int),((if U<g*V then 1 else 0:Nat):Int),b.take o++(dlq (U+18446744073709551616 ^ (n+1) - g*V) (n+1)++b.drop (o+(n+1))))=e0 (d:Int) (b.take o++(dlq (U+18446744073709551616 ^ (n+1) - d*V) (n+1)++b.drop (o+(n+1)))):=by
 intro g;induction g with
 | zero=>
  intro M hM _ hdg _;obtain⟨M,rfl⟩:∃ m,M=m+1:=⟨M - 1,by omega⟩
  have:d=0:=by omega
  subst this;show t_ N o (n+1) 0 n (n:Int) c e0 (_,_,_) (ah M _)=_;simp only[t_,ajT];rw[if_neg (by omega:¬ U<0),show(((0:Nat):Int) != 0)=false from rfl,aiv]
 | succ p ih=>
  intro M hM hg hdg hgW;obtain⟨M,rfl⟩:∃ m,M=m+1:=⟨M - 1,by omega⟩
  show t_ N o (n+1) 0 n (n:Int) c e0 (_,_,_) (ah M _)=_;have hps:(p+1)*V=p*V+V:=aj1 _ _;by_cases hlt:U<(p+1)*V
  ·have hdp:d<=p:=by
    rcases ajs p d with h | h
    ·have:=(hd (p+1)).1 h; omega
    ·exact h
   simp only[t_];rw[if_pos hlt,show(((1:Nat):Int) != 0)=true from rfl,aiw];obtain⟨D,hD⟩:∃ D,D=U+18446744073709551616 ^ (n+1) - (p+1)*V:=⟨_,rfl⟩
   obtain⟨E,hE⟩:∃ E,E=U+18446744073709551616 ^ (n+1) - p*V:=⟨_,rfl⟩
   have hDE:E=D+V:=by omega
   have hDl:D<18446744073709551616 ^ (n+1):=by omega
   rw[<- hD];refine aG (λi=>((((D%18446744073709551616 ^ i+au (c.take i)) / 18446744073709551616 ^ i:Nat):Int),(i:Int),b.take o++(dlq E i++((dlq D (n+1)).drop i++b.drop (o+(n+1)))))) n ?_ (by omega) (λi hi K=>?_) (λK=>?_)
   ·simp[dlq,au,alj]
   ·have hx:=hc.at (i:=i);have hcv:=aL (m:=c) i;have hVl:=aQ hc i;have hp:=aX i;have hml:=aiJ D hp;obtain⟨cy,hcy⟩:∃ cy,cy=(D%18446744073709551616 ^ i+au (c.take i)) / 18446744073709551616 ^ i:=⟨_,rfl⟩
    have hcl1:cy<=1:=by
     have:cy<2:=by rw[hcy,aiD hp]; omega
     omega
    obtain⟨a1,a2⟩:=Cc (D:=D) (V:=au (c.take i)) (v:=(c.getD i 0).toNat) hcy;obtain⟨R,hR⟩:=bA (c.take n) (i+1);rw[alz,ajU (by omega),<- hV,hcv]at hR;have a3:=a2 R;rw[<- hR,<- hDE]at a3;have hdl:D / 18446744073709551616 ^ i%18446744073709551616<18446744073709551616:=aiJ _ (by decide);simp only[gS,aiA,aiZ];rw[Jw D E (by omega) (by omega),Jv D E (by omega) (by omega)];rw[ait (by omega:(i:Int)<n),aiw,aa ais,aa (ait (by omega)),aa ais,aa (ait (by omega)),<- hcy,
     ob N (a:=D / 18446744073709551616 ^ i%18446744073709551616) (b:=(c.getD i 0).toNat) (d:=cy) rfl (by omega) rfl hcl1,aa ais,aa (ait (by omega)),aa air,<- a3,Jx D E (by omega) (by omega),<- a1,hcv,lw]
   ·have hp:=aX n;have hml:=aiJ D hp;have hVl:V<18446744073709551616 ^ n:=by rw[hV]; exact aQ hc n
    obtain⟨cy,hcy⟩:∃ cy,cy=(D%18446744073709551616 ^ n+V) / 18446744073709551616 ^ n:=⟨_,rfl⟩
    have hcl1:cy<=1:=by
     have:cy<2:=by rw[hcy,aiD hp]; omega
     omega
    obtain⟨a1,a3⟩:=GW (D:=D) (V:=V) (i:=n) hcy;rw[aiE hDl,<- hDE]at a1;rw[<- hDE]at a3;simp only[gS,aiA];rw[aiu (by omega:¬(n:Int)<n),aiv,Jw D E (by omega) (by omega),Jv D E (by omega) (by omega),<- hV,<- hcy,aa ais,aa (ait (by omega)),
     ob N (y:=0) (c:=((cy:Nat):Int)) (a:=D / 18446744073709551616 ^ n%18446744073709551616) (b:=0) (d:=cy) rfl rfl rfl hcl1,aa ais,aa (ait (by omega)),<- a3,<- a1,Jx D E (by omega) (by omega),GP p (by omega)]
    rw[aje (by rw[ak]; omega),ajh];have eb:IntKind.wrap .u64 (((1:Nat):Int) - ((E / 18446744073709551616 ^ (n+1):Nat):Int))=((if U<p*V then 1 else 0:Nat):Int):=by
     have hp1:=aX (n+1);by_cases h:U<p*V
     ·rw[if_pos h,ai0 (by omega),aq]; omega
     ·rw[if_neg h];have:E / 18446744073709551616 ^ (n+1)=1:=by refine Nat.div_eq_of_lt_le ?_ ?_ <;> omega
      rw[this,aq]; omega
    rw[eb,hE];exact ih M (by omega) (by omega) hdp (by omega)
  ·have:d=p+1:=by have:=(hd (p+1)).2 (by omega);omega
   subst this;simp only[t_];rw[if_neg hlt,show(((0:Nat):Int) != 0)=false from rfl,aiv]
def NG {N:Nat} (hN:1180591620717411303424<=N) {o n:Nat} {b c:List Int} (hn:2<=n) (hb:InWq b) (hc:InWq c) (hcl:n<=c.length) (hbl:o+(n+1)<=b.length) (hbs:b.length<=1099511627780)
  (htop:0<(c.getD (n - 1) 0).toNat) (hU:au ((b.drop o).take (n+1))<au (c.take n)*18446744073709551616) (k:Ky9) :
  N4 N o (n+1) 0 n b c k=k ((au ((b.drop o).take (n+1)) / au (c.take n):Nat):Int) (b.take o++(dlq (au ((b.drop o).take (n+1))%au (c.take n)) (n+1)++b.drop (o+(n+1)))):=by
 obtain⟨g,g1,g2,g3⟩:=Ko hN hn hb hc hcl (by omega) hbs htop hU
 (unfold N4; rw[ae]; unfold LG)
 rw[g3];have hw:InWq ((b.drop o).take (n+1)):=(hb.drop o).take _;have hwl:((b.drop o).take (n+1)).length=n+1:=by rw[ai_,aj5]; omega
 have hwg:∀ i,i<=n->((b.drop o).take (n+1)).getD i 0=b.getD (o+i) 0:=λi hi=>by rw[uB (by omega),ky]
 generalize (b.drop o).take (n+1)=w at *;obtain⟨U,hUe⟩:∃ U,U=au w:=⟨_,rfl⟩
 obtain⟨V,hVe⟩:∃ V,V=au (c.take n):=⟨_,rfl⟩
 rw[<- hUe,<- hVe]at hU g1 ⊢;have hV0:0<V:=by
  rcases ajM V with h | h
  ·rw[h,ajT]at hU; omega
  ·exact h
 have hVl:V<18446744073709551616 ^ n:=by rw[hVe]; exact aQ hc n
 have hUW:U<18446744073709551616 ^ (n+1):=by rw[hUe]; have:=iJ hw; rwa [hwl]at this
 have hgV:g*V<18446744073709551616 ^ (n+1):=by rw[aiG,aix];exact ajx hVl g2
 have hres:b.take o++(dlq (U%V) (n+1)++b.drop (o+(n+1)))=b.take o++(dlq (U+18446744073709551616 ^ (n+1) - (U / V)*V) (n+1)++b.drop (o+(n+1))):=by
  have e:U+18446744073709551616 ^ (n+1) - (U / V)*V=U%V+18446744073709551616 ^ (n+1)*1:=by have:=ajr U V;omega
  rw[e,II _ _ _ (aiH _)]
 rw[hres];obtain⟨D,hD⟩:∃ D,D=U+18446744073709551616 ^ (n+1) - g*V:=⟨_,rfl⟩
 obtain⟨Q,hQ⟩:∃ Q,Q=g*V:=⟨_,rfl⟩
 have hQW:Q<18446744073709551616 ^ (n+1):=by rw[hQ]; exact hgV
 refine aG (λi=>(((g*au (c.take i) / 18446744073709551616 ^ i:Nat):Int),((if au (w.take i)<Q%18446744073709551616 ^ i then 1 else 0:Nat):Int),(i:Int),b.take o++(dlq D i++b.drop (o+i)))) n ?_ (by omega) (λi hi K=>?_) (λK=>?_)
 ·simp[dlq,au,alj]
 ·have hx:=hb.at (i:=o+i);have hy:=hc.at (i:=i);have hcv:=aL (m:=c) i;have hp:=aX i;have hVi:=aQ hc i;obtain⟨s1,s2⟩:=C0 hw hwl hUe (by omega:i<=n) (by rw[hQ]; exact hgV:Q<_);rw[hwg i (by omega)]at s1 s2;rw[hQ,<- hD,<- hQ]at s1;obtain⟨cy,hcy⟩:∃ cy,cy=g*au (c.take i) / 18446744073709551616 ^ i:=⟨_,rfl⟩
  have hcyl:cy<18446744073709551616:=by rw[hcy,aiD hp];exact ajx g2 hVi
  have e1:g*au (c.take (i+1))=g*au (c.take i)+18446744073709551616 ^ i*(g*(c.getD i 0).toNat):=by rw[hcv,aiL,aiW g]
  have ecy:g*au (c.take (i+1)) / 18446744073709551616 ^ (i+1)=(g*(c.getD i 0).toNat+0+cy) / 18446744073709551616:=by rw[aiG,<- aiC,e1,cW,<- hcy];congr 1; omega
  obtain⟨R,hR⟩:=bA (c.take n) (i+1);rw[alz,ajU (by omega),<- hVe]at hR;have elo:Q / 18446744073709551616 ^ i%18446744073709551616=(g*(c.getD i 0).toNat+0+cy)%18446744073709551616:=by
   have:Q=g*au (c.take (i+1))+18446744073709551616 ^ (i+1)*(g*R):=by rw[hQ,hR,aiL,aiW g]
   rw[iR this,e1,cW,<- hcy];congr 1; omega
  simp only[gR,aiA,aiZ];rw[Jz D (by omega),Jy D (by omega),ait (by omega:(i:Int)<n),aiw,aa ais,aa (ait (by omega)),<- hcy,
   AV N (c:=0) (a:=g) (b:=(c.getD i 0).toNat) (e:=0) (f:=cy) rfl (by omega) rfl rfl g2 (by omega) (by omega) hcyl,aa ais,aa (ait (by omega)),<- elo,<- ecy,
   xQ N (a:=(b.getD (o+i) 0).toNat) (b:=Q / 18446744073709551616 ^ i%18446744073709551616) (d:=if au (w.take i)<Q%18446744073709551616 ^ i then 1 else 0) (by omega) rfl rfl (by split <;> omega),aa ais,aa (ait (by omega)),aa air,s1,JA D (by omega)]
  have s3:(if (b.getD (o+i) 0).toNat<Q / 18446744073709551616 ^ i%18446744073709551616+(if au (w.take i)<Q%18446744073709551616 ^ i then 1 else 0)then(1:Int)else 0)=((if au (w.take (i+1))<Q%18446744073709551616 ^ (i+1)then 1 else 0:Nat):Int):=by rw[EK,s2]
  rw[s3];rfl
 ·have hx:=hb.at (i:=o+n);obtain⟨s1,s2⟩:=C0 hw hwl hUe (aiH n) (by rw[hQ]; exact hgV:Q<_);rw[hwg n (by omega)]at s1 s2;rw[hQ,<- hD,<- hQ]at s1;have hql:Q / 18446744073709551616 ^ n<18446744073709551616:=by rw[aiD (aX n),aix,<- aiG,hQ]; exact hgV
  rw[aiE hql]at s1 s2;have hwt:w.take (n+1)=w:=aiR (by omega);rw[hwt,<- hUe,aiE hQW]at s2;simp only[gR,aiA];rw[aiu (by omega:¬(n:Int)<n),aiv,<- hVe,<- hQ,Jz D (by omega),Jy D (by omega),aa ais,aa (ait (by omega)),
   xQ N (a:=(b.getD (o+n) 0).toNat) (b:=Q / 18446744073709551616 ^ n) (d:=if au (w.take n)<Q%18446744073709551616 ^ n then 1 else 0) (by omega) rfl rfl (by split <;> omega),aa ais,aa (ait (by omega)),s1,JA D (by omega)]
  have s3:(if (b.getD (o+n) 0).toNat<Q / 18446744073709551616 ^ n+(if au (w.take n)<Q%18446744073709551616 ^ n then 1 else 0)then(1:Int)else 0)=((if U<g*V then 1 else 0:Nat):Int):=by rw[<- hQ,EK,s2]
  rw[s3,hD];exact JK hN (by omega) hc hcl hbl hbs hVe hUW (λp=>aj_ hV0) _ g N (by omega) g2 g1 hgV
def HI {N:Nat} (b:List Int) (m:Nat) (hm:m<=b.length) (hN:m<N) (hs:m<9223372036854775807) (k:Kz6):rz N 0 m b k=k (bR b m):=by
 (unfold rz; rw[ae]; unfold qG)
 have key:∀ n,n<=m -> ∀ M,n<M->ah M (wE N 0 m b λXT=>((decide (0<=XT/\XT<=((m:Nat):Int)))&&(k ((Int.toNat XT) - 0)))) (n:Int)=k (bR b n):=by
  intro n;induction n with
  | zero=>
   intro _ M hM;obtain⟨M,rfl⟩:∃ m,M=m+1:=⟨M - 1,by omega⟩
   show wE N 0 m b _ ((0:Nat):Int) _=_;simp only[wE,bR];rw[aiu (by omega:¬((0:Nat):Int)>0),show(false==true)=false from rfl,aiv,ait (by omega),ajy];rfl
  | succ n ih=>
   intro hn M hM;obtain⟨M,rfl⟩:∃ m,M=m+1:=⟨M - 1,by omega⟩
   show wE N 0 m b _ ((n+1:Nat):Int) (ah M _)=_;have e:0+Int.toNat (((n+1:Nat):Int) - 1)=n:=by omega
   have e2:((n+1:Nat):Int) - 1=(n:Int):=by omega
   simp only[wE,e];rw[ait (by omega:((n+1:Nat):Int)>0),show(true==true)=true from rfl,aiw,aa air,aa ais,aa (ait (by omega)),aa air,e2,ih (by omega) M (by omega),pb];by_cases h0:b.getD n 0=0
   ·have:(b.getD n 0==0)=true:=by simpa using h0
    rw[this,if_pos h0]; rfl
   ·have:(b.getD n 0==0)=false:=by simpa using h0
    rw[this,if_neg h0,aiv,ait (by omega),ajy];rfl
 exact key m (aiH _) N hN
def yJ (N:Nat) (b:List Int) (m i:Nat) (hm:m<=b.length) (hi:i<9223372036854775807) (k:Kz5):Jl N 0 m (i:Int) b k=k ((b.take m).getD i 0):=by
 unfold Jl Qd;by_cases h:i<m
 ·rw[ait (by omega),aiw,aa ais,aa (ait (by omega)),uB h];simp
 ·rw[aiu (by omega),aiv,eI (by rw[ai_]; omega)]
def FR {N:Nat} (b:List Int) (hb:InWq b) (m s:Nat) (hm:m<=b.length) (hs:s<64) (hN:m+3<N) (hms:m<=1099511627780):∃ lost:Bool,∀ k,Jj N 0 m (s:Int) b k=k (af (au (b.take m) / 2 ^ s)) lost:=by
 have ew:IntKind.wrap .u64 (Int.tdiv (s:Int) 64)=0:=by rw[aq,ajw (by omega)]; omega
 have es:Int.tmod (s:Int) 64=(s:Int):=by rw[ajn (by omega)]; omega
 have eml:IntKind.wrap .u64 ((m:Nat):Int)=(m:Int):=by rw[aq]; omega
 have hs0:0<2 ^ s:=aiI _;by_cases h0:m=0
 ·subst h0;refine⟨false,λk=>?_⟩
  (unfold Jj; rw[ae]; unfold Is)
  rw[ew,akK,show au []=0 from rfl,Nat.zero_div,bc];rfl
 ·refine⟨aA .and .u64 (b.getD 0 0) (IntKind.wrap .u64 ((IntKind.wrap .u64 ((1:Int)*2 ^ s)) - 1)) != 0,λk=>?_⟩
  (unfold Jj; rw[ae]; unfold Is)
  have emin:min s 64=s:=by omega
  have e64:min (Int.toNat (IntKind.wrap .u64 (64 - (s:Int)))) 64=64 - s:=by rw[aq]; omega
  have z0:0+Int.toNat (0:Int)=0:=rfl;have z1:Int.toNat (0:Int) - 0=0:=rfl;rw[ew,es,eml,aiu (by omega:¬(0:Int)>=(m:Int)),aiv,aa air,aa ais,z0,z1,aa (ait (by omega)),aa (ait (by omega)),aa (ait (by omega)),aiA,emin];refine aG (λi=>(aA .and .u64 (b.getD 0 0) (IntKind.wrap .u64 ((IntKind.wrap .u64 ((1:Int)*2 ^ s)) - 1)),(i:Int))) 0 rfl (by omega) (λi hi K=>by omega) (λK=>?_);simp only[mL];rw[aiu (by omega:¬((0:Nat):Int)<((0:Nat):Int)),aiv];generalize aA .and .u64 (b.getD 0 0) (IntKind.wrap .u64 ((IntKind.wrap .u64 ((1:Int)*2 ^ s)) - 1))=lo;have hw:InWq (b.take m):=hb.take m;have hwl:(b.take m).length=m:=by rw[ai_]; omega
  obtain⟨X,hX⟩:∃ X,X=au (b.take m) / 2 ^ s:=⟨_,rfl⟩
  have elen:Int.toNat ((m:Int) - 0)=m:=by omega
  have elen2:(m:Int) - 0=(m:Int):=by omega
  rw[elen2,aa air,aa (bP (by omega) (by omega) (by omega) (by omega)),ajO,aiA,<- hX];refine aG (λi=>((i:Int),dlq X i++List.replicate (m - i) 0)) m (by simp[dlq]) (by omega) (λi hi K=>?_) (λK=>?_)
  ·have hx:=hw.at (i:=i);have hy:=hw.at (i:=i+1);have hset:=uz X i m (by omega);have hl:(dlq X i++List.replicate (m - i) (0:Int)).length=m:=by simp[ak]; omega
   obtain⟨R,hR⟩:=Ak hw i;have hdig:X / 18446744073709551616 ^ i%18446744073709551616=(((b.take m).getD i 0).toNat+18446744073709551616*((b.take m).getD (i+1) 0).toNat) / 2 ^ s%18446744073709551616:=by
    rw[hX,aiC,aix (2 ^ s),<- aiC,hR];have e2:18446744073709551616*18446744073709551616*R=2 ^ s*(18446744073709551616*(2 ^ (64 - s)*R)):=by
     have hs1:2 ^ s*2 ^ (64 - s)=18446744073709551616:=by rw[<- aiN,show s+(64 - s)=64 by omega]
     rw[aiW (2 ^ s),<- aiF (2 ^ s),hs1,aiF]
    rw[e2,ajq _ _ hs0,ajK]
   have ea:(0:Int)+(i:Int)=(i:Int):=by omega
   have eb:(i:Int)+1=((i+1:Nat):Int):=by omega
   simp only[i8,aiA,ea,eb,emin,e64,hl];rw[ait (by omega:(i:Int)<(m:Int)),aiw,aa air,yJ N b m i hm (by omega),aa (ait (by omega)),aa air,aa air,yJ N b m (i+1) hm (by omega),aa (ait (by rw[aq]; omega)),aa ais,aa (ait (by omega)),aa air];have ex:(b.take m).getD i 0=((((b.take m).getD i 0).toNat:Nat):Int):=by omega
   have ey:(b.take m).getD (i+1) 0=((((b.take m).getD (i+1) 0).toNat:Nat):Int):=by omega
   rw[ex,ey,C1 (by omega) (by omega) (by omega),<- hdig,hset]
  ·simp only[i8];rw[aiu (by omega:¬(m:Int)<(m:Int)),aiv,ai4,ai8,ai3];have hXl:X<18446744073709551616 ^ m:=by have h1:=iJ hw;rw[hwl]at h1;rw[hX];exact aj2 (aj3 _ _) h1
   have:=lh (N:=N) _ (gy X m) (by rw[ak]; omega) (by rw[ak]; omega) (λl=>k l (lo != 0));rw[this,m0 hXl]
def KA {N:Nat} (m:List Int) (hm:InWq m) (n:Nat) (hn:n<4294967296) (hN:m.length+n / 64+4<N) (hs:m.length<=1099511627776) (e0:List Int->Bool) :
  ah N (e9 N ((n / 64:Nat):Int) ((n%64:Nat):Int) m ((m.length:Nat):Int) e0) (0,List.replicate (n / 64+m.length+1) (0:Int))=e0 (dlq (au m*2 ^ n) (n / 64+m.length+1)):=by
 have hw6:n / 64<67108864:=by omega
 generalize hw:n / 64=w at *;generalize hsh:n%64=s at *;have hs32:s<64:=by omega
 have hp2:2 ^ n=18446744073709551616 ^ w*2 ^ s:=by rw[DV,hw,hsh]
 have hs0:0<2 ^ s:=aiI s;have hs1:2 ^ s*2 ^ (64 - s)=18446744073709551616:=by rw[<- aiN,show s+(64 - s)=64 by omega]
 let V:=au m*2 ^ n
 let X:=au m*2 ^ s
 have hVX:V=18446744073709551616 ^ w*X:=by simp only[V,X]; rw[hp2,aiW]
 let T:=λi=>au (m.take i)*2 ^ s
 let c:=λi=>T i / 18446744073709551616 ^ i
 have hcl:∀ i,c i<2 ^ s:=by intro i;simp only[c,T];rw[aiD (aX i),aix];exact ajC (aQ hm i) hs0
 refine aG (N:=N) (λi=>((i:Int),dlq V (w+i)++((c i:Nat):Int)::List.replicate (m.length - i) 0)) m.length ?_ (by omega) (λi hi K=>?_) (λK=>?_)
 ·congr 1;show List.replicate (w+m.length+1) (0:Int)=dlq V w++((c 0:Nat):Int)::List.replicate m.length 0;rw[hVX,te];have hc0:c 0=0:=by simp[c,T,au]
  rw[hc0];have:w+m.length+1=w+(m.length+1):=by omega
  rw[this,<- aj8,ajd]; rfl
 ·have hx:=hm.at (i:=i);have hT:T (i+1)=T i+18446744073709551616 ^ i*((m.getD i 0).toNat*2 ^ s):=by simp only[T,aL,aiY,aiF]
  have hq:T (i+1) / 18446744073709551616 ^ i=c i+(m.getD i 0).toNat*2 ^ s:=by rw[hT,cW]
  have hci:c i<2 ^ s:=hcl i;have hc1:c (i+1)=(c i+(m.getD i 0).toNat*2 ^ s) / 18446744073709551616:=by rw[<- hq]; simp only[c]; rw[aiG,aiC]
  have hdig:V / 18446744073709551616 ^ (w+i)%18446744073709551616=(c i+(m.getD i 0).toNat*2 ^ s)%18446744073709551616:=by rw[<- hq,hVX,aiN,<- aiC,ai5 _ (aX w)];obtain⟨R,hR⟩:=bA m (i+1);refine iR (R:=R*2 ^ s) ?_;simp only[X,T];rw[hR,aiY,aiF]
  have hrep:List.replicate (m.length - i) (0:Int)=0::List.replicate (m.length - (i+1)) 0:=by rw[show m.length - i=(m.length - (i+1))+1 by omega,ajd]
  have hdl:=ak V (w+i);have ei:Int.toNat ((w:Int)+(i:Int))=w+i:=by omega
  have ei1:Int.toNat ((w:Int)+(i:Int)+1)=w+i+1:=by omega
  have emin:min s 64=s:=by omega
  have e64:min (Int.toNat (IntKind.wrap .u64 (64 - (s:Int)))) 64=64 - s:=by rw[aq]; omega
  simp only[e9,aiA,ei,ei1,emin,e64];rw[hrep,ci hdl.symm,aZ _ _ _ _ _ hdl.symm];have hmx:m.getD i 0=(((m.getD i 0).toNat:Nat):Int):=by omega
  rw[hmx];generalize hxx:(m.getD i 0).toNat=x at *;have hx32:x<18446744073709551616:=by omega
  have hlow:x*2 ^ s%18446744073709551616=2 ^ s*(x%2 ^ (64 - s)):=by
   have e:x*2 ^ s%(2 ^ s*2 ^ (64 - s))=2 ^ s*(x%2 ^ (64 - s)):=by rw[aix x]; exact akd _ _ _
   rwa [hs1]at e
  have hsum:2 ^ s*(x%2 ^ (64 - s))+c i<18446744073709551616:=by have h1:x%2 ^ (64 - s)+1<=2 ^ (64 - s):=aiJ _ (aiI _);have h2:=aiB (2 ^ s) h1;rw[hs1,aiL]at h2;omega
  have epw:(x:Int)*2 ^ s=((x*2 ^ s:Nat):Int):=by rw[aiQ,ajV]; rfl
  have eor:aA .or .u64 ((c i:Nat):Int) (IntKind.wrap .u64 ((x:Int)*2 ^ s))=((V / 18446744073709551616 ^ (w+i)%18446744073709551616:Nat):Int):=by
   have e1:IntKind.wrap .u64 ((x*2 ^ s:Nat):Int)=((2 ^ s*(x%2 ^ (64 - s)):Nat):Int):=by rw[<- hlow,aq]; omega
   rw[epw,e1,cL _ _ s hci hsum,hdig];omega
  have ehi:Int.fdiv (x:Int) (2 ^ (64 - s))=((c (i+1):Nat):Int):=by
   have e2:(2:Int) ^ (64 - s)=((2 ^ (64 - s):Nat):Int):=by rw[ajV]; rfl
   rw[e2,lq,hc1];have:(c i+x*2 ^ s) / 18446744073709551616=x / 2 ^ (64 - s):=by rw[<- hs1,<- aiC,aix x,ajq _ _ hs0,ai0 hci,aiZ]
   rw[this]
  rw[eor,ehi];have hl1:∀(a b:Int) (ys:List Int),(dlq V (w+i)++a::b::ys).length=w+i+2+ys.length:=by intro a b ys; simp[hdl]; omega
  have hset2:(dlq V (w+i)++((V / 18446744073709551616 ^ (w+i)%18446744073709551616:Nat):Int)::0::List.replicate (m.length - (i+1)) 0).set (w+i+1) ((c (i+1):Nat):Int)=dlq V (w+(i+1))++((c (i+1):Nat):Int)::List.replicate (m.length - (i+1)) 0:=by
   have:dlq V (w+i)++((V / 18446744073709551616 ^ (w+i)%18446744073709551616:Nat):Int)::0::List.replicate (m.length - (i+1)) 0=dlq V (w+(i+1))++0::List.replicate (m.length - (i+1)) 0:=by rw[<- aja,dlq]; simp
   rw[this];exact aZ _ _ _ _ _ (by rw[ak]; omega)
  rw[hset2,hl1,hl1];simp only[ajO];rw[ait (by omega:(i:Int)<((m.length:Nat):Int)),aiw,aa ais,aa air,aa ais,aa (ait (by omega)),aa (ait (by omega)),aa ais,aa (ait (by omega)),aa air,aa air,aa (ait (by rw[aq]; omega)),aa ais,aa (ait (by omega)),aa air];rfl
 ·simp only[e9];rw[aiu (by omega:¬(m.length:Int)<m.length),aiv,ai4,ai8];have hV:V<18446744073709551616 ^ (w+m.length+1):=by
   have h1:=iJ hm;simp only[V];rw[hp2,aiG,aiN,aiW,aiF];refine ajC ?_ (aX w);have hs2:2 ^ s<=18446744073709551616:=by rw[<- hs1]; exact ajg _ (aiI _)
   exact ajc h1 hs2 (by decide)
  have hT:T m.length=X:=by simp only[T,X]; rw[ajb]
  have hend:dlq V (w+m.length)++[((c m.length:Nat):Int)]=dlq V (w+m.length+1):=by
   rw[dlq];have:c m.length=V / 18446744073709551616 ^ (w+m.length)%18446744073709551616:=by
    have hX:V / 18446744073709551616 ^ (w+m.length)=X / 18446744073709551616 ^ m.length:=by rw[hVX,aiN,<- aiC,ai5 _ (aX w)]
    have h2:=hcl m.length;have hs2:2 ^ s<=18446744073709551616:=by rw[<- hs1]; exact ajg _ (aiI _)
    rw[hX,<- hT];exact(aiE (by show c m.length<_; omega)).symm
   rw[this]
  rw[hend]
def E5 (n:Nat):dlq n (af n).length=af n:=by refine List.ext_getElem (ak n _) (λi h1 h2=>?_);have e1:=tc n h2;have e2:=ox i n;rw[List.getD_eq_getElem?_getD,List.getElem?_eq_getElem h1,ajf]at e1;rw[List.getD_eq_getElem?_getD,List.getElem?_eq_getElem h2,ajf]at e2;rw[e1,e2]
def Dk {X L:Nat} (hX:X<18446744073709551616 ^ L):∀ k,dlq X (L+k)=dlq X L++List.replicate k 0
 | 0=>by simp
 | k+1=>by rw[<- aja,dlq,Dk hX k,ai0 (aiO hX (aiK (by decide) (akM _ _))),aj4,aiM];rfl
def tf (S:Nat):∀{m n:Nat},n<=m->(dlq S m).take n=dlq S n
 | 0,n,h=>by
  have:n=0:=by omega
  subst this; rfl
 | m+1,n,h=>by
  by_cases e:n=m+1
  ·subst e; rw[aiR (by rw[ak]; omega)]
  ·rw[dlq,ajv (by rw[ak]; omega),tf S (by omega)]
def Cm (S a:Nat):∀ c,dlq S (a+c)=dlq S a++dlq (S / 18446744073709551616 ^ a) c
 | 0=>by simp[dlq]
 | c+1=>by rw[<- aja,dlq,Cm S a c,dlq,aiC,<- aiN,aiM]
def G9 {V m:Nat} (h:V<18446744073709551616 ^ m):bR (dlq V m) m=(af V).length:=by have h1:=xq (gy V m);rw[ak,qp,aiE h]at h1;rw[<- h1,ai_,ak];have:=kx (dlq V m) m;omega
def Tp {V m:Nat} (h1:18446744073709551616 ^ m<=V) (h2:V<18446744073709551616 ^ (m+1)):(af V).length=m+1:=by have a:=fR (m+1) V h2;have b:=To (V:=V) (w:=m) (by have:=akQ h1 (aX m); omega);omega
def vw {N:Nat} {m s:Nat} (hm:m ≠ 0) (hs:s<64) (hN:(af m).length+4<N) (hl:(af m).length<=1099511627776) (k0:Bool) (k1:Nat->List Int->Bool) :
  Of N (af m) (s:Int) k0 k1=k1 (af (m*2 ^ s)).length (dlq (m*2 ^ s) ((af m).length+1)):=by
 have hlp:(af m).length ≠ 0:=by rw[bW hm]; simp
 have hV:m*2 ^ s<18446744073709551616 ^ ((af m).length+1):=by
  rw[aiG];have h2:2 ^ s<18446744073709551616:=by rw[<- oL]; exact Nat.pow_lt_pow_right (by decide) hs
  exact ajx (kb m) h2
 (unfold Of; rw[ae]; unfold Ry)
 have e0:((((af m).length:Nat):Int)==0)=false:=by simp; intro h; rw[h]at hlp; simp at hlp
 have ew:IntKind.wrap .u64 (Int.tdiv (s:Int) 64)=((s / 64:Nat):Int):=by rw[aq,ajw (by omega)]; omega
 have es:Int.tmod (s:Int) 64=((s%64:Nat):Int):=by rw[ajn (by omega)]; rfl
 have elen:Int.toNat (((s / 64:Nat):Int)+(((af m).length:Nat):Int)+1)=s / 64+(af m).length+1:=by omega
 rw[e0,aiv,ew,es,aa air,aa air,aa air,aa (bP (by omega) (by omega) (by omega) (by omega)),elen];have:=KA (N:=N) (af m) (aU m) s (by omega) (by omega) hl (λYI=>xh N YI λmr=>k1 mr YI);rw[aC,show s / 64=0 by omega,aiZ]at this;rw[show s / 64=0 by omega,aiZ];refine Eq.trans this ?_;rw[AW _ (by rw[ak]; omega) (by rw[ak]; omega),ak,G9 hV]
def KG (xs:List Int) (k:Nat):au (xs++List.replicate k 0)=au xs:=by rw[nS,zp]; simp
def w8 {N:Nat} (hN:1180591620717411303424<=N) {x y:Nat} (hxy:y<=x) (hy2:2<=(af y).length) (hxl:(af x).length<=1099511627000) (k:Kz3) :
  Bf N (af x) (af y) k=k (af (x / y)) (af (x%y)):=by
 have hy0:y ≠ 0:=by intro h; rw[h,bc]at hy2; simp at hy2
 have hyx:=dB hxy;have hylt:=kb y;have hxlt:=kb x;have hylo:18446744073709551616 ^ ((af y).length - 1)<=y:=by
  rcases ajs y (18446744073709551616 ^ ((af y).length - 1))with h | h
  ·have:=fR _ _ h; omega
  ·exact h
 (unfold Bf; rw[ae]; unfold LY)
 rw[iV x y ⟨by omega,by omega⟩ ⟨by omega,by omega⟩];have hc:decide (dL x y<0)=false:=by unfold dL; rw[if_neg (by omega)]; split <;> rfl
 obtain⟨n,hn⟩:∃ n,(af y).length=n+2:=⟨(af y).length - 2,by omega⟩
 obtain⟨lx,hlx⟩:∃ lx,(af x).length=lx:=⟨_,rfl⟩
 have htd:(af y).getD (n+1) 0=((y / 18446744073709551616 ^ (n+1):Nat):Int):=by rw[ox,aiE];rw[aiD (aX _),aix,<- aiG];rw[hn]at hylt; exact hylt
 rw[hn]at hylt hylo;rw[hlx]at hxlt;rw[show n+2 - 1=n+1 by omega]at hylo;obtain⟨t,ht⟩:∃ t,t=y / 18446744073709551616 ^ (n+1):=⟨_,rfl⟩
 rw[<- ht]at htd;have htl:t<18446744073709551616:=by rw[ht,aiD (aX _),aix,<- aiG]; exact hylt
 have ht0:t ≠ 0:=by have:=akQ hylo (aX (n+1)); omega
 obtain⟨g1,g2,g3⟩:=Jr ht0 htl;have ein:Int.toNat (((n+2:Nat):Int) - 1)=n+1:=by omega
 have e1':(((n+2:Nat):Int)==1)=false:=by simp; omega
 rw[hc,aiv,hn,hlx,e1',aiv,aa air,aa ais,ein,htd,Fx N htl];obtain⟨s,hs⟩:∃ s,s=64 - bl t:=⟨_,rfl⟩
 rw[<- hs]at g1 g2 g3 ⊢;have hs0:0<2 ^ s:=aiI s;have ews:IntKind.wrap .u64 ((s:Nat):Int)=(s:Int):=by rw[aq]; omega
 rw[ews];obtain⟨V,hV⟩:∃ V,V=y*2 ^ s:=⟨_,rfl⟩
 obtain⟨X,hX⟩:∃ X,X=x*2 ^ s:=⟨_,rfl⟩
 have hVlt:V<18446744073709551616 ^ (n+2):=by
  have h1:=akR y (aX (n+1));rw[<- ht]at h1;have h2:y*2 ^ s<18446744073709551616 ^ (n+1)*(t+1)*2 ^ s:=aji h1 hs0;have h3:(t+1)*2 ^ s<=18446744073709551616:=by
   have hd:2 ^ s*2 ^ (64 - s)=18446744073709551616:=by rw[<- aiN,show s+(64 - s)=64 by omega]
   have h4:t<2 ^ (64 - s):=by rw[aix]at g3;rw[<- hd]at g3;exact akL g3
   rw[<- hd,aix];exact aiB _ h4
  have h5:=aiB (18446744073709551616 ^ (n+1)) h3;rw[hV,show n+2=n+1+1 by omega,aiG];rw[aiF]at h2;omega
 have hVge:18446744073709551616 ^ (n+1)<=V:=by rw[hV]; exact aiU hylo (ajg _ hs0)
 have hVlen:(af V).length=n+2:=Tp hVge hVlt;have hV0:0<V:=aiO (aX _) hVge;have hx0:x ≠ 0:=by omega
 rw[vw hy0 g1 (by omega) (by omega),hn,<- hV,hVlen,vw hx0 g1 (by omega) (by omega),hlx,<- hX];have hs2:2 ^ s<=18446744073709551616:=by rw[<- oL]; exact aiK (by decide) (by omega)
 have hXlt:X<18446744073709551616 ^ (lx+1):=by rw[hX,aiG]; exact ajc hxlt hs2 (by decide)
 have hXlen1:(af X).length<=lx+1:=fR _ _ hXlt;have hXlen2:lx<=(af X).length:=by rw[<- hlx,hX]; exact dB (ajg _ hs0)
 have etk:(dlq X (lx+1)).take (af X).length=af X:=by rw[tf X hXlen1,E5]
 have ebl:(af X++[0,0]).length=(af X).length+2:=by simp
 obtain⟨M,hM⟩:∃ M,lx+1=M+(n+2):=⟨lx+1 - (n+2),by omega⟩
 have eu1:Int.toNat ((lx:Int)+1) - 0=lx+1:=by omega
 have eM:(((lx+1:Nat):Int) - ((n+2:Nat):Int))=(M:Int):=by omega
 rw[aj0,etk,ebl,eu1,eM];rw[aa (ait (by rw[ak]; omega)),aa (ait (by omega)),aa air,aa (ait (by omega)),aa air,aa (bP (by omega) (by omega) (by omega) (by omega)),aa air,aa air,aiA];obtain⟨tail,htail⟩:∃ tail,tail=(af X++[(0:Int),0]).drop (lx+1):=⟨_,rfl⟩
 have htw:InWq tail:=by
  rw[htail];refine InWq.drop (λz hz=>?_) _;rcases List.mem_append.1 hz with h | h
  ·exact aU X z h
  ·simp only[ajQ,akv,or_false,or_self]at h; subst h; omega
 have htlen:tail.length<=2:=by rw[htail,aj5,ebl]; omega
 have hstart:af X++[(0:Int),0]=dlq X M++(dlq (X / 18446744073709551616 ^ M%V) (n+2)++(List.replicate 0 0++tail)):=by
  have hXM:X / 18446744073709551616 ^ M<V:=by
   rw[aiD (aX M),hX,hV];have h1:x*2 ^ s<18446744073709551616 ^ lx*2 ^ s:=aji hxlt hs0;have h2:18446744073709551616 ^ lx=18446744073709551616 ^ (n+1)*18446744073709551616 ^ M:=by rw[<- aiN]; congr 1; omega
   have h3:=aiy (18446744073709551616 ^ M*2 ^ s) hylo;rw[h2,aiF]at h1;have e:y*2 ^ s*18446744073709551616 ^ M=y*(18446744073709551616 ^ M*2 ^ s):=by rw[aiF,aix (2 ^ s)]
   rw[e]; omega
  rw[aiE hXM,ai8,ajh,<- aiM,<- Cm,<- hM];rw[htail];have hpad:(af X++[(0:Int),0]).take (lx+1)=dlq X (lx+1):=by
   have:af X++[(0:Int),0]=dlq X ((af X).length+2):=by rw[Dk (kb X) 2,E5]; rfl
   rw[this,tf X (by omega)]
  rw[<- hpad,ak6]
 rw[hstart];have hQlt:X / V<18446744073709551616 ^ M:=by
  rw[aiD hV0];have h1:x*2 ^ s<18446744073709551616 ^ lx*2 ^ s:=aji hxlt hs0;have h2:18446744073709551616 ^ lx=18446744073709551616 ^ M*18446744073709551616 ^ (n+1):=by rw[<- aiN]; congr 1; omega
  have h3:=aiB (18446744073709551616 ^ M) (aiy (2 ^ s) hylo);rw[hX,hV];rw[h2,aiF]at h1;omega
 have hmk:M<=1099511627001:=by omega
 refine aG (λi=>((M:Int) - 1 - (i:Int),dlq X (M - i)++(dlq (X / 18446744073709551616 ^ (M - i)%V) (n+2)++(List.replicate i 0++tail)),List.replicate (M - i) (0:Int)++(dlq (X / V) M).drop (M - i))) M ?_ (by omega) (λi hi K=>?_) (λK=>?_)
 ·rw[akz,aje (by rw[ak]; omega),ai3];congr 1;omega
 ·obtain⟨j,hj⟩:∃ j,M - i=j+1:=⟨M - i - 1,by omega⟩
  have hj2:M - (i+1)=j:=by omega
  have ei:(M:Int) - 1 - (i:Int)=(j:Int):=by omega
  have ei2:(M:Int) - 1 - ((i+1:Nat):Int)=(j:Int) - 1:=by omega
  rw[hj,hj2,ei,ei2];obtain⟨A,hA⟩:∃ A,A=X / 18446744073709551616 ^ j:=⟨_,rfl⟩
  have hA1:X / 18446744073709551616 ^ (j+1)=A / 18446744073709551616:=by rw[hA,aiG,aiC]
  obtain⟨n1,n2⟩:=CZ (A:=A) hV0;obtain⟨R,hR⟩:∃ R,R=A / 18446744073709551616%V:=⟨_,rfl⟩
  have hRV:R<V:=by rw[hR]; exact aiJ _ hV0
  rw[hA1,<- hR];rw[<- hR]at n1 n2;obtain⟨b,hb⟩:∃ b,b=dlq X (j+1)++(dlq R (n+2)++(List.replicate i 0++tail)):=⟨_,rfl⟩
  have hblen:b.length=j+1+(n+2)+i+tail.length:=by rw[hb]; simp[ak]; omega
  have hbw:InWq b:=by
   rw[hb];intro z hz;rcases List.mem_append.1 hz with h | h
   ·exact gy _ _ z h
   ·rcases List.mem_append.1 h with h | h
    ·exact gy _ _ z h
    ·rcases List.mem_append.1 h with h | h
     ·have:=(List.mem_replicate.1 h).2; subst this; omega
     ·exact htw z h
  have hbt:b.take j=dlq X j:=by rw[hb,ajv (by rw[ak]; omega),tf X (by omega)]
  have hbd:b.drop j=((A%18446744073709551616:Nat):Int)::(dlq R (n+2)++(List.replicate i 0++tail)):=by rw[hb,dlq,aiM,aju (by rw[ak]; omega),aje (by rw[ak]; omega),ajh,hA];rfl
  have hwv:au ((b.drop j).take (n+2+1))=R*18446744073709551616+A%18446744073709551616:=by rw[hbd,alh,ajv (by rw[ak]; omega),aiR (by rw[ak]; omega),au,qp,aiE (ake hRV hVlt),aiA];omega
  have hbd2:b.drop (j+(n+2+1))=List.replicate i 0++tail:=by rw[<- List.drop_drop,hbd,List.drop_succ_cons,aju (by rw[ak]; omega),aje (by rw[ak]; omega),ajh]
  have hcv:au ((dlq V (n+2+1)).take (n+2))=V:=by rw[tf V (by omega),qp,aiE hVlt]
  have hctop:0<((dlq V (n+2+1)).getD (n+2 - 1) 0).toNat:=by
   rw[tc V (by omega),aiA,show n+2 - 1=n+1 by omega,aiE]
   ·exact akQ hVge (aX _)
   ·rw[aiD (aX _),aix,<- aiG]; exact hVlt
  have hAm:A%18446744073709551616<18446744073709551616:=aiJ _ (by decide);have hstep:=λkk=>NG hN (o:=j) (n:=n+2) (b:=b) (c:=dlq V (n+2+1)) (by omega) hbw (gy _ _) (by rw[ak]; omega) (by omega) (by omega) hctop (by rw[hwv,hcv];have:=aiy 18446744073709551616 hRV;rw[aj1]at this;omega) kk
  rw[hwv,hcv,n1,n2,hbt,hbd2]at hstep;have hnext:dlq X j++(dlq (A%V) (n+2+1)++(List.replicate i 0++tail))=dlq X j++(dlq (A%V) (n+2)++(List.replicate (i+1) 0++tail)):=by rw[Dk (ake (aiJ A hV0) hVlt) 1,aiM,ajd];rfl
  have hdg:X / V / 18446744073709551616 ^ j%18446744073709551616=A / V%18446744073709551616:=by rw[hA,aiC,aiC,aix V]
  have ej:0+Int.toNat (j:Int)=j:=by omega
  have ej2:Int.toNat ((j:Int)+((n+2:Nat):Int)+1) - Int.toNat (j:Int)=n+2+1:=by omega
  rw[<- hb];simp only[Bo,ej,ej2];rw[ait (by omega:(j:Int)>=0),aiw,aa air,aa air,aa (ait (by omega))];rw[hstep];have hql:(List.replicate (j+1) (0:Int)++(dlq (X / V) M).drop (j+1)).length=M:=by simp[ak]; omega
  rw[hql,aa ais,aa (ait (by omega)),aa air,aiA,<- hdg,Jb _ _ _ (by omega),hnext,<- hA]
 ·simp only[Bo];have e0:(M:Int) - 1 - (M:Int) = -1:=by omega
  rw[e0,aiu (by omega),aiv,ai4,akn,aki,ai8,ajh,aj0];obtain⟨L,hL⟩:∃ L,L=dlq X 0++(dlq (X%V) (n+2)++(List.replicate M 0++tail)):=⟨_,rfl⟩
  have hRlt:X%V<18446744073709551616 ^ (n+2):=ake (aiJ _ hV0) hVlt;have hLt:L.take (lx+1)=dlq (X%V) (n+2)++List.replicate M 0:=by rw[hL,hM,show dlq X 0=[] from rfl,ajh,<- aiM,ajv (by simp[ak]; omega),aiR (by simp[ak]; omega)]
  have hLw:InWq L:=by
   rw[hL];intro z hz;rcases List.mem_append.1 hz with h | h
   ·cases h
   ·rcases List.mem_append.1 h with h | h
    ·exact gy _ _ z h
    ·rcases List.mem_append.1 h with h | h
     ·have:=(List.mem_replicate.1 h).2; subst this; omega
     ·exact htw z h
  have hLlen:lx+1<=L.length:=by rw[hL]; simp[ak]; omega
  rw[<- hL];unfold Me;rw[HI L (lx+1) hLlen (by omega) (by omega)];have hcl:=kx L (lx+1);obtain⟨lost,hlost⟩:=FR (N:=N) L hLw (bR L (lx+1)) s (by omega) g1 (by omega) (by omega);rw[hlost,qQ,hLt,KG,qp,aiE hRlt];have:=lh (N:=N) (dlq (X / V) M) (gy _ _) (by rw[ak]; omega) (by rw[ak]; omega) (λz=>k z (af (X%V / 2 ^ s)));rw[this,m0 hQlt,hX,hV,ak7 _ _ hs0,ak8,aka _ hs0]
def li {N:Nat} (hN:1180591620717411303424<=N) {x y:Nat} (hy:0<y) (hxl:(af x).length<=1099511627000) (hyl:(af y).length<=1099511627000) (k:Kz3) :
  Bf N (af x) (af y) k=k (af (x / y)) (af (x%y)):=by
 by_cases hxy:y<=x
 ·by_cases h2:2<=(af y).length
  ·exact w8 hN hxy h2 hxl k
  ·have hylt:=kb y;have hl1:(af y).length=1:=by rw[bW (by omega)]at h2 ⊢; simp at h2 ⊢; exact h2
   rw[hl1,als]at hylt;have hd:=qU (by omega:y ≠ 0) hylt;have hc:decide (dL x y<0)=false:=by unfold dL; rw[if_neg (by omega)]; split <;> rfl
   (unfold Bf; rw[ae]; unfold LY)
   rw[iV x y ⟨by omega,by omega⟩ ⟨by omega,by omega⟩,hc,aiv,hd];show cond (((1:Nat):Int)==1) _ _=_;rw[show(((1:Nat):Int)==1)=true from rfl,aiw,aa (ai (by omega) (by simp))];show px N (af x) (y:Int) _=_;have hm:x%y<18446744073709551616:=ake (aiJ _ hy) hylt;rw[Kx (by omega) hy hylt ⟨by omega,by omega⟩,uH (by omega) _ hm]
 ·have hc:decide (dL x y<0)=true:=by unfold dL; rw[if_pos (by omega)]; rfl
  (unfold Bf; rw[ae]; unfold LY)
  rw[iV x y ⟨by omega,by omega⟩ ⟨by omega,by omega⟩,hc,aiw,xR _ (by omega),ai0 (by omega),aiE (by omega),bc]
def zj:∀ n,n ≠ 0->bl n=64*((af n).length - 1)+bl ((af n).getD ((af n).length - 1) 0).toNat/\0<(af n).length:=by
 intro n;induction n using Nat.strongRecOn with
 | ind n ih=>
  intro h;rw[bW h];by_cases h1:n / 18446744073709551616=0
  ·rw[h1,bc];have:n%18446744073709551616=n:=aiE (by omega);simp[this]
  ·obtain⟨i1,i2⟩:=ih (n / 18446744073709551616) (by omega) h1;have e:=mY (n:=n) 64 (by rw[oL]; omega);rw[oL]at e;refine⟨?_,by simp⟩;have e2:(((n%18446744073709551616:Nat):Int)::af (n / 18446744073709551616)).getD ((((n%18446744073709551616:Nat):Int)::af (n / 18446744073709551616)).length - 1) 0=(af (n / 18446744073709551616)).getD ((af (n / 18446744073709551616)).length - 1) 0:=by
    simp only[ai6,akT];generalize af (n / 18446744073709551616)=l at i2 ⊢;cases l with
    | nil=>simp at i2
    | cons y l=>simp
   rw[e2,e,i1];simp only[ai6];omega
def FE {N:Nat} {n:Nat} (hs:(af n).length<=1099511627776) (k:Kz5):rv N (af n) k=k (bl n:Int):=by
 (unfold rv; rw[ae]; unfold qF)
 by_cases h:n=0
 ·subst h; rw[bc]; rfl
 ·obtain⟨e1,e2⟩:=zj n h;have e0:(((af n).length:Int)==0)=false:=by simp; intro h'; rw[h']at e2; simp at e2
  have e3:Int.toNat (((af n).length:Int) - 1)=(af n).length - 1:=by omega
  have hw:=(aU n).at (i:=(af n).length - 1);have e4:(af n).getD ((af n).length - 1) 0=((((af n).getD ((af n).length - 1) 0).toNat:Nat):Int):=by omega
  have hb:=wR (n:=((af n).getD ((af n).length - 1) 0).toNat) (j:=64) (by rw[oL]; omega);rw[e0,aiv,aa air,aa air,aa air,aa ais,e3,e4,AO N (by omega),aa air,e1];congr 1;omega
def I2 {N:Nat} {x f:Nat} (hf:f<140737488355328) (k:Kz5):uU N (af x) (f:Int) k=k ((x / 2 ^ f%18446744073709551616:Nat):Int):=by
 (unfold uU; rw[ae]; unfold xw)
 have e1:Int.tdiv (f:Int) 64=((f / 64:Nat):Int):=by rw[ajw (by omega)]; rfl
 have e2:IntKind.wrap .u64 (Int.tmod (f:Int) 64)=((f%64:Nat):Int):=by rw[aq,ajn (by omega)]; omega
 have e3:min (f%64) 64=f%64:=by omega
 have e4:min (Int.toNat (IntKind.wrap .u64 (64 - ((f%64:Nat):Int)))) 64=64 - f%64:=by rw[aq]; omega
 have e5:((f / 64:Nat):Int)+1=((f / 64+1:Nat):Int):=by omega
 have hx:=(aU x).at (i:=f / 64);have hy:=(aU x).at (i:=f / 64+1);have ex:(af x).getD (f / 64) 0=((((af x).getD (f / 64) 0).toNat:Nat):Int):=by omega
 have ey:(af x).getD (f / 64+1) 0=((((af x).getD (f / 64+1) 0).toNat:Nat):Int):=by omega
 rw[e1,e2,e5,aa air,od N _ (f / 64) (by omega),aa (ait (by omega)),aa air,od N _ (f / 64+1) (by omega),aa (ait (by rw[aq]; omega)),aiA,e3,e4,ex,ey,C1 (by omega) (by omega) (by omega)];obtain⟨R,hR⟩:=Ak (aU x) (f / 64);rw[aC]at hR;have hp:2 ^ f=18446744073709551616 ^ (f / 64)*2 ^ (f%64):=DV f;have hs0:0<2 ^ (f%64):=aiI _;rw[hp,<- aiC,hR];have e6:18446744073709551616*18446744073709551616*R=2 ^ (f%64)*(18446744073709551616*(2 ^ (64 - f%64)*R)):=by
  have hs1:2 ^ (f%64)*2 ^ (64 - f%64)=18446744073709551616:=by rw[<- aiN,show f%64+(64 - f%64)=64 by omega]
  rw[aiW (2 ^ (f%64)),<- aiF (2 ^ (f%64)),hs1,aiF]
 rw[e6,ajq _ _ hs0,ajK]
def FK {N:Nat} {x d e:Nat} (hd:d<18446744073709551616) (he:e<18446744073709551616) (hs:mu N (af x)) (k:Kz9):vy N (af x) (d:Int) (e:Int) k=k (af (x*d+e)):=by
 (unfold vy; rw[ae]; unfold LD)
 obtain⟨s1,s2⟩:=hs;obtain⟨L,hL⟩:∃ L,(af x).length=L:=⟨_,rfl⟩
 have hx:=kb x;rw[hL]at hx;have eL:Int.toNat ((L:Int)+1)=L+1:=by omega
 rw[hL,aa air,aa (bP (by omega) (by omega) (by omega) (by omega)),eL];obtain⟨m,hm⟩:∃ m,m=af x:=⟨_,rfl⟩
 have hmw:InWq m:=by rw[hm]; exact aU x
 have hmv:au m=x:=by rw[hm]; exact aC x
 have hml:m.length=L:=by rw[hm]; exact hL
 rw[<- hm];obtain⟨S,hS⟩:∃ S,S=x*d+e:=⟨_,rfl⟩
 rw[<- hS];refine aG (λi=>((((au (m.take i)*d+e) / 18446744073709551616 ^ i:Nat):Int),(i:Int),dlq S i++List.replicate (L+1 - i) 0)) L (by simp[au,dlq]) (by omega) (λi hi K=>?_) (λK=>?_)
 ·have hz:=hmw.at (i:=i);have hp:=aX i;have hXi:=aQ hmw i;have hcv:=aL (m:=m) i;obtain⟨cy,hcy⟩:∃ cy,cy=(au (m.take i)*d+e) / 18446744073709551616 ^ i:=⟨_,rfl⟩
  have e1:au (m.take (i+1))*d+e=(au (m.take i)*d+e)+18446744073709551616 ^ i*((m.getD i 0).toNat*d):=by rw[hcv,aiY,aiF]; omega
  have hcyl:cy<18446744073709551616:=by
   rw[hcy,aiD hp];have:=ajl (akJ hXi) (akJ hd);have h1:1<=18446744073709551616 ^ i:=hp;have h2:(18446744073709551616 ^ i - 1)*(18446744073709551616 - 1)+18446744073709551615=18446744073709551616 ^ i*18446744073709551615:=by
    obtain⟨P,hP⟩:∃ P,18446744073709551616 ^ i=P+1:=⟨18446744073709551616 ^ i - 1,by omega⟩
    rw[hP]; omega
   omega
  have ecy:(au (m.take (i+1))*d+e) / 18446744073709551616 ^ (i+1)=((m.getD i 0).toNat*d+0+cy) / 18446744073709551616:=by rw[aiG,<- aiC,e1,cW,<- hcy];congr 1; omega
  obtain⟨R,hR⟩:=bA m (i+1);have elo:S / 18446744073709551616 ^ i%18446744073709551616=((m.getD i 0).toNat*d+0+cy)%18446744073709551616:=by
   have:S=(au (m.take (i+1))*d+e)+18446744073709551616 ^ (i+1)*(R*d):=by rw[hS,<- hmv,hR,aiY,aiF]; omega
   rw[iR this,e1,cW,<- hcy];congr 1; omega
  have hset:=uz S i (L+1) (by omega);have hl:(dlq S i++List.replicate (L+1 - i) (0:Int)).length=L+1:=by simp[ak]; omega
  simp only[mV,aiA];rw[ait (by omega:(i:Int)<(L:Int)),aiw,hml,aa ais,<- hcy,AV N (c:=0) (a:=(m.getD i 0).toNat) (b:=d) (e:=0) (f:=cy) (by omega) rfl rfl rfl (by omega) hd (by omega) hcyl,hl,aa ais,aa (ait (by omega)),aa air,<- elo,<- ecy,hset,lw]
 ·simp only[mV];have hl:(dlq S L++List.replicate (L+1 - L) (0:Int)).length=L+1:=by simp[ak]
  have hSl:S<18446744073709551616 ^ (L+1):=by
   rw[hS,aiG];have h1:=ajl (akJ hx) (akJ hd);obtain⟨P,hP⟩:∃ P,18446744073709551616 ^ L=P+1:=⟨18446744073709551616 ^ L - 1,by have:=aX L; omega⟩
   rw[hP]at h1 ⊢;omega
  have ee:(au (m.take L)*d+e) / 18446744073709551616 ^ L=S / 18446744073709551616 ^ L%18446744073709551616:=by rw[aiR (by omega),hmv,<- hS,aiE];rw[aiD (aX L),aix,<- aiG]; exact hSl
  rw[aiu (by omega:¬(L:Int)<(L:Int)),aiv,hl,ee,aiA,uz S L (L+1) (by omega),aa ais,aa (ait (by omega)),ai4,ai8,ai3,lh _ (gy _ _) (by rw[ak]; omega) (by rw[ak]; omega),m0 hSl]
def zU (x0 y0 a b c d:Nat) (odd:Bool):Prop:=
 ∃ p q,x0=d*p+b*q/\y0=c*p+a*q/\(cond odd (b*c=a*d+1) (a*d=b*c+1))/\a<=b/\c<=d/\d<=q/\q+b+d<=p/\1<=b/\1<=c/\b<18446744073709551616/\d<18446744073709551616
def Im {N:Nat} {x0 y0:Nat} (hx0:x0<18446744073709551616) (hy0:y0<18446744073709551616) (t1 t2 t3 t4:Int) (t5:Bool) :
  ∀ y x u v a b c d odd M,y<M->y<=x->x0=v*x+d*y->y0=u*x+c*y->(cond odd (c*v=d*u+1) (d*u=c*v+1))->1<=v ->
   ((d=0/\u=0/\b=0/\c=1/\v=1)\/(1<=u/\c<=d/\u<=v/\(b=0\/zU x0 y0 a b c d odd))) ->
   ∃ a' b' c' d':Nat,∃ odd',(b'=0\/zU x0 y0 a' b' c' d' odd') /\ ∀ e0,ah M (oS N t1 t2 t3 t4 t5 e0) ((x:Int),(y:Int),(u:Int),(v:Int),(a:Int),(b:Int),(c:Int),(d:Int),odd)=e0 (a':Int) (b':Int) (c':Int) (d':Int) odd':=by
 intro y;induction y using Nat.strongRecOn with
 | ind y ih=>
 intro x u v a b c d odd M hM hyx h1 h2 hdet hv hor;obtain⟨M,rfl⟩:∃ m,M=m+1:=⟨M - 1,by omega⟩
 have hend:b=0\/zU x0 y0 a b c d odd:=by
  rcases hor with h | h
  ·exact .inl h.2.2.1
  ·exact h.2.2.2
 by_cases c1:v<=y
 ·have hy1:1<=y:=by omega
  have b1:v*1<=v*x:=aiB _ (by omega);have b2:d*1<=d*y:=aiB _ hy1;have w1:IntKind.wrap .u64 ((x:Int) - (y:Int))=((x - y:Nat):Int):=by have:1*x<=v*x:=aiy _ hv;rw[aq]; omega
  have w2:IntKind.wrap .u64 ((d:Int)+(v:Int))=((d+v:Nat):Int):=by rw[aq]; omega
  by_cases c2:d+v<=x - y
  ·-- one step more
   obtain⟨q,hq⟩:∃ q,q=x / y:=⟨_,rfl⟩
   obtain⟨r,hr⟩:∃ r,r=x%y:=⟨_,rfl⟩
   have hxq:x=q*y+r:=by rw[hq,hr]; exact(ajr x y).symm
   have hry:r<y:=by rw[hr]; exact aiJ _ hy1
   have hq1:1<=q:=by rw[hq]; exact akQ hyx hy1
   have n1:x0=(d+q*v)*y+v*r:=by rw[h1,hxq]; grind
   have n2:y0=(c+q*u)*y+u*r:=by rw[h2,hxq]; grind
   have m1:(d+q*v)*1<=(d+q*v)*y:=aiB _ hy1;have m2:(c+q*u)*1<=(c+q*u)*y:=aiB _ hy1;have hvq:v<=d+q*v:=by have:=aiy v hq1;omega
   have hg:∀(e0:Int->Int->Int->Int->Bool->Bool),ah (M+1) (oS N t1 t2 t3 t4 t5 e0) ((x:Int),(y:Int),(u:Int),(v:Int),(a:Int),(b:Int),(c:Int),(d:Int),odd)=ah M (oS N t1 t2 t3 t4 t5 e0) ((y:Int),(r:Int),((c+q*u:Nat):Int),((d+q*v:Nat):Int),(c:Int),(d:Int),(u:Int),(v:Int),!odd):=by
    intro e0;show oS N t1 t2 t3 t4 t5 e0 _ (ah M _)=_;simp only[oS];have y1:(!decide ((y:Int)=0))=true:=by simp; omega
    have ediv:Int.tdiv (x:Int) (y:Int)=(q:Int):=by rw[hq]; rfl
    have emod:Int.tmod (x:Int) (y:Int)=(r:Int):=by rw[hr]; rfl
    have wq:IntKind.wrap .u64 (q:Int)=(q:Int):=by have:q*1<=q*v:=aiB _ hv;rw[aq]; omega
    have wu:IntKind.wrap .u64 ((c:Int)+IntKind.wrap .u64 ((q:Int)*(u:Int)))=((c+q*u:Nat):Int):=by rw[<- aiQ,aq,aq]; omega
    have wv:IntKind.wrap .u64 ((d:Int)+IntKind.wrap .u64 ((q:Int)*(v:Int)))=((d+q*v:Nat):Int):=by rw[<- aiQ,aq,aq]; omega
    rw[ait (by omega:(y:Int)>=v),show(true==true)=true from rfl,aiw,w1,w2,ait (by omega),aiw,aa y1,aa y1,ediv,emod,wq,wu,wv]
   have hstep:=ih r hry y (c+q*u) (d+q*v) c d u v (!odd) M (by omega) (by omega) n1 n2 (by
    cases odd with
    | true=>
     simp only[aiw,ajm,aiv]at hdet ⊢;have:v*(c+q*u)=v*c+q*u*v:=by grind
     have:u*(d+q*v)=u*d+q*u*v:=by grind
     have:c*v=v*c:=aix _ _;have:d*u=u*d:=aix _ _;omega
    | false=>
     simp only[aiw,ai7,aiv]at hdet ⊢;have:u*(d+q*v)=u*d+q*u*v:=by grind
     have:v*(c+q*u)=v*c+q*u*v:=by grind
     have:c*v=v*c:=aix _ _;have:d*u=u*d:=aix _ _;omega) (by omega) (by
    refine .inr ?_;rcases hor with⟨k1,k2,k3,k4,k5⟩ | ⟨k1,k2,k3,k4⟩
    ·subst k1 k2 k4 k5;exact⟨by omega,by omega,by omega,.inl rfl⟩
    ·have hu1:u<=c+q*u:=by have:=aiy u hq1;omega
     refine⟨by omega,k3,?_,?_⟩
     ·have:=aiB q k3;omega
     ·rcases ajM d with hd0 | hd0
      ·exact .inl hd0
      ·refine .inr ⟨x,y,h1,h2,?_,k2,k3,c1,by omega,hd0,k1,by omega,by omega⟩;cases odd with
       | true=>simp only[ajm,aiv,aiw]at hdet ⊢; exact hdet
       | false=>simp only[ai7,aiw,aiv]at hdet ⊢; exact hdet)
   obtain⟨a',b',c',d',odd',g1,g2⟩:=hstep;exact⟨a',b',c',d',odd',g1,λe0=>by rw[hg,g2]⟩
  ·refine⟨a,b,c,d,odd,hend,λe0=>?_⟩;show oS N t1 t2 t3 t4 t5 e0 _ (ah M _)=_;simp only[oS];rw[ait (by omega:(y:Int)>=v),show(true==true)=true from rfl,aiw,w1,w2,aiu (by omega),aiv]
 ·refine⟨a,b,c,d,odd,hend,λe0=>?_⟩;show oS N t1 t2 t3 t4 t5 e0 _ (ah M _)=_;simp only[oS];rw[aiu (by omega:¬(y:Int)>=v),show(false==true)=false from rfl,aiv]
def Ky {N:Nat} (hN:1180591620717411303424<=N) {x0 y0:Nat} (hx0:x0<18446744073709551616) (hyx:y0<=x0):∃ a b c d:Nat,∃ odd,(b=0\/zU x0 y0 a b c d odd) /\ ∀ k,tN N (x0:Int) (y0:Int) k=k (a:Int) (b:Int) (c:Int) (d:Int) odd:=by obtain⟨a,b,c,d,odd,h1,h2⟩:=Im (N:=N) (x0:=x0) (y0:=y0) hx0 (by omega) 0 0 0 0 false y0 x0 0 1 0 0 1 0 true N (by omega) hyx (by omega) (by omega) rfl (aiH _) (.inl ⟨rfl,rfl,rfl,rfl,rfl⟩);exact⟨a,b,c,d,odd,h1,λk=>by unfold tN; rw[ae]; exact h2 _⟩
def JH {x0 y0 a b c d F rx ry X Y:Nat} (h:zU x0 y0 a b c d true) (hrx:rx<F) (hry:ry<F) (hX:X=x0*F+rx) (hY:Y=y0*F+ry) :
  a*X<=b*Y/\d*Y<=c*X/\c*X - d*Y<=b*Y - a*X/\X=d*(b*Y - a*X)+b*(c*X - d*Y)/\Y=c*(b*Y - a*X)+a*(c*X - d*Y):=by
 obtain⟨p,q,h1,h2,hdet,hab,hcd,hdq,hpq,hb1,hc1,hbl,hdl⟩:=h;simp only[aiw]at hdet;have e1:b*Y+a*rx=a*X+(p*F+b*ry):=by
  subst h1 h2 hX hY;have:b*(c*p*F)=(a*d+1)*(p*F):=by rw[<- hdet]; grind
  grind
 have e2:c*X+d*ry=d*Y+(q*F+c*rx):=by
  subst h1 h2 hX hY;have:b*c*(q*F)=(a*d+1)*(q*F):=by rw[<- hdet]
  grind
 have m1:a*rx<=a*F:=aiB _ (by omega);have m2:a*F<=b*F:=aiy _ hab;have m3:d*ry<=d*F:=aiB _ (by omega);have m4:d*F<=q*F:=aiy _ hdq;have m5:(q+b+d)*F<=p*F:=aiy _ hpq;rw[aiY,aiY]at m5;have m6:c*rx<=c*F:=aiB _ (by omega);have m7:c*F<=d*F:=aiy _ hcd;have g1:a*X<=b*Y:=by omega
 have g2:d*Y<=c*X:=by omega
 refine⟨g1,g2,by omega,?_,?_⟩
 ·obtain⟨U,hU⟩:=aj9 g1;obtain⟨V,hV⟩:=aj9 g2;rw[<- hU,<- hV,ai9,ai9];have t1:d*(b*Y)=d*(a*X)+d*U:=by rw[<- hU,aiL]
  have t2:b*(c*X)=b*(d*Y)+b*V:=by rw[<- hV,aiL]
  have t3:b*(c*X)=(a*d+1)*X:=by rw[<- hdet,aiF]
  have t4:(a*d+1)*X=d*(a*X)+X:=by grind
  have t5:d*(b*Y)=b*(d*Y):=by grind
  omega
 ·obtain⟨U,hU⟩:=aj9 g1;obtain⟨V,hV⟩:=aj9 g2;rw[<- hU,<- hV,ai9,ai9];have t1:c*(b*Y)=c*(a*X)+c*U:=by rw[<- hU,aiL]
  have t2:a*(c*X)=a*(d*Y)+a*V:=by rw[<- hV,aiL]
  have t3:c*(b*Y)=(a*d+1)*Y:=by rw[<- hdet]; grind
  have t4:(a*d+1)*Y=a*(d*Y)+Y:=by grind
  have t5:c*(a*X)=a*(c*X):=by grind
  omega
def GY {x0 y0 a b c d F rx ry X Y:Nat} (h:zU x0 y0 a b c d false) (hrx:rx<F) (hry:ry<F) (hX:X=x0*F+rx) (hY:Y=y0*F+ry) :
  b*Y<=a*X/\c*X<=d*Y/\d*Y - c*X<=a*X - b*Y/\X=d*(a*X - b*Y)+b*(d*Y - c*X)/\Y=c*(a*X - b*Y)+a*(d*Y - c*X):=by
 obtain⟨p,q,h1,h2,hdet,hab,hcd,hdq,hpq,hb1,hc1,hbl,hdl⟩:=h;simp only[aiv]at hdet;have e1:a*X+b*ry=b*Y+(p*F+a*rx):=by
  subst h1 h2 hX hY;have:a*d*(p*F)=(b*c+1)*(p*F):=by rw[<- hdet]
  grind
 have e2:d*Y+c*rx=c*X+(q*F+d*ry):=by
  subst h1 h2 hX hY;have:a*d*(q*F)=(b*c+1)*(q*F):=by rw[<- hdet]
  grind
 have m1:b*ry<=b*F:=aiB _ (by omega);have m3:c*rx<=c*F:=aiB _ (by omega);have m4:d*F<=q*F:=aiy _ hdq;have m5:(q+b+d)*F<=p*F:=aiy _ hpq;rw[aiY,aiY]at m5;have m6:d*ry<=d*F:=aiB _ (by omega);have m7:c*F<=d*F:=aiy _ hcd;have g1:b*Y<=a*X:=by omega
 have g2:c*X<=d*Y:=by omega
 refine⟨g1,g2,by omega,?_,?_⟩
 ·obtain⟨U,hU⟩:=aj9 g1;obtain⟨V,hV⟩:=aj9 g2;rw[<- hU,<- hV,ai9,ai9];have t1:d*(a*X)=d*(b*Y)+d*U:=by rw[<- hU,aiL]
  have t2:b*(d*Y)=b*(c*X)+b*V:=by rw[<- hV,aiL]
  have t3:d*(a*X)=(b*c+1)*X:=by rw[<- hdet]; grind
  have t4:(b*c+1)*X=b*(c*X)+X:=by grind
  have t5:d*(b*Y)=b*(d*Y):=by grind
  omega
 ·obtain⟨U,hU⟩:=aj9 g1;obtain⟨V,hV⟩:=aj9 g2;rw[<- hU,<- hV,ai9,ai9];have t1:c*(a*X)=c*(b*Y)+c*U:=by rw[<- hU,aiL]
  have t2:a*(d*Y)=a*(c*X)+a*V:=by rw[<- hV,aiL]
  have t3:a*(d*Y)=(b*c+1)*Y:=by rw[<- hdet]; grind
  have t4:(b*c+1)*Y=c*(b*Y)+Y:=by grind
  have t5:c*(a*X)=a*(c*X):=by grind
  omega
def wV {X Y U V a b c d:Nat} (h1:X=d*U+b*V) (h2:Y=c*U+a*V) (hU:Nat.gcd X Y∣U) (hV:Nat.gcd X Y∣V):Nat.gcd U V=Nat.gcd X Y:=by
 refine Nat.dvd_antisymm (Nat.dvd_gcd ?_ ?_) (Nat.dvd_gcd hU hV)
 ·rw[h1];exact Nat.dvd_add (aiT (ajk _ _) _) (aiT (ajF _ _) _)
 ·rw[h2];exact Nat.dvd_add (aiT (ajk _ _) _) (aiT (ajF _ _) _)
def Kj {N:Nat} {x0 y0 a b c d F rx ry X Y:Nat} {odd:Bool} (h:zU x0 y0 a b c d odd) (hrx:rx<F) (hry:ry<F) (hX:X=x0*F+rx) (hY:Y=y0*F+ry) (hY0:0<Y) (sX:(af X).length+10<N/\(af X).length<=1099511627000) (sY:(af Y).length+10<N/\(af Y).length<=1099511627000) :
  ∃ U V,V<=U/\U+V<X+Y/\U<=X/\Nat.gcd U V=Nat.gcd X Y /\ ∀ k,eV N (a:Int) (b:Int) (c:Int) (d:Int) odd (af X) (af Y) k=k (af U) (af V):=by
 have hb:=h;obtain⟨p,q,h1,h2,hdet,hab,hcd,hdq,hpq,hb1,hc1,hbl,hdl⟩:=hb;have len1:∀ z e:Nat,(af z).length+10<N/\(af z).length<=1099511627000->e<18446744073709551616->mu N (af (z*e+0)):=by
  intro z e hz he;have:=fR ((af z).length+1) (z*e+0) (by rw[ai1,aiG]; exact ajx (kb z) he)
  exact⟨by omega,by omega⟩
 have fin:∀ U V:Nat,X=d*U+b*V->Y=c*U+a*V->V<=U->U+V<X+Y/\U<=X:=by
  intro U V hx hy hvu;have k1:1*U<=d*U:=aiy _ (by omega);have k2:1*V<=b*V:=aiy _ hb1;have k3:1*U<=c*U:=aiy _ hc1;have hU0:0<U:=by
   rcases ajM U with hu | hu
   ·exfalso;have hv:V=0:=by omega
    rw[hu,hv,ajP,ajP]at hy;omega
   ·exact hu
  exact⟨by omega,by omega⟩
 cases odd with
 | true=>
  obtain⟨g1,g2,g3,g4,g5⟩:=JH h hrx hry hX hY;obtain⟨f1,f2⟩:=fin _ _ g4 g5 g3;refine⟨b*Y - a*X,c*X - d*Y,g3,f1,f2,wV g4 g5 ?_ ?_,λk=>?_⟩
  ·exact akS (aiT (ajF _ _) _) (aiT (ajk _ _) _)
  ·exact akS (aiT (ajk _ _) _) (aiT (ajF _ _) _)
  ·(unfold eV; rw[ae]; unfold eD)
   have m:=λ(z e:Nat) (he:e<18446744073709551616) (hz:mu N (af z)) (kk:List Int->Bool)=>FK (N:=N) (e:=0) he (by decide) hz kk
   rw[show((0:Nat):Int)=0 from rfl]at m;rw[aiw,m Y b hbl ⟨by omega,by omega⟩,m X a (by omega) ⟨by omega,by omega⟩,oc _ _ (aU _) (aU _) (by rw[aC,aC,ai1,ai1,aix X,aix Y]; exact g1) (len1 Y b sY hbl),m X c (by omega) ⟨by omega,by omega⟩,m Y d hdl ⟨by omega,by omega⟩,oc _ _ (aU _) (aU _) (by rw[aC,aC,ai1,ai1,aix X,aix Y]; exact g2) (len1 X c sX (by omega)),aC,aC,aC,aC,ai1,ai1,ai1,ai1,aix Y b,aix X a,aix X c,aix Y d]
 | false=>
  obtain⟨g1,g2,g3,g4,g5⟩:=GY h hrx hry hX hY;obtain⟨f1,f2⟩:=fin _ _ g4 g5 g3;refine⟨a*X - b*Y,d*Y - c*X,g3,f1,f2,wV g4 g5 ?_ ?_,λk=>?_⟩
  ·exact akS (aiT (ajk _ _) _) (aiT (ajF _ _) _)
  ·exact akS (aiT (ajF _ _) _) (aiT (ajk _ _) _)
  ·(unfold eV; rw[ae]; unfold eD)
   have m:=λ(z e:Nat) (he:e<18446744073709551616) (hz:mu N (af z)) (kk:List Int->Bool)=>FK (N:=N) (e:=0) he (by decide) hz kk
   rw[show((0:Nat):Int)=0 from rfl]at m;rw[aiv,m X a (by omega) ⟨by omega,by omega⟩,m Y b hbl ⟨by omega,by omega⟩,oc _ _ (aU _) (aU _) (by rw[aC,aC,ai1,ai1,aix X,aix Y]; exact g1) (len1 X a sX (by omega)),m Y d hdl ⟨by omega,by omega⟩,m X c (by omega) ⟨by omega,by omega⟩,oc _ _ (aU _) (aU _) (by rw[aC,aC,ai1,ai1,aix X,aix Y]; exact g2) (len1 Y d sY hdl),aC,aC,aC,aC,ai1,ai1,ai1,ai1,aix Y b,aix X a,aix X c,aix Y d]
def I0 (N x:Nat) (k:Kz5):uT N (af x) k=k ((x%18446744073709551616:Nat):Int):=by unfold uT B8;have:=od N (af x) 0 (by omega) k;rw[show((0:Nat):Int)=0 from rfl]at this;rw[this,ox,akn,aki]
def Fa {N:Nat} (e0:Int->Bool):∀(b a M:Nat),b<M->ah M (fG N e0) ((a:Int),(b:Int))=e0 ((Nat.gcd a b:Nat):Int):=by
 intro b;induction b using Nat.strongRecOn with
 | ind b ih=>
 intro a M hM;obtain⟨M,rfl⟩:∃ m,M=m+1:=⟨M - 1,by omega⟩
 show fG N e0 ((a:Int),(b:Int)) (ah M _)=_;simp only[fG];by_cases h:b=0
 ·subst h;rw[aiu (by omega),aiv,akX]
 ·have y1:(!decide ((b:Int)=0))=true:=by simp; omega
  have emod:Int.tmod (a:Int) (b:Int)=((a%b:Nat):Int):=rfl;rw[ait (by omega),aiw,aa y1,emod,ih (a%b) (aiJ _ (by omega)) b M (by have:=aiJ a (by omega:b>0); omega),ajJ b,<- alu,ajJ]
def wc {y:Nat} (h:(af y).length<=1):y<18446744073709551616:=by have:=kb y;have h2:18446744073709551616 ^ (af y).length<=18446744073709551616 ^ 1:=aiK (by decide) h;rw[als]at h2;omega
def Aj {N:Nat} (hN:1180591620717411303424<=N) {u v:List Int} {x y:Nat} (hy:(af y).length<=1) (hx:y=0\/(af x).length<=1) (k:Kz9) :
  yo N u v (af x) (af y) k=k (af (Nat.gcd x y)):=by
 unfold yo;have hyl:=wc hy;by_cases h:y=0
 ·subst h;rw[bc,akX]; rfl
 ·have e0:((((af y).length:Nat):Int)==0)=false:=by rw[bW h]; simp; omega
  have hxl:=wc (hx.resolve_left h);rw[e0,aiv,I0,I0,aiE hxl,aiE hyl,Fa _ y x N (by omega)];refine uH (by omega) _ ?_ k;have:=akw x (akY h);omega
def E4 {N:Nat} (hN:1180591620717411303424<=N) {u v:List Int} (k:Kz9) :
  ∀ s x y,x+y=s->s<N->y<=x->(af x).length<=1099511626000 ->
   OM N u v (af x) (af y) k=k (af (Nat.gcd x y)):=by
 intro s x y hs hsN hyx hxl;unfold OM;have main:∀ s x y M,x+y=s->s<M->M<=N->y<=x->(af x).length<=1099511626000 ->
   ah M (GD N (λ(X9:List Int) (ZJ:List Int)=>(cond ((decide ((((List.length ZJ):Nat):Int)>0))==true) (cond (decide ((((List.length X9):Nat):Int)>1)) (Bf N X9 ZJ (λ(Xh:List Int) (Xg:List Int)=>(yo N u v ZJ Xg k))) (yo N u v X9 ZJ k)) (yo N u v X9 ZJ k)))) (af x,af y)=k (af (Nat.gcd x y)):=by
  intro s;induction s using Nat.strongRecOn with
  | ind s ih=>
  intro x y M hs hsM hMN hyx hxl;obtain⟨M,rfl⟩:∃ m,M=m+1:=⟨M - 1,by omega⟩
  have hyl:=dB hyx;show GD N _ (af x,af y) (ah M _)=_;simp only[GD];by_cases h2:2<=(af y).length
  ·have hyge:18446744073709551616<=y:=by
    rcases ajs y 18446744073709551616 with h | h
    ·have:=fR 1 y (by rw[als]; exact h); omega
    ·exact h
   have hblx:64<bl x:=by
    rcases ajs 64 (bl x)with h | h
    ·exact h
    ·have h1:=yu x;have h3:2 ^ bl x<=2 ^ 64:=aiK (by decide) h;rw[oL]at h3;omega
   have hblu:bl x<=64*(af x).length:=by refine wR ?_;rw[aln,oL]; exact kb x
   obtain⟨f,hf⟩:∃ f,bl x=f+64:=⟨bl x - 64,by omega⟩
   have ef:(bl x:Int) - 64=(f:Int):=by omega
   have hF0:0<2 ^ f:=aiI f;have hx0l:x / 2 ^ f<18446744073709551616:=by rw[aiD hF0,<- oL,<- aiN,akm,<- hf]; exact yu x
   have hy0l:y / 2 ^ f<=x / 2 ^ f:=akI hyx;rw[ait (by omega),aiw,FE (by omega),ef,aa air,I2 (by omega),I2 (by omega),aiE hx0l,aiE (by omega)];obtain⟨a,b,c,d,odd,g1,g2⟩:=Ky hN hx0l hy0l;rw[g2];by_cases hb:b=0
   ·subst hb;rw[show(((0:Nat):Int) != 0)=false from rfl,aiv,li hN (by omega) (by omega) (by omega)];have hm:=aiJ x (by omega:y>0);rw[ih (y+x%y) (by omega) y (x%y) M rfl (by omega) (by omega) (by omega) (by omega),ajJ y,<- alu,ajJ]
   ·have hbn:((b:Int) != 0)=true:=by simp; omega
    rw[hbn,aiw];obtain⟨U,V,k1,k2,k3,k4,k5⟩:=Kj (N:=N) (g1.resolve_left hb) (aiJ x hF0) (aiJ y hF0) (ajr x (2 ^ f)).symm (ajr y (2 ^ f)).symm (by omega) ⟨by omega,by omega⟩ ⟨by omega,by omega⟩;have hUl:=dB k3;rw[k5,ih (U+V) (by omega) U V M rfl (by omega) (by omega) k1 (by omega),k4]
  ·rw[aiu (by omega),aiv];by_cases h0:y=0
   ·have:(((af y).length:Nat):Int)=0:=by rw[h0,bc]; rfl
    rw[this,aiu (by omega),show(false==true)=false from rfl,aiv,Aj hN (by omega) (.inl h0)]
   ·have hpos:0<(af y).length:=by rw[bW h0]; simp
    rw[ait (by omega),show(true==true)=true from rfl,aiw];by_cases h1:1<(af x).length
    ·have hm:=aiJ x (akY h0);have hml:=dB (Nat.le_of_lt hm);rw[ait (by omega),aiw,li hN (akY h0) (by omega) (by omega),Aj hN (by omega) (.inr (by omega)),ajJ y,<- alu,ajJ]
    ·rw[aiu (by omega),aiv,Aj hN (by omega) (.inr (by omega))]
 exact main s x y N hs hsN (aiH _) hyx hxl
def FF {N:Nat} (hN:1180591620717411303424<=N) {x y:Nat} (hf:x+y<N) (hxl:(af x).length<=1099511626000) (hyl:(af y).length<=1099511626000) (k:Kz9):BX N (af x) (af y) k=k (af (Nat.gcd x y)):=by
 (unfold BX; rw[ae]; unfold Q7)
 rw[iV x y ⟨by omega,by omega⟩ ⟨by omega,by omega⟩];by_cases h:x<y
 ·have hc:decide (dL x y<0)=true:=by unfold dL; rw[if_pos h]; rfl
  rw[hc,aiw,E4 hN _ (y+x) y x rfl (by omega) (by omega) hyl,ajJ]
 ·have hc:decide (dL x y<0)=false:=by unfold dL; rw[if_neg h]; split <;> rfl
  rw[hc,aiv,E4 hN _ (x+y) x y rfl hf (by omega) hxl]
def Fuel (N:Nat):Prop:=∃ E,4398046511104<=E/\2 ^ E<=N
def Fuel.lt {N:Nat} (h:Fuel N):4398046511104<N:=by obtain⟨E,h1,h2⟩:=h;have:E<2 ^ E:=Nat.lt_two_pow_self;omega
def Fuel.sum {N C x y:Nat} (h:Fuel N) (hC:C<=4398046511000) (hx:aS C x) (hy:aS C y):x+y<N:=by obtain⟨E,h1,h2⟩:=h;have h3:2 ^ (C+1)<=2 ^ E:=aiK (by decide) (by omega);rw[aiG]at h3;unfold aS at hx hy;omega
def Fuel.big {N:Nat} (h:Fuel N):1180591620717411303424<=N:=by
 obtain⟨E,h1,h2⟩:=h;have h3:2 ^ 70<=2 ^ E:=aiK (by decide) (by omega);have e:(2:Nat) ^ 70=1180591620717411303424:=by decide
 rw[e]at h3;exact aiU h3 h2
def zo {B n:Nat} (hB:B<=2000000000100) (h:aS B n):(af n).length<=31250000003:=by have:=JL h; omega
def kr (z:Int) (d:Nat) (k:Kx6):Bool:=k (decide (z<0)) (af z.natAbs) false (af d)
def kq (x:Rat) (k:Kx6):Bool:=kr x.num x.den k
def Fr (g:Bool) (n d:Nat) (k:Kx6):k (sg g n) (af n) false (af d)=kr (aV g n) d k:=Gc g n (λa b=>k a b false (af d))
def DD {N:Nat} (g:Bool) (n:Nat) (l:List Int) (b1 b2:Bool) (k:Ky4):KY N g (af n) l b1 b2 k=k (sg g n) false:=by
 (unfold KY; rw[ae]; unfold QU KW OI PR Q5)
 cases g
 ·rfl
 ·simp only[p_,sg,ajy]; rfl
def Kr {N:Nat} (g b:Bool) (n:Nat) (k:Kz4):DY N g (af n) b k=k (sg g n):=by
 unfold DY Uc;cases g
 ·rfl
 ·simp only[p_,sg,ajy]; rfl
def O_ (g:Bool) (n:Nat):aV (sg g n) n=aV g n:=by
 unfold aV sg;cases g
 ·rfl
 ·by_cases h:n=0
  ·subst h; rfl
  ·rw[ait h]; rfl
def Kt {N:Nat} (g1:Bool) (n1:Nat) (g2:Bool) (n2:Nat) (h1:mu N (af n1)) (h2:mu N (af n2)) (k:Ky5) :
  PN N g2 (af n2) g1 (af n1) k=tm (aV g1 n1+aV g2 n2) k:=by
 (unfold PN; rw[ae]; unfold Q0)
 rw[Nt _ _ (aU _) (aU _) h1 h2,iV _ _ h1 h2,aC,aC,oH g2 _ _ (n1+n2) k,<- Ip];congr 1;by_cases h:n2<=n1
 ·rw[oc _ _ (aU _) (aU _) (by rw[aC,aC]; exact h) h1,aC,aC,oH g1 _ _ (n1 - n2) k,uv,ait h];rfl
 ·rw[oc _ _ (aU n2) (aU n1) (by rw[aC,aC]; omega) h2,aC,aC,oH g2 _ _ (n2 - n1) k,uv,aiu h];rfl
def Nz {N:Nat} (hF:Fuel N) {x y:Nat} (hy:0<y) (hxl:(af x).length<=1099511627000) (hyl:(af y).length<=1099511627000) (k:Kz9):wr N (af x) (af y) k=k (af (x / y)):=by
 have hj:nM N (af x) (af y) k=k (af (x / y)):=by unfold nM;rw[li hF.big hy hxl hyl]
 (unfold wr; rw[ae]; unfold Rz)
 by_cases h1:(af y).length=1
 ·have e:((((af y).length:Nat):Int)==1)=true:=by rw[h1]; rfl
  rw[e,show(true==true)=true from rfl,aiw,aa ais];have hyw:=qU (by omega:y ≠ 0) (wc (by omega));by_cases h2:y=1
  ·have:((af y).getD 0 0==1)=true:=by rw[hyw,h2]; rfl
   rw[this,aiw,h2,aki]
  ·have:((af y).getD 0 0==1)=false:=by rw[hyw]; simp; omega
   rw[this,aiv,hj]
 ·have e:((((af y).length:Nat):Int)==1)=false:=by simp; omega
  rw[e,show(false==true)=false from rfl,aiv,hj]
def gi {N:Nat} (a:Bool) (l:List Int) (b:Bool) {d:Nat} (hd:d ≠ 0) (k:Kz9):BW N a l b (af d) k=k (af d):=by
 unfold BW Uf;have:((((af d).length:Nat):Int)==0)=false:=by rw[bW hd]; simp; omega
 rw[this]; rfl
def FT {N:Nat} (a:Bool) (l:List Int) (b:Bool) {d:Nat} (hd:d ≠ 0) (k:Kz9):TT N a l b (af d) k=k (af d):=by
 unfold TT Up;have:((((af d).length:Nat):Int)==0)=false:=by rw[bW hd]; simp; omega
 rw[this]; rfl
def uK {N B:Nat} (hF:Fuel N) (hB:B<=2000000000100) {a b:Nat} (ha:aS B a) (hb:aS B b) (k:Kz9):zt N (af a) (af b) k=k (af (a*b)):=by have h1:=zo hB ha;have h2:=zo hB hb;have:=hF.lt;rw[Hz _ _ (aU _) (aU _) (by omega) (by omega),aC,aC]
def w6 {N B:Nat} (hF:Fuel N) (hB:B<=2000000000100) {a b:Nat} (ha:aS B a) (hb:aS B b) (k:Kz9):BX N (af a) (af b) k=k (af (Nat.gcd a b)):=by have h1:=zo hB ha;have h2:=zo hB hb;rw[FF hF.big (hF.sum (by omega) ha hb) (by omega) (by omega)]
def pq {N B:Nat} (hF:Fuel N) (hB:B<=2000000000100) {a b:Nat} (h0:0<b) (ha:aS B a) (hb:aS B b) (k:Kz9):wr N (af a) (af b) k=k (af (a / b)):=by have h1:=zo hB ha;have h2:=zo hB hb;rw[Nz hF h0 (by omega) (by omega)]
def q_ {N B:Nat} (hB:B<=2000000000100) {a:Nat} (ha:aS B a) (k:Kz9):rY N (af a) k=k (af a):=by have h1:=zo hB ha;rw[xR _ (by omega)]
def cd {B a b:Nat} (h:aS B a):aS B (a / b):=mP h (aj3 _ _)
def Oj {N B n:Nat} (hF:Fuel N) (hB:B<=2000000000100) (h:aS B n):mu N (af n):=by have h1:=zo hB h;have:=hF.lt;exact⟨by omega,by omega⟩
def Bq (B:Nat) (x:Rat):Prop:=aS B x.num.natAbs/\aS B x.den
def Bq.mono {A B:Nat} {x:Rat} (h:Bq A x) (hAB:A<=B):Bq B x:=⟨bN h.1 hAB,bN h.2 hAB⟩
def tn (z:Int) (f:Nat):aV (decide (z<0)) (z.natAbs*f)=z*f:=by
 unfold aV;by_cases h:z<0
 ·rw[ait h,if_pos rfl];have:(z.natAbs:Int) = -z:=by omega
  rw[aiQ,this,alF,Int.neg_neg]
 ·rw[aiu h,if_neg (by decide)];have:(z.natAbs:Int)=z:=by omega
  rw[aiQ,this]
def AG {z:Int} {h:Nat} (h0:0<h) (hd:h∣z.natAbs):aV (decide (z<0)) (z.natAbs / h)=z / (h:Int):=by
 obtain⟨q,hq⟩:=hd;rw[hq,ai5 _ h0];unfold aV;have hh:(h:Int) ≠ 0:=by omega
 by_cases hz:z<0
 ·rw[ait hz,if_pos rfl];have:z=(h:Int)*(-(q:Int)):=by
   have e:(z.natAbs:Int)=(h:Int)*q:=by rw[hq,aiQ]
   rw[alo,<- e]; omega
  rw[this,aks _ hh]
 ·rw[aiu hz,if_neg (by decide)];have:z=(h:Int)*(q:Int):=by
   have e:(z.natAbs:Int)=(h:Int)*q:=by rw[hq,aiQ]
   rw[<- e]; omega
  rw[this,aks _ hh]
def Mq (x y:Rat):(x+y).num=(x.num*((y.den / Nat.gcd x.den y.den:Nat):Int)+y.num*((x.den / Nat.gcd x.den y.den:Nat):Int)) / ((Nat.gcd (x.num*((y.den / Nat.gcd x.den y.den:Nat):Int)+y.num*((x.den / Nat.gcd x.den y.den:Nat):Int)).natAbs (Nat.gcd x.den y.den):Nat):Int)
  /\ (x+y).den=x.den / Nat.gcd x.den y.den*(y.den / Nat.gcd (x.num*((y.den / Nat.gcd x.den y.den:Nat):Int)+y.num*((x.den / Nat.gcd x.den y.den:Nat):Int)).natAbs (Nat.gcd x.den y.den)):=by
 have aux:=Rat.add.aux x y (g:=Nat.gcd x.den y.den) rfl rfl rfl;simp only at aux;have hx:=x.den_pos;have hy:=y.den_pos;obtain⟨g,hg⟩:∃ g,g=Nat.gcd x.den y.den:=⟨_,rfl⟩
 rw[<- hg]at aux ⊢;have hg0:0<g:=by rw[hg]; exact Nat.gcd_pos_of_pos_left _ hx
 have hgx:g∣x.den:=by rw[hg]; exact ajk _ _
 have hgy:g∣y.den:=by rw[hg]; exact ajF _ _
 obtain⟨e,he⟩:∃ e,e=x.den / g:=⟨_,rfl⟩
 obtain⟨f,hf⟩:∃ f,f=y.den / g:=⟨_,rfl⟩
 rw[<- he,<- hf]at aux ⊢;have ex:x.den=e*g:=by rw[he,Nat.div_mul_cancel hgx]
 have ey:y.den=f*g:=by rw[hf,Nat.div_mul_cancel hgy]
 obtain⟨n,hn⟩:∃ n,n=x.num*(f:Int)+y.num*(e:Int):=⟨_,rfl⟩
 rw[<- hn]at aux ⊢;have hsum:x+y=mkRat n (e*y.den):=by
  rw[Rat.add_def'];have e1:x.num*(y.den:Int)+y.num*(x.den:Int)=n*(g:Int):=by rw[ex,ey,hn]; simp only[aiQ]; grind
  have e2:x.den*y.den=e*y.den*g:=by rw[ex]; grind
  rw[e1,e2,Rat.mkRat_mul_right (by omega)]
 have he0:0<e:=by
  rcases ajM e with h | h
  ·rw[h,ajT]at ex; omega
  ·exact h
 have hd0:e*y.den ≠ 0:=by have:=aku he0 hy; omega
 have hhy:Nat.gcd n.natAbs g∣y.den:=Nat.dvd_trans (ajF _ _) hgy;constructor
 ·rw[hsum,alG,if_neg hd0,ajJ,<- aux]
 ·rw[hsum,alH,if_neg hd0,ajJ,<- aux,Nat.mul_div_assoc _ hhy]
def Cd {A:Nat} {z w:Int} (hz:aS A z.natAbs) (hw:aS A w.natAbs):aS (A+1) (z+w).natAbs:=mP (wQ hz hw) (by omega)
def ut {A B:Nat} {z:Int} {n:Nat} (hz:aS A z.natAbs) (hn:aS B n):aS (A+B) (z*(n:Int)).natAbs:=by rw[akf,ajp]; exact dI hz hn
def AR {N B:Nat} (hF:Fuel N) (hB:B<=1000000000000) {x y:Rat} (hx:Bq B x) (hy:Bq B y) (b1 b2:Bool) (k:Kx6) :
  PO N (decide (x.num<0)) (af x.num.natAbs) false (af x.den) (decide (y.num<0)) (af y.num.natAbs) false (af y.den) b1 b2 k=kq (x+y) k:=by
 (unfold PO; rw[ae]; unfold OJ)
 obtain⟨m1,m2⟩:=Mq x y;have hB2:B<=2000000000100:=by omega
 have hxd:=x.den_pos;have hyd:=y.den_pos;rw[gi _ _ _ x.den_nz,gi _ _ _ y.den_nz,w6 hF hB2 hx.2 hy.2];obtain⟨g,hg⟩:∃ g,g=Nat.gcd x.den y.den:=⟨_,rfl⟩
 rw[<- hg]at m1 m2 ⊢;have hg0:0<g:=by rw[hg]; exact Nat.gcd_pos_of_pos_left _ hxd
 have hgb:aS B g:=by rw[hg]; exact mP hx.2 (Nat.gcd_le_left _ hxd)
 have hgy:g∣y.den:=by rw[hg]; exact ajF _ _
 rw[pq hF hB2 hg0 hx.2 hgb,pq hF hB2 hg0 hy.2 hgb,uK hF hB2 hx.1 (cd hy.2),Kr,uK hF hB2 hy.1 (cd hx.2)];have hb1:=dI hx.1 (cd (b:=g) hy.2);have hb2:=dI hy.1 (cd (b:=g) hx.2);rw[Kt _ _ _ _ (Oj hF (by omega) hb1) (Oj hF (by omega) hb2),O_,tn,tn];have hnb:aS (B+B+1) (x.num*((y.den / g:Nat):Int)+y.num*((x.den / g:Nat):Int)).natAbs:=Cd (ut hx.1 (cd hy.2)) (ut hy.1 (cd hx.2));obtain⟨n,hn⟩:∃ n,n=x.num*((y.den / g:Nat):Int)+y.num*((x.den / g:Nat):Int):=⟨_,rfl⟩
 rw[<- hn]at m1 m2 hnb ⊢;have hB3:B+B+1<=2000000000100:=by omega
 unfold tm;dsimp only;rw[w6 hF hB3 hnb (bN hgb (by omega))];obtain⟨h,hh⟩:∃ h,h=Nat.gcd n.natAbs g:=⟨_,rfl⟩
 rw[<- hh]at m1 m2 ⊢;have hh0:0<h:=by rw[hh]; exact ajz _ hg0
 have hhb:aS B h:=by rw[hh]; exact mP hgb (akw _ hg0)
 rw[pq hF hB3 hh0 hnb (bN hhb (by omega)),q_ hB3 (cd hnb),pq hF hB2 hh0 hy.2 hhb,uK hF hB2 (cd hx.2) (cd hy.2),DD,Fr _ _ _ k,AG hh0 (by rw[hh]; exact ajk _ _),<- m1,<- m2];rfl
def Fz {N B:Nat} (hF:Fuel N) (hB:B<=1000000000000) {x y:Rat} (hx:Bq B x) (hy:Bq B y) (b1 b2:Bool) (k:Kx6) :
  TF N (decide (x.num<0)) (af x.num.natAbs) false (af x.den) b1 b2 (decide (y.num<0)) (af y.num.natAbs) false (af y.den) k=kq (x+y) k:=by
 rw[<- AR hF hB hx hy b1 b2 k]
 (unfold TF; rw[ae]; unfold QW; unfold PO; rw[ae]; unfold OJ)
 rw[gi _ _ _ x.den_nz,FT _ _ _ y.den_nz,gi _ _ _ x.den_nz,gi _ _ _ y.den_nz]
def Nb (g:Bool) (n:Nat):aV (!g) n = -(aV g n):=by unfold aV; cases g <;> simp
def iT (z:Int):aV (decide (z<0)) z.natAbs=z:=Na z
def Hx {N B:Nat} (hB:B<=2000000000100) {y:Rat} (hy:Bq B y) (b1 b2:Bool) (k:Kx6) :
  TV N (decide (y.num<0)) (af y.num.natAbs) false (af y.den) b1 b2 k=kq (-y) k:=by
 (unfold TV; rw[ae]; unfold Rs)
 rw[q_ hB hy.1,gi _ _ _ y.den_nz,q_ hB hy.2,DD,Fr _ _ _ k,Nb,iT];rfl
def FI {N B:Nat} (hF:Fuel N) (hB:B<=1000000000000) {x y:Rat} (hx:Bq B x) (hy:Bq B y) (k:Kx6) :
  cX N (decide (x.num<0)) (af x.num.natAbs) false (af x.den) (decide (y.num<0)) (af y.num.natAbs) false (af y.den) k=kq (x - y) k:=by
 (unfold cX jD; unfold Qv; rw[ae]; unfold Lo)
 rw[Hx (by omega) hy];unfold kq kr;dsimp only;have hny:Bq B (-y):=⟨by rw[Rat.neg_num,ak4]; exact hy.1,hy.2⟩
 rw[Fz hF hB hx hny,Rat.sub_eq_add_neg];rfl
def Pd {N B:Nat} (hF:Fuel N) (hB:B<=1000000000000) {x y:Rat} (hx:Bq B x) (hy:Bq B y) (k:Kx6) :
  eZ N (decide (x.num<0)) (af x.num.natAbs) false (af x.den) (decide (y.num<0)) (af y.num.natAbs) false (af y.den) k=kq (x+y) k:=by
 unfold eZ jF;rw[AR hF hB hx hy]
def NN (x w:Rat):(x*w).num=aV (decide (x.num<0)) (x.num.natAbs / Nat.gcd x.num.natAbs w.den)*aV (decide (w.num<0)) (w.num.natAbs / Nat.gcd w.num.natAbs x.den)
  /\ (x*w).den=x.den / Nat.gcd w.num.natAbs x.den*(w.den / Nat.gcd x.num.natAbs w.den):=by
 have H1:0<x.num.natAbs.gcd w.den:=ajz _ w.den_pos;have H2:0<w.num.natAbs.gcd x.den:=ajz _ x.den_pos;have d1:Nat.gcd x.num.natAbs w.den∣x.num.natAbs:=ajk _ _;have d2:Nat.gcd w.num.natAbs x.den∣w.num.natAbs:=ajk _ _;rw[AG H1 d1,AG H2 d2];have e1:(x*w).num=x.num.tdiv (Nat.gcd x.num.natAbs w.den:Nat)*w.num.tdiv (Nat.gcd w.num.natAbs x.den:Nat):=by
  show(Rat.mul x w).num=_
  delta Rat.mul
  simp only[Int.divExact_eq_tdiv]
 have e2:(x*w).den=x.den / Nat.gcd w.num.natAbs x.den*(w.den / Nat.gcd x.num.natAbs w.den):=by
  show(Rat.mul x w).den=_
  delta Rat.mul
  simp only[Nat.divExact_eq_div]
 refine⟨?_,e2⟩;rw[e1,Int.tdiv_eq_ediv_of_dvd (Int.ofNat_dvd_left.2 d1),Int.tdiv_eq_ediv_of_dvd (Int.ofNat_dvd_left.2 d2)]
def FO {N B:Nat} (hF:Fuel N) (hB:B<=1000000000000) {x w:Rat} (hx:Bq B x) (hw:Bq B w) (b1 b2:Bool) (k:Kx6) :
  PK N (decide (x.num<0) != decide (w.num<0)) (af x.num.natAbs) (af x.den) (af w.num.natAbs) (af w.den) b1 b2 k=kq (x*w) k:=by
 (unfold PK; rw[ae]; unfold QR)
 have hB2:B<=2000000000100:=by omega
 obtain⟨m1,m2⟩:=NN x w;have H1:0<x.num.natAbs.gcd w.den:=ajz _ w.den_pos;have H2:0<w.num.natAbs.gcd x.den:=ajz _ x.den_pos;have L1:aS B (x.num.natAbs.gcd w.den):=mP hw.2 (akw _ w.den_pos);have L2:aS B (w.num.natAbs.gcd x.den):=mP hx.2 (akw _ x.den_pos);rw[w6 hF hB2 hx.1 hw.2,w6 hF hB2 hw.1 hx.2,pq hF hB2 H1 hx.1 L1,pq hF hB2 H2 hw.1 L2,uK hF hB2 (cd hx.1) (cd hw.1),pq hF hB2 H2 hx.2 L2,pq hF hB2 H1 hw.2 L1,uK hF hB2 (cd hx.2) (cd hw.2),DD,Fr _ _ _ k,AH,<- m1,<- m2];rfl
def Pe {N B:Nat} (hF:Fuel N) (hB:B<=1000000000000) {x y:Rat} (hx:Bq B x) (hy:Bq B y) (k:Kx6) :
  eC N (decide (x.num<0)) (af x.num.natAbs) false (af x.den) (decide (y.num<0)) (af y.num.natAbs) false (af y.den) k=kq (x*y) k:=by
 (unfold eC je; unfold Qt; rw[ae]; unfold Lm)
 rw[gi _ _ _ x.den_nz,gi _ _ _ y.den_nz,FO hF hB hx hy]
def AE {y:Rat} (h:y.num ≠ 0):(y⁻¹).num.natAbs=y.den/\(y⁻¹).den=y.num.natAbs/\decide ((y⁻¹).num<0)=decide (y.num<0):=by
 have hd:=y.den_pos;refine⟨?_,?_,?_⟩
 ·rw[Rat.num_inv,akf,ajp,Int.natAbs_sign,if_neg h,akt]
 ·rw[Rat.den_inv,if_neg h]
 ·rw[Rat.num_inv];rcases Int.lt_trichotomy y.num 0 with h1 | h1 | h1
  ·rw[Int.sign_eq_neg_one_of_neg h1,ait h1,ait (by omega)]
  ·exact absurd h1 h
  ·rw[Int.sign_eq_one_of_pos h1,aiu (by omega),aiu (by omega)]
def Pj {N B:Nat} (hF:Fuel N) (hB:B<=1000000000000) {x y:Rat} (hx:Bq B x) (hy:Bq B y) (h0:y.num ≠ 0) (k:Kx6) :
  eX N (decide (x.num<0)) (af x.num.natAbs) false (af x.den) (decide (y.num<0)) (af y.num.natAbs) false (af y.den) k=kq (x / y) k:=by
 obtain⟨i1,i2,i3⟩:=AE h0
 (unfold eX jE; unfold Qu; rw[ae]; unfold Ln)
 have hw:Bq B (y⁻¹):=⟨by rw[i1]; exact hy.2,by rw[i2]; exact hy.1⟩
 have hp:=λkk=>FO (b1:=false) (b2:=false) hF hB hx hw kk
 rw[i1,i2,i3]at hp;rw[gi _ _ _ x.den_nz,gi _ _ _ y.den_nz,hp,Rat.div_def]
def yH {N B:Nat} (hF:Fuel N) (hB:B<=2000000000000) (g:Bool) {n d:Nat} (hn:aS B n) (hd:aS B d) (h0:0<d) (b1 b2:Bool) (k:Kx6) :
  TN N g (af n) (af d) b1 b2 k=kq (mkRat (aV g n) d) k:=by
 have hB2:B<=2000000000100:=by omega
 have hl:=hF.lt;have hnum:(mkRat (aV g n) d).num=aV g (n / Nat.gcd n d):=by
  rw[alG,if_neg (by omega)];have e:(aV g n).natAbs=n:=by unfold aV; cases g <;> simp
  have hg:0<Nat.gcd n d:=ajz _ h0;rw[e,ajJ];obtain⟨q,hq⟩:=ajk n d;have hh:((Nat.gcd n d:Nat):Int) ≠ 0:=by omega
  have e2:aV g n=((Nat.gcd n d:Nat):Int)*aV g (n / Nat.gcd n d):=by
   have hnn:n=Nat.gcd n d*(n / Nat.gcd n d):=(Nat.mul_div_cancel' (ajk n d)).symm;have hc:(n:Int)=((Nat.gcd n d:Nat):Int)*((n / Nat.gcd n d:Nat):Int):=by rw[<- aiQ,<- hnn]
   unfold aV;cases g
   ·simpa using hc
   ·simp only[aj6]; rw[hc,alo]
  rw[e2,aks _ hh]
 have hden:(mkRat (aV g n) d).den=d / Nat.gcd n d:=by
  rw[alH,if_neg (by omega)];have e:(aV g n).natAbs=n:=by unfold aV; cases g <;> simp
  rw[e,ajJ]
 have hj:∀ m e:Nat,aS B m->aS B e->Iv N g (af n) (af d) b1 b2 (af m) (af e) k=k (sg g m) (af m) false (af e):=by
  intro m e hm he;unfold Iv;rw[q_ hB2 hm];unfold KW OI;dsimp only;rw[q_ hB2 he,q_ hB2 he];unfold PR Q5;cases g
  ·rfl
  ·simp only[p_,sg,ajy]; rfl
 have hg0:0<Nat.gcd n d:=ajz _ h0;have hgb:aS B (Nat.gcd n d):=mP hd (akw _ h0);have h1:=zo hB2 hn;have h2:=zo hB2 hd;have h3:=zo hB2 hgb;have e1:af 1=[1]:=qU (by decide) (by decide)
 (unfold TN; rw[ae]; unfold Re)
 rw[w6 hF hB2 hn hd,<- e1,iV _ 1 ⟨by omega,by omega⟩ ⟨by rw[e1]; simp; omega,by rw[e1]; simp⟩];by_cases hc:Nat.gcd n d=1
 ·have:(dL (Nat.gcd n d) 1 != 0)=false:=by rw[hc]; rfl
  rw[this,aiv,hj n d hn hd,Fr _ _ _ k];rw[hc,aki]at hnum hden;unfold kq;rw[hnum,hden]
 ·have:(dL (Nat.gcd n d) 1 != 0)=true:=by unfold dL; rw[if_neg (by omega),if_neg hc]; rfl
  rw[this,aiw,li hF.big hg0 (by omega) (by omega),li hF.big hg0 (by omega) (by omega),hj _ _ (cd hn) (cd hd),Fr _ _ _ k,<- hnum,<- hden];rfl
def HO {N:Nat} (hF:Fuel N) (k:Kx6):mI N 0 k=kq 0 k:=by
 have:=hF.lt
 (unfold mI pX; unfold xj; rw[ae]; unfold qE)
 have n0:=λkk=>tu (N:=N) (by omega) 0 (by decide) kk
 have n1:=λkk=>tu (N:=N) (by omega) 1 (by decide) kk
 rw[show((0:Nat):Int)=0 from rfl]at n0;rw[show((1:Nat):Int)=1 from rfl]at n1;unfold PI QL;rw[n0,n1,yH hF (B:=10) (by decide) _ (by unfold aS; decide) (by unfold aS; decide) (by decide)];rfl
def nd {N:Nat} (x:Rat) (k:Kz5):bg N (decide (x.num<0)) (af x.num.natAbs) false (af x.den) k=k (xn x.num):=by
 (unfold bg jG tM sr; unfold QA; rw[ae]; unfold LX xn)
 by_cases h:x.num<0
 ·rw[ait h,aiw,if_neg (by omega),if_pos h]
 ·rw[aiu h,aiv,if_neg h];by_cases h0:x.num=0
  ·rw[h0,if_pos rfl];have:af (0:Int).natAbs=[]:=bc;rw[this]; rfl
  ·have:((((af x.num.natAbs).length:Nat):Int)==0)=false:=by rw[bW (by omega)]; simp; omega
   rw[this,aiv,if_neg h0]
end Go.Proofs.YtbiingchhnlcnaaGreatDoor
end
