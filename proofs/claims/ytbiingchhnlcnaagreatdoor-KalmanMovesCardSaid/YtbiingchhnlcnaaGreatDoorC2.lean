/- Laws in plain Lean. Conditions: none. -/
import Derived.Test.YtbiingchhnlcnaaGreatDoorC1
set_option linter.defProp false
set_option linter.unusedVariables false
section
namespace Go.Proofs.YtbiingchhnlcnaaGreatDoor
open Go Go.Mach
def Bs (N:Nat) {x:Nat} (hx:x<18446744073709551616) (k:Kz7):Rg N (x:Int) k=k (bl x:Int):=by
 have key:∀(z:Int) (m:Nat),z=(m:Int)->m<256 -> ∀ c:Nat,c<=56->((inR z 256)&&((ac .i64 (List.getD az (Int.toNat z) 0))&&((ac .i64 ((c:Int)+(List.getD az (Int.toNat z) 0)))&&k ((c:Int)+List.getD az (Int.toNat z) 0))))=k ((c+bl m:Nat):Int):=by intro z m hz hm c hc;subst hz;have:=Fq hm;rw[akW,PX hm,aa akO,aa akN,aa akN];rfl
 have j1:∀(y z c:Nat),z<65536->c<=48->Jv N (y:Int) (z:Int) (c:Int) k=k ((c+bl z:Nat):Int):=by
  intro y z c hz hc;unfold Jv;simp only[RL,Se];by_cases h8:256<=z
  ·have e8:=mP (n:=z) 8 (by simpa using h8);rw[show(2:Nat) ^ 8=256 by decide]at e8;have h:=key ((z:Int) / 256%256) (z / 256) (by omega) (by omega) (c+8) (by omega);rw[show((c+8:Nat):Int)=(c:Int)+8 by omega]at h;rw[akP (by omega:(z:Int)>=256),akS,aa akN,h];congr 1; omega
  ·rw[akQ (by omega:¬(z:Int)>=256),akR,key ((z:Int)%256) z (by omega) (by omega) c (by omega)]
 have j0:∀(y z c:Nat),z<4294967296->c<=32->Ju N (y:Int) (z:Int) (c:Int) k=k ((c+bl z:Nat):Int):=by
  intro y z c hz hc;unfold Ju;simp only[Od];by_cases h16:65536<=z
  ·have e16:=mP (n:=z) 16 (by simpa using h16);rw[show(2:Nat) ^ 16=65536 by decide]at e16;have h:=j1 y (z / 65536) (c+16) (by omega) (by omega);rw[show((c+16:Nat):Int)=(c:Int)+16 by omega,show((z / 65536:Nat):Int)=(z:Int) / 65536 by omega]at h;rw[akP (by omega:(z:Int)>=65536),akS,aa akN,h];congr 1; omega
  ·rw[akQ (by omega:¬(z:Int)>=65536),akR,j1 y z c (by omega) (by omega)]
 (unfold Rg; rw[ae]; unfold SP)
 simp only[kK];by_cases h32:4294967296<=x
 ·have e32:=mP (n:=x) 32 (by rw[show(2:Nat) ^ 32=4294967296 by decide]; exact h32);rw[show(2:Nat) ^ 32=4294967296 by decide]at e32;have h:=j0 x (x / 4294967296) 32 (by omega) (by omega);rw[show((x / 4294967296:Nat):Int)=(x:Int) / 4294967296 by omega,show((32:Nat):Int)=32 from rfl]at h;rw[akP (by omega:(x:Int)>=4294967296),akS,h];congr 1; omega
 ·have h:=j0 x x 0 (by omega) (by omega);rw[show((0:Nat):Int)=0 from rfl]at h;rw[akQ (by omega:¬(x:Int)>=4294967296),akR,h];congr 1; omega
def w_ {n j:Nat} (h:n<2 ^ j):bl n<=j:=by
 unfold bl;split
 ·omega
 ·rename_i h0;have:=(Nat.log2_lt h0).2 h;omega
def yX (n:Nat):n<2 ^ bl n:=by
 unfold bl;split
 ·rename_i h; subst h; decide
 ·exact Nat.lt_log2_self
def NN {n:Nat} (h:n ≠ 0):0<bl n/\2 ^ (bl n - 1)<=n:=by unfold bl;rw[if_neg h];exact⟨by omega,by rw[anh]; exact Nat.log2_self_le h⟩
def oQ:(2:Nat) ^ 64=18446744073709551616:=by decide
def Gg (N:Nat) {x:Nat} (hx:x<18446744073709551616) (k:Kz7):Q7 N (x:Int) k=k ((64 - bl x:Nat):Int):=by unfold Q7 V6;have:=w_ (n:=x) (j:=64) (by rw[oQ]; exact hx);rw[Bs N hx,aa akN];congr 1; omega
def Ku {y:Nat} (h0:y ≠ 0) (hy:y<18446744073709551616):64 - bl y<64/\9223372036854775808<=y*2 ^ (64 - bl y)/\y*2 ^ (64 - bl y)<18446744073709551616:=by
 have h1:=w_ (n:=y) (j:=64) (by rw[oQ]; exact hy);obtain⟨h2,h3⟩:=NN h0;have h4:=yX y;have hp:0<2 ^ (64 - bl y):=ak4 _;refine⟨by omega,?_,?_⟩
 ·have:=akU (2 ^ (64 - bl y)) h3;rw[<- ak9,show bl y - 1+(64 - bl y)=63 by omega]at this;exact this
 ·have:=alG h4 hp;rw[<- ak9,show bl y+(64 - bl y)=64 by omega]at this;exact this
def Bb {a c u u1 p r:Nat} (hc:c<4294967296) (hp:p<=4294967296) (hu:(p+1)*a+r=u) (hb:4294967296<=r+a):p*(a*4294967296+c)<=u*4294967296+u1:=by
 have e1:u*4294967296+u1=p*a*4294967296+(r+a)*4294967296+u1:=by rw[<- hu,amo,alj,alj,alj]; omega
 have e2:p*(a*4294967296+c)=p*a*4294967296+p*c:=by rw[ak7,ak1]
 have:=alJ hp (Nat.le_of_lt_succ hc:c<=4294967295);rw[e1,e2]; omega
def Ai {a c u u1:Nat} (hu1:u1<4294967296) (hD:u<a*4294967296+c):(u*4294967296+u1) / (a*4294967296+c)<4294967296:=by rw[akZ (by omega)]; omega
def Ij {N:Nat} {y s un0:Int} {a c u u1:Nat} (ha2:a<4294967296) (hc:c<4294967296) (hu1:u1<4294967296) (hD:u<a*4294967296+c) {d:Nat} (hd:∀ p,p<=d↔p*(a*4294967296+c)<=u*4294967296+u1) (hlt:d<4294967296) (e0:Int->Bool) :
  ∀ q r M,q<M->q<=4294967297->q*a+r=u->r<4294967296->d<=q ->
   af M (yF N y s (a:Int) (c:Int) (u:Int) (u1:Int) un0 e0) ((q:Int),(r:Int))=e0 (d:Int):=by
 intro q;induction q using Nat.strongRecOn with
 | ind q ih=>
 intro r M hM hqb hu hr hle;obtain⟨M,rfl⟩:∃ m,M=m+1:=⟨M - 1,by omega⟩
 show yF N y s a c u u1 un0 e0 ((q:Int),(r:Int)) (af M _)=_;have hY:0<a*4294967296+c:=by omega
 have hdec:d<q->cond (decide ((IntKind.wrap .u64 ((r:Int)+(a:Int)))>=4294967296)) (e0 (IntKind.wrap .u64 ((q:Int) - 1))) (af M (yF N y s (a:Int) (c:Int) (u:Int) (u1:Int) un0 e0) ((IntKind.wrap .u64 ((q:Int) - 1)),(IntKind.wrap .u64 ((r:Int)+(a:Int)))))=e0 (d:Int):=by
  intro hlq;obtain⟨p,rfl⟩:∃ p,q=p+1:=⟨q - 1,by omega⟩
  have w1:IntKind.wrap .u64 (((p+1:Nat):Int) - 1)=(p:Int):=by rw[aq]; omega
  have w2:IntKind.wrap .u64 ((r:Int)+(a:Int))=((r+a:Nat):Int):=by rw[aq]; omega
  rw[w1,w2];by_cases hb:4294967296<=r+a
  ·rw[akP (by omega),akS];have h1:=Bb (u1:=u1) hc (by omega) hu hb;rw[<- hd]at h1;rw[show d=p by omega]
  ·rw[akQ (by omega),akR];exact ih p (by omega) (r+a) M (by omega) (by omega) (by rw[<- hu,amo]; omega) (by omega) (by omega)
 simp only[yF];by_cases hq:4294967296<=q
 ·rw[akP (by omega:(q:Int)>=4294967296),show(true==false)=false from rfl,akR];exact hdec (by omega)
 ·have e1:u*4294967296+u1=q*a*4294967296+r*4294967296+u1:=by rw[<- hu,alj]
  have e2:q*(a*4294967296+c)=q*a*4294967296+q*c:=by rw[ak7,ak1]
  have hqc:q*c<=4294967295*4294967295:=alJ (by omega) (by omega);have w1:IntKind.wrap .u64 ((q:Int)*(c:Int))=((q*c:Nat):Int):=by rw[<- alb,aq]; omega
  have w2:IntKind.wrap .u64 ((IntKind.wrap .u64 (4294967296*(r:Int)))+(u1:Int))=((r*4294967296+u1:Nat):Int):=by rw[aq,aq]; omega
  rw[akQ (by omega:¬(q:Int)>=4294967296),show(false==false)=true from rfl,akS,w1,w2];by_cases ht:r*4294967296+u1<q*c
  ·rw[akP (by omega),akS];refine hdec ?_;rw[<- Nat.not_le,hd]; omega
  ·rw[akQ (by omega),akR];have h1:q*(a*4294967296+c)<=u*4294967296+u1:=by omega
   rw[<- hd]at h1;rw[show d=q by omega]
def Ik {N:Nat} {y s q1:Int} {x21:Int} {a c u u1:Nat} (ha2:a<4294967296) (hc:c<4294967296) (hu1:u1<4294967296) (hD:u<a*4294967296+c) {d:Nat} (hd:∀ p,p<=d↔p*(a*4294967296+c)<=u*4294967296+u1) (hlt:d<4294967296) (e0:Int->Bool) :
  ∀ q r M,q<M->q<=4294967297->q*a+r=u->r<4294967296->d<=q ->
   af M (yG N y s (a:Int) (c:Int) (u1:Int) q1 x21 e0) ((r:Int),(q:Int))=e0 (d:Int):=by
 intro q;induction q using Nat.strongRecOn with
 | ind q ih=>
 intro r M hM hqb hu hr hle;obtain⟨M,rfl⟩:∃ m,M=m+1:=⟨M - 1,by omega⟩
 show yG N y s a c u1 q1 x21 e0 ((r:Int),(q:Int)) (af M _)=_;have hY:0<a*4294967296+c:=by omega
 have hdec:d<q->cond (decide ((IntKind.wrap .u64 ((r:Int)+(a:Int)))>=4294967296)) (e0 (IntKind.wrap .u64 ((q:Int) - 1))) (af M (yG N y s (a:Int) (c:Int) (u1:Int) q1 x21 e0) ((IntKind.wrap .u64 ((r:Int)+(a:Int))),(IntKind.wrap .u64 ((q:Int) - 1))))=e0 (d:Int):=by
  intro hlq;obtain⟨p,rfl⟩:∃ p,q=p+1:=⟨q - 1,by omega⟩
  have w1:IntKind.wrap .u64 (((p+1:Nat):Int) - 1)=(p:Int):=by rw[aq]; omega
  have w2:IntKind.wrap .u64 ((r:Int)+(a:Int))=((r+a:Nat):Int):=by rw[aq]; omega
  rw[w1,w2];by_cases hb:4294967296<=r+a
  ·rw[akP (by omega),akS];have h1:=Bb (u1:=u1) hc (by omega) hu hb;rw[<- hd]at h1;rw[show d=p by omega]
  ·rw[akQ (by omega),akR];exact ih p (by omega) (r+a) M (by omega) (by omega) (by rw[<- hu,amo]; omega) (by omega) (by omega)
 simp only[yG];by_cases hq:4294967296<=q
 ·rw[akP (by omega:(q:Int)>=4294967296),show(true==false)=false from rfl,akR];exact hdec (by omega)
 ·have e1:u*4294967296+u1=q*a*4294967296+r*4294967296+u1:=by rw[<- hu,alj]
  have e2:q*(a*4294967296+c)=q*a*4294967296+q*c:=by rw[ak7,ak1]
  have hqc:q*c<=4294967295*4294967295:=alJ (by omega) (by omega);have w1:IntKind.wrap .u64 ((q:Int)*(c:Int))=((q*c:Nat):Int):=by rw[<- alb,aq]; omega
  have w2:IntKind.wrap .u64 ((IntKind.wrap .u64 (4294967296*(r:Int)))+(u1:Int))=((r*4294967296+u1:Nat):Int):=by rw[aq,aq]; omega
  rw[akQ (by omega:¬(q:Int)>=4294967296),show(false==false)=true from rfl,akS,w1,w2];by_cases ht:r*4294967296+u1<q*c
  ·rw[akP (by omega),akS];refine hdec ?_;rw[<- Nat.not_le,hd]; omega
  ·rw[akQ (by omega),akR];have h1:q*(a*4294967296+c)<=u*4294967296+u1:=by omega
   rw[<- hd]at h1;rw[show d=q by omega]
def Bc {a c u u1:Nat} (ha:2147483648<=a) (ha2:a<4294967296) (hc:c<4294967296) (hD:u<a*4294967296+c) (hu1:u1<4294967296) :
  u / a<=4294967297/\u / a*a+u%a=u/\u%a<4294967296/\(u*4294967296+u1) / (a*4294967296+c)<=u / a:=by
 have h0:0<a:=by omega
 refine⟨?_,alP u a,amC (ak5 _ h0) ha2,?_⟩
 ·have:u / a<4294967298:=by rw[akZ h0]; omega
  omega
 ·have h1:(u*4294967296+u1) / (a*4294967296)=u / a:=by rw[akT a,<- akY];congr 1; omega
  rw[<- h1];exact Nat.div_le_div_left (am_ _ _) (by omega)
def K2 {m p y s:Nat} (u L b D1 q1 R1 u1 u0 q0 R0 Y:Nat) (hb:b=4294967296) (hT:m*2 ^ s=u*18446744073709551616+L) (hL:L=u1*b+u0) (hY:Y=y*2 ^ s) (hY0:0<Y)
  (h1:D1=u*b+u1) (hq1:q1=D1 / Y) (hR1:R1=D1%Y) (hq0:q0=(R1*b+u0) / Y) (hR0:R0=(R1*b+u0)%Y):m / y=q1*b+q0/\m%y=R0 / 2 ^ s:=by
 have hs:0<2 ^ s:=ak4 s;have e1:=alM D1 Y;have e0:=alM (R1*b+u0) Y;rw[<- hq1,<- hR1]at e1;rw[<- hq0,<- hR0]at e0;have hlt:R0<Y:=by rw[hR0]; exact ak5 _ hY0
 have hm:m*2 ^ s=Y*(q1*b+q0)+R0:=by
  rw[hT,hL];have e2:u*18446744073709551616+(u1*b+u0)=(u*b+u1)*b+u0:=by subst hb; omega
  rw[e2,<- h1,<- e1,ak7,alj,aly,<- e0,ak1,aly]
 have d1:m / y=(m*2 ^ s) / Y:=by rw[hY,anv _ _ hs]
 have d2:(m%y)*2 ^ s=(m*2 ^ s)%Y:=by rw[hY,anw]
 constructor
 ·rw[d1,hm,anQ hY0,alm hlt,aln]
 ·have:(m%y)*2 ^ s=R0:=by rw[d2,hm,am2,ak0 hlt]
  rw[<- this,amy _ hs]
def Dg {N:Nat} (hN:8589934592<=N) {hi lo y:Nat} (hy:y<18446744073709551616) (hlo:lo<18446744073709551616) (hhi:hi<y) (k:Ky6) :
  GZ N (hi:Int) (lo:Int) (y:Int) k=k (((hi*18446744073709551616+lo) / y:Nat):Int) (((hi*18446744073709551616+lo)%y:Nat):Int):=by
 (unfold GZ; rw[ae]; unfold MP)
 have y0:((y:Int)==0)=false:=by simp; omega
 have y1:(!decide ((y:Int)=0))=true:=by simp; omega
 rw[y0,akR,akQ (by omega:¬(y:Int)<=hi),akR];by_cases h0:hi=0
 ·subst h0;rw[show(((0:Nat):Int)==0)=true from rfl,akS,aa y1,aa y1,amg,alk];have e1:Int.tdiv (lo:Int) (y:Int)=((lo / y:Nat):Int):=rfl;have e2:Int.tmod (lo:Int) (y:Int)=((lo%y:Nat):Int):=rfl;have:=amq lo y;rw[e1,e2];generalize lo / y=d at *;rw[aq];congr 1; omega
 ·have hne:((hi:Int)==0)=false:=by simp; omega
  obtain⟨hs64,hYlo,hYhi⟩:=Ku (y:=y) (by omega) hy;rw[hne,akR,Gg N hy];generalize hs:64 - bl y=s at *;have hs0:0<2 ^ s:=ak4 s;have hs1:2 ^ s*2 ^ (64 - s)=18446744073709551616:=by rw[<- ak9,show s+(64 - s)=64 by omega]
  have cp:((2:Int) ^ s)=((2 ^ s:Nat):Int):=by rw[ami]; rfl
  have cp2:((2:Int) ^ (64 - s))=((2 ^ (64 - s):Nat):Int):=by rw[ami]; rfl
  have ew:IntKind.wrap .u64 ((s:Nat):Int)=(s:Int):=by rw[aq]; omega
  have ew2:IntKind.wrap .u64 (64 - ((s:Nat):Int))=((64 - s:Nat):Int):=by rw[aq]; omega
  have em:min s 64=s:=by omega
  have em2:min (64 - s) 64=64 - s:=by omega
  simp only[ew,ew2,akW,em,em2];rw[cp,cp2];have eY:IntKind.wrap .u64 ((y:Int)*((2 ^ s:Nat):Int))=((y*2 ^ s:Nat):Int):=by rw[<- alb,aq]; omega
  have hm:hi*2 ^ s<y*2 ^ s:=alG hhi hs0;have eH:IntKind.wrap .u64 ((hi:Int)*((2 ^ s:Nat):Int))=((2 ^ s*hi:Nat):Int):=by rw[<- alb,akT hi,aq]; rw[akT hi]at hm; generalize 2 ^ s*hi=H at *; generalize y*2 ^ s=Y at *; omega
  have hlo2:lo / 2 ^ (64 - s)<2 ^ s:=by rw[akZ (ak4 _),hs1]; exact hlo
  have hlo3:=alM lo (2 ^ (64 - s));have eT:(hi*18446744073709551616+lo)*2 ^ s=(2 ^ s*hi+lo / 2 ^ (64 - s))*18446744073709551616+lo*2 ^ s%18446744073709551616:=by
   have e1:lo*2 ^ s / 18446744073709551616=lo / 2 ^ (64 - s):=by rw[<- hs1,akT lo,Nat.mul_div_mul_left _ _ hs0]
   have e2:=alM (lo*2 ^ s) 18446744073709551616;rw[e1]at e2;rw[alj,<- e2,alj,anV,akT hi];omega
  have hD:2 ^ s*hi+lo / 2 ^ (64 - s)<y*2 ^ s:=by have:2 ^ s*(hi+1)<=2 ^ s*y:=akX _ hhi;rw[ak7,akT _ y]at this;omega
  have eU:aA .or .u64 ((2 ^ s*hi:Nat):Int) (Int.fdiv (lo:Int) ((2 ^ (64 - s):Nat):Int))=((2 ^ s*hi+lo / 2 ^ (64 - s):Nat):Int):=by rw[kY,vA,cj _ _ s hlo2 (by omega)]
  have eL:IntKind.wrap .u64 ((lo:Int)*((2 ^ s:Nat):Int))=((lo*2 ^ s%18446744073709551616:Nat):Int):=by rw[<- alb,aq]; omega
  simp only[eY,eH,eU,eL,Fp,kK];have hLlt:lo*2 ^ s%18446744073709551616<18446744073709551616:=ak5 _ (by decide);obtain⟨d1,d2⟩:=K2 (m:=hi*18446744073709551616+lo) (p:=0) (y:=y) (s:=s) (2 ^ s*hi+lo / 2 ^ (64 - s)) (lo*2 ^ s%18446744073709551616) 4294967296 _ _ _ (lo*2 ^ s%18446744073709551616 / 4294967296) (lo*2 ^ s%18446744073709551616%4294967296) _ _ (y*2 ^ s) rfl eT (by omega) rfl (by omega) rfl rfl rfl rfl rfl;rw[d1,d2];generalize y*2 ^ s=Y at *;generalize 2 ^ s*hi+lo / 2 ^ (64 - s)=u at *;generalize lo*2 ^ s%18446744073709551616=L at *;have hu1:L / 4294967296<4294967296:=by omega
  have hu0:L%4294967296<4294967296:=by omega
  have eL1:((L:Int) / 4294967296)=((L / 4294967296:Nat):Int):=by omega
  have ea:((Y:Int) / 4294967296)=((Y / 4294967296:Nat):Int):=by omega
  have eY2:Y=Y / 4294967296*4294967296+Y%4294967296:=by omega
  rw[eL1,ea];generalize hu1':L / 4294967296=u1 at *;generalize hu0':L%4294967296=u0 at *;have ha1:2147483648<=Y / 4294967296:=by omega
  have ha2:Y / 4294967296<4294967296:=by omega
  have hc:Y%4294967296<4294967296:=by omega
  generalize Y / 4294967296=a at *;generalize Y%4294967296=c at *;have a0:(!decide ((a:Int)=0))=true:=by simp; omega
  have hD':u<a*4294967296+c:=by omega
  have hY0':0<a*4294967296+c:=by omega
  rw[aa (akP (by omega)),aa (akP (by omega)),aa (akP (by omega)),aa (akP (by omega)),aa a0];have start:∀ v:Nat,v<18446744073709551616->IntKind.wrap .u64 (Int.tdiv (v:Int) (a:Int))=((v / a:Nat):Int)/\IntKind.wrap .u64 ((v:Int) - (IntKind.wrap .u64 (((v / a:Nat):Int)*(a:Int))))=((v%a:Nat):Int):=by
   intro v hv;have e1:Int.tdiv (v:Int) (a:Int)=((v / a:Nat):Int):=rfl;have h1:=amq v a;have h2:=alP v a;rw[e1,<- alb];generalize v / a*a=P at *;generalize v / a=Q at *;generalize v%a=Z at *;constructor
   ·rw[aq]; omega
   ·rw[aq,aq]; omega
  obtain⟨g1,g2,g3,g4⟩:=Bc ha1 ha2 hc hD' hu1;obtain⟨s1,s2⟩:=start u (by omega);rw[s1,s2,Ij ha2 hc hu1 hD' (λp=>amx hY0') (Ai hu1 hD') _ (u / a) (u%a) N (by omega) g1 g2 g3 g4];rw[aa a0];rw[<- eY2];have hY0:0<Y:=by omega
  have hR1:=ak5 (u*4294967296+u1) hY0;have hE1:=alP (u*4294967296+u1) Y;have e21:IntKind.wrap .u64 ((IntKind.wrap .u64 ((IntKind.wrap .u64 ((u:Int)*4294967296))+(u1:Int))) - (IntKind.wrap .u64 ((((u*4294967296+u1) / Y:Nat):Int)*(Y:Int))))=(((u*4294967296+u1)%Y:Nat):Int):=by rw[<- alb];generalize (u*4294967296+u1) / Y*Y=P at *;rw[aq,aq,aq,aq]; omega
  simp only[e21];have hq1:(u*4294967296+u1) / Y<4294967296:=by rw[eY2]; exact Ai hu1 hD'
  obtain⟨q1,hq1e⟩:∃ q,q=(u*4294967296+u1) / Y:=⟨_,rfl⟩
  obtain⟨R1,hR1e⟩:∃ q,q=(u*4294967296+u1)%Y:=⟨_,rfl⟩
  rw[<- hq1e,<- hR1e];rw[<- hq1e]at hq1;rw[<- hR1e]at hR1;have hD2:R1<a*4294967296+c:=by omega
  obtain⟨g1,g2,g3,g4⟩:=Bc ha1 ha2 hc hD2 hu0;obtain⟨s1,s2⟩:=start R1 (by omega);rw[s1,s2,Ik ha2 hc hu0 hD2 (λp=>amx hY0') (Ai hu0 hD2) _ (R1 / a) (R1%a) N (by omega) g1 g2 g3 g4,<- eY2];rw[aa (akP (by omega))];have hR0:=ak5 (R1*4294967296+u0) hY0;have hE0:=alP (R1*4294967296+u0) Y;have hq0:(R1*4294967296+u0) / Y<4294967296:=by rw[eY2]; exact Ai hu0 hD2
  have e20:IntKind.wrap .u64 ((IntKind.wrap .u64 ((IntKind.wrap .u64 ((R1:Int)*4294967296))+(u0:Int))) - (IntKind.wrap .u64 ((((R1*4294967296+u0) / Y:Nat):Int)*(Y:Int))))=(((R1*4294967296+u0)%Y:Nat):Int):=by
   rw[<- alb];obtain⟨P,hP⟩:∃ q,q=(R1*4294967296+u0) / Y*Y:=⟨_,rfl⟩
   obtain⟨Z,hZ⟩:∃ q,q=(R1*4294967296+u0)%Y:=⟨_,rfl⟩
   rw[<- hP,<- hZ]at hE0;rw[<- hZ]at hR0;rw[<- hP,<- hZ];rw[aq,aq,aq,aq]; omega
  rw[e20,kY];obtain⟨q0,hq0e⟩:∃ q,q=(R1*4294967296+u0) / Y:=⟨_,rfl⟩
  rw[<- hq0e]at hq0;rw[<- hq0e];congr 1;rw[aq,aq]; omega
def J_ (Q n m:Nat) (h:m<n):(List.replicate (m+1) (0:Int)++(dlq Q n).drop (m+1)).set m ((Q / 18446744073709551616 ^ m%18446744073709551616:Nat):Int)=List.replicate m 0++(dlq Q n).drop m:=by rw[amr,ak8,List.singleton_append,aY _ _ _ _ _ (by simp),cN (n:=m) (by rw[al]; exact h),tw Q h]
def DP {A d:Nat} (hd:0<d):(A / 18446744073709551616%d*18446744073709551616+A%18446744073709551616)%d=A%d/\(A / 18446744073709551616%d*18446744073709551616+A%18446744073709551616) / d=A / d%18446744073709551616:=by
 have h1:=alM A 18446744073709551616;have h2:=alM (A / 18446744073709551616) d;have h3:=ak5 (A / 18446744073709551616) hd;have h4:A%18446744073709551616<18446744073709551616:=ak5 _ (by decide);obtain⟨a,ha⟩:∃ a,a=A / 18446744073709551616:=⟨_,rfl⟩
 obtain⟨e,he⟩:∃ e,e=A%18446744073709551616:=⟨_,rfl⟩
 rw[<- ha]at h1 h2 h3 ⊢;rw[<- he]at h1 h4 ⊢;obtain⟨c,hc⟩:∃ c,c=a / d:=⟨_,rfl⟩
 obtain⟨r,hr⟩:∃ r,r=a%d:=⟨_,rfl⟩
 rw[<- hc,<- hr]at h2;rw[<- hr]at h3 ⊢;have h5:A=d*(c*18446744073709551616)+(r*18446744073709551616+e):=by rw[<- h1,<- h2,<- ak1,ak7,akT 18446744073709551616,akT 18446744073709551616]; omega
 constructor
 ·rw[h5,am2]
 ·rw[h5,anQ hd,akT c,am2];refine(ak0 ?_).symm;rw[akZ hd];have:=akU 18446744073709551616 h3;rw[amo]at this;rw[akT _ d,akT d];rw[akT d]at this;omega
def jT (x:Nat):x<18446744073709551616 ^ (ah x).length:=by have:=iw (aT x); rwa [aD]at this
def LU {N:Nat} (hN:8589934592<=N) {x d:Nat} (hd0:0<d) (hd:d<18446744073709551616) (hs:me N (ah x)) (k:List Int->Int->Bool):pB N (ah x) (d:Int) k=k (ah (x / d)) ((x%d:Nat):Int):=by
 (unfold pB; rw[ae]; unfold sD)
 obtain⟨s1,s2⟩:=hs;have hx:=jT x;generalize hn:(ah x).length=n at *;rw[aa (bT (by omega) (by omega) (by omega) (by omega)),aa akN,akW];refine aF (λi=>(((x / 18446744073709551616 ^ (n - i)%d:Nat):Int),((n:Int) - 1 - (i:Int)),List.replicate (n - i) (0:Int)++(dlq (x / d) n).drop (n - i))) n ?_ (by omega) (λi hi K=>?_) (λK=>?_)
 ·rw[amX,alm hx,Nat.zero_mod,alC (by rw[al]; omega),alp];simp
 ·obtain⟨m,hm⟩:∃ m,n - i=m+1:=⟨n - i - 1,by omega⟩
  have hm2:n - (i+1)=m:=by omega
  have ei:(n:Int) - 1 - (i:Int)=(m:Int):=by omega
  have ei2:(n:Int) - 1 - ((i+1:Nat):Int)=(m:Int) - 1:=by omega
  have hp:x / 18446744073709551616 ^ (m+1)=x / 18446744073709551616 ^ m / 18446744073709551616:=by rw[ak2,akY]
  have hdg:x / d / 18446744073709551616 ^ m%18446744073709551616=x / 18446744073709551616 ^ m / d%18446744073709551616:=by rw[akY,akY,akT d]
  obtain⟨n1,n2⟩:=DP (A:=x / 18446744073709551616 ^ m) hd0;rw[hm,hm2,ei,ei2,hp];simp only[lq,akW];have hl:(List.replicate (m+1) (0:Int)++(dlq (x / d) n).drop (m+1)).length=n:=by simp[al]; omega
  rw[akP (by omega:(m:Int)>=0),akS,hn,aa akO,oB,Dg hN hd (ak5 _ (by decide)) (ak5 _ hd0),n1,n2,<- hdg,hl,aa akO,aa (akP (by omega)),aa akN,J_ _ _ _ (by omega)]
 ·simp only[lq];have e0:(n:Int) - 1 - (n:Int) = -1:=by omega
  rw[e0,akQ (by omega),akR,alq,amL,amG];rw[alv,alF,amn];have hq:x / d<18446744073709551616 ^ n:=amp (amq _ _) hx;rw[kW _ (gq _ _) (by rw[al]; omega) (by rw[al]; omega) (λz=>k z ((x%d:Nat):Int)),mR hq]
def Eo {P A B U3 V2 U V g:Nat} (hA:A<P) (hU:U=A+P*U3) (hV:V=B+P*V2) (hV0:0<V) (h:U3<g*V2):U / V<g:=by rw[akZ hV0,hU,hV,ak7,alh g P V2];have:=akX P h;rw[aoa]at this;omega
def JM {W P A B U V u0 u1 u2 v0 v1:Nat} (hA:A<P) (hU:U=A+P*(u0+W*(u2*W+u1))) (hV:V=B+P*(v0+W*v1)) (hV0:0<V) (hv1:0<v1) (hu0:u0<W):U / V<=(u2*W+u1) / v1:=by
 refine Nat.le_of_lt_succ (Eo hA hU hV hV0 ?_);have h1:=anf (u2*W+u1) hv1;rw[akT v1]at h1;have h2:=akX W h1;rw[aoa]at h2;have e:((u2*W+u1) / v1).succ*(v0+W*v1)=((u2*W+u1) / v1).succ*v0+W*(((u2*W+u1) / v1+1)*v1):=by rw[ak7,alh]
 rw[e];omega
def Ii {N:Nat} {o n u0 v0 v1 T d:Nat} {b c:List Int} (hn:2<=n) (hc1:c.getD (n - 2) 0=(v0:Int)) (hc2:c.getD (n - 1) 0=(v1:Int)) (hb:b.getD (o+(n - 2)) 0=(u0:Int)) (hcl:n<=c.length) (hbl:o+n+1<=b.length) (hbs:b.length<=1099511627780)
  (hv0:v0<18446744073709551616) (hv1:v1<18446744073709551616) (hu0:u0<18446744073709551616) (hd:∀ g,u0+18446744073709551616*T<g*(v0+18446744073709551616*v1)->d<g) :
  ∀ q r M,q<M->q<18446744073709551616->q*v1+r=T->r<18446744073709551616->d<=q ->
   ∃ g,d<=g/\g<18446744073709551616 /\ ∀ e0,af M (uv N o (n+1) 0 n (n:Int) b c e0) ((q:Int),(r:Int))=e0 (g:Int):=by
 intro q;induction q using Nat.strongRecOn with
 | ind q ih=>
 intro r M hM hq hT hr hdq;obtain⟨M,rfl⟩:∃ m,M=m+1:=⟨M - 1,by omega⟩
 have i2:0+Int.toNat ((n:Int) - 2)=n - 2:=by omega
 have i1:0+Int.toNat ((n:Int) - 1)=n - 1:=by omega
 have j2:o+Int.toNat ((n:Int) - 2)=o+(n - 2):=by omega
 have hqv:=alM (q*v0) 18446744073709551616;have hlo:q*v0%18446744073709551616<18446744073709551616:=ak5 _ (by decide);by_cases hex:q*v0<=r*18446744073709551616+u0
 ·refine⟨q,hdq,hq,λe0=>?_⟩;show uv N o (n+1) 0 n (n:Int) b c e0 ((q:Int),(r:Int)) (af M _)=_;simp only[uv,i2,i1,j2,hc1,hc2,hb];rw[aa akN,aa akO,aa (akP (by omega)),yj N hq hv0];generalize q*v0%18446744073709551616=lo at *;generalize q*v0 / 18446744073709551616=hi at *;rcases anp hi r with h | h | h
  ·rw[akP (by omega:(hi:Int)<r),show(true==false)=false from rfl,akR]
  ·subst h;rw[akQ (by omega:¬(hi:Int)<hi),show(false==false)=true from rfl,akS,show((hi:Int)==hi)=true by simp,show(true==true)=true from rfl,akS,aa akN,aa akO,aa (akP (by omega)),akP (by omega:(lo:Int)<=u0),akS]
  ·exfalso; omega
 ·have hgt:=hd q (by rw[ak7,alh,<- hT]; rw[ak7]; omega);obtain⟨p,rfl⟩:∃ p,q=p+1:=⟨q - 1,by omega⟩
  have w1:IntKind.wrap .u64 (((p+1:Nat):Int) - 1)=(p:Int):=by rw[aq]; omega
  have step:∀ e0:Int->Bool,af (M+1) (uv N o (n+1) 0 n (n:Int) b c e0) (((p+1:Nat):Int),(r:Int))
    = cond (decide (18446744073709551616<=r+v1)) (e0 (p:Int)) (af M (uv N o (n+1) 0 n (n:Int) b c e0) ((p:Int),((r+v1:Nat):Int))):=by
   intro e0;show uv N o (n+1) 0 n (n:Int) b c e0 (((p+1:Nat):Int),(r:Int)) (af M _)=_;simp only[uv,i2,i1,j2,hc1,hc2,hb];have tail:(ac .i64 ((n:Int) - 1)&&((inR ((n:Int) - 1) n)&&((decide (n - 1<c.length))&&(sQ2 N (r:Int) (v1:Int) 0 (λ(ZC:Int) (n5:Int)=>(cond (n5 != 0) (e0 (IntKind.wrap .u64 (((p+1:Nat):Int) - 1))) (af M (uv N o (n+1) 0 n (n:Int) b c e0) ((IntKind.wrap .u64 (((p+1:Nat):Int) - 1)),ZC))))))))
     = cond (decide (18446744073709551616<=r+v1)) (e0 (p:Int)) (af M (uv N o (n+1) 0 n (n:Int) b c e0) ((p:Int),((r+v1:Nat):Int))):=by
    rw[aa akN,aa akO,aa (akP (by omega)),oh N (c:=0) (a:=r) (b:=v1) (d:=0) rfl rfl rfl (by omega),w1];by_cases hb2:18446744073709551616<=r+v1
    ·have:(((r+v1+0) / 18446744073709551616:Nat):Int)=1:=by omega
     rw[this,akP hb2]; rfl
    ·have:(((r+v1+0) / 18446744073709551616:Nat):Int)=0:=by omega
     have e2:(r+v1+0)%18446744073709551616=r+v1:=by omega
     rw[this,e2,akQ hb2]; rfl
   rw[aa akN,aa akO,aa (akP (by omega)),yj N hq hv0];generalize (p+1)*v0%18446744073709551616=lo at *;generalize (p+1)*v0 / 18446744073709551616=hi at *;rcases anp hi r with h | h | h
   ·exfalso; omega
   ·subst h;rw[akQ (by omega:¬(hi:Int)<hi),show(false==false)=true from rfl,akS,show((hi:Int)==hi)=true by simp,show(true==true)=true from rfl,akS,aa akN,aa akO,aa (akP (by omega)),akQ (by omega:¬(lo:Int)<=u0),akR];exact tail
   ·rw[akQ (by omega:¬(hi:Int)<r),show(false==false)=true from rfl,akS,show((hi:Int)==r)=false by simp; omega,show(false==true)=false from rfl,akR];exact tail
  by_cases hb2:18446744073709551616<=r+v1
  ·exact⟨p,by omega,by omega,λe0=>by rw[step,akP hb2,akS]⟩
  ·obtain⟨g,g1,g2,g3⟩:=ih p (by omega) (r+v1) M (by omega) (by omega) (by rw[<- hT,amo]; omega) (by omega) (by omega);exact⟨g,g1,g2,λe0=>by rw[step,akQ hb2,akR]; exact g3 e0⟩
def kh {b:List Int} (o i:Nat):(b.drop o).getD i 0=b.getD (o+i) 0:=by rw[List.getD_eq_getElem?_getD,List.getD_eq_getElem?_getD,List.getElem?_drop]
def Y1 (c:List Int) (m:Nat):au (c.take (m+3))=au (c.take m)+18446744073709551616 ^ m*((c.getD m 0).toNat+18446744073709551616*((c.getD (m+2) 0).toNat*18446744073709551616+(c.getD (m+1) 0).toNat)):=by rw[show m+3=m+2+1 by omega,aK,show m+2=m+1+1 by omega,aK,aK];simp only[ak2];generalize 18446744073709551616 ^ m=P;grind
def Y0 (c:List Int) (m:Nat):au (c.take (m+2))=au (c.take m)+18446744073709551616 ^ m*((c.getD m 0).toNat+18446744073709551616*(c.getD (m+1) 0).toNat):=by rw[show m+2=m+1+1 by omega,aK,aK];simp only[ak2];generalize 18446744073709551616 ^ m=P;grind
def Ly {N:Nat} (hN:1180591620717411303424<=N) {o n:Nat} {b c:List Int} (hn:2<=n) (hb:InWq b) (hc:InWq c) (hcl:n<=c.length) (hbl:o+n+1<=b.length) (hbs:b.length<=1099511627780)
  (htop:0<(c.getD (n - 1) 0).toNat) (hU:au ((b.drop o).take (n+1))<au (c.take n)*18446744073709551616) :
  ∃ g:Nat,au ((b.drop o).take (n+1)) / au (c.take n)<=g/\g<18446744073709551616 /\ ∀ k,Rh N o (n+1) 0 n b c k=k (g:Int):=by
 obtain⟨m,rfl⟩:∃ m,n=m+2:=⟨n - 2,by omega⟩
 have hU3:=Y1 (b.drop o) m;have hV2:=Y0 c m;rw[kh,kh,kh]at hU3;have a0:=hb.at (i:=o+m);have a1:=hb.at (i:=o+(m+1));have a2:=hb.at (i:=o+(m+2));have c0:=hc.at (i:=m);have c1:=hc.at (i:=m+1);have hA:=aP (hb.drop o) m;have hB:=aP hc m;rw[show m+2 - 1=m+1 by omega]at htop;obtain⟨u0,hu0⟩:∃ u,u=(b.getD (o+m) 0).toNat:=⟨_,rfl⟩
 obtain⟨u1,hu1⟩:∃ u,u=(b.getD (o+(m+1)) 0).toNat:=⟨_,rfl⟩
 obtain⟨u2,hu2⟩:∃ u,u=(b.getD (o+(m+2)) 0).toNat:=⟨_,rfl⟩
 obtain⟨v0,hv0⟩:∃ u,u=(c.getD m 0).toNat:=⟨_,rfl⟩
 obtain⟨v1,hv1⟩:∃ u,u=(c.getD (m+1) 0).toNat:=⟨_,rfl⟩
 have g0:b.getD (o+m) 0=(u0:Int):=by omega
 have g1:b.getD (o+(m+1)) 0=(u1:Int):=by omega
 have g2:b.getD (o+(m+2)) 0=(u2:Int):=by omega
 have k0:c.getD m 0=(v0:Int):=by omega
 have k1:c.getD (m+1) 0=(v1:Int):=by omega
 rw[<- hu0,<- hu1,<- hu2]at hU3;rw[<- hv0,<- hv1]at hV2;rw[<- hv1]at htop;rw[show m+2+1=m+3 by omega];rw[show m+2+1=m+3 by omega]at hU;generalize au ((b.drop o).take (m+3))=U at *;generalize au (c.take (m+2))=V at *;have hV0:0<V:=by
  rcases al_ V with h | h
  ·rw[h,amg]at hU; omega
  ·exact h
 have hq:U / V<18446744073709551616:=by rw[akZ hV0,akT]; exact hU
 have i2:o+Int.toNat (((m+2:Nat):Int))=o+(m+2):=by omega
 have i1:o+Int.toNat (((m+2:Nat):Int) - 1)=o+(m+1):=by omega
 have j1:0+Int.toNat (((m+2:Nat):Int) - 1)=m+1:=by omega
 by_cases h0:v1<=u2
 ·refine⟨18446744073709551615,by omega,by omega,λk=>?_⟩
  (unfold Rh; rw[ae]; unfold P7)
  simp only[i2,i1,j1,g2,g1,k1];rw[aa akO,aa (akP (by omega)),aa akN,aa akO,aa (akP (by omega)),akP (by omega:(u2:Int)>=v1),akS];rfl
 ·have hT:(u2*18446744073709551616+u1) / v1<18446744073709551616:=by rw[akZ htop];have:=akX 18446744073709551616 (Nat.lt_of_not_le h0);rw[aoa]at this;omega
  obtain⟨g,e1,e2,e3⟩:=Ii (N:=N) (o:=o) (n:=m+2) (T:=u2*18446744073709551616+u1) (d:=U / V) (u0:=u0) (v0:=v0) (v1:=v1) (by omega) (by rw[show m+2 - 2=m by omega]; exact k0) (by rw[show m+2 - 1=m+1 by omega]; exact k1) (by rw[show m+2 - 2=m by omega]; exact g0) hcl hbl hbs (by omega) (by omega) (by omega)
   (λg hg=>Eo hA hU3 hV2 hV0 hg)
   ((u2*18446744073709551616+u1) / v1) ((u2*18446744073709551616+u1)%v1) N (by omega) hT (alP _ _) (amC (ak5 _ htop) (by omega)) (JM hA hU3 hV2 hV0 htop (by omega))
  refine⟨g,e1,e2,λk=>?_⟩
  (unfold Rh; rw[ae]; unfold P7)
  simp only[i2,i1,j1,g2,g1,k1];rw[aa akO,aa (akP (by omega)),aa akN,aa akO,aa (akP (by omega)),akQ (by omega:¬(u2:Int)>=v1),akR];rw[aa akO,aa (akP (by omega)),aa akN,aa akO,aa (akP (by omega)),aa akN,aa akO,aa (akP (by omega))];rw[Dg (by omega) (by omega) (by omega) (by omega),e3]
def KD {b:List Int} {o i:Nat} (D:Nat) (h:o+i<=b.length):(b.take o++(dlq D i++b.drop (o+i))).length=b.length:=by simp[al]; omega
def KC {b:List Int} {o i:Nat} (D:Nat) (h:o+i<b.length):(b.take o++(dlq D i++b.drop (o+i))).getD (o+i) 0=b.getD (o+i) 0:=by rw[<- ak8,cN h,bP (by simp[al]; omega)]
def KE {b:List Int} {o i:Nat} (D:Nat) (h:o+i<b.length):(b.take o++(dlq D i++b.drop (o+i))).set (o+i) ((D / 18446744073709551616 ^ i%18446744073709551616:Nat):Int)=b.take o++(dlq D (i+1)++b.drop (o+(i+1))):=by rw[<- ak8,cN h,aY _ _ _ _ _ (by simp[al]; omega),dlq];simp[aly]
def KA {b:List Int} {o i n:Nat} (D E:Nat) (hi:i<=n) (h:o+n<=b.length):(b.take o++(dlq E i++((dlq D n).drop i++b.drop (o+n)))).length=b.length:=by simp[al]; omega
def Kz {b:List Int} {o i n:Nat} (D E:Nat) (hi:i<n) (h:o+n<=b.length):(b.take o++(dlq E i++((dlq D n).drop i++b.drop (o+n)))).getD (o+i) 0=((D / 18446744073709551616 ^ i%18446744073709551616:Nat):Int):=by rw[<- ak8,cN (n:=i) (by rw[al]; exact hi),amA,bP (by simp[al]; omega),tw D hi]
def KB {b:List Int} {o i n:Nat} (D E:Nat) (hi:i<n) (h:o+n<=b.length):(b.take o++(dlq E i++((dlq D n).drop i++b.drop (o+n)))).set (o+i) ((E / 18446744073709551616 ^ i%18446744073709551616:Nat):Int)=b.take o++(dlq E (i+1)++((dlq D n).drop (i+1)++b.drop (o+n))):=by rw[<- ak8,cN (n:=i) (by rw[al]; exact hi),amA,aY _ _ _ _ _ (by simp[al]; omega),dlq];simp
def JF {m:Nat} (S X:Nat):∀ n,n<=m->dlq (S+18446744073709551616 ^ m*X) n=dlq S n
 | 0,_=>rfl
 | n+1,h=>by rw[dlq,dlq,JF S X n (by omega)];congr 3;refine iC (R:=18446744073709551616 ^ (m - (n+1))*X) ?_;rw[<- ak1,<- ak9,show n+1+(m - (n+1))=m by omega]
def DQ {w:List Int} {n i U Q:Nat} (hw:InWq w) (hl:w.length=n+1) (hU:U=au w) (hi:i<=n) (hQ:Q<18446744073709551616 ^ (n+1)) :
  (((w.getD i 0).toNat+18446744073709551616 - Q / 18446744073709551616 ^ i%18446744073709551616 - (if au (w.take i)<Q%18446744073709551616 ^ i then 1 else 0))%18446744073709551616=(U+18446744073709551616 ^ (n+1) - Q) / 18446744073709551616 ^ i%18446744073709551616)
  /\ (if (w.getD i 0).toNat<Q / 18446744073709551616 ^ i%18446744073709551616+(if au (w.take i)<Q%18446744073709551616 ^ i then 1 else 0)then 1 else 0)=(if au (w.take (i+1))<Q%18446744073709551616 ^ (i+1)then 1 else(0:Nat)):=by
 have hx:=hw.at (i:=i);have hA:=aK (m:=w) i;have hAl:=aP hw i;have hp:=aW i;have hBl:=ak5 Q hp;have hPs:18446744073709551616 ^ (i+1)=18446744073709551616 ^ i*18446744073709551616:=ak2 ..;have hmm:Q%18446744073709551616 ^ (i+1)=Q%18446744073709551616 ^ i+18446744073709551616 ^ i*(Q / 18446744073709551616 ^ i%18446744073709551616):=by rw[hPs,anK]
 have hyl:Q / 18446744073709551616 ^ i%18446744073709551616<18446744073709551616:=ak5 _ (by decide);constructor
 ·obtain⟨R1,h1⟩:=bh w (i+1);have hW:18446744073709551616 ^ (n+1)=18446744073709551616 ^ i*18446744073709551616*18446744073709551616 ^ (n - i):=by rw[<- hPs,<- ak9,show i+1+(n - i)=n+1 by omega]
  have hq:=C8 (D:=U+18446744073709551616 ^ (n+1) - Q) (a:=U+18446744073709551616 ^ (n+1)) (b:=Q) (x:=(w.getD i 0).toNat) (y:=Q / 18446744073709551616 ^ i%18446744073709551616) (R1:=R1+18446744073709551616 ^ (n - i)) (R2:=Q / (18446744073709551616 ^ i*18446744073709551616)) hAl hBl rfl
   (by rw[hU,h1,hA,hW,hPs,ak7]; omega)
   (by rw[<- hmm,hPs]; exact(am1 _ _).symm)
   (by omega)
  generalize (U+18446744073709551616 ^ (n+1) - Q) / 18446744073709551616 ^ i=Z at *;generalize Q / 18446744073709551616 ^ i%18446744073709551616=y at *;generalize (w.getD i 0).toNat=x at *;generalize ((R1+18446744073709551616 ^ (n - i):Nat):Int) - ((Q / (18446744073709551616 ^ i*18446744073709551616):Nat):Int)=RR at *;split at hq <;> rename_i hh <;> simp only[hh,amt,alo] <;> omega
 ·rw[hA,hmm];exact(pd _ _ _ _ _ hAl hBl).symm
def kZ (i:Nat):(i:Int)+1=((i+1:Nat):Int):=rfl
def Fz (p:Prop) [Decidable p]:(if p then(1:Int)else 0)=((if p then 1 else 0:Nat):Int):=by split <;> rfl
def Hv (p:Nat) (h:p<18446744073709551616):IntKind.wrap .u64 (((p+1:Nat):Int) - 1)=(p:Int):=by rw[aq]; omega
def C0 {D V c v i:Nat} (hc:c=(D%18446744073709551616 ^ i+V) / 18446744073709551616 ^ i) :
  (D%18446744073709551616 ^ (i+1)+(V+18446744073709551616 ^ i*v)) / 18446744073709551616 ^ (i+1)=(D / 18446744073709551616 ^ i%18446744073709551616+v+c) / 18446744073709551616 /\
  ∀ R,(D+(V+18446744073709551616 ^ i*v+18446744073709551616 ^ (i+1)*R)) / 18446744073709551616 ^ i%18446744073709551616=(D / 18446744073709551616 ^ i%18446744073709551616+v+c)%18446744073709551616:=by
 have hp:=aW i;have hPs:18446744073709551616 ^ (i+1)=18446744073709551616 ^ i*18446744073709551616:=ak2 ..;have hmm:D%18446744073709551616 ^ (i+1)=D%18446744073709551616 ^ i+18446744073709551616 ^ i*(D / 18446744073709551616 ^ i%18446744073709551616):=by rw[hPs,anK]
 have e:D%18446744073709551616 ^ (i+1)+(V+18446744073709551616 ^ i*v)=(D%18446744073709551616 ^ i+V)+18446744073709551616 ^ i*(D / 18446744073709551616 ^ i%18446744073709551616+v):=by rw[hmm,ak7]; omega
 have e2:(D%18446744073709551616 ^ (i+1)+(V+18446744073709551616 ^ i*v)) / 18446744073709551616 ^ i=D / 18446744073709551616 ^ i%18446744073709551616+v+c:=by rw[e,cz,<- hc]; omega
 constructor
 ·rw[hPs,<- akY,<- hPs,e2]
 ·intro R;have e3:D+(V+18446744073709551616 ^ i*v+18446744073709551616 ^ (i+1)*R)=(D%18446744073709551616 ^ (i+1)+(V+18446744073709551616 ^ i*v))+18446744073709551616 ^ (i+1)*(D / 18446744073709551616 ^ (i+1)+R):=by have:=am1 D (18446744073709551616 ^ (i+1));rw[ak7]; omega
  rw[iC e3,e2]
def HF {D V c i:Nat} (hc:c=(D%18446744073709551616 ^ i+V) / 18446744073709551616 ^ i) :
  (D%18446744073709551616 ^ (i+1)+V) / 18446744073709551616 ^ (i+1)=(D / 18446744073709551616 ^ i%18446744073709551616+0+c) / 18446744073709551616 /\
  (D+V) / 18446744073709551616 ^ i%18446744073709551616=(D / 18446744073709551616 ^ i%18446744073709551616+0+c)%18446744073709551616:=by
 obtain⟨a1,a2⟩:=C0 (v:=0) hc;have a3:=a2 0;rw[amc,aln V]at a1;rw[amc,amc,aln V]at a3;exact⟨a1,a3⟩
def KR {N:Nat} (hN:1180591620717411303424<=N) {o n U V d:Nat} {b c:List Int} (hn:1<=n) (hc:InWq c) (hcl:n<=c.length) (hbl:o+(n+1)<=b.length) (hbs:b.length<=1099511627780) (hV:V=au (c.take n)) (hUW:U<18446744073709551616 ^ (n+1)) (hd:∀ g,g<=d↔g*V<=U) (e0:Int->List Int->Bool) :
  ∀ g M,g<M->g<18446744073709551616->d<=g->g*V<18446744073709551616 ^ (n+1) ->
   af M (zI N o (n+1) 0 n (n:Int) c e0) ((g:Int),((if U<g*V then 1 else 0:Nat):Int),b.take o++(dlq (U+18446744073709551616 ^ (n+1) - g*V) (n+1)++b.drop (o+(n+1))))=e0 (d:Int) (b.take o++(dlq (U+18446744073709551616 ^ (n+1) - d*V) (n+1)++b.drop (o+(n+1)))):=by
 intro g;induction g with
 | zero=>
  intro M hM _ hdg _;obtain⟨M,rfl⟩:∃ m,M=m+1:=⟨M - 1,by omega⟩
  have:d=0:=by omega
  subst this;show zI N o (n+1) 0 n (n:Int) c e0 (_,_,_) (af M _)=_;simp only[zI,amg];rw[if_neg (by omega:¬ U<0),show(((0:Nat):Int) != 0)=false from rfl,akR]
 | succ p ih=>
  intro M hM hg hdg hgW;obtain⟨M,rfl⟩:∃ m,M=m+1:=⟨M - 1,by omega⟩
  show zI N o (n+1) 0 n (n:Int) c e0 (_,_,_) (af M _)=_;have hps:(p+1)*V=p*V+V:=amo _ _;by_cases hlt:U<(p+1)*V
  ·have hdp:d<=p:=by
    rcases alQ p d with h | h
    ·have:=(hd (p+1)).1 h; omega
    ·exact h
   simp only[zI];rw[if_pos hlt,show(((1:Nat):Int) != 0)=true from rfl,akS];obtain⟨D,hD⟩:∃ D,D=U+18446744073709551616 ^ (n+1) - (p+1)*V:=⟨_,rfl⟩
   obtain⟨E,hE⟩:∃ E,E=U+18446744073709551616 ^ (n+1) - p*V:=⟨_,rfl⟩
   have hDE:E=D+V:=by omega
   have hDl:D<18446744073709551616 ^ (n+1):=by omega
   rw[<- hD];refine aF (λi=>((((D%18446744073709551616 ^ i+au (c.take i)) / 18446744073709551616 ^ i:Nat):Int),(i:Int),b.take o++(dlq E i++((dlq D (n+1)).drop i++b.drop (o+(n+1)))))) n ?_ (by omega) (λi hi K=>?_) (λK=>?_)
   ·simp[dlq,au,anJ]
   ·have hx:=hc.at (i:=i);have hcv:=aK (m:=c) i;have hVl:=aP hc i;have hp:=aW i;have hml:=ak5 D hp;obtain⟨cy,hcy⟩:∃ cy,cy=(D%18446744073709551616 ^ i+au (c.take i)) / 18446744073709551616 ^ i:=⟨_,rfl⟩
    have hcl1:cy<=1:=by
     have:cy<2:=by rw[hcy,akZ hp]; omega
     omega
    obtain⟨a1,a2⟩:=C0 (D:=D) (V:=au (c.take i)) (v:=(c.getD i 0).toNat) hcy;obtain⟨R,hR⟩:=bh (c.take n) (i+1);rw[anX,amh (by omega),<- hV,hcv]at hR;have a3:=a2 R;rw[<- hR,<- hDE]at a3;have hdl:D / 18446744073709551616 ^ i%18446744073709551616<18446744073709551616:=ak5 _ (by decide);simp only[gK,akW,alk];rw[KA D E (by omega) (by omega),Kz D E (by omega) (by omega)];rw[akP (by omega:(i:Int)<n),akS,aa akO,aa (akP (by omega)),aa akO,aa (akP (by omega)),<- hcy,
     oh N (a:=D / 18446744073709551616 ^ i%18446744073709551616) (b:=(c.getD i 0).toNat) (d:=cy) rfl (by omega) rfl hcl1,aa akO,aa (akP (by omega)),aa akN,<- a3,KB D E (by omega) (by omega),<- a1,hcv,kZ]
   ·have hp:=aW n;have hml:=ak5 D hp;have hVl:V<18446744073709551616 ^ n:=by rw[hV]; exact aP hc n
    obtain⟨cy,hcy⟩:∃ cy,cy=(D%18446744073709551616 ^ n+V) / 18446744073709551616 ^ n:=⟨_,rfl⟩
    have hcl1:cy<=1:=by
     have:cy<2:=by rw[hcy,akZ hp]; omega
     omega
    obtain⟨a1,a3⟩:=HF (D:=D) (V:=V) (i:=n) hcy;rw[ak0 hDl,<- hDE]at a1;rw[<- hDE]at a3;simp only[gK,akW];rw[akQ (by omega:¬(n:Int)<n),akR,KA D E (by omega) (by omega),Kz D E (by omega) (by omega),<- hV,<- hcy,aa akO,aa (akP (by omega)),
     oh N (y:=0) (c:=((cy:Nat):Int)) (a:=D / 18446744073709551616 ^ n%18446744073709551616) (b:=0) (d:=cy) rfl rfl rfl hcl1,aa akO,aa (akP (by omega)),<- a3,<- a1,KB D E (by omega) (by omega),Hv p (by omega)]
    rw[alC (by rw[al]; omega),alF];have eb:IntKind.wrap .u64 (((1:Nat):Int) - ((E / 18446744073709551616 ^ (n+1):Nat):Int))=((if U<p*V then 1 else 0:Nat):Int):=by
     have hp1:=aW (n+1);by_cases h:U<p*V
     ·rw[if_pos h,alm (by omega),aq]; omega
     ·rw[if_neg h];have:E / 18446744073709551616 ^ (n+1)=1:=by refine Nat.div_eq_of_lt_le ?_ ?_ <;> omega
      rw[this,aq]; omega
    rw[eb,hE];exact ih M (by omega) (by omega) hdp (by omega)
  ·have:d=p+1:=by have:=(hd (p+1)).2 (by omega);omega
   subst this;simp only[zI];rw[if_neg hlt,show(((0:Nat):Int) != 0)=false from rfl,akR]
def OX {N:Nat} (hN:1180591620717411303424<=N) {o n:Nat} {b c:List Int} (hn:2<=n) (hb:InWq b) (hc:InWq c) (hcl:n<=c.length) (hbl:o+(n+1)<=b.length) (hbs:b.length<=1099511627780)
  (htop:0<(c.getD (n - 1) 0).toNat) (hU:au ((b.drop o).take (n+1))<au (c.take n)*18446744073709551616) (k:Kz0) :
  Pn N o (n+1) 0 n b c k=k ((au ((b.drop o).take (n+1)) / au (c.take n):Nat):Int) (b.take o++(dlq (au ((b.drop o).take (n+1))%au (c.take n)) (n+1)++b.drop (o+(n+1)))):=by
 obtain⟨g,g1,g2,g3⟩:=Ly hN hn hb hc hcl (by omega) hbs htop hU
 (unfold Pn; rw[ae]; unfold M6)
 rw[g3];have hw:InWq ((b.drop o).take (n+1)):=(hb.drop o).take _;have hwl:((b.drop o).take (n+1)).length=n+1:=by rw[alx,ams]; omega
 have hwg:∀ i,i<=n->((b.drop o).take (n+1)).getD i 0=b.getD (o+i) 0:=λi hi=>by rw[uO (by omega),kh]
 generalize (b.drop o).take (n+1)=w at *;obtain⟨U,hUe⟩:∃ U,U=au w:=⟨_,rfl⟩
 obtain⟨V,hVe⟩:∃ V,V=au (c.take n):=⟨_,rfl⟩
 rw[<- hUe,<- hVe]at hU g1 ⊢;have hV0:0<V:=by
  rcases al_ V with h | h
  ·rw[h,amg]at hU; omega
  ·exact h
 have hVl:V<18446744073709551616 ^ n:=by rw[hVe]; exact aP hc n
 have hUW:U<18446744073709551616 ^ (n+1):=by rw[hUe]; have:=iw hw; rwa [hwl]at this
 have hgV:g*V<18446744073709551616 ^ (n+1):=by rw[ak2,akT];exact alV hVl g2
 have hres:b.take o++(dlq (U%V) (n+1)++b.drop (o+(n+1)))=b.take o++(dlq (U+18446744073709551616 ^ (n+1) - (U / V)*V) (n+1)++b.drop (o+(n+1))):=by
  have e:U+18446744073709551616 ^ (n+1) - (U / V)*V=U%V+18446744073709551616 ^ (n+1)*1:=by have:=alP U V;omega
  rw[e,JF _ _ _ (ak3 _)]
 rw[hres];obtain⟨D,hD⟩:∃ D,D=U+18446744073709551616 ^ (n+1) - g*V:=⟨_,rfl⟩
 obtain⟨Q,hQ⟩:∃ Q,Q=g*V:=⟨_,rfl⟩
 have hQW:Q<18446744073709551616 ^ (n+1):=by rw[hQ]; exact hgV
 refine aF (λi=>(((g*au (c.take i) / 18446744073709551616 ^ i:Nat):Int),((if au (w.take i)<Q%18446744073709551616 ^ i then 1 else 0:Nat):Int),(i:Int),b.take o++(dlq D i++b.drop (o+i)))) n ?_ (by omega) (λi hi K=>?_) (λK=>?_)
 ·simp[dlq,au,anJ]
 ·have hx:=hb.at (i:=o+i);have hy:=hc.at (i:=i);have hcv:=aK (m:=c) i;have hp:=aW i;have hVi:=aP hc i;obtain⟨s1,s2⟩:=DQ hw hwl hUe (by omega:i<=n) (by rw[hQ]; exact hgV:Q<_);rw[hwg i (by omega)]at s1 s2;rw[hQ,<- hD,<- hQ]at s1;obtain⟨cy,hcy⟩:∃ cy,cy=g*au (c.take i) / 18446744073709551616 ^ i:=⟨_,rfl⟩
  have hcyl:cy<18446744073709551616:=by rw[hcy,akZ hp];exact alV g2 hVi
  have e1:g*au (c.take (i+1))=g*au (c.take i)+18446744073709551616 ^ i*(g*(c.getD i 0).toNat):=by rw[hcv,ak7,alh g]
  have ecy:g*au (c.take (i+1)) / 18446744073709551616 ^ (i+1)=(g*(c.getD i 0).toNat+0+cy) / 18446744073709551616:=by rw[ak2,<- akY,e1,cz,<- hcy];congr 1; omega
  obtain⟨R,hR⟩:=bh (c.take n) (i+1);rw[anX,amh (by omega),<- hVe]at hR;have elo:Q / 18446744073709551616 ^ i%18446744073709551616=(g*(c.getD i 0).toNat+0+cy)%18446744073709551616:=by
   have:Q=g*au (c.take (i+1))+18446744073709551616 ^ (i+1)*(g*R):=by rw[hQ,hR,ak7,alh g]
   rw[iC this,e1,cz,<- hcy];congr 1; omega
  simp only[gJ,akW,alk];rw[KD D (by omega),KC D (by omega),akP (by omega:(i:Int)<n),akS,aa akO,aa (akP (by omega)),<- hcy,
   Bz N (c:=0) (a:=g) (b:=(c.getD i 0).toNat) (e:=0) (f:=cy) rfl (by omega) rfl rfl g2 (by omega) (by omega) hcyl,aa akO,aa (akP (by omega)),<- elo,<- ecy,
   yl N (a:=(b.getD (o+i) 0).toNat) (b:=Q / 18446744073709551616 ^ i%18446744073709551616) (d:=if au (w.take i)<Q%18446744073709551616 ^ i then 1 else 0) (by omega) rfl rfl (by split <;> omega),aa akO,aa (akP (by omega)),aa akN,s1,KE D (by omega)]
  have s3:(if (b.getD (o+i) 0).toNat<Q / 18446744073709551616 ^ i%18446744073709551616+(if au (w.take i)<Q%18446744073709551616 ^ i then 1 else 0)then(1:Int)else 0)=((if au (w.take (i+1))<Q%18446744073709551616 ^ (i+1)then 1 else 0:Nat):Int):=by rw[Fz,s2]
  rw[s3];rfl
 ·have hx:=hb.at (i:=o+n);obtain⟨s1,s2⟩:=DQ hw hwl hUe (ak3 n) (by rw[hQ]; exact hgV:Q<_);rw[hwg n (by omega)]at s1 s2;rw[hQ,<- hD,<- hQ]at s1;have hql:Q / 18446744073709551616 ^ n<18446744073709551616:=by rw[akZ (aW n),akT,<- ak2,hQ]; exact hgV
  rw[ak0 hql]at s1 s2;have hwt:w.take (n+1)=w:=alc (by omega);rw[hwt,<- hUe,ak0 hQW]at s2;simp only[gJ,akW];rw[akQ (by omega:¬(n:Int)<n),akR,<- hVe,<- hQ,KD D (by omega),KC D (by omega),aa akO,aa (akP (by omega)),
   yl N (a:=(b.getD (o+n) 0).toNat) (b:=Q / 18446744073709551616 ^ n) (d:=if au (w.take n)<Q%18446744073709551616 ^ n then 1 else 0) (by omega) rfl rfl (by split <;> omega),aa akO,aa (akP (by omega)),s1,KE D (by omega)]
  have s3:(if (b.getD (o+n) 0).toNat<Q / 18446744073709551616 ^ n+(if au (w.take n)<Q%18446744073709551616 ^ n then 1 else 0)then(1:Int)else 0)=((if U<g*V then 1 else 0:Nat):Int):=by rw[<- hQ,Fz,s2]
  rw[s3,hD];exact KR hN (by omega) hc hcl hbl hbs hVe hUW (λp=>amx hV0) _ g N (by omega) g2 g1 hgV
def Iz {N:Nat} (b:List Int) (m:Nat) (hm:m<=b.length) (hN:m<N) (hs:m<9223372036854775807) (k:Kz8):rB N 0 m b k=k (bE b m):=by
 (unfold rB; rw[ae]; unfold qE)
 have key:∀ n,n<=m -> ∀ M,n<M->af M (wO N 0 m b λZY=>((decide (0<=ZY/\ZY<=((m:Nat):Int)))&&(k ((Int.toNat ZY) - 0)))) (n:Int)=k (bE b n):=by
  intro n;induction n with
  | zero=>
   intro _ M hM;obtain⟨M,rfl⟩:∃ m,M=m+1:=⟨M - 1,by omega⟩
   show wO N 0 m b _ ((0:Nat):Int) _=_;simp only[wO,bE];rw[akQ (by omega:¬((0:Nat):Int)>0),show(false==true)=false from rfl,akR,akP (by omega),alW];rfl
  | succ n ih=>
   intro hn M hM;obtain⟨M,rfl⟩:∃ m,M=m+1:=⟨M - 1,by omega⟩
   show wO N 0 m b _ ((n+1:Nat):Int) (af M _)=_;have e:0+Int.toNat (((n+1:Nat):Int) - 1)=n:=by omega
   have e2:((n+1:Nat):Int) - 1=(n:Int):=by omega
   simp only[wO,e];rw[akP (by omega:((n+1:Nat):Int)>0),show(true==true)=true from rfl,akS,aa akN,aa akO,aa (akP (by omega)),aa akN,e2,ih (by omega) M (by omega),pg];by_cases h0:b.getD n 0=0
   ·have:(b.getD n 0==0)=true:=by simpa using h0
    rw[this,if_pos h0]; rfl
   ·have:(b.getD n 0==0)=false:=by simpa using h0
    rw[this,if_neg h0,akR,akP (by omega),alW];rfl
 exact key m (ak3 _) N hN
def zm (N:Nat) (b:List Int) (m i:Nat) (hm:m<=b.length) (hi:i<9223372036854775807) (k:Kz7):Kk N 0 m (i:Int) b k=k ((b.take m).getD i 0):=by
 unfold Kk RG;by_cases h:i<m
 ·rw[akP (by omega),akS,aa akO,aa (akP (by omega)),uO h];simp
 ·rw[akQ (by omega),akR,dT (by rw[alx]; omega)]
def GF {N:Nat} (b:List Int) (hb:InWq b) (m s:Nat) (hm:m<=b.length) (hs:s<64) (hN:m+3<N) (hms:m<=1099511627780):∃ lost:Bool,∀ k,Kh N 0 m (s:Int) b k=k (ah (au (b.take m) / 2 ^ s)) lost:=by
 have ew:IntKind.wrap .u64 (Int.tdiv (s:Int) 64)=0:=by rw[aq,alU (by omega)]; omega
 have es:Int.tmod (s:Int) 64=(s:Int):=by rw[alL (by omega)]; omega
 have eml:IntKind.wrap .u64 ((m:Nat):Int)=(m:Int):=by rw[aq]; omega
 have hs0:0<2 ^ s:=ak4 _;by_cases h0:m=0
 ·subst h0;refine⟨false,λk=>?_⟩
  (unfold Kh; rw[ae]; unfold Jm)
  rw[ew,am8,show au []=0 from rfl,Nat.zero_div,ba];rfl
 ·refine⟨aA .and .u64 (b.getD 0 0) (IntKind.wrap .u64 ((IntKind.wrap .u64 ((1:Int)*2 ^ s)) - 1)) != 0,λk=>?_⟩
  (unfold Kh; rw[ae]; unfold Jm)
  have emin:min s 64=s:=by omega
  have e64:min (Int.toNat (IntKind.wrap .u64 (64 - (s:Int)))) 64=64 - s:=by rw[aq]; omega
  have z0:0+Int.toNat (0:Int)=0:=rfl;have z1:Int.toNat (0:Int) - 0=0:=rfl;rw[ew,es,eml,akQ (by omega:¬(0:Int)>=(m:Int)),akR,aa akN,aa akO,z0,z1,aa (akP (by omega)),aa (akP (by omega)),aa (akP (by omega)),akW,emin];refine aF (λi=>(aA .and .u64 (b.getD 0 0) (IntKind.wrap .u64 ((IntKind.wrap .u64 ((1:Int)*2 ^ s)) - 1)),(i:Int))) 0 rfl (by omega) (λi hi K=>by omega) (λK=>?_);simp only[mC];rw[akQ (by omega:¬((0:Nat):Int)<((0:Nat):Int)),akR];generalize aA .and .u64 (b.getD 0 0) (IntKind.wrap .u64 ((IntKind.wrap .u64 ((1:Int)*2 ^ s)) - 1))=lo;have hw:InWq (b.take m):=hb.take m;have hwl:(b.take m).length=m:=by rw[alx]; omega
  obtain⟨X,hX⟩:∃ X,X=au (b.take m) / 2 ^ s:=⟨_,rfl⟩
  have elen:Int.toNat ((m:Int) - 0)=m:=by omega
  have elen2:(m:Int) - 0=(m:Int):=by omega
  rw[elen2,aa akN,aa (bT (by omega) (by omega) (by omega) (by omega)),amb,akW,<- hX];refine aF (λi=>((i:Int),dlq X i++List.replicate (m - i) 0)) m (by simp[dlq]) (by omega) (λi hi K=>?_) (λK=>?_)
  ·have hx:=hw.at (i:=i);have hy:=hw.at (i:=i+1);have hset:=uM X i m (by omega);have hl:(dlq X i++List.replicate (m - i) (0:Int)).length=m:=by simp[al]; omega
   obtain⟨R,hR⟩:=AW hw i;have hdig:X / 18446744073709551616 ^ i%18446744073709551616=(((b.take m).getD i 0).toNat+18446744073709551616*((b.take m).getD (i+1) 0).toNat) / 2 ^ s%18446744073709551616:=by
    rw[hX,akY,akT (2 ^ s),<- akY,hR];have e2:18446744073709551616*18446744073709551616*R=2 ^ s*(18446744073709551616*(2 ^ (64 - s)*R)):=by
     have hs1:2 ^ s*2 ^ (64 - s)=18446744073709551616:=by rw[<- ak9,show s+(64 - s)=64 by omega]
     rw[alh (2 ^ s),<- ak1 (2 ^ s),hs1,ak1]
    rw[e2,alO _ _ hs0,al8]
   have ea:(0:Int)+(i:Int)=(i:Int):=by omega
   have eb:(i:Int)+1=((i+1:Nat):Int):=by omega
   simp only[iK,akW,ea,eb,emin,e64,hl];rw[akP (by omega:(i:Int)<(m:Int)),akS,aa akN,zm N b m i hm (by omega),aa (akP (by omega)),aa akN,aa akN,zm N b m (i+1) hm (by omega),aa (akP (by rw[aq]; omega)),aa akO,aa (akP (by omega)),aa akN];have ex:(b.take m).getD i 0=((((b.take m).getD i 0).toNat:Nat):Int):=by omega
   have ey:(b.take m).getD (i+1) 0=((((b.take m).getD (i+1) 0).toNat:Nat):Int):=by omega
   rw[ex,ey,DR (by omega) (by omega) (by omega),<- hdig,hset]
  ·simp only[iK];rw[akQ (by omega:¬(m:Int)<(m:Int)),akR,alq,alv,alp];have hXl:X<18446744073709551616 ^ m:=by have h1:=iw hw;rw[hwl]at h1;rw[hX];exact amp (amq _ _) h1
   have:=kW (N:=N) _ (gq X m) (by rw[al]; omega) (by rw[al]; omega) (λl=>k l (lo != 0));rw[this,mR hXl]
def LX {N:Nat} (m:List Int) (hm:InWq m) (n:Nat) (hn:n<4294967296) (hN:m.length+n / 64+4<N) (hs:m.length<=1099511627776) (e0:List Int->Bool) :
  af N (eg N ((n / 64:Nat):Int) ((n%64:Nat):Int) m ((m.length:Nat):Int) e0) (0,List.replicate (n / 64+m.length+1) (0:Int))=e0 (dlq (au m*2 ^ n) (n / 64+m.length+1)):=by
 have hw6:n / 64<67108864:=by omega
 generalize hw:n / 64=w at *;generalize hsh:n%64=s at *;have hs32:s<64:=by omega
 have hp2:2 ^ n=18446744073709551616 ^ w*2 ^ s:=by rw[EK,hw,hsh]
 have hs0:0<2 ^ s:=ak4 s;have hs1:2 ^ s*2 ^ (64 - s)=18446744073709551616:=by rw[<- ak9,show s+(64 - s)=64 by omega]
 let V:=au m*2 ^ n
 let X:=au m*2 ^ s
 have hVX:V=18446744073709551616 ^ w*X:=by simp only[V,X]; rw[hp2,alh]
 let T:=λi=>au (m.take i)*2 ^ s
 let c:=λi=>T i / 18446744073709551616 ^ i
 have hcl:∀ i,c i<2 ^ s:=by intro i;simp only[c,T];rw[akZ (aW i),akT];exact al0 (aP hm i) hs0
 refine aF (N:=N) (λi=>((i:Int),dlq V (w+i)++((c i:Nat):Int)::List.replicate (m.length - i) 0)) m.length ?_ (by omega) (λi hi K=>?_) (λK=>?_)
 ·congr 1;show List.replicate (w+m.length+1) (0:Int)=dlq V w++((c 0:Nat):Int)::List.replicate m.length 0;rw[hVX,tx];have hc0:c 0=0:=by simp[c,T,au]
  rw[hc0];have:w+m.length+1=w+(m.length+1):=by omega
  rw[this,<- amv,alB]; rfl
 ·have hx:=hm.at (i:=i);have hT:T (i+1)=T i+18446744073709551616 ^ i*((m.getD i 0).toNat*2 ^ s):=by simp only[T,aK,alj,ak1]
  have hq:T (i+1) / 18446744073709551616 ^ i=c i+(m.getD i 0).toNat*2 ^ s:=by rw[hT,cz]
  have hci:c i<2 ^ s:=hcl i;have hc1:c (i+1)=(c i+(m.getD i 0).toNat*2 ^ s) / 18446744073709551616:=by rw[<- hq]; simp only[c]; rw[ak2,akY]
  have hdig:V / 18446744073709551616 ^ (w+i)%18446744073709551616=(c i+(m.getD i 0).toNat*2 ^ s)%18446744073709551616:=by rw[<- hq,hVX,ak9,<- akY,alr _ (aW w)];obtain⟨R,hR⟩:=bh m (i+1);refine iC (R:=R*2 ^ s) ?_;simp only[X,T];rw[hR,alj,ak1]
  have hrep:List.replicate (m.length - i) (0:Int)=0::List.replicate (m.length - (i+1)) 0:=by rw[show m.length - i=(m.length - (i+1))+1 by omega,alB]
  have hdl:=al V (w+i);have ei:Int.toNat ((w:Int)+(i:Int))=w+i:=by omega
  have ei1:Int.toNat ((w:Int)+(i:Int)+1)=w+i+1:=by omega
  have emin:min s 64=s:=by omega
  have e64:min (Int.toNat (IntKind.wrap .u64 (64 - (s:Int)))) 64=64 - s:=by rw[aq]; omega
  simp only[eg,akW,ei,ei1,emin,e64];rw[hrep,bP hdl.symm,aY _ _ _ _ _ hdl.symm];have hmx:m.getD i 0=(((m.getD i 0).toNat:Nat):Int):=by omega
  rw[hmx];generalize hxx:(m.getD i 0).toNat=x at *;have hx32:x<18446744073709551616:=by omega
  have hlow:x*2 ^ s%18446744073709551616=2 ^ s*(x%2 ^ (64 - s)):=by
   have e:x*2 ^ s%(2 ^ s*2 ^ (64 - s))=2 ^ s*(x%2 ^ (64 - s)):=by rw[akT x]; exact amB _ _ _
   rwa [hs1]at e
  have hsum:2 ^ s*(x%2 ^ (64 - s))+c i<18446744073709551616:=by have h1:x%2 ^ (64 - s)+1<=2 ^ (64 - s):=ak5 _ (ak4 _);have h2:=akX (2 ^ s) h1;rw[hs1,ak7]at h2;omega
  have epw:(x:Int)*2 ^ s=((x*2 ^ s:Nat):Int):=by rw[alb,ami]; rfl
  have eor:aA .or .u64 ((c i:Nat):Int) (IntKind.wrap .u64 ((x:Int)*2 ^ s))=((V / 18446744073709551616 ^ (w+i)%18446744073709551616:Nat):Int):=by
   have e1:IntKind.wrap .u64 ((x*2 ^ s:Nat):Int)=((2 ^ s*(x%2 ^ (64 - s)):Nat):Int):=by rw[<- hlow,aq]; omega
   rw[epw,e1,cj _ _ s hci hsum,hdig];omega
  have ehi:Int.fdiv (x:Int) (2 ^ (64 - s))=((c (i+1):Nat):Int):=by
   have e2:(2:Int) ^ (64 - s)=((2 ^ (64 - s):Nat):Int):=by rw[ami]; rfl
   rw[e2,kY,hc1];have:(c i+x*2 ^ s) / 18446744073709551616=x / 2 ^ (64 - s):=by rw[<- hs1,<- akY,akT x,alO _ _ hs0,alm hci,alk]
   rw[this]
  rw[eor,ehi];have hl1:∀(a b:Int) (ys:List Int),(dlq V (w+i)++a::b::ys).length=w+i+2+ys.length:=by intro a b ys; simp[hdl]; omega
  have hset2:(dlq V (w+i)++((V / 18446744073709551616 ^ (w+i)%18446744073709551616:Nat):Int)::0::List.replicate (m.length - (i+1)) 0).set (w+i+1) ((c (i+1):Nat):Int)=dlq V (w+(i+1))++((c (i+1):Nat):Int)::List.replicate (m.length - (i+1)) 0:=by
   have:dlq V (w+i)++((V / 18446744073709551616 ^ (w+i)%18446744073709551616:Nat):Int)::0::List.replicate (m.length - (i+1)) 0=dlq V (w+(i+1))++0::List.replicate (m.length - (i+1)) 0:=by rw[<- aly,dlq]; simp
   rw[this];exact aY _ _ _ _ _ (by rw[al]; omega)
  rw[hset2,hl1,hl1];simp only[amb];rw[akP (by omega:(i:Int)<((m.length:Nat):Int)),akS,aa akO,aa akN,aa akO,aa (akP (by omega)),aa (akP (by omega)),aa akO,aa (akP (by omega)),aa akN,aa akN,aa (akP (by rw[aq]; omega)),aa akO,aa (akP (by omega)),aa akN];rfl
 ·simp only[eg];rw[akQ (by omega:¬(m.length:Int)<m.length),akR,alq,alv];have hV:V<18446744073709551616 ^ (w+m.length+1):=by
   have h1:=iw hm;simp only[V];rw[hp2,ak2,ak9,alh,ak1];refine al0 ?_ (aW w);have hs2:2 ^ s<=18446744073709551616:=by rw[<- hs1]; exact alE _ (ak4 _)
   exact alA h1 hs2 (by decide)
  have hT:T m.length=X:=by simp only[T,X]; rw[alz]
  have hend:dlq V (w+m.length)++[((c m.length:Nat):Int)]=dlq V (w+m.length+1):=by
   rw[dlq];have:c m.length=V / 18446744073709551616 ^ (w+m.length)%18446744073709551616:=by
    have hX:V / 18446744073709551616 ^ (w+m.length)=X / 18446744073709551616 ^ m.length:=by rw[hVX,ak9,<- akY,alr _ (aW w)]
    have h2:=hcl m.length;have hs2:2 ^ s<=18446744073709551616:=by rw[<- hs1]; exact alE _ (ak4 _)
    rw[hX,<- hT];exact(ak0 (by show c m.length<_; omega)).symm
   rw[this]
  rw[hend]
def FT (n:Nat):dlq n (ah n).length=ah n:=by refine List.ext_getElem (al n _) (λi h1 h2=>?_);have e1:=tw n h2;have e2:=oB i n;rw[List.getD_eq_getElem?_getD,List.getElem?_eq_getElem h1,alD]at e1;rw[List.getD_eq_getElem?_getD,List.getElem?_eq_getElem h2,alD]at e2;rw[e1,e2]
def Eb {X L:Nat} (hX:X<18446744073709551616 ^ L):∀ k,dlq X (L+k)=dlq X L++List.replicate k 0
 | 0=>by simp
 | k+1=>by rw[<- aly,dlq,Eb hX k,alm (ak_ hX (ak6 (by decide) (am_ _ _))),amr,ak8];rfl
def tz (S:Nat):∀{m n:Nat},n<=m->(dlq S m).take n=dlq S n
 | 0,n,h=>by
  have:n=0:=by omega
  subst this; rfl
 | m+1,n,h=>by
  by_cases e:n=m+1
  ·subst e; rw[alc (by rw[al]; omega)]
  ·rw[dlq,alT (by rw[al]; omega),tz S (by omega)]
def C_ (S a:Nat):∀ c,dlq S (a+c)=dlq S a++dlq (S / 18446744073709551616 ^ a) c
 | 0=>by simp[dlq]
 | c+1=>by rw[<- aly,dlq,C_ S a c,dlq,akY,<- ak9,ak8]
def HY {V m:Nat} (h:V<18446744073709551616 ^ m):bE (dlq V m) m=(ah V).length:=by have h1:=xK (gq V m);rw[al,qn,ak0 h]at h1;rw[<- h1,alx,al];have:=kg (dlq V m) m;omega
def Ve {V m:Nat} (h1:18446744073709551616 ^ m<=V) (h2:V<18446744073709551616 ^ (m+1)):(ah V).length=m+1:=by have a:=fE (m+1) V h2;have b:=Vd (V:=V) (w:=m) (by have:=ane h1 (aW m); omega);omega
def vH {N:Nat} {m s:Nat} (hm:m ≠ 0) (hs:s<64) (hN:(ah m).length+4<N) (hl:(ah m).length<=1099511627776) (k0:Bool) (k1:Nat->List Int->Bool) :
  PG N (ah m) (s:Int) k0 k1=k1 (ah (m*2 ^ s)).length (dlq (m*2 ^ s) ((ah m).length+1)):=by
 have hlp:(ah m).length ≠ 0:=by rw[bH hm]; simp
 have hV:m*2 ^ s<18446744073709551616 ^ ((ah m).length+1):=by
  rw[ak2];have h2:2 ^ s<18446744073709551616:=by rw[<- oQ]; exact Nat.pow_lt_pow_right (by decide) hs
  exact alV (jT m) h2
 (unfold PG; rw[ae]; unfold S4)
 have e0:((((ah m).length:Nat):Int)==0)=false:=by simp; intro h; rw[h]at hlp; simp at hlp
 have ew:IntKind.wrap .u64 (Int.tdiv (s:Int) 64)=((s / 64:Nat):Int):=by rw[aq,alU (by omega)]; omega
 have es:Int.tmod (s:Int) 64=((s%64:Nat):Int):=by rw[alL (by omega)]; rfl
 have elen:Int.toNat (((s / 64:Nat):Int)+(((ah m).length:Nat):Int)+1)=s / 64+(ah m).length+1:=by omega
 rw[e0,akR,ew,es,aa akN,aa akN,aa akN,aa (bT (by omega) (by omega) (by omega) (by omega)),elen];have:=LX (N:=N) (ah m) (aT m) s (by omega) (by omega) hl (λz_1=>xA N z_1 λmr=>k1 mr z_1);rw[aD,show s / 64=0 by omega,alk]at this;rw[show s / 64=0 by omega,alk];refine Eq.trans this ?_;rw[BA _ (by rw[al]; omega) (by rw[al]; omega),al,HY hV]
def Mc (xs:List Int) (k:Nat):au (xs++List.replicate k 0)=au xs:=by rw[nS,z7]; simp
def xk {N:Nat} (hN:1180591620717411303424<=N) {x y:Nat} (hxy:y<=x) (hy2:2<=(ah y).length) (hxl:(ah x).length<=1099511627000) (k:Kz5) :
  BU N (ah x) (ah y) k=k (ah (x / y)) (ah (x%y)):=by
 have hy0:y ≠ 0:=by intro h; rw[h,ba]at hy2; simp at hy2
 have hyx:=cS hxy;have hylt:=jT y;have hxlt:=jT x;have hylo:18446744073709551616 ^ ((ah y).length - 1)<=y:=by
  rcases alQ y (18446744073709551616 ^ ((ah y).length - 1))with h | h
  ·have:=fE _ _ h; omega
  ·exact h
 (unfold BU; rw[ae]; unfold Nd)
 rw[iE x y ⟨by omega,by omega⟩ ⟨by omega,by omega⟩];have hc:decide (dw x y<0)=false:=by unfold dw; rw[if_neg (by omega)]; split <;> rfl
 obtain⟨n,hn⟩:∃ n,(ah y).length=n+2:=⟨(ah y).length - 2,by omega⟩
 obtain⟨lx,hlx⟩:∃ lx,(ah x).length=lx:=⟨_,rfl⟩
 have htd:(ah y).getD (n+1) 0=((y / 18446744073709551616 ^ (n+1):Nat):Int):=by rw[oB,ak0];rw[akZ (aW _),akT,<- ak2];rw[hn]at hylt; exact hylt
 rw[hn]at hylt hylo;rw[hlx]at hxlt;rw[show n+2 - 1=n+1 by omega]at hylo;obtain⟨t,ht⟩:∃ t,t=y / 18446744073709551616 ^ (n+1):=⟨_,rfl⟩
 rw[<- ht]at htd;have htl:t<18446744073709551616:=by rw[ht,akZ (aW _),akT,<- ak2]; exact hylt
 have ht0:t ≠ 0:=by have:=ane hylo (aW (n+1)); omega
 obtain⟨g1,g2,g3⟩:=Ku ht0 htl;have ein:Int.toNat (((n+2:Nat):Int) - 1)=n+1:=by omega
 have e1':(((n+2:Nat):Int)==1)=false:=by simp; omega
 rw[hc,akR,hn,hlx,e1',akR,aa akN,aa akO,ein,htd,Gg N htl];obtain⟨s,hs⟩:∃ s,s=64 - bl t:=⟨_,rfl⟩
 rw[<- hs]at g1 g2 g3 ⊢;have hs0:0<2 ^ s:=ak4 s;have ews:IntKind.wrap .u64 ((s:Nat):Int)=(s:Int):=by rw[aq]; omega
 rw[ews];obtain⟨V,hV⟩:∃ V,V=y*2 ^ s:=⟨_,rfl⟩
 obtain⟨X,hX⟩:∃ X,X=x*2 ^ s:=⟨_,rfl⟩
 have hVlt:V<18446744073709551616 ^ (n+2):=by
  have h1:=anf y (aW (n+1));rw[<- ht]at h1;have h2:y*2 ^ s<18446744073709551616 ^ (n+1)*(t+1)*2 ^ s:=alG h1 hs0;have h3:(t+1)*2 ^ s<=18446744073709551616:=by
   have hd:2 ^ s*2 ^ (64 - s)=18446744073709551616:=by rw[<- ak9,show s+(64 - s)=64 by omega]
   have h4:t<2 ^ (64 - s):=by rw[akT]at g3;rw[<- hd]at g3;exact am9 g3
   rw[<- hd,akT];exact akX _ h4
  have h5:=akX (18446744073709551616 ^ (n+1)) h3;rw[hV,show n+2=n+1+1 by omega,ak2];rw[ak1]at h2;omega
 have hVge:18446744073709551616 ^ (n+1)<=V:=by rw[hV]; exact alf hylo (alE _ hs0)
 have hVlen:(ah V).length=n+2:=Ve hVge hVlt;have hV0:0<V:=ak_ (aW _) hVge;have hx0:x ≠ 0:=by omega
 rw[vH hy0 g1 (by omega) (by omega),hn,<- hV,hVlen,vH hx0 g1 (by omega) (by omega),hlx,<- hX];have hs2:2 ^ s<=18446744073709551616:=by rw[<- oQ]; exact ak6 (by decide) (by omega)
 have hXlt:X<18446744073709551616 ^ (lx+1):=by rw[hX,ak2]; exact alA hxlt hs2 (by decide)
 have hXlen1:(ah X).length<=lx+1:=fE _ _ hXlt;have hXlen2:lx<=(ah X).length:=by rw[<- hlx,hX]; exact cS (alE _ hs0)
 have etk:(dlq X (lx+1)).take (ah X).length=ah X:=by rw[tz X hXlen1,FT]
 have ebl:(ah X++[0,0]).length=(ah X).length+2:=by simp
 obtain⟨M,hM⟩:∃ M,lx+1=M+(n+2):=⟨lx+1 - (n+2),by omega⟩
 have eu1:Int.toNat ((lx:Int)+1) - 0=lx+1:=by omega
 have eM:(((lx+1:Nat):Int) - ((n+2:Nat):Int))=(M:Int):=by omega
 rw[amn,etk,ebl,eu1,eM];rw[aa (akP (by rw[al]; omega)),aa (akP (by omega)),aa akN,aa (akP (by omega)),aa akN,aa (bT (by omega) (by omega) (by omega) (by omega)),aa akN,aa akN,akW];obtain⟨tail,htail⟩:∃ tail,tail=(ah X++[(0:Int),0]).drop (lx+1):=⟨_,rfl⟩
 have htw:InWq tail:=by
  rw[htail];refine InWq.drop (λz hz=>?_) _;rcases List.mem_append.1 hz with h | h
  ·exact aT X z h
  ·simp only[amd,amT,or_false,or_self]at h; subst h; omega
 have htlen:tail.length<=2:=by rw[htail,ams,ebl]; omega
 have hstart:ah X++[(0:Int),0]=dlq X M++(dlq (X / 18446744073709551616 ^ M%V) (n+2)++(List.replicate 0 0++tail)):=by
  have hXM:X / 18446744073709551616 ^ M<V:=by
   rw[akZ (aW M),hX,hV];have h1:x*2 ^ s<18446744073709551616 ^ lx*2 ^ s:=alG hxlt hs0;have h2:18446744073709551616 ^ lx=18446744073709551616 ^ (n+1)*18446744073709551616 ^ M:=by rw[<- ak9]; congr 1; omega
   have h3:=akU (18446744073709551616 ^ M*2 ^ s) hylo;rw[h2,ak1]at h1;have e:y*2 ^ s*18446744073709551616 ^ M=y*(18446744073709551616 ^ M*2 ^ s):=by rw[ak1,akT (2 ^ s)]
   rw[e]; omega
  rw[ak0 hXM,alv,alF,<- ak8,<- C_,<- hM];rw[htail];have hpad:(ah X++[(0:Int),0]).take (lx+1)=dlq X (lx+1):=by
   have:ah X++[(0:Int),0]=dlq X ((ah X).length+2):=by rw[Eb (jT X) 2,FT]; rfl
   rw[this,tz X (by omega)]
  rw[<- hpad,anu]
 rw[hstart];have hQlt:X / V<18446744073709551616 ^ M:=by
  rw[akZ hV0];have h1:x*2 ^ s<18446744073709551616 ^ lx*2 ^ s:=alG hxlt hs0;have h2:18446744073709551616 ^ lx=18446744073709551616 ^ M*18446744073709551616 ^ (n+1):=by rw[<- ak9]; congr 1; omega
  have h3:=akX (18446744073709551616 ^ M) (akU (2 ^ s) hylo);rw[hX,hV];rw[h2,ak1]at h1;omega
 have hmk:M<=1099511627001:=by omega
 refine aF (λi=>((M:Int) - 1 - (i:Int),dlq X (M - i)++(dlq (X / 18446744073709551616 ^ (M - i)%V) (n+2)++(List.replicate i 0++tail)),List.replicate (M - i) (0:Int)++(dlq (X / V) M).drop (M - i))) M ?_ (by omega) (λi hi K=>?_) (λK=>?_)
 ·rw[amX,alC (by rw[al]; omega),alp];congr 1;omega
 ·obtain⟨j,hj⟩:∃ j,M - i=j+1:=⟨M - i - 1,by omega⟩
  have hj2:M - (i+1)=j:=by omega
  have ei:(M:Int) - 1 - (i:Int)=(j:Int):=by omega
  have ei2:(M:Int) - 1 - ((i+1:Nat):Int)=(j:Int) - 1:=by omega
  rw[hj,hj2,ei,ei2];obtain⟨A,hA⟩:∃ A,A=X / 18446744073709551616 ^ j:=⟨_,rfl⟩
  have hA1:X / 18446744073709551616 ^ (j+1)=A / 18446744073709551616:=by rw[hA,ak2,akY]
  obtain⟨n1,n2⟩:=DP (A:=A) hV0;obtain⟨R,hR⟩:∃ R,R=A / 18446744073709551616%V:=⟨_,rfl⟩
  have hRV:R<V:=by rw[hR]; exact ak5 _ hV0
  rw[hA1,<- hR];rw[<- hR]at n1 n2;obtain⟨b,hb⟩:∃ b,b=dlq X (j+1)++(dlq R (n+2)++(List.replicate i 0++tail)):=⟨_,rfl⟩
  have hblen:b.length=j+1+(n+2)+i+tail.length:=by rw[hb]; simp[al]; omega
  have hbw:InWq b:=by
   rw[hb];intro z hz;rcases List.mem_append.1 hz with h | h
   ·exact gq _ _ z h
   ·rcases List.mem_append.1 h with h | h
    ·exact gq _ _ z h
    ·rcases List.mem_append.1 h with h | h
     ·have:=(List.mem_replicate.1 h).2; subst this; omega
     ·exact htw z h
  have hbt:b.take j=dlq X j:=by rw[hb,alT (by rw[al]; omega),tz X (by omega)]
  have hbd:b.drop j=((A%18446744073709551616:Nat):Int)::(dlq R (n+2)++(List.replicate i 0++tail)):=by rw[hb,dlq,ak8,alS (by rw[al]; omega),alC (by rw[al]; omega),alF,hA];rfl
  have hwv:au ((b.drop j).take (n+2+1))=R*18446744073709551616+A%18446744073709551616:=by rw[hbd,anH,alT (by rw[al]; omega),alc (by rw[al]; omega),au,qn,ak0 (amC hRV hVlt),akW];omega
  have hbd2:b.drop (j+(n+2+1))=List.replicate i 0++tail:=by rw[<- List.drop_drop,hbd,List.drop_succ_cons,alS (by rw[al]; omega),alC (by rw[al]; omega),alF]
  have hcv:au ((dlq V (n+2+1)).take (n+2))=V:=by rw[tz V (by omega),qn,ak0 hVlt]
  have hctop:0<((dlq V (n+2+1)).getD (n+2 - 1) 0).toNat:=by
   rw[tw V (by omega),akW,show n+2 - 1=n+1 by omega,ak0]
   ·exact ane hVge (aW _)
   ·rw[akZ (aW _),akT,<- ak2]; exact hVlt
  have hAm:A%18446744073709551616<18446744073709551616:=ak5 _ (by decide);have hstep:=λkk=>OX hN (o:=j) (n:=n+2) (b:=b) (c:=dlq V (n+2+1)) (by omega) hbw (gq _ _) (by rw[al]; omega) (by omega) (by omega) hctop (by rw[hwv,hcv];have:=akU 18446744073709551616 hRV;rw[amo]at this;omega) kk
  rw[hwv,hcv,n1,n2,hbt,hbd2]at hstep;have hnext:dlq X j++(dlq (A%V) (n+2+1)++(List.replicate i 0++tail))=dlq X j++(dlq (A%V) (n+2)++(List.replicate (i+1) 0++tail)):=by rw[Eb (amC (ak5 A hV0) hVlt) 1,ak8,alB];rfl
  have hdg:X / V / 18446744073709551616 ^ j%18446744073709551616=A / V%18446744073709551616:=by rw[hA,akY,akY,akT V]
  have ej:0+Int.toNat (j:Int)=j:=by omega
  have ej2:Int.toNat ((j:Int)+((n+2:Nat):Int)+1) - Int.toNat (j:Int)=n+2+1:=by omega
  rw[<- hb];simp only[Ca,ej,ej2];rw[akP (by omega:(j:Int)>=0),akS,aa akN,aa akN,aa (akP (by omega))];rw[hstep];have hql:(List.replicate (j+1) (0:Int)++(dlq (X / V) M).drop (j+1)).length=M:=by simp[al]; omega
  rw[hql,aa akO,aa (akP (by omega)),aa akN,akW,<- hdg,J_ _ _ _ (by omega),hnext,<- hA]
 ·simp only[Ca];have e0:(M:Int) - 1 - (M:Int) = -1:=by omega
  rw[e0,akQ (by omega),akR,alq,amL,amG,alv,alF,amn];obtain⟨L,hL⟩:∃ L,L=dlq X 0++(dlq (X%V) (n+2)++(List.replicate M 0++tail)):=⟨_,rfl⟩
  have hRlt:X%V<18446744073709551616 ^ (n+2):=amC (ak5 _ hV0) hVlt;have hLt:L.take (lx+1)=dlq (X%V) (n+2)++List.replicate M 0:=by rw[hL,hM,show dlq X 0=[] from rfl,alF,<- ak8,alT (by simp[al]; omega),alc (by simp[al]; omega)]
  have hLw:InWq L:=by
   rw[hL];intro z hz;rcases List.mem_append.1 hz with h | h
   ·cases h
   ·rcases List.mem_append.1 h with h | h
    ·exact gq _ _ z h
    ·rcases List.mem_append.1 h with h | h
     ·have:=(List.mem_replicate.1 h).2; subst this; omega
     ·exact htw z h
  have hLlen:lx+1<=L.length:=by rw[hL]; simp[al]; omega
  rw[<- hL];unfold Nz;rw[Iz L (lx+1) hLlen (by omega) (by omega)];have hcl:=kg L (lx+1);obtain⟨lost,hlost⟩:=GF (N:=N) L hLw (bE L (lx+1)) s (by omega) g1 (by omega) (by omega);rw[hlost,qR,hLt,Mc,qn,ak0 hRlt];have:=kW (N:=N) (dlq (X / V) M) (gq _ _) (by rw[al]; omega) (by rw[al]; omega) (λz=>k z (ah (X%V / 2 ^ s)));rw[this,mR hQlt,hX,hV,anv _ _ hs0,anw,amy _ hs0]
def kX {N:Nat} (hN:1180591620717411303424<=N) {x y:Nat} (hy:0<y) (hxl:(ah x).length<=1099511627000) (hyl:(ah y).length<=1099511627000) (k:Kz5) :
  BU N (ah x) (ah y) k=k (ah (x / y)) (ah (x%y)):=by
 by_cases hxy:y<=x
 ·by_cases h2:2<=(ah y).length
  ·exact xk hN hxy h2 hxl k
  ·have hylt:=jT y;have hl1:(ah y).length=1:=by rw[bH (by omega)]at h2 ⊢; simp at h2 ⊢; exact h2
   rw[hl1,anR]at hylt;have hd:=qU (by omega:y ≠ 0) hylt;have hc:decide (dw x y<0)=false:=by unfold dw; rw[if_neg (by omega)]; split <;> rfl
   (unfold BU; rw[ae]; unfold Nd)
   rw[iE x y ⟨by omega,by omega⟩ ⟨by omega,by omega⟩,hc,akR,hd];show cond (((1:Nat):Int)==1) _ _=_;rw[show(((1:Nat):Int)==1)=true from rfl,akS,aa (ai (by omega) (by simp))];show pB N (ah x) (y:Int) _=_;have hm:x%y<18446744073709551616:=amC (ak5 _ hy) hylt;rw[LU (by omega) hy hylt ⟨by omega,by omega⟩,uS (by omega) _ hm]
 ·have hc:decide (dw x y<0)=true:=by unfold dw; rw[if_pos (by omega)]; rfl
  (unfold BU; rw[ae]; unfold Nd)
  rw[iE x y ⟨by omega,by omega⟩ ⟨by omega,by omega⟩,hc,akS,ym _ (by omega),alm (by omega),ak0 (by omega),ba]
def zT:∀ n,n ≠ 0->bl n=64*((ah n).length - 1)+bl ((ah n).getD ((ah n).length - 1) 0).toNat/\0<(ah n).length:=by
 intro n;induction n using Nat.strongRecOn with
 | ind n ih=>
  intro h;rw[bH h];by_cases h1:n / 18446744073709551616=0
  ·rw[h1,ba];have:n%18446744073709551616=n:=ak0 (by omega);simp[this]
  ·obtain⟨i1,i2⟩:=ih (n / 18446744073709551616) (by omega) h1;have e:=mP (n:=n) 64 (by rw[oQ]; omega);rw[oQ]at e;refine⟨?_,by simp⟩;have e2:(((n%18446744073709551616:Nat):Int)::ah (n / 18446744073709551616)).getD ((((n%18446744073709551616:Nat):Int)::ah (n / 18446744073709551616)).length - 1) 0=(ah (n / 18446744073709551616)).getD ((ah (n / 18446744073709551616)).length - 1) 0:=by
    simp only[als,anh];generalize ah (n / 18446744073709551616)=l at i2 ⊢;cases l with
    | nil=>simp at i2
    | cons y l=>simp
   rw[e2,e,i1];simp only[als];omega
def Gs {N:Nat} {n:Nat} (hs:(ah n).length<=1099511627776) (k:Kz7):rA N (ah n) k=k (bl n:Int):=by
 (unfold rA; rw[ae]; unfold qD)
 by_cases h:n=0
 ·subst h; rw[ba]; rfl
 ·obtain⟨e1,e2⟩:=zT n h;have e0:(((ah n).length:Int)==0)=false:=by simp; intro h'; rw[h']at e2; simp at e2
  have e3:Int.toNat (((ah n).length:Int) - 1)=(ah n).length - 1:=by omega
  have hw:=(aT n).at (i:=(ah n).length - 1);have e4:(ah n).getD ((ah n).length - 1) 0=((((ah n).getD ((ah n).length - 1) 0).toNat:Nat):Int):=by omega
  have hb:=w_ (n:=((ah n).getD ((ah n).length - 1) 0).toNat) (j:=64) (by rw[oQ]; omega);rw[e0,akR,aa akN,aa akN,aa akN,aa akO,e3,e4,Bs N (by omega),aa akN,e1];congr 1;omega
def JS {N:Nat} {x f:Nat} (hf:f<140737488355328) (k:Kz7):vg N (ah x) (f:Int) k=k ((x / 2 ^ f%18446744073709551616:Nat):Int):=by
 (unfold vg; rw[ae]; unfold xP)
 have e1:Int.tdiv (f:Int) 64=((f / 64:Nat):Int):=by rw[alU (by omega)]; rfl
 have e2:IntKind.wrap .u64 (Int.tmod (f:Int) 64)=((f%64:Nat):Int):=by rw[aq,alL (by omega)]; omega
 have e3:min (f%64) 64=f%64:=by omega
 have e4:min (Int.toNat (IntKind.wrap .u64 (64 - ((f%64:Nat):Int)))) 64=64 - f%64:=by rw[aq]; omega
 have e5:((f / 64:Nat):Int)+1=((f / 64+1:Nat):Int):=by omega
 have hx:=(aT x).at (i:=f / 64);have hy:=(aT x).at (i:=f / 64+1);have ex:(ah x).getD (f / 64) 0=((((ah x).getD (f / 64) 0).toNat:Nat):Int):=by omega
 have ey:(ah x).getD (f / 64+1) 0=((((ah x).getD (f / 64+1) 0).toNat:Nat):Int):=by omega
 rw[e1,e2,e5,aa akN,oj N _ (f / 64) (by omega),aa (akP (by omega)),aa akN,oj N _ (f / 64+1) (by omega),aa (akP (by rw[aq]; omega)),akW,e3,e4,ex,ey,DR (by omega) (by omega) (by omega)];obtain⟨R,hR⟩:=AW (aT x) (f / 64);rw[aD]at hR;have hp:2 ^ f=18446744073709551616 ^ (f / 64)*2 ^ (f%64):=EK f;have hs0:0<2 ^ (f%64):=ak4 _;rw[hp,<- akY,hR];have e6:18446744073709551616*18446744073709551616*R=2 ^ (f%64)*(18446744073709551616*(2 ^ (64 - f%64)*R)):=by
  have hs1:2 ^ (f%64)*2 ^ (64 - f%64)=18446744073709551616:=by rw[<- ak9,show f%64+(64 - f%64)=64 by omega]
  rw[alh (2 ^ (f%64)),<- ak1 (2 ^ (f%64)),hs1,ak1]
 rw[e6,alO _ _ hs0,al8]
def Gy {N:Nat} {x d e:Nat} (hd:d<18446744073709551616) (he:e<18446744073709551616) (hs:me N (ah x)) (k:List Int->Bool):vJ N (ah x) (d:Int) (e:Int) k=k (ah (x*d+e)):=by
 (unfold vJ; rw[ae]; unfold M5)
 obtain⟨s1,s2⟩:=hs;obtain⟨L,hL⟩:∃ L,(ah x).length=L:=⟨_,rfl⟩
 have hx:=jT x;rw[hL]at hx;have eL:Int.toNat ((L:Int)+1)=L+1:=by omega
 rw[hL,aa akN,aa (bT (by omega) (by omega) (by omega) (by omega)),eL];obtain⟨m,hm⟩:∃ m,m=ah x:=⟨_,rfl⟩
 have hmw:InWq m:=by rw[hm]; exact aT x
 have hmv:au m=x:=by rw[hm]; exact aD x
 have hml:m.length=L:=by rw[hm]; exact hL
 rw[<- hm];obtain⟨S,hS⟩:∃ S,S=x*d+e:=⟨_,rfl⟩
 rw[<- hS];refine aF (λi=>((((au (m.take i)*d+e) / 18446744073709551616 ^ i:Nat):Int),(i:Int),dlq S i++List.replicate (L+1 - i) 0)) L (by simp[au,dlq]) (by omega) (λi hi K=>?_) (λK=>?_)
 ·have hz:=hmw.at (i:=i);have hp:=aW i;have hXi:=aP hmw i;have hcv:=aK (m:=m) i;obtain⟨cy,hcy⟩:∃ cy,cy=(au (m.take i)*d+e) / 18446744073709551616 ^ i:=⟨_,rfl⟩
  have e1:au (m.take (i+1))*d+e=(au (m.take i)*d+e)+18446744073709551616 ^ i*((m.getD i 0).toNat*d):=by rw[hcv,alj,ak1]; omega
  have hcyl:cy<18446744073709551616:=by
   rw[hcy,akZ hp];have:=alJ (am7 hXi) (am7 hd);have h1:1<=18446744073709551616 ^ i:=hp;have h2:(18446744073709551616 ^ i - 1)*(18446744073709551616 - 1)+18446744073709551615=18446744073709551616 ^ i*18446744073709551615:=by
    obtain⟨P,hP⟩:∃ P,18446744073709551616 ^ i=P+1:=⟨18446744073709551616 ^ i - 1,by omega⟩
    rw[hP]; omega
   omega
  have ecy:(au (m.take (i+1))*d+e) / 18446744073709551616 ^ (i+1)=((m.getD i 0).toNat*d+0+cy) / 18446744073709551616:=by rw[ak2,<- akY,e1,cz,<- hcy];congr 1; omega
  obtain⟨R,hR⟩:=bh m (i+1);have elo:S / 18446744073709551616 ^ i%18446744073709551616=((m.getD i 0).toNat*d+0+cy)%18446744073709551616:=by
   have:S=(au (m.take (i+1))*d+e)+18446744073709551616 ^ (i+1)*(R*d):=by rw[hS,<- hmv,hR,alj,ak1]; omega
   rw[iC this,e1,cz,<- hcy];congr 1; omega
  have hset:=uM S i (L+1) (by omega);have hl:(dlq S i++List.replicate (L+1 - i) (0:Int)).length=L+1:=by simp[al]; omega
  simp only[mM,akW];rw[akP (by omega:(i:Int)<(L:Int)),akS,hml,aa akO,<- hcy,Bz N (c:=0) (a:=(m.getD i 0).toNat) (b:=d) (e:=0) (f:=cy) (by omega) rfl rfl rfl (by omega) hd (by omega) hcyl,hl,aa akO,aa (akP (by omega)),aa akN,<- elo,<- ecy,hset,kZ]
 ·simp only[mM];have hl:(dlq S L++List.replicate (L+1 - L) (0:Int)).length=L+1:=by simp[al]
  have hSl:S<18446744073709551616 ^ (L+1):=by
   rw[hS,ak2];have h1:=alJ (am7 hx) (am7 hd);obtain⟨P,hP⟩:∃ P,18446744073709551616 ^ L=P+1:=⟨18446744073709551616 ^ L - 1,by have:=aW L; omega⟩
   rw[hP]at h1 ⊢;omega
  have ee:(au (m.take L)*d+e) / 18446744073709551616 ^ L=S / 18446744073709551616 ^ L%18446744073709551616:=by rw[alc (by omega),hmv,<- hS,ak0];rw[akZ (aW L),akT,<- ak2]; exact hSl
  rw[akQ (by omega:¬(L:Int)<(L:Int)),akR,hl,ee,akW,uM S L (L+1) (by omega),aa akO,aa (akP (by omega)),alq,alv,alp,kW _ (gq _ _) (by rw[al]; omega) (by rw[al]; omega),mR hSl]
def AA (x0 y0 a b c d:Nat) (odd:Bool):Prop:=
 ∃ p q,x0=d*p+b*q/\y0=c*p+a*q/\(cond odd (b*c=a*d+1) (a*d=b*c+1))/\a<=b/\c<=d/\d<=q/\q+b+d<=p/\1<=b/\1<=c/\b<18446744073709551616/\d<18446744073709551616
def Jf {N:Nat} {x0 y0:Nat} (hx0:x0<18446744073709551616) (hy0:y0<18446744073709551616) (t1 t2 t3 t4:Int) (t5:Bool) :
  ∀ y x u v a b c d odd M,y<M->y<=x->x0=v*x+d*y->y0=u*x+c*y->(cond odd (c*v=d*u+1) (d*u=c*v+1))->1<=v ->
   ((d=0/\u=0/\b=0/\c=1/\v=1)\/(1<=u/\c<=d/\u<=v/\(b=0\/AA x0 y0 a b c d odd))) ->
   ∃ a' b' c' d':Nat,∃ odd',(b'=0\/AA x0 y0 a' b' c' d' odd') /\ ∀ e0,af M (oW N t1 t2 t3 t4 t5 e0) ((x:Int),(y:Int),(u:Int),(v:Int),(a:Int),(b:Int),(c:Int),(d:Int),odd)=e0 (a':Int) (b':Int) (c':Int) (d':Int) odd':=by
 intro y;induction y using Nat.strongRecOn with
 | ind y ih=>
 intro x u v a b c d odd M hM hyx h1 h2 hdet hv hor;obtain⟨M,rfl⟩:∃ m,M=m+1:=⟨M - 1,by omega⟩
 have hend:b=0\/AA x0 y0 a b c d odd:=by
  rcases hor with h | h
  ·exact .inl h.2.2.1
  ·exact h.2.2.2
 by_cases c1:v<=y
 ·have hy1:1<=y:=by omega
  have b1:v*1<=v*x:=akX _ (by omega);have b2:d*1<=d*y:=akX _ hy1;have w1:IntKind.wrap .u64 ((x:Int) - (y:Int))=((x - y:Nat):Int):=by have:1*x<=v*x:=akU _ hv;rw[aq]; omega
  have w2:IntKind.wrap .u64 ((d:Int)+(v:Int))=((d+v:Nat):Int):=by rw[aq]; omega
  by_cases c2:d+v<=x - y
  ·-- one step more
   obtain⟨q,hq⟩:∃ q,q=x / y:=⟨_,rfl⟩
   obtain⟨r,hr⟩:∃ r,r=x%y:=⟨_,rfl⟩
   have hxq:x=q*y+r:=by rw[hq,hr]; exact(alP x y).symm
   have hry:r<y:=by rw[hr]; exact ak5 _ hy1
   have hq1:1<=q:=by rw[hq]; exact ane hyx hy1
   have n1:x0=(d+q*v)*y+v*r:=by rw[h1,hxq]; grind
   have n2:y0=(c+q*u)*y+u*r:=by rw[h2,hxq]; grind
   have m1:(d+q*v)*1<=(d+q*v)*y:=akX _ hy1;have m2:(c+q*u)*1<=(c+q*u)*y:=akX _ hy1;have hvq:v<=d+q*v:=by have:=akU v hq1;omega
   have hg:∀(e0:Int->Int->Int->Int->Bool->Bool),af (M+1) (oW N t1 t2 t3 t4 t5 e0) ((x:Int),(y:Int),(u:Int),(v:Int),(a:Int),(b:Int),(c:Int),(d:Int),odd)=af M (oW N t1 t2 t3 t4 t5 e0) ((y:Int),(r:Int),((c+q*u:Nat):Int),((d+q*v:Nat):Int),(c:Int),(d:Int),(u:Int),(v:Int),!odd):=by
    intro e0;show oW N t1 t2 t3 t4 t5 e0 _ (af M _)=_;simp only[oW];have y1:(!decide ((y:Int)=0))=true:=by simp; omega
    have ediv:Int.tdiv (x:Int) (y:Int)=(q:Int):=by rw[hq]; rfl
    have emod:Int.tmod (x:Int) (y:Int)=(r:Int):=by rw[hr]; rfl
    have wq:IntKind.wrap .u64 (q:Int)=(q:Int):=by have:q*1<=q*v:=akX _ hv;rw[aq]; omega
    have wu:IntKind.wrap .u64 ((c:Int)+IntKind.wrap .u64 ((q:Int)*(u:Int)))=((c+q*u:Nat):Int):=by rw[<- alb,aq,aq]; omega
    have wv:IntKind.wrap .u64 ((d:Int)+IntKind.wrap .u64 ((q:Int)*(v:Int)))=((d+q*v:Nat):Int):=by rw[<- alb,aq,aq]; omega
    rw[akP (by omega:(y:Int)>=v),show(true==true)=true from rfl,akS,w1,w2,akP (by omega),akS,aa y1,aa y1,ediv,emod,wq,wu,wv]
   have hstep:=ih r hry y (c+q*u) (d+q*v) c d u v (!odd) M (by omega) (by omega) n1 n2 (by
    cases odd with
    | true=>
     simp only[akS,alK,akR]at hdet ⊢;have:v*(c+q*u)=v*c+q*u*v:=by grind
     have:u*(d+q*v)=u*d+q*u*v:=by grind
     have:c*v=v*c:=akT _ _;have:d*u=u*d:=akT _ _;omega
    | false=>
     simp only[akS,alu,akR]at hdet ⊢;have:u*(d+q*v)=u*d+q*u*v:=by grind
     have:v*(c+q*u)=v*c+q*u*v:=by grind
     have:c*v=v*c:=akT _ _;have:d*u=u*d:=akT _ _;omega) (by omega) (by
    refine .inr ?_;rcases hor with⟨k1,k2,k3,k4,k5⟩ | ⟨k1,k2,k3,k4⟩
    ·subst k1 k2 k4 k5;exact⟨by omega,by omega,by omega,.inl rfl⟩
    ·have hu1:u<=c+q*u:=by have:=akU u hq1;omega
     refine⟨by omega,k3,?_,?_⟩
     ·have:=akX q k3;omega
     ·rcases al_ d with hd0 | hd0
      ·exact .inl hd0
      ·refine .inr ⟨x,y,h1,h2,?_,k2,k3,c1,by omega,hd0,k1,by omega,by omega⟩;cases odd with
       | true=>simp only[alK,akR,akS]at hdet ⊢; exact hdet
       | false=>simp only[alu,akS,akR]at hdet ⊢; exact hdet)
   obtain⟨a',b',c',d',odd',g1,g2⟩:=hstep;exact⟨a',b',c',d',odd',g1,λe0=>by rw[hg,g2]⟩
  ·refine⟨a,b,c,d,odd,hend,λe0=>?_⟩;show oW N t1 t2 t3 t4 t5 e0 _ (af M _)=_;simp only[oW];rw[akP (by omega:(y:Int)>=v),show(true==true)=true from rfl,akS,w1,w2,akQ (by omega),akR]
 ·refine⟨a,b,c,d,odd,hend,λe0=>?_⟩;show oW N t1 t2 t3 t4 t5 e0 _ (af M _)=_;simp only[oW];rw[akQ (by omega:¬(y:Int)>=v),show(false==true)=false from rfl,akR]
def LV {N:Nat} (hN:1180591620717411303424<=N) {x0 y0:Nat} (hx0:x0<18446744073709551616) (hyx:y0<=x0):∃ a b c d:Nat,∃ odd,(b=0\/AA x0 y0 a b c d odd) /\ ∀ k,t_ N (x0:Int) (y0:Int) k=k (a:Int) (b:Int) (c:Int) (d:Int) odd:=by obtain⟨a,b,c,d,odd,h1,h2⟩:=Jf (N:=N) (x0:=x0) (y0:=y0) hx0 (by omega) 0 0 0 0 false y0 x0 0 1 0 0 1 0 true N (by omega) hyx (by omega) (by omega) rfl (ak3 _) (.inl ⟨rfl,rfl,rfl,rfl,rfl⟩);exact⟨a,b,c,d,odd,h1,λk=>by unfold t_; rw[ae]; exact h2 _⟩
def KO {x0 y0 a b c d F rx ry X Y:Nat} (h:AA x0 y0 a b c d true) (hrx:rx<F) (hry:ry<F) (hX:X=x0*F+rx) (hY:Y=y0*F+ry) :
  a*X<=b*Y/\d*Y<=c*X/\c*X - d*Y<=b*Y - a*X/\X=d*(b*Y - a*X)+b*(c*X - d*Y)/\Y=c*(b*Y - a*X)+a*(c*X - d*Y):=by
 obtain⟨p,q,h1,h2,hdet,hab,hcd,hdq,hpq,hb1,hc1,hbl,hdl⟩:=h;simp only[akS]at hdet;have e1:b*Y+a*rx=a*X+(p*F+b*ry):=by
  subst h1 h2 hX hY;have:b*(c*p*F)=(a*d+1)*(p*F):=by rw[<- hdet]; grind
  grind
 have e2:c*X+d*ry=d*Y+(q*F+c*rx):=by
  subst h1 h2 hX hY;have:b*c*(q*F)=(a*d+1)*(q*F):=by rw[<- hdet]
  grind
 have m1:a*rx<=a*F:=akX _ (by omega);have m2:a*F<=b*F:=akU _ hab;have m3:d*ry<=d*F:=akX _ (by omega);have m4:d*F<=q*F:=akU _ hdq;have m5:(q+b+d)*F<=p*F:=akU _ hpq;rw[alj,alj]at m5;have m6:c*rx<=c*F:=akX _ (by omega);have m7:c*F<=d*F:=akU _ hcd;have g1:a*X<=b*Y:=by omega
 have g2:d*Y<=c*X:=by omega
 refine⟨g1,g2,by omega,?_,?_⟩
 ·obtain⟨U,hU⟩:=amw g1;obtain⟨V,hV⟩:=amw g2;rw[<- hU,<- hV,alw,alw];have t1:d*(b*Y)=d*(a*X)+d*U:=by rw[<- hU,ak7]
  have t2:b*(c*X)=b*(d*Y)+b*V:=by rw[<- hV,ak7]
  have t3:b*(c*X)=(a*d+1)*X:=by rw[<- hdet,ak1]
  have t4:(a*d+1)*X=d*(a*X)+X:=by grind
  have t5:d*(b*Y)=b*(d*Y):=by grind
  omega
 ·obtain⟨U,hU⟩:=amw g1;obtain⟨V,hV⟩:=amw g2;rw[<- hU,<- hV,alw,alw];have t1:c*(b*Y)=c*(a*X)+c*U:=by rw[<- hU,ak7]
  have t2:a*(c*X)=a*(d*Y)+a*V:=by rw[<- hV,ak7]
  have t3:c*(b*Y)=(a*d+1)*Y:=by rw[<- hdet]; grind
  have t4:(a*d+1)*Y=a*(d*Y)+Y:=by grind
  have t5:c*(a*X)=a*(c*X):=by grind
  omega
def HH {x0 y0 a b c d F rx ry X Y:Nat} (h:AA x0 y0 a b c d false) (hrx:rx<F) (hry:ry<F) (hX:X=x0*F+rx) (hY:Y=y0*F+ry) :
  b*Y<=a*X/\c*X<=d*Y/\d*Y - c*X<=a*X - b*Y/\X=d*(a*X - b*Y)+b*(d*Y - c*X)/\Y=c*(a*X - b*Y)+a*(d*Y - c*X):=by
 obtain⟨p,q,h1,h2,hdet,hab,hcd,hdq,hpq,hb1,hc1,hbl,hdl⟩:=h;simp only[akR]at hdet;have e1:a*X+b*ry=b*Y+(p*F+a*rx):=by
  subst h1 h2 hX hY;have:a*d*(p*F)=(b*c+1)*(p*F):=by rw[<- hdet]
  grind
 have e2:d*Y+c*rx=c*X+(q*F+d*ry):=by
  subst h1 h2 hX hY;have:a*d*(q*F)=(b*c+1)*(q*F):=by rw[<- hdet]
  grind
 have m1:b*ry<=b*F:=akX _ (by omega);have m3:c*rx<=c*F:=akX _ (by omega);have m4:d*F<=q*F:=akU _ hdq;have m5:(q+b+d)*F<=p*F:=akU _ hpq;rw[alj,alj]at m5;have m6:d*ry<=d*F:=akX _ (by omega);have m7:c*F<=d*F:=akU _ hcd;have g1:b*Y<=a*X:=by omega
 have g2:c*X<=d*Y:=by omega
 refine⟨g1,g2,by omega,?_,?_⟩
 ·obtain⟨U,hU⟩:=amw g1;obtain⟨V,hV⟩:=amw g2;rw[<- hU,<- hV,alw,alw];have t1:d*(a*X)=d*(b*Y)+d*U:=by rw[<- hU,ak7]
  have t2:b*(d*Y)=b*(c*X)+b*V:=by rw[<- hV,ak7]
  have t3:d*(a*X)=(b*c+1)*X:=by rw[<- hdet]; grind
  have t4:(b*c+1)*X=b*(c*X)+X:=by grind
  have t5:d*(b*Y)=b*(d*Y):=by grind
  omega
 ·obtain⟨U,hU⟩:=amw g1;obtain⟨V,hV⟩:=amw g2;rw[<- hU,<- hV,alw,alw];have t1:c*(a*X)=c*(b*Y)+c*U:=by rw[<- hU,ak7]
  have t2:a*(d*Y)=a*(c*X)+a*V:=by rw[<- hV,ak7]
  have t3:a*(d*Y)=(b*c+1)*Y:=by rw[<- hdet]; grind
  have t4:(b*c+1)*Y=c*(b*Y)+Y:=by grind
  have t5:c*(a*X)=a*(c*X):=by grind
  omega
def xc {X Y U V a b c d:Nat} (h1:X=d*U+b*V) (h2:Y=c*U+a*V) (hU:Nat.gcd X Y∣U) (hV:Nat.gcd X Y∣V):Nat.gcd U V=Nat.gcd X Y:=by
 refine Nat.dvd_antisymm (Nat.dvd_gcd ?_ ?_) (Nat.dvd_gcd hU hV)
 ·rw[h1];exact Nat.dvd_add (ale (alI _ _) _) (ale (al3 _ _) _)
 ·rw[h2];exact Nat.dvd_add (ale (alI _ _) _) (ale (al3 _ _) _)
def Lu {N:Nat} {x0 y0 a b c d F rx ry X Y:Nat} {odd:Bool} (h:AA x0 y0 a b c d odd) (hrx:rx<F) (hry:ry<F) (hX:X=x0*F+rx) (hY:Y=y0*F+ry) (hY0:0<Y) (sX:(ah X).length+10<N/\(ah X).length<=1099511627000) (sY:(ah Y).length+10<N/\(ah Y).length<=1099511627000) :
  ∃ U V,V<=U/\U+V<X+Y/\U<=X/\Nat.gcd U V=Nat.gcd X Y /\ ∀ k,dZ N (a:Int) (b:Int) (c:Int) (d:Int) odd (ah X) (ah Y) k=k (ah U) (ah V):=by
 have hb:=h;obtain⟨p,q,h1,h2,hdet,hab,hcd,hdq,hpq,hb1,hc1,hbl,hdl⟩:=hb;have len1:∀ z e:Nat,(ah z).length+10<N/\(ah z).length<=1099511627000->e<18446744073709551616->me N (ah (z*e+0)):=by
  intro z e hz he;have:=fE ((ah z).length+1) (z*e+0) (by rw[aln,ak2]; exact alV (jT z) he)
  exact⟨by omega,by omega⟩
 have fin:∀ U V:Nat,X=d*U+b*V->Y=c*U+a*V->V<=U->U+V<X+Y/\U<=X:=by
  intro U V hx hy hvu;have k1:1*U<=d*U:=akU _ (by omega);have k2:1*V<=b*V:=akU _ hb1;have k3:1*U<=c*U:=akU _ hc1;have hU0:0<U:=by
   rcases al_ U with hu | hu
   ·exfalso;have hv:V=0:=by omega
    rw[hu,hv,amc,amc]at hy;omega
   ·exact hu
  exact⟨by omega,by omega⟩
 cases odd with
 | true=>
  obtain⟨g1,g2,g3,g4,g5⟩:=KO h hrx hry hX hY;obtain⟨f1,f2⟩:=fin _ _ g4 g5 g3;refine⟨b*Y - a*X,c*X - d*Y,g3,f1,f2,xc g4 g5 ?_ ?_,λk=>?_⟩
  ·exact ang (ale (al3 _ _) _) (ale (alI _ _) _)
  ·exact ang (ale (alI _ _) _) (ale (al3 _ _) _)
  ·(unfold dZ; rw[ae]; unfold dQ)
   have m:=λ(z e:Nat) (he:e<18446744073709551616) (hz:me N (ah z)) (kk:List Int->Bool)=>Gy (N:=N) (e:=0) he (by decide) hz kk
   rw[show((0:Nat):Int)=0 from rfl]at m;rw[akS,m Y b hbl ⟨by omega,by omega⟩,m X a (by omega) ⟨by omega,by omega⟩,oi _ _ (aT _) (aT _) (by rw[aD,aD,aln,aln,akT X,akT Y]; exact g1) (len1 Y b sY hbl),m X c (by omega) ⟨by omega,by omega⟩,m Y d hdl ⟨by omega,by omega⟩,oi _ _ (aT _) (aT _) (by rw[aD,aD,aln,aln,akT X,akT Y]; exact g2) (len1 X c sX (by omega)),aD,aD,aD,aD,aln,aln,aln,aln,akT Y b,akT X a,akT X c,akT Y d]
 | false=>
  obtain⟨g1,g2,g3,g4,g5⟩:=HH h hrx hry hX hY;obtain⟨f1,f2⟩:=fin _ _ g4 g5 g3;refine⟨a*X - b*Y,d*Y - c*X,g3,f1,f2,xc g4 g5 ?_ ?_,λk=>?_⟩
  ·exact ang (ale (alI _ _) _) (ale (al3 _ _) _)
  ·exact ang (ale (al3 _ _) _) (ale (alI _ _) _)
  ·(unfold dZ; rw[ae]; unfold dQ)
   have m:=λ(z e:Nat) (he:e<18446744073709551616) (hz:me N (ah z)) (kk:List Int->Bool)=>Gy (N:=N) (e:=0) he (by decide) hz kk
   rw[show((0:Nat):Int)=0 from rfl]at m;rw[akR,m X a (by omega) ⟨by omega,by omega⟩,m Y b hbl ⟨by omega,by omega⟩,oi _ _ (aT _) (aT _) (by rw[aD,aD,aln,aln,akT X,akT Y]; exact g1) (len1 X a sX (by omega)),m Y d hdl ⟨by omega,by omega⟩,m X c (by omega) ⟨by omega,by omega⟩,oi _ _ (aT _) (aT _) (by rw[aD,aD,aln,aln,akT X,akT Y]; exact g2) (len1 Y d sY hdl),aD,aD,aD,aD,aln,aln,aln,aln,akT Y b,akT X a,akT X c,akT Y d]
def JQ (N x:Nat) (k:Kz7):vc N (ah x) k=k ((x%18446744073709551616:Nat):Int):=by unfold vc CS;have:=oj N (ah x) 0 (by omega) k;rw[show((0:Nat):Int)=0 from rfl]at this;rw[this,oB,amL,amG]
def F0 {N:Nat} (e0:Int->Bool):∀(b a M:Nat),b<M->af M (fh N e0) ((a:Int),(b:Int))=e0 ((Nat.gcd a b:Nat):Int):=by
 intro b;induction b using Nat.strongRecOn with
 | ind b ih=>
 intro a M hM;obtain⟨M,rfl⟩:∃ m,M=m+1:=⟨M - 1,by omega⟩
 show fh N e0 ((a:Int),(b:Int)) (af M _)=_;simp only[fh];by_cases h:b=0
 ·subst h;rw[akQ (by omega),akR,anl]
 ·have y1:(!decide ((b:Int)=0))=true:=by simp; omega
  have emod:Int.tmod (a:Int) (b:Int)=((a%b:Nat):Int):=rfl;rw[akP (by omega),akS,aa y1,emod,ih (a%b) (ak5 _ (by omega)) b M (by have:=ak5 a (by omega:b>0); omega),al7 b,<- anS,al7]
def wz {y:Nat} (h:(ah y).length<=1):y<18446744073709551616:=by have:=jT y;have h2:18446744073709551616 ^ (ah y).length<=18446744073709551616 ^ 1:=ak6 (by decide) h;rw[anR]at h2;omega
def AV {N:Nat} (hN:1180591620717411303424<=N) {u v:List Int} {x y:Nat} (hy:(ah y).length<=1) (hx:y=0\/(ah x).length<=1) (k:List Int->Bool) :
  yS N u v (ah x) (ah y) k=k (ah (Nat.gcd x y)):=by
 unfold yS;have hyl:=wz hy;by_cases h:y=0
 ·subst h;rw[ba,anl]; rfl
 ·have e0:((((ah y).length:Nat):Int)==0)=false:=by rw[bH h]; simp; omega
  have hxl:=wz (hx.resolve_left h);rw[e0,akR,JQ,JQ,ak0 hxl,ak0 hyl,F0 _ y x N (by omega)];refine uS (by omega) _ ?_ k;have:=amU x (anm h);omega
def FR {N:Nat} (hN:1180591620717411303424<=N) {u v:List Int} (k:List Int->Bool) :
  ∀ s x y,x+y=s->s<N->y<=x->(ah x).length<=1099511626000 ->
   P8 N u v (ah x) (ah y) k=k (ah (Nat.gcd x y)):=by
 intro s x y hs hsN hyx hxl;unfold P8;have main:∀ s x y M,x+y=s->s<M->M<=N->y<=x->(ah x).length<=1099511626000 ->
   af M (Hl N (λ(x_3:List Int) (y_3:List Int)=>(cond ((decide ((((List.length y_3):Nat):Int)>0))==true) (cond (decide ((((List.length x_3):Nat):Int)>1)) (BU N x_3 y_3 (λ(Zo:List Int) (Zn:List Int)=>(yS N u v y_3 Zn k))) (yS N u v x_3 y_3 k)) (yS N u v x_3 y_3 k)))) (ah x,ah y)=k (ah (Nat.gcd x y)):=by
  intro s;induction s using Nat.strongRecOn with
  | ind s ih=>
  intro x y M hs hsM hMN hyx hxl;obtain⟨M,rfl⟩:∃ m,M=m+1:=⟨M - 1,by omega⟩
  have hyl:=cS hyx;show Hl N _ (ah x,ah y) (af M _)=_;simp only[Hl];by_cases h2:2<=(ah y).length
  ·have hyge:18446744073709551616<=y:=by
    rcases alQ y 18446744073709551616 with h | h
    ·have:=fE 1 y (by rw[anR]; exact h); omega
    ·exact h
   have hblx:64<bl x:=by
    rcases alQ 64 (bl x)with h | h
    ·exact h
    ·have h1:=yX x;have h3:2 ^ bl x<=2 ^ 64:=ak6 (by decide) h;rw[oQ]at h3;omega
   have hblu:bl x<=64*(ah x).length:=by refine w_ ?_;rw[anM,oQ]; exact jT x
   obtain⟨f,hf⟩:∃ f,bl x=f+64:=⟨bl x - 64,by omega⟩
   have ef:(bl x:Int) - 64=(f:Int):=by omega
   have hF0:0<2 ^ f:=ak4 f;have hx0l:x / 2 ^ f<18446744073709551616:=by rw[akZ hF0,<- oQ,<- ak9,amK,<- hf]; exact yX x
   have hy0l:y / 2 ^ f<=x / 2 ^ f:=am6 hyx;rw[akP (by omega),akS,Gs (by omega),ef,aa akN,JS (by omega),JS (by omega),ak0 hx0l,ak0 (by omega)];obtain⟨a,b,c,d,odd,g1,g2⟩:=LV hN hx0l hy0l;rw[g2];by_cases hb:b=0
   ·subst hb;rw[show(((0:Nat):Int) != 0)=false from rfl,akR,kX hN (by omega) (by omega) (by omega)];have hm:=ak5 x (by omega:y>0);rw[ih (y+x%y) (by omega) y (x%y) M rfl (by omega) (by omega) (by omega) (by omega),al7 y,<- anS,al7]
   ·have hbn:((b:Int) != 0)=true:=by simp; omega
    rw[hbn,akS];obtain⟨U,V,k1,k2,k3,k4,k5⟩:=Lu (N:=N) (g1.resolve_left hb) (ak5 x hF0) (ak5 y hF0) (alP x (2 ^ f)).symm (alP y (2 ^ f)).symm (by omega) ⟨by omega,by omega⟩ ⟨by omega,by omega⟩;have hUl:=cS k3;rw[k5,ih (U+V) (by omega) U V M rfl (by omega) (by omega) k1 (by omega),k4]
  ·rw[akQ (by omega),akR];by_cases h0:y=0
   ·have:(((ah y).length:Nat):Int)=0:=by rw[h0,ba]; rfl
    rw[this,akQ (by omega),show(false==true)=false from rfl,akR,AV hN (by omega) (.inl h0)]
   ·have hpos:0<(ah y).length:=by rw[bH h0]; simp
    rw[akP (by omega),show(true==true)=true from rfl,akS];by_cases h1:1<(ah x).length
    ·have hm:=ak5 x (anm h0);have hml:=cS (Nat.le_of_lt hm);rw[akP (by omega),akS,kX hN (anm h0) (by omega) (by omega),AV hN (by omega) (.inr (by omega)),al7 y,<- anS,al7]
    ·rw[akQ (by omega),akR,AV hN (by omega) (.inr (by omega))]
 exact main s x y N hs hsN (ak3 _) hyx hxl
def Gt {N:Nat} (hN:1180591620717411303424<=N) {x y:Nat} (hf:x+y<N) (hxl:(ah x).length<=1099511626000) (hyl:(ah y).length<=1099511626000) (k:List Int->Bool):CJ N (ah x) (ah y) k=k (ah (Nat.gcd x y)):=by
 (unfold CJ; rw[ae]; unfold SF)
 rw[iE x y ⟨by omega,by omega⟩ ⟨by omega,by omega⟩];by_cases h:x<y
 ·have hc:decide (dw x y<0)=true:=by unfold dw; rw[if_pos h]; rfl
  rw[hc,akS,FR hN _ (y+x) y x rfl (by omega) (by omega) hyl,al7]
 ·have hc:decide (dw x y<0)=false:=by unfold dw; rw[if_neg h]; split <;> rfl
  rw[hc,akR,FR hN _ (x+y) x y rfl hf (by omega) hxl]
def Fuel (N:Nat):Prop:=∃ E,4398046511104<=E/\2 ^ E<=N
def Fuel.lt {N:Nat} (h:Fuel N):4398046511104<N:=by obtain⟨E,h1,h2⟩:=h;have:E<2 ^ E:=Nat.lt_two_pow_self;omega
def Fuel.sum {N C x y:Nat} (h:Fuel N) (hC:C<=4398046511000) (hx:aR C x) (hy:aR C y):x+y<N:=by obtain⟨E,h1,h2⟩:=h;have h3:2 ^ (C+1)<=2 ^ E:=ak6 (by decide) (by omega);rw[ak2]at h3;unfold aR at hx hy;omega
def Fuel.big {N:Nat} (h:Fuel N):1180591620717411303424<=N:=by
 obtain⟨E,h1,h2⟩:=h;have h3:2 ^ 70<=2 ^ E:=ak6 (by decide) (by omega);have e:(2:Nat) ^ 70=1180591620717411303424:=by decide
 rw[e]at h3;exact alf h3 h2
def zZ {B n:Nat} (hB:B<=2000000000100) (h:aR B n):(ah n).length<=31250000003:=by have:=KS h; omega
def kr (z:Int) (d:Nat) (k:Kx6):Bool:=k (decide (z<0)) (ah z.natAbs) false (ah d)
def kq (x:Rat) (k:Kx6):Bool:=kr x.num x.den k
def Ge (g:Bool) (n d:Nat) (k:Kx6):k (sg g n) (ah n) false (ah d)=kr (aU g n) d k:=GX g n (λa b=>k a b false (ah d))
def Ew {N:Nat} (g:Bool) (n:Nat) (l:List Int) (b1 b2:Bool) (k:Ky4):Mq N g (ah n) l b1 b2 k=k (sg g n) false:=by
 (unfold Mq; rw[ae]; unfold Sw Mo P5 Ra SD)
 cases g
 ·rfl
 ·simp only[p9,sg,alW]; rfl
def LC {N:Nat} (g b:Bool) (n:Nat) (k:Kz6):EO N g (ah n) b k=k (sg g n):=by
 unfold EO VZ;cases g
 ·rfl
 ·simp only[p9,sg,alW]; rfl
def Qx (g:Bool) (n:Nat):aU (sg g n) n=aU g n:=by
 unfold aU sg;cases g
 ·rfl
 ·by_cases h:n=0
  ·subst h; rfl
  ·rw[akP h]; rfl
def LG {N:Nat} (g1:Bool) (n1:Nat) (g2:Bool) (n2:Nat) (h1:me N (ah n1)) (h2:me N (ah n2)) (k:Ky5) :
  Q8 N g2 (ah n2) g1 (ah n1) k=tE (aU g1 n1+aU g2 n2) k:=by
 (unfold Q8; rw[ae]; unfold Sz)
 rw[OJ _ _ (aT _) (aT _) h1 h2,iE _ _ h1 h2,aD,aD,oK g2 _ _ (n1+n2) k,<- Jh];congr 1;by_cases h:n2<=n1
 ·rw[oi _ _ (aT _) (aT _) (by rw[aD,aD]; exact h) h1,aD,aD,oK g1 _ _ (n1 - n2) k,uH,akP h];rfl
 ·rw[oi _ _ (aT n2) (aT n1) (by rw[aD,aD]; omega) h2,aD,aD,oK g2 _ _ (n2 - n1) k,uH,akQ h];rfl
def OO {N:Nat} (hF:Fuel N) {x y:Nat} (hy:0<y) (hxl:(ah x).length<=1099511627000) (hyl:(ah y).length<=1099511627000) (k:List Int->Bool):wH N (ah x) (ah y) k=k (ah (x / y)):=by
 have hj:nN N (ah x) (ah y) k=k (ah (x / y)):=by unfold nN;rw[kX hF.big hy hxl hyl]
 (unfold wH; rw[ae]; unfold S5)
 by_cases h1:(ah y).length=1
 ·have e:((((ah y).length:Nat):Int)==1)=true:=by rw[h1]; rfl
  rw[e,show(true==true)=true from rfl,akS,aa akO];have hyw:=qU (by omega:y ≠ 0) (wz (by omega));by_cases h2:y=1
  ·have:((ah y).getD 0 0==1)=true:=by rw[hyw,h2]; rfl
   rw[this,akS,h2,amG]
  ·have:((ah y).getD 0 0==1)=false:=by rw[hyw]; simp; omega
   rw[this,akR,hj]
 ·have e:((((ah y).length:Nat):Int)==1)=false:=by simp; omega
  rw[e,show(false==true)=false from rfl,akR,hj]
def ge {N:Nat} (a:Bool) (l:List Int) (b:Bool) {d:Nat} (hd:d ≠ 0) (k:List Int->Bool):CI N a l b (ah d) k=k (ah d):=by
 unfold CI V8;have:((((ah d).length:Nat):Int)==0)=false:=by rw[bH hd]; simp; omega
 rw[this]; rfl
def GG {N:Nat} (a:Bool) (l:List Int) (b:Bool) {d:Nat} (hd:d ≠ 0) (k:List Int->Bool):VB N a l b (ah d) k=k (ah d):=by
 unfold VB Wf;have:((((ah d).length:Nat):Int)==0)=false:=by rw[bH hd]; simp; omega
 rw[this]; rfl
def uV {N B:Nat} (hF:Fuel N) (hB:B<=2000000000100) {a b:Nat} (ha:aR B a) (hb:aR B b) (k:List Int->Bool):z_ N (ah a) (ah b) k=k (ah (a*b)):=by have h1:=zZ hB ha;have h2:=zZ hB hb;have:=hF.lt;rw[Is _ _ (aT _) (aT _) (by omega) (by omega),aD,aD]
def xi {N B:Nat} (hF:Fuel N) (hB:B<=2000000000100) {a b:Nat} (ha:aR B a) (hb:aR B b) (k:List Int->Bool):CJ N (ah a) (ah b) k=k (ah (Nat.gcd a b)):=by have h1:=zZ hB ha;have h2:=zZ hB hb;rw[Gt hF.big (hF.sum (by omega) ha hb) (by omega) (by omega)]
def px {N B:Nat} (hF:Fuel N) (hB:B<=2000000000100) {a b:Nat} (h0:0<b) (ha:aR B a) (hb:aR B b) (k:List Int->Bool):wH N (ah a) (ah b) k=k (ah (a / b)):=by have h1:=zZ hB ha;have h2:=zZ hB hb;rw[OO hF h0 (by omega) (by omega)]
def ra {N B:Nat} (hB:B<=2000000000100) {a:Nat} (ha:aR B a) (k:List Int->Bool):sk N (ah a) k=k (ah a):=by have h1:=zZ hB ha;rw[ym _ (by omega)]
def bN {B a b:Nat} (h:aR B a):aR B (a / b):=mF h (amq _ _)
def PM {N B n:Nat} (hF:Fuel N) (hB:B<=2000000000100) (h:aR B n):me N (ah n):=by have h1:=zZ hB h;have:=hF.lt;exact⟨by omega,by omega⟩
def Bq (B:Nat) (x:Rat):Prop:=aR B x.num.natAbs/\aR B x.den
def Bq.mono {A B:Nat} {x:Rat} (h:Bq A x) (hAB:A<=B):Bq B x:=⟨bB h.1 hAB,bB h.2 hAB⟩
def tF (z:Int) (f:Nat):aU (decide (z<0)) (z.natAbs*f)=z*f:=by
 unfold aU;by_cases h:z<0
 ·rw[akP h,if_pos rfl];have:(z.natAbs:Int) = -z:=by omega
  rw[alb,this,an3,Int.neg_neg]
 ·rw[akQ h,if_neg (by decide)];have:(z.natAbs:Int)=z:=by omega
  rw[alb,this]
def Bi {z:Int} {h:Nat} (h0:0<h) (hd:h∣z.natAbs):aU (decide (z<0)) (z.natAbs / h)=z / (h:Int):=by
 obtain⟨q,hq⟩:=hd;rw[hq,alr _ h0];unfold aU;have hh:(h:Int) ≠ 0:=by omega
 by_cases hz:z<0
 ·rw[akP hz,if_pos rfl];have:z=(h:Int)*(-(q:Int)):=by
   have e:(z.natAbs:Int)=(h:Int)*q:=by rw[hq,alb]
   rw[anN,<- e]; omega
  rw[this,amQ _ hh]
 ·rw[akQ hz,if_neg (by decide)];have:z=(h:Int)*(q:Int):=by
   have e:(z.natAbs:Int)=(h:Int)*q:=by rw[hq,alb]
   rw[<- e]; omega
  rw[this,amQ _ hh]
def NK (x y:Rat):(x+y).num=(x.num*((y.den / Nat.gcd x.den y.den:Nat):Int)+y.num*((x.den / Nat.gcd x.den y.den:Nat):Int)) / ((Nat.gcd (x.num*((y.den / Nat.gcd x.den y.den:Nat):Int)+y.num*((x.den / Nat.gcd x.den y.den:Nat):Int)).natAbs (Nat.gcd x.den y.den):Nat):Int)
  /\ (x+y).den=x.den / Nat.gcd x.den y.den*(y.den / Nat.gcd (x.num*((y.den / Nat.gcd x.den y.den:Nat):Int)+y.num*((x.den / Nat.gcd x.den y.den:Nat):Int)).natAbs (Nat.gcd x.den y.den)):=by
 have aux:=Rat.add.aux x y (g:=Nat.gcd x.den y.den) rfl rfl rfl;simp only at aux;have hx:=x.den_pos;have hy:=y.den_pos;obtain⟨g,hg⟩:∃ g,g=Nat.gcd x.den y.den:=⟨_,rfl⟩
 rw[<- hg]at aux ⊢;have hg0:0<g:=by rw[hg]; exact Nat.gcd_pos_of_pos_left _ hx
 have hgx:g∣x.den:=by rw[hg]; exact alI _ _
 have hgy:g∣y.den:=by rw[hg]; exact al3 _ _
 obtain⟨e,he⟩:∃ e,e=x.den / g:=⟨_,rfl⟩
 obtain⟨f,hf⟩:∃ f,f=y.den / g:=⟨_,rfl⟩
 rw[<- he,<- hf]at aux ⊢;have ex:x.den=e*g:=by rw[he,Nat.div_mul_cancel hgx]
 have ey:y.den=f*g:=by rw[hf,Nat.div_mul_cancel hgy]
 obtain⟨n,hn⟩:∃ n,n=x.num*(f:Int)+y.num*(e:Int):=⟨_,rfl⟩
 rw[<- hn]at aux ⊢;have hsum:x+y=mkRat n (e*y.den):=by
  rw[Rat.add_def'];have e1:x.num*(y.den:Int)+y.num*(x.den:Int)=n*(g:Int):=by rw[ex,ey,hn]; simp only[alb]; grind
  have e2:x.den*y.den=e*y.den*g:=by rw[ex]; grind
  rw[e1,e2,Rat.mkRat_mul_right (by omega)]
 have he0:0<e:=by
  rcases al_ e with h | h
  ·rw[h,amg]at ex; omega
  ·exact h
 have hd0:e*y.den ≠ 0:=by have:=amS he0 hy; omega
 have hhy:Nat.gcd n.natAbs g∣y.den:=Nat.dvd_trans (al3 _ _) hgy;constructor
 ·rw[hsum,an4,if_neg hd0,al7,<- aux]
 ·rw[hsum,an5,if_neg hd0,al7,<- aux,Nat.mul_div_assoc _ hhy]
def C1 {A:Nat} {z w:Int} (hz:aR A z.natAbs) (hw:aR A w.natAbs):aR (A+1) (z+w).natAbs:=mF (w9 hz hw) (by omega)
def uG {A B:Nat} {z:Int} {n:Nat} (hz:aR A z.natAbs) (hn:aR B n):aR (A+B) (z*(n:Int)).natAbs:=by rw[amD,alN]; exact du hz hn
def Bu {N B:Nat} (hF:Fuel N) (hB:B<=1000000000000) {x y:Rat} (hx:Bq B x) (hy:Bq B y) (b1 b2:Bool) (k:Kx6) :
  Q9 N (decide (x.num<0)) (ah x.num.natAbs) false (ah x.den) (decide (y.num<0)) (ah y.num.natAbs) false (ah y.den) b1 b2 k=kq (x+y) k:=by
 (unfold Q9; rw[ae]; unfold P6)
 obtain⟨m1,m2⟩:=NK x y;have hB2:B<=2000000000100:=by omega
 have hxd:=x.den_pos;have hyd:=y.den_pos;rw[ge _ _ _ x.den_nz,ge _ _ _ y.den_nz,xi hF hB2 hx.2 hy.2];obtain⟨g,hg⟩:∃ g,g=Nat.gcd x.den y.den:=⟨_,rfl⟩
 rw[<- hg]at m1 m2 ⊢;have hg0:0<g:=by rw[hg]; exact Nat.gcd_pos_of_pos_left _ hxd
 have hgb:aR B g:=by rw[hg]; exact mF hx.2 (Nat.gcd_le_left _ hxd)
 have hgy:g∣y.den:=by rw[hg]; exact al3 _ _
 rw[px hF hB2 hg0 hx.2 hgb,px hF hB2 hg0 hy.2 hgb,uV hF hB2 hx.1 (bN hy.2),LC,uV hF hB2 hy.1 (bN hx.2)];have hb1:=du hx.1 (bN (b:=g) hy.2);have hb2:=du hy.1 (bN (b:=g) hx.2);rw[LG _ _ _ _ (PM hF (by omega) hb1) (PM hF (by omega) hb2),Qx,tF,tF];have hnb:aR (B+B+1) (x.num*((y.den / g:Nat):Int)+y.num*((x.den / g:Nat):Int)).natAbs:=C1 (uG hx.1 (bN hy.2)) (uG hy.1 (bN hx.2));obtain⟨n,hn⟩:∃ n,n=x.num*((y.den / g:Nat):Int)+y.num*((x.den / g:Nat):Int):=⟨_,rfl⟩
 rw[<- hn]at m1 m2 hnb ⊢;have hB3:B+B+1<=2000000000100:=by omega
 unfold tE;dsimp only;rw[xi hF hB3 hnb (bB hgb (by omega))];obtain⟨h,hh⟩:∃ h,h=Nat.gcd n.natAbs g:=⟨_,rfl⟩
 rw[<- hh]at m1 m2 ⊢;have hh0:0<h:=by rw[hh]; exact alX _ hg0
 have hhb:aR B h:=by rw[hh]; exact mF hgb (amU _ hg0)
 rw[px hF hB3 hh0 hnb (bB hhb (by omega)),ra hB3 (bN hnb),px hF hB2 hh0 hy.2 hhb,uV hF hB2 (bN hx.2) (bN hy.2),Ew,Ge _ _ _ k,Bi hh0 (by rw[hh]; exact alI _ _),<- m1,<- m2];rfl
def Gk {N B:Nat} (hF:Fuel N) (hB:B<=1000000000000) {x y:Rat} (hx:Bq B x) (hy:Bq B y) (b1 b2:Bool) (k:Kx6) :
  Vt N (decide (x.num<0)) (ah x.num.natAbs) false (ah x.den) b1 b2 (decide (y.num<0)) (ah y.num.natAbs) false (ah y.den) k=kq (x+y) k:=by
 rw[<- Bu hF hB hx hy b1 b2 k]
 (unfold Vt; rw[ae]; unfold Sx; unfold Q9; rw[ae]; unfold P6)
 rw[ge _ _ _ x.den_nz,GG _ _ _ y.den_nz,ge _ _ _ x.den_nz,ge _ _ _ y.den_nz]
def Ow (g:Bool) (n:Nat):aU (!g) n = -(aU g n):=by unfold aU; cases g <;> simp
def iD (z:Int):aU (decide (z<0)) z.natAbs=z:=Ov z
def Iq {N B:Nat} (hB:B<=2000000000100) {y:Rat} (hy:Bq B y) (b1 b2:Bool) (k:Kx6) :
  VE N (decide (y.num<0)) (ah y.num.natAbs) false (ah y.den) b1 b2 k=kq (-y) k:=by
 (unfold VE; rw[ae]; unfold SW)
 rw[ra hB hy.1,ge _ _ _ y.den_nz,ra hB hy.2,Ew,Ge _ _ _ k,Ow,iD];rfl
def Gw {N B:Nat} (hF:Fuel N) (hB:B<=1000000000000) {x y:Rat} (hx:Bq B x) (hy:Bq B y) (k:Kx6) :
  cA N (decide (x.num<0)) (ah x.num.natAbs) false (ah x.den) (decide (y.num<0)) (ah y.num.natAbs) false (ah y.den) k=kq (x - y) k:=by
 (unfold cA jm; unfold R4; rw[ae]; unfold MO)
 rw[Iq (by omega) hy];unfold kq kr;dsimp only;have hny:Bq B (-y):=⟨by rw[Rat.neg_num,ans]; exact hy.1,hy.2⟩
 rw[Gk hF hB hx hny,Rat.sub_eq_add_neg];rfl
def QB {N B:Nat} (hF:Fuel N) (hB:B<=1000000000000) {x y:Rat} (hx:Bq B x) (hy:Bq B y) (k:Kx6) :
  d_ N (decide (x.num<0)) (ah x.num.natAbs) false (ah x.den) (decide (y.num<0)) (ah y.num.natAbs) false (ah y.den) k=kq (x+y) k:=by
 unfold d_ jp;rw[Bu hF hB hx hy]
def O7 (x w:Rat):(x*w).num=aU (decide (x.num<0)) (x.num.natAbs / Nat.gcd x.num.natAbs w.den)*aU (decide (w.num<0)) (w.num.natAbs / Nat.gcd w.num.natAbs x.den)
  /\ (x*w).den=x.den / Nat.gcd w.num.natAbs x.den*(w.den / Nat.gcd x.num.natAbs w.den):=by
 have H1:0<x.num.natAbs.gcd w.den:=alX _ w.den_pos;have H2:0<w.num.natAbs.gcd x.den:=alX _ x.den_pos;have d1:Nat.gcd x.num.natAbs w.den∣x.num.natAbs:=alI _ _;have d2:Nat.gcd w.num.natAbs x.den∣w.num.natAbs:=alI _ _;rw[Bi H1 d1,Bi H2 d2];have e1:(x*w).num=x.num.tdiv (Nat.gcd x.num.natAbs w.den:Nat)*w.num.tdiv (Nat.gcd w.num.natAbs x.den:Nat):=by
  show(Rat.mul x w).num=_
  delta Rat.mul
  simp only[Int.divExact_eq_tdiv]
 have e2:(x*w).den=x.den / Nat.gcd w.num.natAbs x.den*(w.den / Nat.gcd x.num.natAbs w.den):=by
  show(Rat.mul x w).den=_
  delta Rat.mul
  simp only[Nat.divExact_eq_div]
 refine⟨?_,e2⟩;rw[e1,Int.tdiv_eq_ediv_of_dvd (Int.ofNat_dvd_left.2 d1),Int.tdiv_eq_ediv_of_dvd (Int.ofNat_dvd_left.2 d2)]
def GB {N B:Nat} (hF:Fuel N) (hB:B<=1000000000000) {x w:Rat} (hx:Bq B x) (hw:Bq B w) (b1 b2:Bool) (k:Kx6) :
  Q5 N (decide (x.num<0) != decide (w.num<0)) (ah x.num.natAbs) (ah x.den) (ah w.num.natAbs) (ah w.den) b1 b2 k=kq (x*w) k:=by
 (unfold Q5; rw[ae]; unfold Sr)
 have hB2:B<=2000000000100:=by omega
 obtain⟨m1,m2⟩:=O7 x w;have H1:0<x.num.natAbs.gcd w.den:=alX _ w.den_pos;have H2:0<w.num.natAbs.gcd x.den:=alX _ x.den_pos;have L1:aR B (x.num.natAbs.gcd w.den):=mF hw.2 (amU _ w.den_pos);have L2:aR B (w.num.natAbs.gcd x.den):=mF hx.2 (amU _ x.den_pos);rw[xi hF hB2 hx.1 hw.2,xi hF hB2 hw.1 hx.2,px hF hB2 H1 hx.1 L1,px hF hB2 H2 hw.1 L2,uV hF hB2 (bN hx.1) (bN hw.1),px hF hB2 H2 hx.2 L2,px hF hB2 H1 hw.2 L1,uV hF hB2 (bN hx.2) (bN hw.2),Ew,Ge _ _ _ k,Bj,<- m1,<- m2];rfl
def QD {N B:Nat} (hF:Fuel N) (hB:B<=1000000000000) {x y:Rat} (hx:Bq B x) (hy:Bq B y) (k:Kx6) :
  dN N (decide (x.num<0)) (ah x.num.natAbs) false (ah x.den) (decide (y.num<0)) (ah y.num.natAbs) false (ah y.den) k=kq (x*y) k:=by
 (unfold dN iU; unfold RZ; rw[ae]; unfold MM)
 rw[ge _ _ _ x.den_nz,ge _ _ _ y.den_nz,GB hF hB hx hy]
def Bg {y:Rat} (h:y.num ≠ 0):(y⁻¹).num.natAbs=y.den/\(y⁻¹).den=y.num.natAbs/\decide ((y⁻¹).num<0)=decide (y.num<0):=by
 have hd:=y.den_pos;refine⟨?_,?_,?_⟩
 ·rw[Rat.num_inv,amD,alN,Int.natAbs_sign,if_neg h,amR]
 ·rw[Rat.den_inv,if_neg h]
 ·rw[Rat.num_inv];rcases Int.lt_trichotomy y.num 0 with h1 | h1 | h1
  ·rw[Int.sign_eq_neg_one_of_neg h1,akP h1,akP (by omega)]
  ·exact absurd h1 h
  ·rw[Int.sign_eq_one_of_pos h1,akQ (by omega),akQ (by omega)]
def QH {N B:Nat} (hF:Fuel N) (hB:B<=1000000000000) {x y:Rat} (hx:Bq B x) (hy:Bq B y) (h0:y.num ≠ 0) (k:Kx6) :
  d9 N (decide (x.num<0)) (ah x.num.natAbs) false (ah x.den) (decide (y.num<0)) (ah y.num.natAbs) false (ah y.den) k=kq (x / y) k:=by
 obtain⟨i1,i2,i3⟩:=Bg h0
 (unfold d9 jo; unfold R3; rw[ae]; unfold MN)
 have hw:Bq B (y⁻¹):=⟨by rw[i1]; exact hy.2,by rw[i2]; exact hy.1⟩
 have hp:=λkk=>GB (b1:=false) (b2:=false) hF hB hx hw kk
 rw[i1,i2,i3]at hp;rw[ge _ _ _ x.den_nz,ge _ _ _ y.den_nz,hp,Rat.div_def]
def zk {N B:Nat} (hF:Fuel N) (hB:B<=2000000000000) (g:Bool) {n d:Nat} (hn:aR B n) (hd:aR B d) (h0:0<d) (b1 b2:Bool) (k:Kx6) :
  Vx N g (ah n) (ah d) b1 b2 k=kq (mkRat (aU g n) d) k:=by
 have hB2:B<=2000000000100:=by omega
 have hl:=hF.lt;have hnum:(mkRat (aU g n) d).num=aU g (n / Nat.gcd n d):=by
  rw[an4,if_neg (by omega)];have e:(aU g n).natAbs=n:=by unfold aU; cases g <;> simp
  have hg:0<Nat.gcd n d:=alX _ h0;rw[e,al7];obtain⟨q,hq⟩:=alI n d;have hh:((Nat.gcd n d:Nat):Int) ≠ 0:=by omega
  have e2:aU g n=((Nat.gcd n d:Nat):Int)*aU g (n / Nat.gcd n d):=by
   have hnn:n=Nat.gcd n d*(n / Nat.gcd n d):=(Nat.mul_div_cancel' (alI n d)).symm;have hc:(n:Int)=((Nat.gcd n d:Nat):Int)*((n / Nat.gcd n d:Nat):Int):=by rw[<- alb,<- hnn]
   unfold aU;cases g
   ·simpa using hc
   ·simp only[amt]; rw[hc,anN]
  rw[e2,amQ _ hh]
 have hden:(mkRat (aU g n) d).den=d / Nat.gcd n d:=by
  rw[an5,if_neg (by omega)];have e:(aU g n).natAbs=n:=by unfold aU; cases g <;> simp
  rw[e,al7]
 have hj:∀ m e:Nat,aR B m->aR B e->Jt N g (ah n) (ah d) b1 b2 (ah m) (ah e) k=k (sg g m) (ah m) false (ah e):=by
  intro m e hm he;unfold Jt;rw[ra hB2 hm];unfold Mo P5;dsimp only;rw[ra hB2 he,ra hB2 he];unfold Ra SD;cases g
  ·rfl
  ·simp only[p9,sg,alW]; rfl
 have hg0:0<Nat.gcd n d:=alX _ h0;have hgb:aR B (Nat.gcd n d):=mF hd (amU _ h0);have h1:=zZ hB2 hn;have h2:=zZ hB2 hd;have h3:=zZ hB2 hgb;have e1:ah 1=[1]:=qU (by decide) (by decide)
 (unfold Vx; rw[ae]; unfold SL)
 rw[xi hF hB2 hn hd,<- e1,iE _ 1 ⟨by omega,by omega⟩ ⟨by rw[e1]; simp; omega,by rw[e1]; simp⟩];by_cases hc:Nat.gcd n d=1
 ·have:(dw (Nat.gcd n d) 1 != 0)=false:=by rw[hc]; rfl
  rw[this,akR,hj n d hn hd,Ge _ _ _ k];rw[hc,amG]at hnum hden;unfold kq;rw[hnum,hden]
 ·have:(dw (Nat.gcd n d) 1 != 0)=true:=by unfold dw; rw[if_neg (by omega),if_neg hc]; rfl
  rw[this,akS,kX hF.big hg0 (by omega) (by omega),kX hF.big hg0 (by omega) (by omega),hj _ _ (bN hn) (bN hd),Ge _ _ _ k,<- hnum,<- hden];rfl
def IG {N:Nat} (hF:Fuel N) (k:Kx6):mz N 0 k=kq 0 k:=by
 have:=hF.lt
 (unfold mz pW; unfold xB; rw[ae]; unfold qC)
 have n0:=λkk=>tG (N:=N) (by omega) 0 (by decide) kk
 have n1:=λkk=>tG (N:=N) (by omega) 1 (by decide) kk
 rw[show((0:Nat):Int)=0 from rfl]at n0;rw[show((1:Nat):Int)=1 from rfl]at n1;unfold sQ9 GQ9;rw[n0,n1,zk hF (B:=10) (by decide) _ (by unfold aR; decide) (by unfold aR; decide) (by decide)];rfl
def mZ {N:Nat} (x:Rat) (k:Kz7):bd N (decide (x.num<0)) (ah x.num.natAbs) false (ah x.den) k=k (xG x.num):=by
 (unfold bd jq tZ sC; unfold R_; rw[ae]; unfold Np xG)
 by_cases h:x.num<0
 ·rw[akP h,akS,if_neg (by omega),if_pos h]
 ·rw[akQ h,akR,if_neg h];by_cases h0:x.num=0
  ·rw[h0,if_pos rfl];have:ah (0:Int).natAbs=[]:=ba;rw[this]; rfl
  ·have:((((ah x.num.natAbs).length:Nat):Int)==0)=false:=by rw[bH (by omega)]; simp; omega
   rw[this,akR,if_neg h0]
end Go.Proofs.YtbiingchhnlcnaaGreatDoor
end
