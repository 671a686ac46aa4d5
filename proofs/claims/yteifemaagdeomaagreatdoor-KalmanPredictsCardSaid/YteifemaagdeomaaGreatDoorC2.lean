/- Laws in plain Lean. Conditions: none. -/
import Derived.Test.YteifemaagdeomaaGreatDoorC1
set_option linter.defProp false
set_option linter.unusedVariables false
section
namespace Go.Proofs.YteifemaagdeomaaGreatDoor
open Go Go.Mach
def Js (N:Nat) {x:Nat} (hx:x<18446744073709551616) (k:Kz1):P3 N (x:Int) k=k (bl x:Int):=by
 have key:∀(z:Int) (m:Nat),z=(m:Int)->m<256 -> ∀ c:Nat,c<=56->((inR z 256)&&((aj .i64 (List.getD aD (Int.toNat z) 0))&&((aj .i64 ((c:Int)+(List.getD aD (Int.toNat z) 0)))&&k ((c:Int)+List.getD aD (Int.toNat z) 0))))=k ((c+bl m:Nat):Int):=by intro z m hz hm c hc;subst hz;have:=Ov hm;rw[aGU,agP hm,ac aGP,ac aGO,ac aGO];rfl
 have j1:∀(y z c:Nat),z<65536->c<=48->Oa N (y:Int) (z:Int) (c:Int) k=k ((c+bl z:Nat):Int):=by
  intro y z c hz hc;unfold Oa;simp only[alC,anb];by_cases h8:256<=z
  ·have e8:=qK (n:=z) 8 (by simpa using h8);rw[show(2:Nat) ^ 8=256 by decide]at e8;have h:=key ((z:Int) / 256%256) (z / 256) (by omega) (by omega) (c+8) (by omega);rw[show((c+8:Nat):Int)=(c:Int)+8 by omega]at h;rw[aGQ (by omega:(z:Int)>=256),aGT,ac aGO,h];congr 1; omega
  ·rw[aGR (by omega:¬(z:Int)>=256),aGS,key ((z:Int)%256) z (by omega) (by omega) c (by omega)]
 have j0:∀(y z c:Nat),z<4294967296->c<=32->N9 N (y:Int) (z:Int) (c:Int) k=k ((c+bl z:Nat):Int):=by
  intro y z c hz hc;unfold N9;simp only[abF];by_cases h16:65536<=z
  ·have e16:=qK (n:=z) 16 (by simpa using h16);rw[show(2:Nat) ^ 16=65536 by decide]at e16;have h:=j1 y (z / 65536) (c+16) (by omega) (by omega);rw[show((c+16:Nat):Int)=(c:Int)+16 by omega,show((z / 65536:Nat):Int)=(z:Int) / 65536 by omega]at h;rw[aGQ (by omega:(z:Int)>=65536),aGT,ac aGO,h];congr 1; omega
  ·rw[aGR (by omega:¬(z:Int)>=65536),aGS,j1 y z c (by omega) (by omega)]
 unfold P3 KX;simp only[oA];by_cases h32:4294967296<=x
 ·have e32:=qK (n:=x) 32 (by rw[show(2:Nat) ^ 32=4294967296 by decide]; exact h32);rw[show(2:Nat) ^ 32=4294967296 by decide]at e32;have h:=j0 x (x / 4294967296) 32 (by omega) (by omega);rw[show((x / 4294967296:Nat):Int)=(x:Int) / 4294967296 by omega,show((32:Nat):Int)=32 from rfl]at h;rw[aGQ (by omega:(x:Int)>=4294967296),aGT,h];congr 1; omega
 ·have h:=j0 x x 0 (by omega) (by omega);rw[show((0:Nat):Int)=0 from rfl]at h;rw[aGR (by omega:¬(x:Int)>=4294967296),aGS,h];congr 1; omega
def Ds {n j:Nat} (h:n<2 ^ j):bl n<=j:=by
 unfold bl;split
 ·omega
 ·rename_i h0;have:=(Nat.log2_lt h0).2 h;omega
def FK (n:Nat):n<2 ^ bl n:=by
 unfold bl;split
 ·rename_i h; subst h; decide
 ·exact Nat.lt_log2_self
def aa5 {n:Nat} (h:n ≠ 0):0<bl n/\2 ^ (bl n - 1)<=n:=by unfold bl;rw[if_neg h];exact⟨by omega,by rw[aJj]; exact Nat.log2_self_le h⟩
def uu:(2:Nat) ^ 64=18446744073709551616:=by decide
def Pt (N:Nat) {x:Nat} (hx:x<18446744073709551616) (k:Kz1):aeu N (x:Int) k=k ((64 - bl x:Nat):Int):=by unfold aeu anj;have:=Ds (n:=x) (j:=64) (by rw[uu]; exact hx);rw[Js N hx,ac aGO];congr 1; omega
def Wo {y:Nat} (h0:y ≠ 0) (hy:y<18446744073709551616):64 - bl y<64/\9223372036854775808<=y*2 ^ (64 - bl y)/\y*2 ^ (64 - bl y)<18446744073709551616:=by
 have h1:=Ds (n:=y) (j:=64) (by rw[uu]; exact hy);obtain⟨h2,h3⟩:=aa5 h0;have h4:=FK y;have hp:0<2 ^ (64 - bl y):=aG5 _;refine⟨by omega,?_,?_⟩
 ·have:=aGX (2 ^ (64 - bl y)) h3;rw[<- aG_,show bl y - 1+(64 - bl y)=63 by omega]at this;exact this
 ·have:=aHH h4 hp;rw[<- aG_,show bl y+(64 - bl y)=64 by omega]at this;exact this
def I8 {a c u u1 p r:Nat} (hc:c<4294967296) (hp:p<=4294967296) (hu:(p+1)*a+r=u) (hb:4294967296<=r+a):p*(a*4294967296+c)<=u*4294967296+u1:=by
 have e1:u*4294967296+u1=p*a*4294967296+(r+a)*4294967296+u1:=by rw[<- hu,aIq,aHf,aHf,aHf]; omega
 have e2:p*(a*4294967296+c)=p*a*4294967296+p*c:=by rw[aG8,aG2]
 have:=aHC hp (Nat.le_of_lt_succ hc:c<=4294967295);rw[e1,e2]; omega
def GS {a c u u1:Nat} (hu1:u1<4294967296) (hD:u<a*4294967296+c):(u*4294967296+u1) / (a*4294967296+c)<4294967296:=by rw[aG0 (by omega)]; omega
def RV {N:Nat} {Sz:Ib} {y s un0:Int} {a c u u1:Nat} (ha2:a<4294967296) (hc:c<4294967296) (hu1:u1<4294967296) (hD:u<a*4294967296+c) {d:Nat} (hd:∀ p,p<=d↔p*(a*4294967296+c)<=u*4294967296+u1) (hlt:d<4294967296) (e0:Int->Bool) :
  ∀ q r M,q<M->q<=4294967297->q*a+r=u->r<4294967296->d<=q ->
   ah M (Fv N Sz y s (a:Int) (c:Int) (u:Int) (u1:Int) un0 e0) ((q:Int),(r:Int))=e0 (d:Int):=by
 intro q;induction q using Nat.strongRecOn with
 | ind q ih=>
 intro r M hM hqb hu hr hle;obtain⟨M,rfl⟩:∃ m,M=m+1:=⟨M - 1,by omega⟩
 show Fv N Sz y s a c u u1 un0 e0 ((q:Int),(r:Int)) (ah M _)=_;have hY:0<a*4294967296+c:=by omega
 have hdec:d<q->cond (decide ((IntKind.wrap .u64 ((r:Int)+(a:Int)))>=4294967296)) (e0 (IntKind.wrap .u64 ((q:Int) - 1))) (ah M (Fv N Sz y s (a:Int) (c:Int) (u:Int) (u1:Int) un0 e0) ((IntKind.wrap .u64 ((q:Int) - 1)),(IntKind.wrap .u64 ((r:Int)+(a:Int)))))=e0 (d:Int):=by
  intro hlq;obtain⟨p,rfl⟩:∃ p,q=p+1:=⟨q - 1,by omega⟩
  have w1:IntKind.wrap .u64 (((p+1:Nat):Int) - 1)=(p:Int):=by rw[au]; omega
  have w2:IntKind.wrap .u64 ((r:Int)+(a:Int))=((r+a:Nat):Int):=by rw[au]; omega
  rw[w1,w2];by_cases hb:4294967296<=r+a
  ·rw[aGQ (by omega),aGT];have h1:=I8 (u1:=u1) hc (by omega) hu hb;rw[<- hd]at h1;rw[show d=p by omega]
  ·rw[aGR (by omega),aGS];exact ih p (by omega) (r+a) M (by omega) (by omega) (by rw[<- hu,aIq]; omega) (by omega) (by omega)
 simp only[Fv];by_cases hq:4294967296<=q
 ·rw[aGQ (by omega:(q:Int)>=4294967296),show(true==false)=false from rfl,aGS];exact hdec (by omega)
 ·have e1:u*4294967296+u1=q*a*4294967296+r*4294967296+u1:=by rw[<- hu,aHf]
  have e2:q*(a*4294967296+c)=q*a*4294967296+q*c:=by rw[aG8,aG2]
  have hqc:q*c<=4294967295*4294967295:=aHC (by omega) (by omega);have w1:IntKind.wrap .u64 ((q:Int)*(c:Int))=((q*c:Nat):Int):=by rw[<- aHa,au]; omega
  have w2:IntKind.wrap .u64 ((IntKind.wrap .u64 (4294967296*(r:Int)))+(u1:Int))=((r*4294967296+u1:Nat):Int):=by rw[au,au]; omega
  rw[aGR (by omega:¬(q:Int)>=4294967296),show(false==false)=true from rfl,aGT,w1,w2];by_cases ht:r*4294967296+u1<q*c
  ·rw[aGQ (by omega),aGT];refine hdec ?_;rw[<- Nat.not_le,hd]; omega
  ·rw[aGR (by omega),aGS];have h1:q*(a*4294967296+c)<=u*4294967296+u1:=by omega
   rw[<- hd]at h1;rw[show d=q by omega]
def RW {N:Nat} {Sz:Ib} {y s q1:Int} {x21:Int} {a c u u1:Nat} (ha2:a<4294967296) (hc:c<4294967296) (hu1:u1<4294967296) (hD:u<a*4294967296+c) {d:Nat} (hd:∀ p,p<=d↔p*(a*4294967296+c)<=u*4294967296+u1) (hlt:d<4294967296) (e0:Int->Bool) :
  ∀ q r M,q<M->q<=4294967297->q*a+r=u->r<4294967296->d<=q ->
   ah M (Fw N Sz y s (a:Int) (c:Int) (u1:Int) q1 x21 e0) ((r:Int),(q:Int))=e0 (d:Int):=by
 intro q;induction q using Nat.strongRecOn with
 | ind q ih=>
 intro r M hM hqb hu hr hle;obtain⟨M,rfl⟩:∃ m,M=m+1:=⟨M - 1,by omega⟩
 show Fw N Sz y s a c u1 q1 x21 e0 ((r:Int),(q:Int)) (ah M _)=_;have hY:0<a*4294967296+c:=by omega
 have hdec:d<q->cond (decide ((IntKind.wrap .u64 ((r:Int)+(a:Int)))>=4294967296)) (e0 (IntKind.wrap .u64 ((q:Int) - 1))) (ah M (Fw N Sz y s (a:Int) (c:Int) (u1:Int) q1 x21 e0) ((IntKind.wrap .u64 ((r:Int)+(a:Int))),(IntKind.wrap .u64 ((q:Int) - 1))))=e0 (d:Int):=by
  intro hlq;obtain⟨p,rfl⟩:∃ p,q=p+1:=⟨q - 1,by omega⟩
  have w1:IntKind.wrap .u64 (((p+1:Nat):Int) - 1)=(p:Int):=by rw[au]; omega
  have w2:IntKind.wrap .u64 ((r:Int)+(a:Int))=((r+a:Nat):Int):=by rw[au]; omega
  rw[w1,w2];by_cases hb:4294967296<=r+a
  ·rw[aGQ (by omega),aGT];have h1:=I8 (u1:=u1) hc (by omega) hu hb;rw[<- hd]at h1;rw[show d=p by omega]
  ·rw[aGR (by omega),aGS];exact ih p (by omega) (r+a) M (by omega) (by omega) (by rw[<- hu,aIq]; omega) (by omega) (by omega)
 simp only[Fw];by_cases hq:4294967296<=q
 ·rw[aGQ (by omega:(q:Int)>=4294967296),show(true==false)=false from rfl,aGS];exact hdec (by omega)
 ·have e1:u*4294967296+u1=q*a*4294967296+r*4294967296+u1:=by rw[<- hu,aHf]
  have e2:q*(a*4294967296+c)=q*a*4294967296+q*c:=by rw[aG8,aG2]
  have hqc:q*c<=4294967295*4294967295:=aHC (by omega) (by omega);have w1:IntKind.wrap .u64 ((q:Int)*(c:Int))=((q*c:Nat):Int):=by rw[<- aHa,au]; omega
  have w2:IntKind.wrap .u64 ((IntKind.wrap .u64 (4294967296*(r:Int)))+(u1:Int))=((r*4294967296+u1:Nat):Int):=by rw[au,au]; omega
  rw[aGR (by omega:¬(q:Int)>=4294967296),show(false==false)=true from rfl,aGT,w1,w2];by_cases ht:r*4294967296+u1<q*c
  ·rw[aGQ (by omega),aGT];refine hdec ?_;rw[<- Nat.not_le,hd]; omega
  ·rw[aGR (by omega),aGS];have h1:q*(a*4294967296+c)<=u*4294967296+u1:=by omega
   rw[<- hd]at h1;rw[show d=q by omega]
def I9 {a c u u1:Nat} (ha:2147483648<=a) (ha2:a<4294967296) (hc:c<4294967296) (hD:u<a*4294967296+c) (hu1:u1<4294967296) :
  u / a<=4294967297/\u / a*a+u%a=u/\u%a<4294967296/\(u*4294967296+u1) / (a*4294967296+c)<=u / a:=by
 have h0:0<a:=by omega
 refine⟨?_,aHQ u a,aID (aG6 _ h0) ha2,?_⟩
 ·have:u / a<4294967298:=by rw[aG0 h0]; omega
  omega
 ·have h1:(u*4294967296+u1) / (a*4294967296)=u / a:=by rw[aGV a,<- aGY];congr 1; omega
  rw[<- h1];exact Nat.div_le_div_left (aJa _ _) (by omega)
def WW {m p y s:Nat} (u L b D1 q1 R1 u1 u0 q0 R0 Y:Nat) (hb:b=4294967296) (hT:m*2 ^ s=u*18446744073709551616+L) (hL:L=u1*b+u0) (hY:Y=y*2 ^ s) (hY0:0<Y)
  (h1:D1=u*b+u1) (hq1:q1=D1 / Y) (hR1:R1=D1%Y) (hq0:q0=(R1*b+u0) / Y) (hR0:R0=(R1*b+u0)%Y):m / y=q1*b+q0/\m%y=R0 / 2 ^ s:=by
 have hs:0<2 ^ s:=aG5 s;have e1:=aHF D1 Y;have e0:=aHF (R1*b+u0) Y;rw[<- hq1,<- hR1]at e1;rw[<- hq0,<- hR0]at e0;have hlt:R0<Y:=by rw[hR0]; exact aG6 _ hY0
 have hm:m*2 ^ s=Y*(q1*b+q0)+R0:=by
  rw[hT,hL];have e2:u*18446744073709551616+(u1*b+u0)=(u*b+u1)*b+u0:=by subst hb; omega
  rw[e2,<- h1,<- e1,aG8,aHf,aHx,<- e0,aG2,aHx]
 have d1:m / y=(m*2 ^ s) / Y:=by rw[hY,aJv _ _ hs]
 have d2:(m%y)*2 ^ s=(m*2 ^ s)%Y:=by rw[hY,aJw]
 constructor
 ·rw[d1,hm,aJN hY0,aHm hlt,aHo]
 ·have:(m%y)*2 ^ s=R0:=by rw[d2,hm,aI1,aG1 hlt]
  rw[<- this,aIA _ hs]
def Ly {N:Nat} (hN:8589934592<=N) {hi lo y:Nat} (hy:y<18446744073709551616) (hlo:lo<18446744073709551616) (hhi:hi<y) (k:Ky3) :
  JY N (hi:Int) (lo:Int) (y:Int) k=k (((hi*18446744073709551616+lo) / y:Nat):Int) (((hi*18446744073709551616+lo)%y:Nat):Int):=by
 unfold JY anL;have y0:((y:Int)==0)=false:=by simp; omega
 have y1:(!decide ((y:Int)=0))=true:=by simp; omega
 rw[y0,aGS,aGR (by omega:¬(y:Int)<=hi),aGS];by_cases h0:hi=0
 ·subst h0;rw[show(((0:Nat):Int)==0)=true from rfl,aGT,ac y1,ac y1,aIh,aHk];have e1:Int.tdiv (lo:Int) (y:Int)=((lo / y:Nat):Int):=rfl;have e2:Int.tmod (lo:Int) (y:Int)=((lo%y:Nat):Int):=rfl;have:=aIu lo y;rw[e1,e2];generalize lo / y=d at *;rw[au];congr 1; omega
 ·have hne:((hi:Int)==0)=false:=by simp; omega
  obtain⟨hs64,hYlo,hYhi⟩:=Wo (y:=y) (by omega) hy;rw[hne,aGS,Pt N hy];generalize hs:64 - bl y=s at *;have hs0:0<2 ^ s:=aG5 s;have hs1:2 ^ s*2 ^ (64 - s)=18446744073709551616:=by rw[<- aG_,show s+(64 - s)=64 by omega]
  have cp:((2:Int) ^ s)=((2 ^ s:Nat):Int):=by rw[aIi]; rfl
  have cp2:((2:Int) ^ (64 - s))=((2 ^ (64 - s):Nat):Int):=by rw[aIi]; rfl
  have ew:IntKind.wrap .u64 ((s:Nat):Int)=(s:Int):=by rw[au]; omega
  have ew2:IntKind.wrap .u64 (64 - ((s:Nat):Int))=((64 - s:Nat):Int):=by rw[au]; omega
  have em:min s 64=s:=by omega
  have em2:min (64 - s) 64=64 - s:=by omega
  simp only[ew,ew2,aGU,em,em2];rw[cp,cp2];have eY:IntKind.wrap .u64 ((y:Int)*((2 ^ s:Nat):Int))=((y*2 ^ s:Nat):Int):=by rw[<- aHa,au]; omega
  have hm:hi*2 ^ s<y*2 ^ s:=aHH hhi hs0;have eH:IntKind.wrap .u64 ((hi:Int)*((2 ^ s:Nat):Int))=((2 ^ s*hi:Nat):Int):=by rw[<- aHa,aGV hi,au]; rw[aGV hi]at hm; generalize 2 ^ s*hi=H at *; generalize y*2 ^ s=Y at *; omega
  have hlo2:lo / 2 ^ (64 - s)<2 ^ s:=by rw[aG0 (aG5 _),hs1]; exact hlo
  have hlo3:=aHF lo (2 ^ (64 - s));have eT:(hi*18446744073709551616+lo)*2 ^ s=(2 ^ s*hi+lo / 2 ^ (64 - s))*18446744073709551616+lo*2 ^ s%18446744073709551616:=by
   have e1:lo*2 ^ s / 18446744073709551616=lo / 2 ^ (64 - s):=by rw[<- hs1,aGV lo,Nat.mul_div_mul_left _ _ hs0]
   have e2:=aHF (lo*2 ^ s) 18446744073709551616;rw[e1]at e2;rw[aHf,<- e2,aHf,aJT,aGV hi];omega
  have hD:2 ^ s*hi+lo / 2 ^ (64 - s)<y*2 ^ s:=by have:2 ^ s*(hi+1)<=2 ^ s*y:=aGZ _ hhi;rw[aG8,aGV _ y]at this;omega
  have eU:aF .or .u64 ((2 ^ s*hi:Nat):Int) (Int.fdiv (lo:Int) ((2 ^ (64 - s):Nat):Int))=((2 ^ s*hi+lo / 2 ^ (64 - s):Nat):Int):=by rw[oS,Bs,gj _ _ s hlo2 (by omega)]
  have eL:IntKind.wrap .u64 ((lo:Int)*((2 ^ s:Nat):Int))=((lo*2 ^ s%18446744073709551616:Nat):Int):=by rw[<- aHa,au]; omega
  simp only[eY,eH,eU,eL,Ou,oA];have hLlt:lo*2 ^ s%18446744073709551616<18446744073709551616:=aG6 _ (by decide);obtain⟨d1,d2⟩:=WW (m:=hi*18446744073709551616+lo) (p:=0) (y:=y) (s:=s) (2 ^ s*hi+lo / 2 ^ (64 - s)) (lo*2 ^ s%18446744073709551616) 4294967296 _ _ _ (lo*2 ^ s%18446744073709551616 / 4294967296) (lo*2 ^ s%18446744073709551616%4294967296) _ _ (y*2 ^ s) rfl eT (by omega) rfl (by omega) rfl rfl rfl rfl rfl;rw[d1,d2];generalize y*2 ^ s=Y at *;generalize 2 ^ s*hi+lo / 2 ^ (64 - s)=u at *;generalize lo*2 ^ s%18446744073709551616=L at *;have hu1:L / 4294967296<4294967296:=by omega
  have hu0:L%4294967296<4294967296:=by omega
  have eL1:((L:Int) / 4294967296)=((L / 4294967296:Nat):Int):=by omega
  have ea:((Y:Int) / 4294967296)=((Y / 4294967296:Nat):Int):=by omega
  have eY2:Y=Y / 4294967296*4294967296+Y%4294967296:=by omega
  rw[eL1,ea];generalize hu1':L / 4294967296=u1 at *;generalize hu0':L%4294967296=u0 at *;have ha1:2147483648<=Y / 4294967296:=by omega
  have ha2:Y / 4294967296<4294967296:=by omega
  have hc:Y%4294967296<4294967296:=by omega
  generalize Y / 4294967296=a at *;generalize Y%4294967296=c at *;have a0:(!decide ((a:Int)=0))=true:=by simp; omega
  have hD':u<a*4294967296+c:=by omega
  have hY0':0<a*4294967296+c:=by omega
  rw[ac (aGQ (by omega)),ac (aGQ (by omega)),ac (aGQ (by omega)),ac (aGQ (by omega)),ac a0];have start:∀ v:Nat,v<18446744073709551616->IntKind.wrap .u64 (Int.tdiv (v:Int) (a:Int))=((v / a:Nat):Int)/\IntKind.wrap .u64 ((v:Int) - (IntKind.wrap .u64 (((v / a:Nat):Int)*(a:Int))))=((v%a:Nat):Int):=by
   intro v hv;have e1:Int.tdiv (v:Int) (a:Int)=((v / a:Nat):Int):=rfl;have h1:=aIu v a;have h2:=aHQ v a;rw[e1,<- aHa];generalize v / a*a=P at *;generalize v / a=Q at *;generalize v%a=Z at *;constructor
   ·rw[au]; omega
   ·rw[au,au]; omega
  obtain⟨g1,g2,g3,g4⟩:=I9 ha1 ha2 hc hD' hu1;obtain⟨s1,s2⟩:=start u (by omega);rw[s1,s2,RV ha2 hc hu1 hD' (λp=>aIz hY0') (GS hu1 hD') _ (u / a) (u%a) N (by omega) g1 g2 g3 g4];rw[ac a0];rw[<- eY2];have hY0:0<Y:=by omega
  have hR1:=aG6 (u*4294967296+u1) hY0;have hE1:=aHQ (u*4294967296+u1) Y;have e21:IntKind.wrap .u64 ((IntKind.wrap .u64 ((IntKind.wrap .u64 ((u:Int)*4294967296))+(u1:Int))) - (IntKind.wrap .u64 ((((u*4294967296+u1) / Y:Nat):Int)*(Y:Int))))=(((u*4294967296+u1)%Y:Nat):Int):=by rw[<- aHa];generalize (u*4294967296+u1) / Y*Y=P at *;rw[au,au,au,au]; omega
  simp only[e21];have hq1:(u*4294967296+u1) / Y<4294967296:=by rw[eY2]; exact GS hu1 hD'
  obtain⟨q1,hq1e⟩:∃ q,q=(u*4294967296+u1) / Y:=⟨_,rfl⟩
  obtain⟨R1,hR1e⟩:∃ q,q=(u*4294967296+u1)%Y:=⟨_,rfl⟩
  rw[<- hq1e,<- hR1e];rw[<- hq1e]at hq1;rw[<- hR1e]at hR1;have hD2:R1<a*4294967296+c:=by omega
  obtain⟨g1,g2,g3,g4⟩:=I9 ha1 ha2 hc hD2 hu0;obtain⟨s1,s2⟩:=start R1 (by omega);rw[s1,s2,RW ha2 hc hu0 hD2 (λp=>aIz hY0') (GS hu0 hD2) _ (R1 / a) (R1%a) N (by omega) g1 g2 g3 g4,<- eY2];rw[ac (aGQ (by omega))];have hR0:=aG6 (R1*4294967296+u0) hY0;have hE0:=aHQ (R1*4294967296+u0) Y;have hq0:(R1*4294967296+u0) / Y<4294967296:=by rw[eY2]; exact GS hu0 hD2
  have e20:IntKind.wrap .u64 ((IntKind.wrap .u64 ((IntKind.wrap .u64 ((R1:Int)*4294967296))+(u0:Int))) - (IntKind.wrap .u64 ((((R1*4294967296+u0) / Y:Nat):Int)*(Y:Int))))=(((R1*4294967296+u0)%Y:Nat):Int):=by
   rw[<- aHa];obtain⟨P,hP⟩:∃ q,q=(R1*4294967296+u0) / Y*Y:=⟨_,rfl⟩
   obtain⟨Z,hZ⟩:∃ q,q=(R1*4294967296+u0)%Y:=⟨_,rfl⟩
   rw[<- hP,<- hZ]at hE0;rw[<- hZ]at hR0;rw[<- hP,<- hZ];rw[au,au,au,au]; omega
  rw[e20,oS];obtain⟨q0,hq0e⟩:∃ q,q=(R1*4294967296+u0) / Y:=⟨_,rfl⟩
  rw[<- hq0e]at hq0;rw[<- hq0e];congr 1;rw[au,au]; omega
def Vr (Q n m:Nat) (h:m<n):(List.replicate (m+1) (0:Int)++(dlq Q n).drop (m+1)).set m ((Q / 18446744073709551616 ^ m%18446744073709551616:Nat):Int)=List.replicate m 0++(dlq Q n).drop m:=by rw[aIv,aG9,List.singleton_append,bM _ _ _ _ _ (by simp),ig (n:=m) (by rw[ao]; exact h),zu Q h]
def Mb {A d:Nat} (hd:0<d):(A / 18446744073709551616%d*18446744073709551616+A%18446744073709551616)%d=A%d/\(A / 18446744073709551616%d*18446744073709551616+A%18446744073709551616) / d=A / d%18446744073709551616:=by
 have h1:=aHF A 18446744073709551616;have h2:=aHF (A / 18446744073709551616) d;have h3:=aG6 (A / 18446744073709551616) hd;have h4:A%18446744073709551616<18446744073709551616:=aG6 _ (by decide);obtain⟨a,ha⟩:∃ a,a=A / 18446744073709551616:=⟨_,rfl⟩
 obtain⟨e,he⟩:∃ e,e=A%18446744073709551616:=⟨_,rfl⟩
 rw[<- ha]at h1 h2 h3 ⊢;rw[<- he]at h1 h4 ⊢;obtain⟨c,hc⟩:∃ c,c=a / d:=⟨_,rfl⟩
 obtain⟨r,hr⟩:∃ r,r=a%d:=⟨_,rfl⟩
 rw[<- hc,<- hr]at h2;rw[<- hr]at h3 ⊢;have h5:A=d*(c*18446744073709551616)+(r*18446744073709551616+e):=by rw[<- h1,<- h2,<- aG2,aG8,aGV 18446744073709551616,aGV 18446744073709551616]; omega
 constructor
 ·rw[h5,aI1]
 ·rw[h5,aJN hd,aGV c,aI1];refine(aG1 ?_).symm;rw[aG0 hd];have:=aGX 18446744073709551616 h3;rw[aIq]at this;rw[aGV _ d,aGV d];rw[aGV d]at this;omega
def nH (x:Nat):x<18446744073709551616 ^ (ai x).length:=by have:=l_ (bA x); rwa [aH]at this
def XE {N:Nat} (hN:8589934592<=N) {x d:Nat} (hd0:0<d) (hd:d<18446744073709551616) (hs:pS N (ai x)) (k:List Int->Int->Bool):P2 N (ai x) (d:Int) k=k (ai (x / d)) ((x%d:Nat):Int):=by
 unfold P2 ZE;obtain⟨s1,s2⟩:=hs;have hx:=nH x;generalize hn:(ai x).length=n at *;rw[ac (fZ (by omega) (by omega) (by omega) (by omega)),ac aGO,aGU];refine aM (λi=>(((x / 18446744073709551616 ^ (n - i)%d:Nat):Int),((n:Int) - 1 - (i:Int)),List.replicate (n - i) (0:Int)++(dlq (x / d) n).drop (n - i))) n ?_ (by omega) (λi hi K=>?_) (λK=>?_)
 ·rw[aIT,aHm hx,Nat.zero_mod,aHB (by rw[ao]; omega),aHn];simp
 ·obtain⟨m,hm⟩:∃ m,n - i=m+1:=⟨n - i - 1,by omega⟩
  have hm2:n - (i+1)=m:=by omega
  have ei:(n:Int) - 1 - (i:Int)=(m:Int):=by omega
  have ei2:(n:Int) - 1 - ((i+1:Nat):Int)=(m:Int) - 1:=by omega
  have hp:x / 18446744073709551616 ^ (m+1)=x / 18446744073709551616 ^ m / 18446744073709551616:=by rw[aG3,aGY]
  have hdg:x / d / 18446744073709551616 ^ m%18446744073709551616=x / 18446744073709551616 ^ m / d%18446744073709551616:=by rw[aGY,aGY,aGV d]
  obtain⟨n1,n2⟩:=Mb (A:=x / 18446744073709551616 ^ m) hd0;rw[hm,hm2,ei,ei2,hp];simp only[o7,aGU];have hl:(List.replicate (m+1) (0:Int)++(dlq (x / d) n).drop (m+1)).length=n:=by simp[ao]; omega
  rw[aGQ (by omega:(m:Int)>=0),aGT,hn,ac aGP,tT,Ly hN hd (aG6 _ (by decide)) (aG6 _ hd0),n1,n2,<- hdg,hl,ac aGP,ac (aGQ (by omega)),ac aGO,Vr _ _ _ (by omega)]
 ·simp only[o7];have e0:(n:Int) - 1 - (n:Int) = -1:=by omega
  rw[e0,aGR (by omega),aGS,aHq,aIK,aIH];rw[aHp,aHG,aIj];have hq:x / d<18446744073709551616 ^ n:=aIt (aIu _ _) hx;rw[oP _ (lC _ _) (by rw[ao]; omega) (by rw[ao]; omega) (λz=>k z ((x%d:Nat):Int)),qN hq]
def MF {P A B U3 V2 U V g:Nat} (hA:A<P) (hU:U=A+P*U3) (hV:V=B+P*V2) (hV0:0<V) (h:U3<g*V2):U / V<g:=by rw[aG0 hV0,hU,hV,aG8,aHi g P V2];have:=aGZ P h;rw[aJ7]at this;omega
def U5 {W P A B U V u0 u1 u2 v0 v1:Nat} (hA:A<P) (hU:U=A+P*(u0+W*(u2*W+u1))) (hV:V=B+P*(v0+W*v1)) (hV0:0<V) (hv1:0<v1) (hu0:u0<W):U / V<=(u2*W+u1) / v1:=by
 refine Nat.le_of_lt_succ (MF hA hU hV hV0 ?_);have h1:=aJg (u2*W+u1) hv1;rw[aGV v1]at h1;have h2:=aGZ W h1;rw[aJ7]at h2;have e:((u2*W+u1) / v1).succ*(v0+W*v1)=((u2*W+u1) / v1).succ*v0+W*(((u2*W+u1) / v1+1)*v1):=by rw[aG8,aHi]
 rw[e];omega
def RU {N:Nat} {o n u0 v0 v1 T d:Nat} {b c:List Int} (hn:2<=n) (hc1:c.getD (n - 2) 0=(v0:Int)) (hc2:c.getD (n - 1) 0=(v1:Int)) (hb:b.getD (o+(n - 2)) 0=(u0:Int)) (hcl:n<=c.length) (hbl:o+n+1<=b.length) (hbs:b.length<=1099511627780)
  (hv0:v0<18446744073709551616) (hv1:v1<18446744073709551616) (hu0:u0<18446744073709551616) (hd:∀ g,u0+18446744073709551616*T<g*(v0+18446744073709551616*v1)->d<g) :
  ∀ q r M,q<M->q<18446744073709551616->q*v1+r=T->r<18446744073709551616->d<=q ->
   ∃ g,d<=g/\g<18446744073709551616 /\ ∀ e0,ah M (uE N (JY N) (JZ N) (CQ N) o (n+1) 0 n (n:Int) b c e0) ((q:Int),(r:Int))=e0 (g:Int):=by
 intro q;induction q using Nat.strongRecOn with
 | ind q ih=>
 intro r M hM hq hT hr hdq;obtain⟨M,rfl⟩:∃ m,M=m+1:=⟨M - 1,by omega⟩
 have i2:0+Int.toNat ((n:Int) - 2)=n - 2:=by omega
 have i1:0+Int.toNat ((n:Int) - 1)=n - 1:=by omega
 have j2:o+Int.toNat ((n:Int) - 2)=o+(n - 2):=by omega
 have hqv:=aHF (q*v0) 18446744073709551616;have hlo:q*v0%18446744073709551616<18446744073709551616:=aG6 _ (by decide);by_cases hex:q*v0<=r*18446744073709551616+u0
 ·refine⟨q,hdq,hq,λe0=>?_⟩;show uE N _ _ _ o (n+1) 0 n (n:Int) b c e0 ((q:Int),(r:Int)) (ah M _)=_;simp only[uE,i2,i1,j2,hc1,hc2,hb];rw[ac aGO,ac aGP,ac (aGQ (by omega)),Fd N hq hv0];generalize q*v0%18446744073709551616=lo at *;generalize q*v0 / 18446744073709551616=hi at *;rcases aIM hi r with h | h | h
  ·rw[aGQ (by omega:(hi:Int)<r),show(true==false)=false from rfl,aGS]
  ·subst h;rw[aGR (by omega:¬(hi:Int)<hi),show(false==false)=true from rfl,aGT,show((hi:Int)==hi)=true by simp,show(true==true)=true from rfl,aGT,ac aGO,ac aGP,ac (aGQ (by omega)),aGQ (by omega:(lo:Int)<=u0),aGT]
  ·exfalso; omega
 ·have hgt:=hd q (by rw[aG8,aHi,<- hT]; rw[aG8]; omega);obtain⟨p,rfl⟩:∃ p,q=p+1:=⟨q - 1,by omega⟩
  have w1:IntKind.wrap .u64 (((p+1:Nat):Int) - 1)=(p:Int):=by rw[au]; omega
  have step:∀ e0:Int->Bool,ah (M+1) (uE N (JY N) (JZ N) (CQ N) o (n+1) 0 n (n:Int) b c e0) (((p+1:Nat):Int),(r:Int))
    = cond (decide (18446744073709551616<=r+v1)) (e0 (p:Int)) (ah M (uE N (JY N) (JZ N) (CQ N) o (n+1) 0 n (n:Int) b c e0) ((p:Int),((r+v1:Nat):Int))):=by
   intro e0;show uE N _ _ _ o (n+1) 0 n (n:Int) b c e0 (((p+1:Nat):Int),(r:Int)) (ah M _)=_;simp only[uE,i2,i1,j2,hc1,hc2,hb];have tail:(aj .i64 ((n:Int) - 1)&&((inR ((n:Int) - 1) n)&&((decide (n - 1<c.length))&&(CQ N (r:Int) (v1:Int) 0 (λ(awc:Int) (n5:Int)=>(cond (n5 != 0) (e0 (IntKind.wrap .u64 (((p+1:Nat):Int) - 1))) (ah M (uE N (JY N) (JZ N) (CQ N) o (n+1) 0 n (n:Int) b c e0) ((IntKind.wrap .u64 (((p+1:Nat):Int) - 1)),awc))))))))
     = cond (decide (18446744073709551616<=r+v1)) (e0 (p:Int)) (ah M (uE N (JY N) (JZ N) (CQ N) o (n+1) 0 n (n:Int) b c e0) ((p:Int),((r+v1:Nat):Int))):=by
    rw[ac aGO,ac aGP,ac (aGQ (by omega)),tx N (c:=0) (a:=r) (b:=v1) (d:=0) rfl rfl rfl (by omega),w1];by_cases hb2:18446744073709551616<=r+v1
    ·have:(((r+v1+0) / 18446744073709551616:Nat):Int)=1:=by omega
     rw[this,aGQ hb2]; rfl
    ·have:(((r+v1+0) / 18446744073709551616:Nat):Int)=0:=by omega
     have e2:(r+v1+0)%18446744073709551616=r+v1:=by omega
     rw[this,e2,aGR hb2]; rfl
   rw[ac aGO,ac aGP,ac (aGQ (by omega)),Fd N hq hv0];generalize (p+1)*v0%18446744073709551616=lo at *;generalize (p+1)*v0 / 18446744073709551616=hi at *;rcases aIM hi r with h | h | h
   ·exfalso; omega
   ·subst h;rw[aGR (by omega:¬(hi:Int)<hi),show(false==false)=true from rfl,aGT,show((hi:Int)==hi)=true by simp,show(true==true)=true from rfl,aGT,ac aGO,ac aGP,ac (aGQ (by omega)),aGR (by omega:¬(lo:Int)<=u0),aGS];exact tail
   ·rw[aGR (by omega:¬(hi:Int)<r),show(false==false)=true from rfl,aGT,show((hi:Int)==r)=false by simp; omega,show(false==true)=false from rfl,aGS];exact tail
  by_cases hb2:18446744073709551616<=r+v1
  ·exact⟨p,by omega,by omega,λe0=>by rw[step,aGQ hb2,aGT]⟩
  ·obtain⟨g,g1,g2,g3⟩:=ih p (by omega) (r+v1) M (by omega) (by omega) (by rw[<- hT,aIq]; omega) (by omega) (by omega);exact⟨g,g1,g2,λe0=>by rw[step,aGR hb2,aGS]; exact g3 e0⟩
def oa {b:List Int} (o i:Nat):(b.drop o).getD i 0=b.getD (o+i) 0:=by rw[List.getD_eq_getElem?_getD,List.getD_eq_getElem?_getD,List.getElem?_drop]
def atZ (c:List Int) (m:Nat):aB (c.take (m+3))=aB (c.take m)+18446744073709551616 ^ m*((c.getD m 0).toNat+18446744073709551616*((c.getD (m+2) 0).toNat*18446744073709551616+(c.getD (m+1) 0).toNat)):=by rw[show m+3=m+2+1 by omega,aT,show m+2=m+1+1 by omega,aT,aT];simp only[aG3];generalize 18446744073709551616 ^ m=P;grind
def atY (c:List Int) (m:Nat):aB (c.take (m+2))=aB (c.take m)+18446744073709551616 ^ m*((c.getD m 0).toNat+18446744073709551616*(c.getD (m+1) 0).toNat):=by rw[show m+2=m+1+1 by omega,aT,aT];simp only[aG3];generalize 18446744073709551616 ^ m=P;grind
def Xr {N:Nat} (hN:1180591620717411303424<=N) {o n:Nat} {b c:List Int} (hn:2<=n) (hb:InWq b) (hc:InWq c) (hcl:n<=c.length) (hbl:o+n+1<=b.length) (hbs:b.length<=1099511627780)
  (htop:0<(c.getD (n - 1) 0).toNat) (hU:aB ((b.drop o).take (n+1))<aB (c.take n)*18446744073709551616) :
  ∃ g:Nat,aB ((b.drop o).take (n+1)) / aB (c.take n)<=g/\g<18446744073709551616 /\ ∀ k,aeV N o (n+1) 0 n b c k=k (g:Int):=by
 obtain⟨m,rfl⟩:∃ m,n=m+2:=⟨n - 2,by omega⟩
 have hU3:=atZ (b.drop o) m;have hV2:=atY c m;rw[oa,oa,oa]at hU3;have a0:=hb.at (i:=o+m);have a1:=hb.at (i:=o+(m+1));have a2:=hb.at (i:=o+(m+2));have c0:=hc.at (i:=m);have c1:=hc.at (i:=m+1);have hA:=aZ (hb.drop o) m;have hB:=aZ hc m;rw[show m+2 - 1=m+1 by omega]at htop;obtain⟨u0,hu0⟩:∃ u,u=(b.getD (o+m) 0).toNat:=⟨_,rfl⟩
 obtain⟨u1,hu1⟩:∃ u,u=(b.getD (o+(m+1)) 0).toNat:=⟨_,rfl⟩
 obtain⟨u2,hu2⟩:∃ u,u=(b.getD (o+(m+2)) 0).toNat:=⟨_,rfl⟩
 obtain⟨v0,hv0⟩:∃ u,u=(c.getD m 0).toNat:=⟨_,rfl⟩
 obtain⟨v1,hv1⟩:∃ u,u=(c.getD (m+1) 0).toNat:=⟨_,rfl⟩
 have g0:b.getD (o+m) 0=(u0:Int):=by omega
 have g1:b.getD (o+(m+1)) 0=(u1:Int):=by omega
 have g2:b.getD (o+(m+2)) 0=(u2:Int):=by omega
 have k0:c.getD m 0=(v0:Int):=by omega
 have k1:c.getD (m+1) 0=(v1:Int):=by omega
 rw[<- hu0,<- hu1,<- hu2]at hU3;rw[<- hv0,<- hv1]at hV2;rw[<- hv1]at htop;rw[show m+2+1=m+3 by omega];rw[show m+2+1=m+3 by omega]at hU;generalize aB ((b.drop o).take (m+3))=U at *;generalize aB (c.take (m+2))=V at *;have hV0:0<V:=by
  rcases aHY V with h | h
  ·rw[h,aIh]at hU; omega
  ·exact h
 have hq:U / V<18446744073709551616:=by rw[aG0 hV0,aGV]; exact hU
 have i2:o+Int.toNat (((m+2:Nat):Int))=o+(m+2):=by omega
 have i1:o+Int.toNat (((m+2:Nat):Int) - 1)=o+(m+1):=by omega
 have j1:0+Int.toNat (((m+2:Nat):Int) - 1)=m+1:=by omega
 by_cases h0:v1<=u2
 ·refine⟨18446744073709551615,by omega,by omega,λk=>?_⟩;unfold aeV aht;simp only[i2,i1,j1,g2,g1,k1];rw[ac aGP,ac (aGQ (by omega)),ac aGO,ac aGP,ac (aGQ (by omega)),aGQ (by omega:(u2:Int)>=v1),aGT];rfl
 ·have hT:(u2*18446744073709551616+u1) / v1<18446744073709551616:=by rw[aG0 htop];have:=aGZ 18446744073709551616 (Nat.lt_of_not_le h0);rw[aJ7]at this;omega
  obtain⟨g,e1,e2,e3⟩:=RU (N:=N) (o:=o) (n:=m+2) (T:=u2*18446744073709551616+u1) (d:=U / V) (u0:=u0) (v0:=v0) (v1:=v1) (by omega) (by rw[show m+2 - 2=m by omega]; exact k0) (by rw[show m+2 - 1=m+1 by omega]; exact k1) (by rw[show m+2 - 2=m by omega]; exact g0) hcl hbl hbs (by omega) (by omega) (by omega)
   (λg hg=>MF hA hU3 hV2 hV0 hg)
   ((u2*18446744073709551616+u1) / v1) ((u2*18446744073709551616+u1)%v1) N (by omega) hT (aHQ _ _) (aID (aG6 _ htop) (by omega)) (U5 hA hU3 hV2 hV0 htop (by omega))
  refine⟨g,e1,e2,λk=>?_⟩;unfold aeV aht;simp only[i2,i1,j1,g2,g1,k1];rw[ac aGP,ac (aGQ (by omega)),ac aGO,ac aGP,ac (aGQ (by omega)),aGR (by omega:¬(u2:Int)>=v1),aGS];rw[ac aGP,ac (aGQ (by omega)),ac aGO,ac aGP,ac (aGQ (by omega)),ac aGO,ac aGP,ac (aGQ (by omega))];rw[Ly (by omega) (by omega) (by omega) (by omega),e3]
def Wx {b:List Int} {o i:Nat} (D:Nat) (h:o+i<=b.length):(b.take o++(dlq D i++b.drop (o+i))).length=b.length:=by simp[ao]; omega
def Ww {b:List Int} {o i:Nat} (D:Nat) (h:o+i<b.length):(b.take o++(dlq D i++b.drop (o+i))).getD (o+i) 0=b.getD (o+i) 0:=by rw[<- aG9,ig h,eI (by simp[ao]; omega)]
def Wy {b:List Int} {o i:Nat} (D:Nat) (h:o+i<b.length):(b.take o++(dlq D i++b.drop (o+i))).set (o+i) ((D / 18446744073709551616 ^ i%18446744073709551616:Nat):Int)=b.take o++(dlq D (i+1)++b.drop (o+(i+1))):=by rw[<- aG9,ig h,bM _ _ _ _ _ (by simp[ao]; omega),dlq];simp[aHx]
def Wu {b:List Int} {o i n:Nat} (D E:Nat) (hi:i<=n) (h:o+n<=b.length):(b.take o++(dlq E i++((dlq D n).drop i++b.drop (o+n)))).length=b.length:=by simp[ao]; omega
def Wt {b:List Int} {o i n:Nat} (D E:Nat) (hi:i<n) (h:o+n<=b.length):(b.take o++(dlq E i++((dlq D n).drop i++b.drop (o+n)))).getD (o+i) 0=((D / 18446744073709551616 ^ i%18446744073709551616:Nat):Int):=by rw[<- aG9,ig (n:=i) (by rw[ao]; exact hi),aIB,eI (by simp[ao]; omega),zu D hi]
def Wv {b:List Int} {o i n:Nat} (D E:Nat) (hi:i<n) (h:o+n<=b.length):(b.take o++(dlq E i++((dlq D n).drop i++b.drop (o+n)))).set (o+i) ((E / 18446744073709551616 ^ i%18446744073709551616:Nat):Int)=b.take o++(dlq E (i+1)++((dlq D n).drop (i+1)++b.drop (o+n))):=by rw[<- aG9,ig (n:=i) (by rw[ao]; exact hi),aIB,bM _ _ _ _ _ (by simp[ao]; omega),dlq];simp
def UU {m:Nat} (S X:Nat):∀ n,n<=m->dlq (S+18446744073709551616 ^ m*X) n=dlq S n
 | 0,_=>rfl
 | n+1,h=>by rw[dlq,dlq,UU S X n (by omega)];congr 3;refine mq (R:=18446744073709551616 ^ (m - (n+1))*X) ?_;rw[<- aG2,<- aG_,show n+1+(m - (n+1))=m by omega]
def Mc {w:List Int} {n i U Q:Nat} (hw:InWq w) (hl:w.length=n+1) (hU:U=aB w) (hi:i<=n) (hQ:Q<18446744073709551616 ^ (n+1)) :
  (((w.getD i 0).toNat+18446744073709551616 - Q / 18446744073709551616 ^ i%18446744073709551616 - (if aB (w.take i)<Q%18446744073709551616 ^ i then 1 else 0))%18446744073709551616=(U+18446744073709551616 ^ (n+1) - Q) / 18446744073709551616 ^ i%18446744073709551616)
  /\ (if (w.getD i 0).toNat<Q / 18446744073709551616 ^ i%18446744073709551616+(if aB (w.take i)<Q%18446744073709551616 ^ i then 1 else 0)then 1 else 0)=(if aB (w.take (i+1))<Q%18446744073709551616 ^ (i+1)then 1 else(0:Nat)):=by
 have hx:=hw.at (i:=i);have hA:=aT (m:=w) i;have hAl:=aZ hw i;have hp:=bH i;have hBl:=aG6 Q hp;have hPs:18446744073709551616 ^ (i+1)=18446744073709551616 ^ i*18446744073709551616:=aG3 ..;have hmm:Q%18446744073709551616 ^ (i+1)=Q%18446744073709551616 ^ i+18446744073709551616 ^ i*(Q / 18446744073709551616 ^ i%18446744073709551616):=by rw[hPs,aJH]
 have hyl:Q / 18446744073709551616 ^ i%18446744073709551616<18446744073709551616:=aG6 _ (by decide);constructor
 ·obtain⟨R1,h1⟩:=cR w (i+1);have hW:18446744073709551616 ^ (n+1)=18446744073709551616 ^ i*18446744073709551616*18446744073709551616 ^ (n - i):=by rw[<- hPs,<- aG_,show i+1+(n - i)=n+1 by omega]
  have hq:=Lo (D:=U+18446744073709551616 ^ (n+1) - Q) (a:=U+18446744073709551616 ^ (n+1)) (b:=Q) (x:=(w.getD i 0).toNat) (y:=Q / 18446744073709551616 ^ i%18446744073709551616) (R1:=R1+18446744073709551616 ^ (n - i)) (R2:=Q / (18446744073709551616 ^ i*18446744073709551616)) hAl hBl rfl
   (by rw[hU,h1,hA,hW,hPs,aG8]; omega)
   (by rw[<- hmm,hPs]; exact(aI0 _ _).symm)
   (by omega)
  generalize (U+18446744073709551616 ^ (n+1) - Q) / 18446744073709551616 ^ i=Z at *;generalize Q / 18446744073709551616 ^ i%18446744073709551616=y at *;generalize (w.getD i 0).toNat=x at *;generalize ((R1+18446744073709551616 ^ (n - i):Nat):Int) - ((Q / (18446744073709551616 ^ i*18446744073709551616):Nat):Int)=RR at *;split at hq <;> rename_i hh <;> simp only[hh,aIr,aHr] <;> omega
 ·rw[hA,hmm];exact(vk _ _ _ _ _ hAl hBl).symm
def oT (i:Nat):(i:Int)+1=((i+1:Nat):Int):=rfl
def OE (p:Prop) [Decidable p]:(if p then(1:Int)else 0)=((if p then 1 else 0:Nat):Int):=by split <;> rfl
def QI (p:Nat) (h:p<18446744073709551616):IntKind.wrap .u64 (((p+1:Nat):Int) - 1)=(p:Int):=by rw[au]; omega
def K9 {D V c v i:Nat} (hc:c=(D%18446744073709551616 ^ i+V) / 18446744073709551616 ^ i) :
  (D%18446744073709551616 ^ (i+1)+(V+18446744073709551616 ^ i*v)) / 18446744073709551616 ^ (i+1)=(D / 18446744073709551616 ^ i%18446744073709551616+v+c) / 18446744073709551616 /\
  ∀ R,(D+(V+18446744073709551616 ^ i*v+18446744073709551616 ^ (i+1)*R)) / 18446744073709551616 ^ i%18446744073709551616=(D / 18446744073709551616 ^ i%18446744073709551616+v+c)%18446744073709551616:=by
 have hp:=bH i;have hPs:18446744073709551616 ^ (i+1)=18446744073709551616 ^ i*18446744073709551616:=aG3 ..;have hmm:D%18446744073709551616 ^ (i+1)=D%18446744073709551616 ^ i+18446744073709551616 ^ i*(D / 18446744073709551616 ^ i%18446744073709551616):=by rw[hPs,aJH]
 have e:D%18446744073709551616 ^ (i+1)+(V+18446744073709551616 ^ i*v)=(D%18446744073709551616 ^ i+V)+18446744073709551616 ^ i*(D / 18446744073709551616 ^ i%18446744073709551616+v):=by rw[hmm,aG8]; omega
 have e2:(D%18446744073709551616 ^ (i+1)+(V+18446744073709551616 ^ i*v)) / 18446744073709551616 ^ i=D / 18446744073709551616 ^ i%18446744073709551616+v+c:=by rw[e,gQ,<- hc]; omega
 constructor
 ·rw[hPs,<- aGY,<- hPs,e2]
 ·intro R;have e3:D+(V+18446744073709551616 ^ i*v+18446744073709551616 ^ (i+1)*R)=(D%18446744073709551616 ^ (i+1)+(V+18446744073709551616 ^ i*v))+18446744073709551616 ^ (i+1)*(D / 18446744073709551616 ^ (i+1)+R):=by have:=aI0 D (18446744073709551616 ^ (i+1));rw[aG8]; omega
  rw[mq e3,e2]
def Q2 {D V c i:Nat} (hc:c=(D%18446744073709551616 ^ i+V) / 18446744073709551616 ^ i) :
  (D%18446744073709551616 ^ (i+1)+V) / 18446744073709551616 ^ (i+1)=(D / 18446744073709551616 ^ i%18446744073709551616+0+c) / 18446744073709551616 /\
  (D+V) / 18446744073709551616 ^ i%18446744073709551616=(D / 18446744073709551616 ^ i%18446744073709551616+0+c)%18446744073709551616:=by
 obtain⟨a1,a2⟩:=K9 (v:=0) hc;have a3:=a2 0;rw[aIb,aHo V]at a1;rw[aIb,aIb,aHo V]at a3;exact⟨a1,a3⟩
def WP {N:Nat} (hN:1180591620717411303424<=N) {o n U V d:Nat} {b c:List Int} (hn:1<=n) (hc:InWq c) (hcl:n<=c.length) (hbl:o+(n+1)<=b.length) (hbs:b.length<=1099511627780) (hV:V=aB (c.take n)) (hUW:U<18446744073709551616 ^ (n+1)) (hd:∀ g,g<=d↔g*V<=U) {Sg:FD} {Sf:pL} {Ss:mX} (e0:Int->List Int->Bool) :
  ∀ g M,g<M->g<18446744073709551616->d<=g->g*V<18446744073709551616 ^ (n+1) ->
   ah M (Af N Sg Sf Ss (CQ N) o (n+1) 0 n (n:Int) c e0) ((g:Int),((if U<g*V then 1 else 0:Nat):Int),b.take o++(dlq (U+18446744073709551616 ^ (n+1) - g*V) (n+1)++b.drop (o+(n+1))))=e0 (d:Int) (b.take o++(dlq (U+18446744073709551616 ^ (n+1) - d*V) (n+1)++b.drop (o+(n+1)))):=by
 intro g;induction g with
 | zero=>
  intro M hM _ hdg _;obtain⟨M,rfl⟩:∃ m,M=m+1:=⟨M - 1,by omega⟩
  have:d=0:=by omega
  subst this;show Af N Sg Sf Ss _ o (n+1) 0 n (n:Int) c e0 (_,_,_) (ah M _)=_;simp only[Af,aIh];rw[if_neg (by omega:¬ U<0),show(((0:Nat):Int) != 0)=false from rfl,aGS]
 | succ p ih=>
  intro M hM hg hdg hgW;obtain⟨M,rfl⟩:∃ m,M=m+1:=⟨M - 1,by omega⟩
  show Af N Sg Sf Ss _ o (n+1) 0 n (n:Int) c e0 (_,_,_) (ah M _)=_;have hps:(p+1)*V=p*V+V:=aIq _ _;by_cases hlt:U<(p+1)*V
  ·have hdp:d<=p:=by
    rcases aHN p d with h | h
    ·have:=(hd (p+1)).1 h; omega
    ·exact h
   simp only[Af];rw[if_pos hlt,show(((1:Nat):Int) != 0)=true from rfl,aGT];obtain⟨D,hD⟩:∃ D,D=U+18446744073709551616 ^ (n+1) - (p+1)*V:=⟨_,rfl⟩
   obtain⟨E,hE⟩:∃ E,E=U+18446744073709551616 ^ (n+1) - p*V:=⟨_,rfl⟩
   have hDE:E=D+V:=by omega
   have hDl:D<18446744073709551616 ^ (n+1):=by omega
   rw[<- hD];refine aM (λi=>((((D%18446744073709551616 ^ i+aB (c.take i)) / 18446744073709551616 ^ i:Nat):Int),(i:Int),b.take o++(dlq E i++((dlq D (n+1)).drop i++b.drop (o+(n+1)))))) n ?_ (by omega) (λi hi K=>?_) (λK=>?_)
   ·simp[dlq,aB,aJG]
   ·have hx:=hc.at (i:=i);have hcv:=aT (m:=c) i;have hVl:=aZ hc i;have hp:=bH i;have hml:=aG6 D hp;obtain⟨cy,hcy⟩:∃ cy,cy=(D%18446744073709551616 ^ i+aB (c.take i)) / 18446744073709551616 ^ i:=⟨_,rfl⟩
    have hcl1:cy<=1:=by
     have:cy<2:=by rw[hcy,aG0 hp]; omega
     omega
    obtain⟨a1,a2⟩:=K9 (D:=D) (V:=aB (c.take i)) (v:=(c.getD i 0).toNat) hcy;obtain⟨R,hR⟩:=cR (c.take n) (i+1);rw[aJV,aIc (by omega),<- hV,hcv]at hR;have a3:=a2 R;rw[<- hR,<- hDE]at a3;have hdl:D / 18446744073709551616 ^ i%18446744073709551616<18446744073709551616:=aG6 _ (by decide);simp only[NE,aGU,aHk];rw[Wu D E (by omega) (by omega),Wt D E (by omega) (by omega)];rw[aGQ (by omega:(i:Int)<n),aGT,ac aGP,ac (aGQ (by omega)),ac aGP,ac (aGQ (by omega)),<- hcy,
     tx N (a:=D / 18446744073709551616 ^ i%18446744073709551616) (b:=(c.getD i 0).toNat) (d:=cy) rfl (by omega) rfl hcl1,ac aGP,ac (aGQ (by omega)),ac aGO,<- a3,Wv D E (by omega) (by omega),<- a1,hcv,oT]
   ·have hp:=bH n;have hml:=aG6 D hp;have hVl:V<18446744073709551616 ^ n:=by rw[hV]; exact aZ hc n
    obtain⟨cy,hcy⟩:∃ cy,cy=(D%18446744073709551616 ^ n+V) / 18446744073709551616 ^ n:=⟨_,rfl⟩
    have hcl1:cy<=1:=by
     have:cy<2:=by rw[hcy,aG0 hp]; omega
     omega
    obtain⟨a1,a3⟩:=Q2 (D:=D) (V:=V) (i:=n) hcy;rw[aG1 hDl,<- hDE]at a1;rw[<- hDE]at a3;simp only[NE,aGU];rw[aGR (by omega:¬(n:Int)<n),aGS,Wu D E (by omega) (by omega),Wt D E (by omega) (by omega),<- hV,<- hcy,ac aGP,ac (aGQ (by omega)),
     tx N (y:=0) (c:=((cy:Nat):Int)) (a:=D / 18446744073709551616 ^ n%18446744073709551616) (b:=0) (d:=cy) rfl rfl rfl hcl1,ac aGP,ac (aGQ (by omega)),<- a3,<- a1,Wv D E (by omega) (by omega),QI p (by omega)]
    rw[aHB (by rw[ao]; omega),aHG];have eb:IntKind.wrap .u64 (((1:Nat):Int) - ((E / 18446744073709551616 ^ (n+1):Nat):Int))=((if U<p*V then 1 else 0:Nat):Int):=by
     have hp1:=bH (n+1);by_cases h:U<p*V
     ·rw[if_pos h,aHm (by omega),au]; omega
     ·rw[if_neg h];have:E / 18446744073709551616 ^ (n+1)=1:=by refine Nat.div_eq_of_lt_le ?_ ?_ <;> omega
      rw[this,au]; omega
    rw[eb,hE];exact ih M (by omega) (by omega) hdp (by omega)
  ·have:d=p+1:=by have:=(hd (p+1)).2 (by omega);omega
   subst this;simp only[Af];rw[if_neg hlt,show(((0:Nat):Int) != 0)=false from rfl,aGS]
def aea {N:Nat} (hN:1180591620717411303424<=N) {o n:Nat} {b c:List Int} (hn:2<=n) (hb:InWq b) (hc:InWq c) (hcl:n<=c.length) (hbl:o+(n+1)<=b.length) (hbs:b.length<=1099511627780)
  (htop:0<(c.getD (n - 1) 0).toNat) (hU:aB ((b.drop o).take (n+1))<aB (c.take n)*18446744073709551616) (k:Ky7) :
  ajJ N o (n+1) 0 n b c k=k ((aB ((b.drop o).take (n+1)) / aB (c.take n):Nat):Int) (b.take o++(dlq (aB ((b.drop o).take (n+1))%aB (c.take n)) (n+1)++b.drop (o+(n+1)))):=by
 obtain⟨g,g1,g2,g3⟩:=Xr hN hn hb hc hcl (by omega) hbs htop hU;unfold ajJ an6;rw[g3];have hw:InWq ((b.drop o).take (n+1)):=(hb.drop o).take _;have hwl:((b.drop o).take (n+1)).length=n+1:=by rw[aHl,aIo]; omega
 have hwg:∀ i,i<=n->((b.drop o).take (n+1)).getD i 0=b.getD (o+i) 0:=λi hi=>by rw[AD (by omega),oa]
 generalize (b.drop o).take (n+1)=w at *;obtain⟨U,hUe⟩:∃ U,U=aB w:=⟨_,rfl⟩
 obtain⟨V,hVe⟩:∃ V,V=aB (c.take n):=⟨_,rfl⟩
 rw[<- hUe,<- hVe]at hU g1 ⊢;have hV0:0<V:=by
  rcases aHY V with h | h
  ·rw[h,aIh]at hU; omega
  ·exact h
 have hVl:V<18446744073709551616 ^ n:=by rw[hVe]; exact aZ hc n
 have hUW:U<18446744073709551616 ^ (n+1):=by rw[hUe]; have:=l_ hw; rwa [hwl]at this
 have hgV:g*V<18446744073709551616 ^ (n+1):=by rw[aG3,aGV];exact aHU hVl g2
 have hres:b.take o++(dlq (U%V) (n+1)++b.drop (o+(n+1)))=b.take o++(dlq (U+18446744073709551616 ^ (n+1) - (U / V)*V) (n+1)++b.drop (o+(n+1))):=by
  have e:U+18446744073709551616 ^ (n+1) - (U / V)*V=U%V+18446744073709551616 ^ (n+1)*1:=by have:=aHQ U V;omega
  rw[e,UU _ _ _ (aG4 _)]
 rw[hres];obtain⟨D,hD⟩:∃ D,D=U+18446744073709551616 ^ (n+1) - g*V:=⟨_,rfl⟩
 obtain⟨Q,hQ⟩:∃ Q,Q=g*V:=⟨_,rfl⟩
 have hQW:Q<18446744073709551616 ^ (n+1):=by rw[hQ]; exact hgV
 refine aM (λi=>(((g*aB (c.take i) / 18446744073709551616 ^ i:Nat):Int),((if aB (w.take i)<Q%18446744073709551616 ^ i then 1 else 0:Nat):Int),(i:Int),b.take o++(dlq D i++b.drop (o+i)))) n ?_ (by omega) (λi hi K=>?_) (λK=>?_)
 ·simp[dlq,aB,aJG]
 ·have hx:=hb.at (i:=o+i);have hy:=hc.at (i:=i);have hcv:=aT (m:=c) i;have hp:=bH i;have hVi:=aZ hc i;obtain⟨s1,s2⟩:=Mc hw hwl hUe (by omega:i<=n) (by rw[hQ]; exact hgV:Q<_);rw[hwg i (by omega)]at s1 s2;rw[hQ,<- hD,<- hQ]at s1;obtain⟨cy,hcy⟩:∃ cy,cy=g*aB (c.take i) / 18446744073709551616 ^ i:=⟨_,rfl⟩
  have hcyl:cy<18446744073709551616:=by rw[hcy,aG0 hp];exact aHU g2 hVi
  have e1:g*aB (c.take (i+1))=g*aB (c.take i)+18446744073709551616 ^ i*(g*(c.getD i 0).toNat):=by rw[hcv,aG8,aHi g]
  have ecy:g*aB (c.take (i+1)) / 18446744073709551616 ^ (i+1)=(g*(c.getD i 0).toNat+0+cy) / 18446744073709551616:=by rw[aG3,<- aGY,e1,gQ,<- hcy];congr 1; omega
  obtain⟨R,hR⟩:=cR (c.take n) (i+1);rw[aJV,aIc (by omega),<- hVe]at hR;have elo:Q / 18446744073709551616 ^ i%18446744073709551616=(g*(c.getD i 0).toNat+0+cy)%18446744073709551616:=by
   have:Q=g*aB (c.take (i+1))+18446744073709551616 ^ (i+1)*(g*R):=by rw[hQ,hR,aG8,aHi g]
   rw[mq this,e1,gQ,<- hcy];congr 1; omega
  simp only[ND,aGU,aHk];rw[Wx D (by omega),Ww D (by omega),aGQ (by omega:(i:Int)<n),aGT,ac aGP,ac (aGQ (by omega)),<- hcy,
   Jx N (c:=0) (a:=g) (b:=(c.getD i 0).toNat) (e:=0) (f:=cy) rfl (by omega) rfl rfl g2 (by omega) (by omega) hcyl,ac aGP,ac (aGQ (by omega)),<- elo,<- ecy,
   Fe N (a:=(b.getD (o+i) 0).toNat) (b:=Q / 18446744073709551616 ^ i%18446744073709551616) (d:=if aB (w.take i)<Q%18446744073709551616 ^ i then 1 else 0) (by omega) rfl rfl (by split <;> omega),ac aGP,ac (aGQ (by omega)),ac aGO,s1,Wy D (by omega)]
  have s3:(if (b.getD (o+i) 0).toNat<Q / 18446744073709551616 ^ i%18446744073709551616+(if aB (w.take i)<Q%18446744073709551616 ^ i then 1 else 0)then(1:Int)else 0)=((if aB (w.take (i+1))<Q%18446744073709551616 ^ (i+1)then 1 else 0:Nat):Int):=by rw[OE,s2]
  rw[s3];rfl
 ·have hx:=hb.at (i:=o+n);obtain⟨s1,s2⟩:=Mc hw hwl hUe (aG4 n) (by rw[hQ]; exact hgV:Q<_);rw[hwg n (by omega)]at s1 s2;rw[hQ,<- hD,<- hQ]at s1;have hql:Q / 18446744073709551616 ^ n<18446744073709551616:=by rw[aG0 (bH n),aGV,<- aG3,hQ]; exact hgV
  rw[aG1 hql]at s1 s2;have hwt:w.take (n+1)=w:=aHb (by omega);rw[hwt,<- hUe,aG1 hQW]at s2;simp only[ND,aGU];rw[aGR (by omega:¬(n:Int)<n),aGS,<- hVe,<- hQ,Wx D (by omega),Ww D (by omega),ac aGP,ac (aGQ (by omega)),
   Fe N (a:=(b.getD (o+n) 0).toNat) (b:=Q / 18446744073709551616 ^ n) (d:=if aB (w.take n)<Q%18446744073709551616 ^ n then 1 else 0) (by omega) rfl rfl (by split <;> omega),ac aGP,ac (aGQ (by omega)),s1,Wy D (by omega)]
  have s3:(if (b.getD (o+n) 0).toNat<Q / 18446744073709551616 ^ n+(if aB (w.take n)<Q%18446744073709551616 ^ n then 1 else 0)then(1:Int)else 0)=((if U<g*V then 1 else 0:Nat):Int):=by rw[<- hQ,OE,s2]
  rw[s3,hD];exact WP hN (by omega) hc hcl hbl hbs hVe hUW (λp=>aIz hV0) _ g N (by omega) g2 g1 hgV
def Sd {N:Nat} (b:List Int) (m:Nat) (hm:m<=b.length) (hN:m<N) (hs:m<9223372036854775807) (k:Kz2):Vz N 0 m b k=k (dQ b m):=by
 unfold Vz Zq;have key:∀ n,n<=m -> ∀ M,n<M->ah M (CX N 0 m b λn_1=>((decide (0<=n_1/\n_1<=((m:Nat):Int)))&&(k ((Int.toNat n_1) - 0)))) (n:Int)=k (dQ b n):=by
  intro n;induction n with
  | zero=>
   intro _ M hM;obtain⟨M,rfl⟩:∃ m,M=m+1:=⟨M - 1,by omega⟩
   show CX N 0 m b _ ((0:Nat):Int) _=_;simp only[CX,dQ];rw[aGR (by omega:¬((0:Nat):Int)>0),show(false==true)=false from rfl,aGS,aGQ (by omega),aHV];rfl
  | succ n ih=>
   intro hn M hM;obtain⟨M,rfl⟩:∃ m,M=m+1:=⟨M - 1,by omega⟩
   show CX N 0 m b _ ((n+1:Nat):Int) (ah M _)=_;have e:0+Int.toNat (((n+1:Nat):Int) - 1)=n:=by omega
   have e2:((n+1:Nat):Int) - 1=(n:Int):=by omega
   simp only[CX,e];rw[aGQ (by omega:((n+1:Nat):Int)>0),show(true==true)=true from rfl,aGT,ac aGO,ac aGP,ac (aGQ (by omega)),ac aGO,e2,ih (by omega) M (by omega),vm];by_cases h0:b.getD n 0=0
   ·have:(b.getD n 0==0)=true:=by simpa using h0
    rw[this,if_pos h0]; rfl
   ·have:(b.getD n 0==0)=false:=by simpa using h0
    rw[this,if_neg h0,aGS,aGQ (by omega),aHV];rfl
 exact key m (aG4 _) N hN
def F1 (N:Nat) (b:List Int) (m i:Nat) (hm:m<=b.length) (hi:i<9223372036854775807) (k:Kz1):VI N 0 m (i:Int) b k=k ((b.take m).getD i 0):=by
 unfold VI Zz;by_cases h:i<m
 ·rw[aGQ (by omega),aGT,ac aGP,ac (aGQ (by omega)),AD h];simp
 ·rw[aGR (by omega),aGS,jr (by rw[aHl]; omega)]
def PJ {N:Nat} (b:List Int) (hb:InWq b) (m s:Nat) (hm:m<=b.length) (hs:s<64) (hN:m+3<N) (hms:m<=1099511627780):∃ lost:Bool,∀ k,ae0 N 0 m (s:Int) b k=k (ai (aB (b.take m) / 2 ^ s)) lost:=by
 have ew:IntKind.wrap .u64 (Int.tdiv (s:Int) 64)=0:=by rw[au,aHT (by omega)]; omega
 have es:Int.tmod (s:Int) 64=(s:Int):=by rw[aHL (by omega)]; omega
 have eml:IntKind.wrap .u64 ((m:Nat):Int)=(m:Int):=by rw[au]; omega
 have hs0:0<2 ^ s:=aG5 _;by_cases h0:m=0
 ·subst h0;refine⟨false,λk=>?_⟩;unfold ae0 ahv;rw[ew,aI9,show aB []=0 from rfl,Nat.zero_div,bU];rfl
 ·refine⟨aF .and .u64 (b.getD 0 0) (IntKind.wrap .u64 ((IntKind.wrap .u64 ((1:Int)*2 ^ s)) - 1)) != 0,λk=>?_⟩;unfold ae0 ahv;have emin:min s 64=s:=by omega
  have e64:min (Int.toNat (IntKind.wrap .u64 (64 - (s:Int)))) 64=64 - s:=by rw[au]; omega
  have z0:0+Int.toNat (0:Int)=0:=rfl;have z1:Int.toNat (0:Int) - 0=0:=rfl;rw[ew,es,eml,aGR (by omega:¬(0:Int)>=(m:Int)),aGS,ac aGO,ac aGP,z0,z1,ac (aGQ (by omega)),ac (aGQ (by omega)),ac (aGQ (by omega)),aGU,emin];refine aM (λi=>(aF .and .u64 (b.getD 0 0) (IntKind.wrap .u64 ((IntKind.wrap .u64 ((1:Int)*2 ^ s)) - 1)),(i:Int))) 0 rfl (by omega) (λi hi K=>by omega) (λK=>?_);simp only[qo];rw[aGR (by omega:¬((0:Nat):Int)<((0:Nat):Int)),aGS];generalize aF .and .u64 (b.getD 0 0) (IntKind.wrap .u64 ((IntKind.wrap .u64 ((1:Int)*2 ^ s)) - 1))=lo;have hw:InWq (b.take m):=hb.take m;have hwl:(b.take m).length=m:=by rw[aHl]; omega
  obtain⟨X,hX⟩:∃ X,X=aB (b.take m) / 2 ^ s:=⟨_,rfl⟩
  have elen:Int.toNat ((m:Int) - 0)=m:=by omega
  have elen2:(m:Int) - 0=(m:Int):=by omega
  rw[elen2,ac aGO,ac (fZ (by omega) (by omega) (by omega) (by omega)),aHW,aGU,<- hX];refine aM (λi=>((i:Int),dlq X i++List.replicate (m - i) 0)) m (by simp[dlq]) (by omega) (λi hi K=>?_) (λK=>?_)
  ·have hx:=hw.at (i:=i);have hy:=hw.at (i:=i+1);have hset:=AB X i m (by omega);have hl:(dlq X i++List.replicate (m - i) (0:Int)).length=m:=by simp[ao]; omega
   obtain⟨R,hR⟩:=IR hw i;have hdig:X / 18446744073709551616 ^ i%18446744073709551616=(((b.take m).getD i 0).toNat+18446744073709551616*((b.take m).getD (i+1) 0).toNat) / 2 ^ s%18446744073709551616:=by
    rw[hX,aGY,aGV (2 ^ s),<- aGY,hR];have e2:18446744073709551616*18446744073709551616*R=2 ^ s*(18446744073709551616*(2 ^ (64 - s)*R)):=by
     have hs1:2 ^ s*2 ^ (64 - s)=18446744073709551616:=by rw[<- aG_,show s+(64 - s)=64 by omega]
     rw[aHi (2 ^ s),<- aG2 (2 ^ s),hs1,aG2]
    rw[e2,aHP _ _ hs0,aH8]
   have ea:(0:Int)+(i:Int)=(i:Int):=by omega
   have eb:(i:Int)+1=((i+1:Nat):Int):=by omega
   simp only[mK,aGU,ea,eb,emin,e64,hl];rw[aGQ (by omega:(i:Int)<(m:Int)),aGT,ac aGO,F1 N b m i hm (by omega),ac (aGQ (by omega)),ac aGO,ac aGO,F1 N b m (i+1) hm (by omega),ac (aGQ (by rw[au]; omega)),ac aGP,ac (aGQ (by omega)),ac aGO];have ex:(b.take m).getD i 0=((((b.take m).getD i 0).toNat:Nat):Int):=by omega
   have ey:(b.take m).getD (i+1) 0=((((b.take m).getD (i+1) 0).toNat:Nat):Int):=by omega
   rw[ex,ey,Md (by omega) (by omega) (by omega),<- hdig,hset]
  ·simp only[mK];rw[aGR (by omega:¬(m:Int)<(m:Int)),aGS,aHq,aHp,aHn];have hXl:X<18446744073709551616 ^ m:=by have h1:=l_ hw;rw[hwl]at h1;rw[hX];exact aIt (aIu _ _) h1
   have:=oP (N:=N) _ (lC X m) (by rw[ao]; omega) (by rw[ao]; omega) (λl=>k l (lo != 0));rw[this,qN hXl]
def XH {N:Nat} (m:List Int) (hm:InWq m) (n:Nat) (hn:n<4294967296) (hN:m.length+n / 64+4<N) (hs:m.length<=1099511627776) {Sw:lP} (e0:List Int->Bool) :
  ah N (C1 N Sw ((n / 64:Nat):Int) ((n%64:Nat):Int) m ((m.length:Nat):Int) e0) (0,List.replicate (n / 64+m.length+1) (0:Int))=e0 (dlq (aB m*2 ^ n) (n / 64+m.length+1)):=by
 have hw6:n / 64<67108864:=by omega
 generalize hw:n / 64=w at *;generalize hsh:n%64=s at *;have hs32:s<64:=by omega
 have hp2:2 ^ n=18446744073709551616 ^ w*2 ^ s:=by rw[M4,hw,hsh]
 have hs0:0<2 ^ s:=aG5 s;have hs1:2 ^ s*2 ^ (64 - s)=18446744073709551616:=by rw[<- aG_,show s+(64 - s)=64 by omega]
 let V:=aB m*2 ^ n
 let X:=aB m*2 ^ s
 have hVX:V=18446744073709551616 ^ w*X:=by simp only[V,X]; rw[hp2,aHi]
 let T:=λi=>aB (m.take i)*2 ^ s
 let c:=λi=>T i / 18446744073709551616 ^ i
 have hcl:∀ i,c i<2 ^ s:=by intro i;simp only[c,T];rw[aG0 (bH i),aGV];exact aH2 (aZ hm i) hs0
 refine aM (N:=N) (λi=>((i:Int),dlq V (w+i)++((c i:Nat):Int)::List.replicate (m.length - i) 0)) m.length ?_ (by omega) (λi hi K=>?_) (λK=>?_)
 ·congr 1;show List.replicate (w+m.length+1) (0:Int)=dlq V w++((c 0:Nat):Int)::List.replicate m.length 0;rw[hVX,zw];have hc0:c 0=0:=by simp[c,T,aB]
  rw[hc0];have:w+m.length+1=w+(m.length+1):=by omega
  rw[this,<- aIx,aHA]; rfl
 ·have hx:=hm.at (i:=i);have hT:T (i+1)=T i+18446744073709551616 ^ i*((m.getD i 0).toNat*2 ^ s):=by simp only[T,aT,aHf,aG2]
  have hq:T (i+1) / 18446744073709551616 ^ i=c i+(m.getD i 0).toNat*2 ^ s:=by rw[hT,gQ]
  have hci:c i<2 ^ s:=hcl i;have hc1:c (i+1)=(c i+(m.getD i 0).toNat*2 ^ s) / 18446744073709551616:=by rw[<- hq]; simp only[c]; rw[aG3,aGY]
  have hdig:V / 18446744073709551616 ^ (w+i)%18446744073709551616=(c i+(m.getD i 0).toNat*2 ^ s)%18446744073709551616:=by rw[<- hq,hVX,aG_,<- aGY,aHs _ (bH w)];obtain⟨R,hR⟩:=cR m (i+1);refine mq (R:=R*2 ^ s) ?_;simp only[X,T];rw[hR,aHf,aG2]
  have hrep:List.replicate (m.length - i) (0:Int)=0::List.replicate (m.length - (i+1)) 0:=by rw[show m.length - i=(m.length - (i+1))+1 by omega,aHA]
  have hdl:=ao V (w+i);have ei:Int.toNat ((w:Int)+(i:Int))=w+i:=by omega
  have ei1:Int.toNat ((w:Int)+(i:Int)+1)=w+i+1:=by omega
  have emin:min s 64=s:=by omega
  have e64:min (Int.toNat (IntKind.wrap .u64 (64 - (s:Int)))) 64=64 - s:=by rw[au]; omega
  simp only[C1,aGU,ei,ei1,emin,e64];rw[hrep,eI hdl.symm,bM _ _ _ _ _ hdl.symm];have hmx:m.getD i 0=(((m.getD i 0).toNat:Nat):Int):=by omega
  rw[hmx];generalize hxx:(m.getD i 0).toNat=x at *;have hx32:x<18446744073709551616:=by omega
  have hlow:x*2 ^ s%18446744073709551616=2 ^ s*(x%2 ^ (64 - s)):=by
   have e:x*2 ^ s%(2 ^ s*2 ^ (64 - s))=2 ^ s*(x%2 ^ (64 - s)):=by rw[aGV x]; exact aIC _ _ _
   rwa [hs1]at e
  have hsum:2 ^ s*(x%2 ^ (64 - s))+c i<18446744073709551616:=by have h1:x%2 ^ (64 - s)+1<=2 ^ (64 - s):=aG6 _ (aG5 _);have h2:=aGZ (2 ^ s) h1;rw[hs1,aG8]at h2;omega
  have epw:(x:Int)*2 ^ s=((x*2 ^ s:Nat):Int):=by rw[aHa,aIi]; rfl
  have eor:aF .or .u64 ((c i:Nat):Int) (IntKind.wrap .u64 ((x:Int)*2 ^ s))=((V / 18446744073709551616 ^ (w+i)%18446744073709551616:Nat):Int):=by
   have e1:IntKind.wrap .u64 ((x*2 ^ s:Nat):Int)=((2 ^ s*(x%2 ^ (64 - s)):Nat):Int):=by rw[<- hlow,au]; omega
   rw[epw,e1,gj _ _ s hci hsum,hdig];omega
  have ehi:Int.fdiv (x:Int) (2 ^ (64 - s))=((c (i+1):Nat):Int):=by
   have e2:(2:Int) ^ (64 - s)=((2 ^ (64 - s):Nat):Int):=by rw[aIi]; rfl
   rw[e2,oS,hc1];have:(c i+x*2 ^ s) / 18446744073709551616=x / 2 ^ (64 - s):=by rw[<- hs1,<- aGY,aGV x,aHP _ _ hs0,aHm hci,aHk]
   rw[this]
  rw[eor,ehi];have hl1:∀(a b:Int) (ys:List Int),(dlq V (w+i)++a::b::ys).length=w+i+2+ys.length:=by intro a b ys; simp[hdl]; omega
  have hset2:(dlq V (w+i)++((V / 18446744073709551616 ^ (w+i)%18446744073709551616:Nat):Int)::0::List.replicate (m.length - (i+1)) 0).set (w+i+1) ((c (i+1):Nat):Int)=dlq V (w+(i+1))++((c (i+1):Nat):Int)::List.replicate (m.length - (i+1)) 0:=by
   have:dlq V (w+i)++((V / 18446744073709551616 ^ (w+i)%18446744073709551616:Nat):Int)::0::List.replicate (m.length - (i+1)) 0=dlq V (w+(i+1))++0::List.replicate (m.length - (i+1)) 0:=by rw[<- aHx,dlq]; simp
   rw[this];exact bM _ _ _ _ _ (by rw[ao]; omega)
  rw[hset2,hl1,hl1];simp only[aHW];rw[aGQ (by omega:(i:Int)<((m.length:Nat):Int)),aGT,ac aGP,ac aGO,ac aGP,ac (aGQ (by omega)),ac (aGQ (by omega)),ac aGP,ac (aGQ (by omega)),ac aGO,ac aGO,ac (aGQ (by rw[au]; omega)),ac aGP,ac (aGQ (by omega)),ac aGO];rfl
 ·simp only[C1];rw[aGR (by omega:¬(m.length:Int)<m.length),aGS,aHq,aHp];have hV:V<18446744073709551616 ^ (w+m.length+1):=by
   have h1:=l_ hm;simp only[V];rw[hp2,aG3,aG_,aHi,aG2];refine aH2 ?_ (bH w);have hs2:2 ^ s<=18446744073709551616:=by rw[<- hs1]; exact aHE _ (aG5 _)
   exact aHy h1 hs2 (by decide)
  have hT:T m.length=X:=by simp only[T,X]; rw[aHw]
  have hend:dlq V (w+m.length)++[((c m.length:Nat):Int)]=dlq V (w+m.length+1):=by
   rw[dlq];have:c m.length=V / 18446744073709551616 ^ (w+m.length)%18446744073709551616:=by
    have hX:V / 18446744073709551616 ^ (w+m.length)=X / 18446744073709551616 ^ m.length:=by rw[hVX,aG_,<- aGY,aHs _ (bH w)]
    have h2:=hcl m.length;have hs2:2 ^ s<=18446744073709551616:=by rw[<- hs1]; exact aHE _ (aG5 _)
    rw[hX,<- hT];exact(aG1 (by show c m.length<_; omega)).symm
   rw[this]
  rw[hend]
def O3 (n:Nat):dlq n (ai n).length=ai n:=by refine List.ext_getElem (ao n _) (λi h1 h2=>?_);have e1:=zu n h2;have e2:=tT i n;rw[List.getD_eq_getElem?_getD,List.getElem?_eq_getElem h1,aHz]at e1;rw[List.getD_eq_getElem?_getD,List.getElem?_eq_getElem h2,aHz]at e2;rw[e1,e2]
def Ms {X L:Nat} (hX:X<18446744073709551616 ^ L):∀ k,dlq X (L+k)=dlq X L++List.replicate k 0
 | 0=>by simp
 | k+1=>by rw[<- aHx,dlq,Ms hX k,aHm (aHc hX (aG7 (by decide) (aJa _ _))),aIv,aG9];rfl
def zx (S:Nat):∀{m n:Nat},n<=m->(dlq S m).take n=dlq S n
 | 0,n,h=>by
  have:n=0:=by omega
  subst this; rfl
 | m+1,n,h=>by
  by_cases e:n=m+1
  ·subst e; rw[aHb (by rw[ao]; omega)]
  ·rw[dlq,aHS (by rw[ao]; omega),zx S (by omega)]
def Lq (S a:Nat):∀ c,dlq S (a+c)=dlq S a++dlq (S / 18446744073709551616 ^ a) c
 | 0=>by simp[dlq]
 | c+1=>by rw[<- aHx,dlq,Lq S a c,dlq,aGY,<- aG_,aG9]
def Ry {V m:Nat} (h:V<18446744073709551616 ^ m):dQ (dlq V m) m=(ai V).length:=by have h1:=Eu (lC V m);rw[ao,wY,aG1 h]at h1;rw[<- h1,aHl,ao];have:=nZ (dlq V m) m;omega
def apq {V m:Nat} (h1:18446744073709551616 ^ m<=V) (h2:V<18446744073709551616 ^ (m+1)):(ai V).length=m+1:=by have a:=kx (m+1) V h2;have b:=apo (V:=V) (w:=m) (by have:=aJf h1 (bH m); omega);omega
def BB {N:Nat} {m s:Nat} (hm:m ≠ 0) (hs:s<64) (hN:(ai m).length+4<N) (hl:(ai m).length<=1099511627776) (k0:Bool) (k1:Nat->List Int->Bool) :
  ajI N (ai m) (s:Int) k0 k1=k1 (ai (m*2 ^ s)).length (dlq (m*2 ^ s) ((ai m).length+1)):=by
 have hlp:(ai m).length ≠ 0:=by rw[eu hm]; simp
 have hV:m*2 ^ s<18446744073709551616 ^ ((ai m).length+1):=by
  rw[aG3];have h2:2 ^ s<18446744073709551616:=by rw[<- uu]; exact Nat.pow_lt_pow_right (by decide) hs
  exact aHU (nH m) h2
 unfold ajI anY;have e0:((((ai m).length:Nat):Int)==0)=false:=by simp; intro h; rw[h]at hlp; simp at hlp
 have ew:IntKind.wrap .u64 (Int.tdiv (s:Int) 64)=((s / 64:Nat):Int):=by rw[au,aHT (by omega)]; omega
 have es:Int.tmod (s:Int) 64=((s%64:Nat):Int):=by rw[aHL (by omega)]; rfl
 have elen:Int.toNat (((s / 64:Nat):Int)+(((ai m).length:Nat):Int)+1)=s / 64+(ai m).length+1:=by omega
 rw[e0,aGS,ew,es,ac aGO,ac aGO,ac aGO,ac (fZ (by omega) (by omega) (by omega) (by omega)),elen];have:=XH (N:=N) (ai m) (bA m) s (by omega) (by omega) hl (Sw:=sQ9 N) (λz_1=>sQ9 N z_1 λmr=>k1 mr z_1);rw[aH,show s / 64=0 by omega,aHk]at this;rw[show s / 64=0 by omega,aHk];refine Eq.trans this ?_;rw[Jy _ (by rw[ao]; omega) (by rw[ao]; omega),ao,Ry hV]
def XK (xs:List Int) (k:Nat):aB (xs++List.replicate k 0)=aB xs:=by rw[sU,GH]; simp
def DU {N:Nat} (hN:1180591620717411303424<=N) {x y:Nat} (hxy:y<=x) (hy2:2<=(ai y).length) (hxl:(ai x).length<=1099511627000) (k:Ky9) :
  yS N (ai x) (ai y) k=k (ai (x / y)) (ai (x%y)):=by
 have hy0:y ≠ 0:=by intro h; rw[h,bU]at hy2; simp at hy2
 have hyx:=ir hxy;have hylt:=nH y;have hxlt:=nH x;have hylo:18446744073709551616 ^ ((ai y).length - 1)<=y:=by
  rcases aHN y (18446744073709551616 ^ ((ai y).length - 1))with h | h
  ·have:=kx _ _ h; omega
  ·exact h
 unfold yS N4;rw[mA x y ⟨by omega,by omega⟩ ⟨by omega,by omega⟩];have hc:decide (iW x y<0)=false:=by unfold iW; rw[if_neg (by omega)]; split <;> rfl
 obtain⟨n,hn⟩:∃ n,(ai y).length=n+2:=⟨(ai y).length - 2,by omega⟩
 obtain⟨lx,hlx⟩:∃ lx,(ai x).length=lx:=⟨_,rfl⟩
 have htd:(ai y).getD (n+1) 0=((y / 18446744073709551616 ^ (n+1):Nat):Int):=by rw[tT,aG1];rw[aG0 (bH _),aGV,<- aG3];rw[hn]at hylt; exact hylt
 rw[hn]at hylt hylo;rw[hlx]at hxlt;rw[show n+2 - 1=n+1 by omega]at hylo;obtain⟨t,ht⟩:∃ t,t=y / 18446744073709551616 ^ (n+1):=⟨_,rfl⟩
 rw[<- ht]at htd;have htl:t<18446744073709551616:=by rw[ht,aG0 (bH _),aGV,<- aG3]; exact hylt
 have ht0:t ≠ 0:=by have:=aJf hylo (bH (n+1)); omega
 obtain⟨g1,g2,g3⟩:=Wo ht0 htl;have ein:Int.toNat (((n+2:Nat):Int) - 1)=n+1:=by omega
 have e1':(((n+2:Nat):Int)==1)=false:=by simp; omega
 rw[hc,aGS,hn,hlx,e1',aGS,ac aGO,ac aGP,ein,htd,Pt N htl];obtain⟨s,hs⟩:∃ s,s=64 - bl t:=⟨_,rfl⟩
 rw[<- hs]at g1 g2 g3 ⊢;have hs0:0<2 ^ s:=aG5 s;have ews:IntKind.wrap .u64 ((s:Nat):Int)=(s:Int):=by rw[au]; omega
 rw[ews];obtain⟨V,hV⟩:∃ V,V=y*2 ^ s:=⟨_,rfl⟩
 obtain⟨X,hX⟩:∃ X,X=x*2 ^ s:=⟨_,rfl⟩
 have hVlt:V<18446744073709551616 ^ (n+2):=by
  have h1:=aJg y (bH (n+1));rw[<- ht]at h1;have h2:y*2 ^ s<18446744073709551616 ^ (n+1)*(t+1)*2 ^ s:=aHH h1 hs0;have h3:(t+1)*2 ^ s<=18446744073709551616:=by
   have hd:2 ^ s*2 ^ (64 - s)=18446744073709551616:=by rw[<- aG_,show s+(64 - s)=64 by omega]
   have h4:t<2 ^ (64 - s):=by rw[aGV]at g3;rw[<- hd]at g3;exact aI_ g3
   rw[<- hd,aGV];exact aGZ _ h4
  have h5:=aGZ (18446744073709551616 ^ (n+1)) h3;rw[hV,show n+2=n+1+1 by omega,aG3];rw[aG2]at h2;omega
 have hVge:18446744073709551616 ^ (n+1)<=V:=by rw[hV]; exact aHj hylo (aHE _ hs0)
 have hVlen:(ai V).length=n+2:=apq hVge hVlt;have hV0:0<V:=aHc (bH _) hVge;have hx0:x ≠ 0:=by omega
 rw[BB hy0 g1 (by omega) (by omega),hn,<- hV,hVlen,BB hx0 g1 (by omega) (by omega),hlx,<- hX];have hs2:2 ^ s<=18446744073709551616:=by rw[<- uu]; exact aG7 (by decide) (by omega)
 have hXlt:X<18446744073709551616 ^ (lx+1):=by rw[hX,aG3]; exact aHy hxlt hs2 (by decide)
 have hXlen1:(ai X).length<=lx+1:=kx _ _ hXlt;have hXlen2:lx<=(ai X).length:=by rw[<- hlx,hX]; exact ir (aHE _ hs0)
 have etk:(dlq X (lx+1)).take (ai X).length=ai X:=by rw[zx X hXlen1,O3]
 have ebl:(ai X++[0,0]).length=(ai X).length+2:=by simp
 obtain⟨M,hM⟩:∃ M,lx+1=M+(n+2):=⟨lx+1 - (n+2),by omega⟩
 have eu1:Int.toNat ((lx:Int)+1) - 0=lx+1:=by omega
 have eM:(((lx+1:Nat):Int) - ((n+2:Nat):Int))=(M:Int):=by omega
 rw[aIj,etk,ebl,eu1,eM];rw[ac (aGQ (by rw[ao]; omega)),ac (aGQ (by omega)),ac aGO,ac (aGQ (by omega)),ac aGO,ac (fZ (by omega) (by omega) (by omega) (by omega)),ac aGO,ac aGO,aGU];obtain⟨tail,htail⟩:∃ tail,tail=(ai X++[(0:Int),0]).drop (lx+1):=⟨_,rfl⟩
 have htw:InWq tail:=by
  rw[htail];refine InWq.drop (λz hz=>?_) _;rcases List.mem_append.1 hz with h | h
  ·exact bA X z h
  ·simp only[aIf,aIP,or_false,or_self]at h; subst h; omega
 have htlen:tail.length<=2:=by rw[htail,aIo,ebl]; omega
 have hstart:ai X++[(0:Int),0]=dlq X M++(dlq (X / 18446744073709551616 ^ M%V) (n+2)++(List.replicate 0 0++tail)):=by
  have hXM:X / 18446744073709551616 ^ M<V:=by
   rw[aG0 (bH M),hX,hV];have h1:x*2 ^ s<18446744073709551616 ^ lx*2 ^ s:=aHH hxlt hs0;have h2:18446744073709551616 ^ lx=18446744073709551616 ^ (n+1)*18446744073709551616 ^ M:=by rw[<- aG_]; congr 1; omega
   have h3:=aGX (18446744073709551616 ^ M*2 ^ s) hylo;rw[h2,aG2]at h1;have e:y*2 ^ s*18446744073709551616 ^ M=y*(18446744073709551616 ^ M*2 ^ s):=by rw[aG2,aGV (2 ^ s)]
   rw[e]; omega
  rw[aG1 hXM,aHp,aHG,<- aG9,<- Lq,<- hM];rw[htail];have hpad:(ai X++[(0:Int),0]).take (lx+1)=dlq X (lx+1):=by
   have:ai X++[(0:Int),0]=dlq X ((ai X).length+2):=by rw[Ms (nH X) 2,O3]; rfl
   rw[this,zx X (by omega)]
  rw[<- hpad,aIY]
 rw[hstart];have hQlt:X / V<18446744073709551616 ^ M:=by
  rw[aG0 hV0];have h1:x*2 ^ s<18446744073709551616 ^ lx*2 ^ s:=aHH hxlt hs0;have h2:18446744073709551616 ^ lx=18446744073709551616 ^ M*18446744073709551616 ^ (n+1):=by rw[<- aG_]; congr 1; omega
  have h3:=aGZ (18446744073709551616 ^ M) (aGX (2 ^ s) hylo);rw[hX,hV];rw[h2,aG2]at h1;omega
 have hmk:M<=1099511627001:=by omega
 refine aM (λi=>((M:Int) - 1 - (i:Int),dlq X (M - i)++(dlq (X / 18446744073709551616 ^ (M - i)%V) (n+2)++(List.replicate i 0++tail)),List.replicate (M - i) (0:Int)++(dlq (X / V) M).drop (M - i))) M ?_ (by omega) (λi hi K=>?_) (λK=>?_)
 ·rw[aIT,aHB (by rw[ao]; omega),aHn];congr 1;omega
 ·obtain⟨j,hj⟩:∃ j,M - i=j+1:=⟨M - i - 1,by omega⟩
  have hj2:M - (i+1)=j:=by omega
  have ei:(M:Int) - 1 - (i:Int)=(j:Int):=by omega
  have ei2:(M:Int) - 1 - ((i+1:Nat):Int)=(j:Int) - 1:=by omega
  rw[hj,hj2,ei,ei2];obtain⟨A,hA⟩:∃ A,A=X / 18446744073709551616 ^ j:=⟨_,rfl⟩
  have hA1:X / 18446744073709551616 ^ (j+1)=A / 18446744073709551616:=by rw[hA,aG3,aGY]
  obtain⟨n1,n2⟩:=Mb (A:=A) hV0;obtain⟨R,hR⟩:∃ R,R=A / 18446744073709551616%V:=⟨_,rfl⟩
  have hRV:R<V:=by rw[hR]; exact aG6 _ hV0
  rw[hA1,<- hR];rw[<- hR]at n1 n2;obtain⟨b,hb⟩:∃ b,b=dlq X (j+1)++(dlq R (n+2)++(List.replicate i 0++tail)):=⟨_,rfl⟩
  have hblen:b.length=j+1+(n+2)+i+tail.length:=by rw[hb]; simp[ao]; omega
  have hbw:InWq b:=by
   rw[hb];intro z hz;rcases List.mem_append.1 hz with h | h
   ·exact lC _ _ z h
   ·rcases List.mem_append.1 h with h | h
    ·exact lC _ _ z h
    ·rcases List.mem_append.1 h with h | h
     ·have:=(List.mem_replicate.1 h).2; subst this; omega
     ·exact htw z h
  have hbt:b.take j=dlq X j:=by rw[hb,aHS (by rw[ao]; omega),zx X (by omega)]
  have hbd:b.drop j=((A%18446744073709551616:Nat):Int)::(dlq R (n+2)++(List.replicate i 0++tail)):=by rw[hb,dlq,aG9,aHR (by rw[ao]; omega),aHB (by rw[ao]; omega),aHG,hA];rfl
  have hwv:aB ((b.drop j).take (n+2+1))=R*18446744073709551616+A%18446744073709551616:=by rw[hbd,aJE,aHS (by rw[ao]; omega),aHb (by rw[ao]; omega),aB,wY,aG1 (aID hRV hVlt),aGU];omega
  have hbd2:b.drop (j+(n+2+1))=List.replicate i 0++tail:=by rw[<- List.drop_drop,hbd,List.drop_succ_cons,aHR (by rw[ao]; omega),aHB (by rw[ao]; omega),aHG]
  have hcv:aB ((dlq V (n+2+1)).take (n+2))=V:=by rw[zx V (by omega),wY,aG1 hVlt]
  have hctop:0<((dlq V (n+2+1)).getD (n+2 - 1) 0).toNat:=by
   rw[zu V (by omega),aGU,show n+2 - 1=n+1 by omega,aG1]
   ·exact aJf hVge (bH _)
   ·rw[aG0 (bH _),aGV,<- aG3]; exact hVlt
  have hAm:A%18446744073709551616<18446744073709551616:=aG6 _ (by decide);have hstep:=λkk=>aea hN (o:=j) (n:=n+2) (b:=b) (c:=dlq V (n+2+1)) (by omega) hbw (lC _ _) (by rw[ao]; omega) (by omega) (by omega) hctop (by rw[hwv,hcv];have:=aGX 18446744073709551616 hRV;rw[aIq]at this;omega) kk
  rw[hwv,hcv,n1,n2,hbt,hbd2]at hstep;have hnext:dlq X j++(dlq (A%V) (n+2+1)++(List.replicate i 0++tail))=dlq X j++(dlq (A%V) (n+2)++(List.replicate (i+1) 0++tail)):=by rw[Ms (aID (aG6 A hV0) hVlt) 1,aG9,aHA];rfl
  have hdg:X / V / 18446744073709551616 ^ j%18446744073709551616=A / V%18446744073709551616:=by rw[hA,aGY,aGY,aGV V]
  have ej:0+Int.toNat (j:Int)=j:=by omega
  have ej2:Int.toNat ((j:Int)+((n+2:Nat):Int)+1) - Int.toNat (j:Int)=n+2+1:=by omega
  rw[<- hb];simp only[CU,ej,ej2];rw[aGQ (by omega:(j:Int)>=0),aGT,ac aGO,ac aGO,ac (aGQ (by omega))];rw[hstep];have hql:(List.replicate (j+1) (0:Int)++(dlq (X / V) M).drop (j+1)).length=M:=by simp[ao]; omega
  rw[hql,ac aGP,ac (aGQ (by omega)),ac aGO,aGU,<- hdg,Vr _ _ _ (by omega),hnext,<- hA]
 ·simp only[CU];have e0:(M:Int) - 1 - (M:Int) = -1:=by omega
  rw[e0,aGR (by omega),aGS,aHq,aIK,aIH,aHp,aHG,aIj];obtain⟨L,hL⟩:∃ L,L=dlq X 0++(dlq (X%V) (n+2)++(List.replicate M 0++tail)):=⟨_,rfl⟩
  have hRlt:X%V<18446744073709551616 ^ (n+2):=aID (aG6 _ hV0) hVlt;have hLt:L.take (lx+1)=dlq (X%V) (n+2)++List.replicate M 0:=by rw[hL,hM,show dlq X 0=[] from rfl,aHG,<- aG9,aHS (by simp[ao]; omega),aHb (by simp[ao]; omega)]
  have hLw:InWq L:=by
   rw[hL];intro z hz;rcases List.mem_append.1 hz with h | h
   ·cases h
   ·rcases List.mem_append.1 h with h | h
    ·exact lC _ _ z h
    ·rcases List.mem_append.1 h with h | h
     ·have:=(List.mem_replicate.1 h).2; subst this; omega
     ·exact htw z h
  have hLlen:lx+1<=L.length:=by rw[hL]; simp[ao]; omega
  rw[<- hL];unfold K2;rw[Sd L (lx+1) hLlen (by omega) (by omega)];have hcl:=nZ L (lx+1);obtain⟨lost,hlost⟩:=PJ (N:=N) L hLw (dQ L (lx+1)) s (by omega) g1 (by omega) (by omega);rw[hlost,xv,hLt,XK,wY,aG1 hRlt];have:=oP (N:=N) (dlq (X / V) M) (lC _ _) (by rw[ao]; omega) (by rw[ao]; omega) (λz=>k z (ai (X%V / 2 ^ s)));rw[this,qN hQlt,hX,hV,aJv _ _ hs0,aJw,aIA _ hs0]
def oQ {N:Nat} (hN:1180591620717411303424<=N) {x y:Nat} (hy:0<y) (hxl:(ai x).length<=1099511627000) (hyl:(ai y).length<=1099511627000) (k:Ky9) :
  yS N (ai x) (ai y) k=k (ai (x / y)) (ai (x%y)):=by
 by_cases hxy:y<=x
 ·by_cases h2:2<=(ai y).length
  ·exact DU hN hxy h2 hxl k
  ·have hylt:=nH y;have hl1:(ai y).length=1:=by rw[eu (by omega)]at h2 ⊢; simp at h2 ⊢; exact h2
   rw[hl1,aJO]at hylt;have hd:=xy (by omega:y ≠ 0) hylt;have hc:decide (iW x y<0)=false:=by unfold iW; rw[if_neg (by omega)]; split <;> rfl
   unfold yS N4;rw[mA x y ⟨by omega,by omega⟩ ⟨by omega,by omega⟩,hc,aGS,hd];show cond (((1:Nat):Int)==1) _ _=_;rw[show(((1:Nat):Int)==1)=true from rfl,aGT,ac (al (by omega) (by simp))];show P2 N (ai x) (y:Int) _=_;have hm:x%y<18446744073709551616:=aID (aG6 _ hy) hylt;rw[XE (by omega) hy hylt ⟨by omega,by omega⟩,AJ (by omega) _ hm]
 ·have hc:decide (iW x y<0)=true:=by unfold iW; rw[if_pos (by omega)]; rfl
  unfold yS N4;rw[mA x y ⟨by omega,by omega⟩ ⟨by omega,by omega⟩,hc,aGT,Ff _ (by omega),aHm (by omega),aG1 (by omega),bU]
def Gr:∀ n,n ≠ 0->bl n=64*((ai n).length - 1)+bl ((ai n).getD ((ai n).length - 1) 0).toNat/\0<(ai n).length:=by
 intro n;induction n using Nat.strongRecOn with
 | ind n ih=>
  intro h;rw[eu h];by_cases h1:n / 18446744073709551616=0
  ·rw[h1,bU];have:n%18446744073709551616=n:=aG1 (by omega);simp[this]
  ·obtain⟨i1,i2⟩:=ih (n / 18446744073709551616) (by omega) h1;have e:=qK (n:=n) 64 (by rw[uu]; omega);rw[uu]at e;refine⟨?_,by simp⟩;have e2:(((n%18446744073709551616:Nat):Int)::ai (n / 18446744073709551616)).getD ((((n%18446744073709551616:Nat):Int)::ai (n / 18446744073709551616)).length - 1) 0=(ai (n / 18446744073709551616)).getD ((ai (n / 18446744073709551616)).length - 1) 0:=by
    simp only[aHv,aJj];generalize ai (n / 18446744073709551616)=l at i2 ⊢;cases l with
    | nil=>simp at i2
    | cons y l=>simp
   rw[e2,e,i1];simp only[aHv];omega
def PA {N:Nat} {n:Nat} (hs:(ai n).length<=1099511627776) (k:Kz1):BD N (ai n) k=k (bl n:Int):=by
 unfold BD Zm;by_cases h:n=0
 ·subst h; rw[bU]; rfl
 ·obtain⟨e1,e2⟩:=Gr n h;have e0:(((ai n).length:Int)==0)=false:=by simp; intro h'; rw[h']at e2; simp at e2
  have e3:Int.toNat (((ai n).length:Int) - 1)=(ai n).length - 1:=by omega
  have hw:=(bA n).at (i:=(ai n).length - 1);have e4:(ai n).getD ((ai n).length - 1) 0=((((ai n).getD ((ai n).length - 1) 0).toNat:Nat):Int):=by omega
  have hb:=Ds (n:=((ai n).getD ((ai n).length - 1) 0).toNat) (j:=64) (by rw[uu]; omega);rw[e0,aGS,ac aGO,ac aGO,ac aGO,ac aGP,e3,e4,Js N (by omega),ac aGO,e1];congr 1;omega
def Va {N:Nat} {x f:Nat} (hf:f<140737488355328) (k:Kz1):BF N (ai x) (f:Int) k=k ((x / 2 ^ f%18446744073709551616:Nat):Int):=by
 unfold BF Z1;have e1:Int.tdiv (f:Int) 64=((f / 64:Nat):Int):=by rw[aHT (by omega)]; rfl
 have e2:IntKind.wrap .u64 (Int.tmod (f:Int) 64)=((f%64:Nat):Int):=by rw[au,aHL (by omega)]; omega
 have e3:min (f%64) 64=f%64:=by omega
 have e4:min (Int.toNat (IntKind.wrap .u64 (64 - ((f%64:Nat):Int)))) 64=64 - f%64:=by rw[au]; omega
 have e5:((f / 64:Nat):Int)+1=((f / 64+1:Nat):Int):=by omega
 have hx:=(bA x).at (i:=f / 64);have hy:=(bA x).at (i:=f / 64+1);have ex:(ai x).getD (f / 64) 0=((((ai x).getD (f / 64) 0).toNat:Nat):Int):=by omega
 have ey:(ai x).getD (f / 64+1) 0=((((ai x).getD (f / 64+1) 0).toNat:Nat):Int):=by omega
 rw[e1,e2,e5,ac aGO,tA N _ (f / 64) (by omega),ac (aGQ (by omega)),ac aGO,tA N _ (f / 64+1) (by omega),ac (aGQ (by rw[au]; omega)),aGU,e3,e4,ex,ey,Md (by omega) (by omega) (by omega)];obtain⟨R,hR⟩:=IR (bA x) (f / 64);rw[aH]at hR;have hp:2 ^ f=18446744073709551616 ^ (f / 64)*2 ^ (f%64):=M4 f;have hs0:0<2 ^ (f%64):=aG5 _;rw[hp,<- aGY,hR];have e6:18446744073709551616*18446744073709551616*R=2 ^ (f%64)*(18446744073709551616*(2 ^ (64 - f%64)*R)):=by
  have hs1:2 ^ (f%64)*2 ^ (64 - f%64)=18446744073709551616:=by rw[<- aG_,show f%64+(64 - f%64)=64 by omega]
  rw[aHi (2 ^ (f%64)),<- aG2 (2 ^ (f%64)),hs1,aG2]
 rw[e6,aHP _ _ hs0,aH8]
def PF {N:Nat} {x d e:Nat} (hd:d<18446744073709551616) (he:e<18446744073709551616) (hs:pS N (ai x)) (k:Kz5):V6 N (ai x) (d:Int) (e:Int) k=k (ai (x*d+e)):=by
 unfold V6 aao;obtain⟨s1,s2⟩:=hs;obtain⟨L,hL⟩:∃ L,(ai x).length=L:=⟨_,rfl⟩
 have hx:=nH x;rw[hL]at hx;have eL:Int.toNat ((L:Int)+1)=L+1:=by omega
 rw[hL,ac aGO,ac (fZ (by omega) (by omega) (by omega) (by omega)),eL];obtain⟨m,hm⟩:∃ m,m=ai x:=⟨_,rfl⟩
 have hmw:InWq m:=by rw[hm]; exact bA x
 have hmv:aB m=x:=by rw[hm]; exact aH x
 have hml:m.length=L:=by rw[hm]; exact hL
 rw[<- hm];obtain⟨S,hS⟩:∃ S,S=x*d+e:=⟨_,rfl⟩
 rw[<- hS];refine aM (λi=>((((aB (m.take i)*d+e) / 18446744073709551616 ^ i:Nat):Int),(i:Int),dlq S i++List.replicate (L+1 - i) 0)) L (by simp[aB,dlq]) (by omega) (λi hi K=>?_) (λK=>?_)
 ·have hz:=hmw.at (i:=i);have hp:=bH i;have hXi:=aZ hmw i;have hcv:=aT (m:=m) i;obtain⟨cy,hcy⟩:∃ cy,cy=(aB (m.take i)*d+e) / 18446744073709551616 ^ i:=⟨_,rfl⟩
  have e1:aB (m.take (i+1))*d+e=(aB (m.take i)*d+e)+18446744073709551616 ^ i*((m.getD i 0).toNat*d):=by rw[hcv,aHf,aG2]; omega
  have hcyl:cy<18446744073709551616:=by
   rw[hcy,aG0 hp];have:=aHC (aI8 hXi) (aI8 hd);have h1:1<=18446744073709551616 ^ i:=hp;have h2:(18446744073709551616 ^ i - 1)*(18446744073709551616 - 1)+18446744073709551615=18446744073709551616 ^ i*18446744073709551615:=by
    obtain⟨P,hP⟩:∃ P,18446744073709551616 ^ i=P+1:=⟨18446744073709551616 ^ i - 1,by omega⟩
    rw[hP]; omega
   omega
  have ecy:(aB (m.take (i+1))*d+e) / 18446744073709551616 ^ (i+1)=((m.getD i 0).toNat*d+0+cy) / 18446744073709551616:=by rw[aG3,<- aGY,e1,gQ,<- hcy];congr 1; omega
  obtain⟨R,hR⟩:=cR m (i+1);have elo:S / 18446744073709551616 ^ i%18446744073709551616=((m.getD i 0).toNat*d+0+cy)%18446744073709551616:=by
   have:S=(aB (m.take (i+1))*d+e)+18446744073709551616 ^ (i+1)*(R*d):=by rw[hS,<- hmv,hR,aHf,aG2]; omega
   rw[mq this,e1,gQ,<- hcy];congr 1; omega
  have hset:=AB S i (L+1) (by omega);have hl:(dlq S i++List.replicate (L+1 - i) (0:Int)).length=L+1:=by simp[ao]; omega
  simp only[qG,aGU];rw[aGQ (by omega:(i:Int)<(L:Int)),aGT,hml,ac aGP,<- hcy,Jx N (c:=0) (a:=(m.getD i 0).toNat) (b:=d) (e:=0) (f:=cy) (by omega) rfl rfl rfl (by omega) hd (by omega) hcyl,hl,ac aGP,ac (aGQ (by omega)),ac aGO,<- elo,<- ecy,hset,oT]
 ·simp only[qG];have hl:(dlq S L++List.replicate (L+1 - L) (0:Int)).length=L+1:=by simp[ao]
  have hSl:S<18446744073709551616 ^ (L+1):=by
   rw[hS,aG3];have h1:=aHC (aI8 hx) (aI8 hd);obtain⟨P,hP⟩:∃ P,18446744073709551616 ^ L=P+1:=⟨18446744073709551616 ^ L - 1,by have:=bH L; omega⟩
   rw[hP]at h1 ⊢;omega
  have ee:(aB (m.take L)*d+e) / 18446744073709551616 ^ L=S / 18446744073709551616 ^ L%18446744073709551616:=by rw[aHb (by omega),hmv,<- hS,aG1];rw[aG0 (bH L),aGV,<- aG3]; exact hSl
  rw[aGR (by omega:¬(L:Int)<(L:Int)),aGS,hl,ee,aGU,AB S L (L+1) (by omega),ac aGP,ac (aGQ (by omega)),aHq,aHp,aHn,oP _ (lC _ _) (by rw[ao]; omega) (by rw[ao]; omega),qN hSl]
def G8 (x0 y0 a b c d:Nat) (odd:Bool):Prop:=
 ∃ p q,x0=d*p+b*q/\y0=c*p+a*q/\(cond odd (b*c=a*d+1) (a*d=b*c+1))/\a<=b/\c<=d/\d<=q/\q+b+d<=p/\1<=b/\1<=c/\b<18446744073709551616/\d<18446744073709551616
def TC {N:Nat} {x0 y0:Nat} (hx0:x0<18446744073709551616) (hy0:y0<18446744073709551616) (t1 t2 t3 t4:Int) (t5:Bool) :
  ∀ y x u v a b c d odd M,y<M->y<=x->x0=v*x+d*y->y0=u*x+c*y->(cond odd (c*v=d*u+1) (d*u=c*v+1))->1<=v ->
   ((d=0/\u=0/\b=0/\c=1/\v=1)\/(1<=u/\c<=d/\u<=v/\(b=0\/G8 x0 y0 a b c d odd))) ->
   ∃ a' b' c' d':Nat,∃ odd',(b'=0\/G8 x0 y0 a' b' c' d' odd') /\ ∀ e0,ah M (uF N t1 t2 t3 t4 t5 e0) ((x:Int),(y:Int),(u:Int),(v:Int),(a:Int),(b:Int),(c:Int),(d:Int),odd)=e0 (a':Int) (b':Int) (c':Int) (d':Int) odd':=by
 intro y;induction y using Nat.strongRecOn with
 | ind y ih=>
 intro x u v a b c d odd M hM hyx h1 h2 hdet hv hor;obtain⟨M,rfl⟩:∃ m,M=m+1:=⟨M - 1,by omega⟩
 have hend:b=0\/G8 x0 y0 a b c d odd:=by
  rcases hor with h | h
  ·exact .inl h.2.2.1
  ·exact h.2.2.2
 by_cases c1:v<=y
 ·have hy1:1<=y:=by omega
  have b1:v*1<=v*x:=aGZ _ (by omega);have b2:d*1<=d*y:=aGZ _ hy1;have w1:IntKind.wrap .u64 ((x:Int) - (y:Int))=((x - y:Nat):Int):=by have:1*x<=v*x:=aGX _ hv;rw[au]; omega
  have w2:IntKind.wrap .u64 ((d:Int)+(v:Int))=((d+v:Nat):Int):=by rw[au]; omega
  by_cases c2:d+v<=x - y
  ·-- one step more
   obtain⟨q,hq⟩:∃ q,q=x / y:=⟨_,rfl⟩
   obtain⟨r,hr⟩:∃ r,r=x%y:=⟨_,rfl⟩
   have hxq:x=q*y+r:=by rw[hq,hr]; exact(aHQ x y).symm
   have hry:r<y:=by rw[hr]; exact aG6 _ hy1
   have hq1:1<=q:=by rw[hq]; exact aJf hyx hy1
   have n1:x0=(d+q*v)*y+v*r:=by rw[h1,hxq]; grind
   have n2:y0=(c+q*u)*y+u*r:=by rw[h2,hxq]; grind
   have m1:(d+q*v)*1<=(d+q*v)*y:=aGZ _ hy1;have m2:(c+q*u)*1<=(c+q*u)*y:=aGZ _ hy1;have hvq:v<=d+q*v:=by have:=aGX v hq1;omega
   have hg:∀(e0:Int->Int->Int->Int->Bool->Bool),ah (M+1) (uF N t1 t2 t3 t4 t5 e0) ((x:Int),(y:Int),(u:Int),(v:Int),(a:Int),(b:Int),(c:Int),(d:Int),odd)=ah M (uF N t1 t2 t3 t4 t5 e0) ((y:Int),(r:Int),((c+q*u:Nat):Int),((d+q*v:Nat):Int),(c:Int),(d:Int),(u:Int),(v:Int),!odd):=by
    intro e0;show uF N t1 t2 t3 t4 t5 e0 _ (ah M _)=_;simp only[uF];have y1:(!decide ((y:Int)=0))=true:=by simp; omega
    have ediv:Int.tdiv (x:Int) (y:Int)=(q:Int):=by rw[hq]; rfl
    have emod:Int.tmod (x:Int) (y:Int)=(r:Int):=by rw[hr]; rfl
    have wq:IntKind.wrap .u64 (q:Int)=(q:Int):=by have:q*1<=q*v:=aGZ _ hv;rw[au]; omega
    have wu:IntKind.wrap .u64 ((c:Int)+IntKind.wrap .u64 ((q:Int)*(u:Int)))=((c+q*u:Nat):Int):=by rw[<- aHa,au,au]; omega
    have wv:IntKind.wrap .u64 ((d:Int)+IntKind.wrap .u64 ((q:Int)*(v:Int)))=((d+q*v:Nat):Int):=by rw[<- aHa,au,au]; omega
    rw[aGQ (by omega:(y:Int)>=v),show(true==true)=true from rfl,aGT,w1,w2,aGQ (by omega),aGT,ac y1,ac y1,ediv,emod,wq,wu,wv]
   have hstep:=ih r hry y (c+q*u) (d+q*v) c d u v (!odd) M (by omega) (by omega) n1 n2 (by
    cases odd with
    | true=>
     simp only[aGT,aHK,aGS]at hdet ⊢;have:v*(c+q*u)=v*c+q*u*v:=by grind
     have:u*(d+q*v)=u*d+q*u*v:=by grind
     have:c*v=v*c:=aGV _ _;have:d*u=u*d:=aGV _ _;omega
    | false=>
     simp only[aGT,aHt,aGS]at hdet ⊢;have:u*(d+q*v)=u*d+q*u*v:=by grind
     have:v*(c+q*u)=v*c+q*u*v:=by grind
     have:c*v=v*c:=aGV _ _;have:d*u=u*d:=aGV _ _;omega) (by omega) (by
    refine .inr ?_;rcases hor with⟨k1,k2,k3,k4,k5⟩ | ⟨k1,k2,k3,k4⟩
    ·subst k1 k2 k4 k5;exact⟨by omega,by omega,by omega,.inl rfl⟩
    ·have hu1:u<=c+q*u:=by have:=aGX u hq1;omega
     refine⟨by omega,k3,?_,?_⟩
     ·have:=aGZ q k3;omega
     ·rcases aHY d with hd0 | hd0
      ·exact .inl hd0
      ·refine .inr ⟨x,y,h1,h2,?_,k2,k3,c1,by omega,hd0,k1,by omega,by omega⟩;cases odd with
       | true=>simp only[aHK,aGS,aGT]at hdet ⊢; exact hdet
       | false=>simp only[aHt,aGT,aGS]at hdet ⊢; exact hdet)
   obtain⟨a',b',c',d',odd',g1,g2⟩:=hstep;exact⟨a',b',c',d',odd',g1,λe0=>by rw[hg,g2]⟩
  ·refine⟨a,b,c,d,odd,hend,λe0=>?_⟩;show uF N t1 t2 t3 t4 t5 e0 _ (ah M _)=_;simp only[uF];rw[aGQ (by omega:(y:Int)>=v),show(true==true)=true from rfl,aGT,w1,w2,aGR (by omega),aGS]
 ·refine⟨a,b,c,d,odd,hend,λe0=>?_⟩;show uF N t1 t2 t3 t4 t5 e0 _ (ah M _)=_;simp only[uF];rw[aGR (by omega:¬(y:Int)>=v),show(false==true)=false from rfl,aGS]
def XF {N:Nat} (hN:1180591620717411303424<=N) {x0 y0:Nat} (hx0:x0<18446744073709551616) (hyx:y0<=x0):∃ a b c d:Nat,∃ odd,(b=0\/G8 x0 y0 a b c d odd) /\ ∀ k,D8 N (x0:Int) (y0:Int) k=k (a:Int) (b:Int) (c:Int) (d:Int) odd:=by obtain⟨a,b,c,d,odd,h1,h2⟩:=TC (N:=N) (x0:=x0) (y0:=y0) hx0 (by omega) 0 0 0 0 false y0 x0 0 1 0 0 1 0 true N (by omega) hyx (by omega) (by omega) rfl (aG4 _) (.inl ⟨rfl,rfl,rfl,rfl,rfl⟩);exact⟨a,b,c,d,odd,h1,λk=>h2 _⟩
def WM {x0 y0 a b c d F rx ry X Y:Nat} (h:G8 x0 y0 a b c d true) (hrx:rx<F) (hry:ry<F) (hX:X=x0*F+rx) (hY:Y=y0*F+ry) :
  a*X<=b*Y/\d*Y<=c*X/\c*X - d*Y<=b*Y - a*X/\X=d*(b*Y - a*X)+b*(c*X - d*Y)/\Y=c*(b*Y - a*X)+a*(c*X - d*Y):=by
 obtain⟨p,q,h1,h2,hdet,hab,hcd,hdq,hpq,hb1,hc1,hbl,hdl⟩:=h;simp only[aGT]at hdet;have e1:b*Y+a*rx=a*X+(p*F+b*ry):=by
  subst h1 h2 hX hY;have:b*(c*p*F)=(a*d+1)*(p*F):=by rw[<- hdet]; grind
  grind
 have e2:c*X+d*ry=d*Y+(q*F+c*rx):=by
  subst h1 h2 hX hY;have:b*c*(q*F)=(a*d+1)*(q*F):=by rw[<- hdet]
  grind
 have m1:a*rx<=a*F:=aGZ _ (by omega);have m2:a*F<=b*F:=aGX _ hab;have m3:d*ry<=d*F:=aGZ _ (by omega);have m4:d*F<=q*F:=aGX _ hdq;have m5:(q+b+d)*F<=p*F:=aGX _ hpq;rw[aHf,aHf]at m5;have m6:c*rx<=c*F:=aGZ _ (by omega);have m7:c*F<=d*F:=aGX _ hcd;have g1:a*X<=b*Y:=by omega
 have g2:d*Y<=c*X:=by omega
 refine⟨g1,g2,by omega,?_,?_⟩
 ·obtain⟨U,hU⟩:=aIy g1;obtain⟨V,hV⟩:=aIy g2;rw[<- hU,<- hV,aHu,aHu];have t1:d*(b*Y)=d*(a*X)+d*U:=by rw[<- hU,aG8]
  have t2:b*(c*X)=b*(d*Y)+b*V:=by rw[<- hV,aG8]
  have t3:b*(c*X)=(a*d+1)*X:=by rw[<- hdet,aG2]
  have t4:(a*d+1)*X=d*(a*X)+X:=by grind
  have t5:d*(b*Y)=b*(d*Y):=by grind
  omega
 ·obtain⟨U,hU⟩:=aIy g1;obtain⟨V,hV⟩:=aIy g2;rw[<- hU,<- hV,aHu,aHu];have t1:c*(b*Y)=c*(a*X)+c*U:=by rw[<- hU,aG8]
  have t2:a*(c*X)=a*(d*Y)+a*V:=by rw[<- hV,aG8]
  have t3:c*(b*Y)=(a*d+1)*Y:=by rw[<- hdet]; grind
  have t4:(a*d+1)*Y=a*(d*Y)+Y:=by grind
  have t5:c*(a*X)=a*(c*X):=by grind
  omega
def Q4 {x0 y0 a b c d F rx ry X Y:Nat} (h:G8 x0 y0 a b c d false) (hrx:rx<F) (hry:ry<F) (hX:X=x0*F+rx) (hY:Y=y0*F+ry) :
  b*Y<=a*X/\c*X<=d*Y/\d*Y - c*X<=a*X - b*Y/\X=d*(a*X - b*Y)+b*(d*Y - c*X)/\Y=c*(a*X - b*Y)+a*(d*Y - c*X):=by
 obtain⟨p,q,h1,h2,hdet,hab,hcd,hdq,hpq,hb1,hc1,hbl,hdl⟩:=h;simp only[aGS]at hdet;have e1:a*X+b*ry=b*Y+(p*F+a*rx):=by
  subst h1 h2 hX hY;have:a*d*(p*F)=(b*c+1)*(p*F):=by rw[<- hdet]
  grind
 have e2:d*Y+c*rx=c*X+(q*F+d*ry):=by
  subst h1 h2 hX hY;have:a*d*(q*F)=(b*c+1)*(q*F):=by rw[<- hdet]
  grind
 have m1:b*ry<=b*F:=aGZ _ (by omega);have m3:c*rx<=c*F:=aGZ _ (by omega);have m4:d*F<=q*F:=aGX _ hdq;have m5:(q+b+d)*F<=p*F:=aGX _ hpq;rw[aHf,aHf]at m5;have m6:d*ry<=d*F:=aGZ _ (by omega);have m7:c*F<=d*F:=aGX _ hcd;have g1:b*Y<=a*X:=by omega
 have g2:c*X<=d*Y:=by omega
 refine⟨g1,g2,by omega,?_,?_⟩
 ·obtain⟨U,hU⟩:=aIy g1;obtain⟨V,hV⟩:=aIy g2;rw[<- hU,<- hV,aHu,aHu];have t1:d*(a*X)=d*(b*Y)+d*U:=by rw[<- hU,aG8]
  have t2:b*(d*Y)=b*(c*X)+b*V:=by rw[<- hV,aG8]
  have t3:d*(a*X)=(b*c+1)*X:=by rw[<- hdet]; grind
  have t4:(b*c+1)*X=b*(c*X)+X:=by grind
  have t5:d*(b*Y)=b*(d*Y):=by grind
  omega
 ·obtain⟨U,hU⟩:=aIy g1;obtain⟨V,hV⟩:=aIy g2;rw[<- hU,<- hV,aHu,aHu];have t1:c*(a*X)=c*(b*Y)+c*U:=by rw[<- hU,aG8]
  have t2:a*(d*Y)=a*(c*X)+a*V:=by rw[<- hV,aG8]
  have t3:a*(d*Y)=(b*c+1)*Y:=by rw[<- hdet]; grind
  have t4:(b*c+1)*Y=c*(b*Y)+Y:=by grind
  have t5:c*(a*X)=a*(c*X):=by grind
  omega
def DA {X Y U V a b c d:Nat} (h1:X=d*U+b*V) (h2:Y=c*U+a*V) (hU:Nat.gcd X Y∣U) (hV:Nat.gcd X Y∣V):Nat.gcd U V=Nat.gcd X Y:=by
 refine Nat.dvd_antisymm (Nat.dvd_gcd ?_ ?_) (Nat.dvd_gcd hU hV)
 ·rw[h1];exact Nat.dvd_add (aHe (aHI _ _) _) (aHe (aH4 _ _) _)
 ·rw[h2];exact Nat.dvd_add (aHe (aHI _ _) _) (aHe (aH4 _ _) _)
def Xn {N:Nat} {x0 y0 a b c d F rx ry X Y:Nat} {odd:Bool} (h:G8 x0 y0 a b c d odd) (hrx:rx<F) (hry:ry<F) (hX:X=x0*F+rx) (hY:Y=y0*F+ry) (hY0:0<Y) (sX:(ai X).length+10<N/\(ai X).length<=1099511627000) (sY:(ai Y).length+10<N/\(ai Y).length<=1099511627000) :
  ∃ U V,V<=U/\U+V<X+Y/\U<=X/\Nat.gcd U V=Nat.gcd X Y /\ ∀ k,bh N (a:Int) (b:Int) (c:Int) (d:Int) odd (ai X) (ai Y) k=k (ai U) (ai V):=by
 have hb:=h;obtain⟨p,q,h1,h2,hdet,hab,hcd,hdq,hpq,hb1,hc1,hbl,hdl⟩:=hb;have len1:∀ z e:Nat,(ai z).length+10<N/\(ai z).length<=1099511627000->e<18446744073709551616->pS N (ai (z*e+0)):=by
  intro z e hz he;have:=kx ((ai z).length+1) (z*e+0) (by rw[aHo,aG3]; exact aHU (nH z) he)
  exact⟨by omega,by omega⟩
 have fin:∀ U V:Nat,X=d*U+b*V->Y=c*U+a*V->V<=U->U+V<X+Y/\U<=X:=by
  intro U V hx hy hvu;have k1:1*U<=d*U:=aGX _ (by omega);have k2:1*V<=b*V:=aGX _ hb1;have k3:1*U<=c*U:=aGX _ hc1;have hU0:0<U:=by
   rcases aHY U with hu | hu
   ·exfalso;have hv:V=0:=by omega
    rw[hu,hv,aIb,aIb]at hy;omega
   ·exact hu
  exact⟨by omega,by omega⟩
 cases odd with
 | true=>
  obtain⟨g1,g2,g3,g4,g5⟩:=WM h hrx hry hX hY;obtain⟨f1,f2⟩:=fin _ _ g4 g5 g3;refine⟨b*Y - a*X,c*X - d*Y,g3,f1,f2,DA g4 g5 ?_ ?_,λk=>?_⟩
  ·exact aJh (aHe (aH4 _ _) _) (aHe (aHI _ _) _)
  ·exact aJh (aHe (aHI _ _) _) (aHe (aH4 _ _) _)
  ·unfold bh jo;have m:=λ(z e:Nat) (he:e<18446744073709551616) (hz:pS N (ai z)) (kk:List Int->Bool)=>PF (N:=N) (e:=0) he (by decide) hz kk
   rw[show((0:Nat):Int)=0 from rfl]at m;rw[aGT,m Y b hbl ⟨by omega,by omega⟩,m X a (by omega) ⟨by omega,by omega⟩,tz _ _ (bA _) (bA _) (by rw[aH,aH,aHo,aHo,aGV X,aGV Y]; exact g1) (len1 Y b sY hbl),m X c (by omega) ⟨by omega,by omega⟩,m Y d hdl ⟨by omega,by omega⟩,tz _ _ (bA _) (bA _) (by rw[aH,aH,aHo,aHo,aGV X,aGV Y]; exact g2) (len1 X c sX (by omega)),aH,aH,aH,aH,aHo,aHo,aHo,aHo,aGV Y b,aGV X a,aGV X c,aGV Y d]
 | false=>
  obtain⟨g1,g2,g3,g4,g5⟩:=Q4 h hrx hry hX hY;obtain⟨f1,f2⟩:=fin _ _ g4 g5 g3;refine⟨a*X - b*Y,d*Y - c*X,g3,f1,f2,DA g4 g5 ?_ ?_,λk=>?_⟩
  ·exact aJh (aHe (aHI _ _) _) (aHe (aH4 _ _) _)
  ·exact aJh (aHe (aH4 _ _) _) (aHe (aHI _ _) _)
  ·unfold bh jo;have m:=λ(z e:Nat) (he:e<18446744073709551616) (hz:pS N (ai z)) (kk:List Int->Bool)=>PF (N:=N) (e:=0) he (by decide) hz kk
   rw[show((0:Nat):Int)=0 from rfl]at m;rw[aGS,m X a (by omega) ⟨by omega,by omega⟩,m Y b hbl ⟨by omega,by omega⟩,tz _ _ (bA _) (bA _) (by rw[aH,aH,aHo,aHo,aGV X,aGV Y]; exact g1) (len1 X a sX (by omega)),m Y d hdl ⟨by omega,by omega⟩,m X c (by omega) ⟨by omega,by omega⟩,tz _ _ (bA _) (bA _) (by rw[aH,aH,aHo,aHo,aGV X,aGV Y]; exact g2) (len1 Y d sY hdl),aH,aH,aH,aH,aHo,aHo,aHo,aHo,aGV Y b,aGV X a,aGV X c,aGV Y d]
def U9 (N x:Nat) (k:Kz1):BE N (ai x) k=k ((x%18446744073709551616:Nat):Int):=by unfold BE Z0;have:=tA N (ai x) 0 (by omega) k;rw[show((0:Nat):Int)=0 from rfl]at this;rw[this,tT,aIK,aIH]
def O9 {N:Nat} {S1 S2 S3 S4 S5 S6 S7 S8} (e0:Int->Bool):∀(b a M:Nat),b<M->ah M (Kf N S1 S2 S3 S4 S5 S6 S7 S8 e0) ((a:Int),(b:Int))=e0 ((Nat.gcd a b:Nat):Int):=by
 intro b;induction b using Nat.strongRecOn with
 | ind b ih=>
 intro a M hM;obtain⟨M,rfl⟩:∃ m,M=m+1:=⟨M - 1,by omega⟩
 show Kf N S1 S2 S3 S4 S5 S6 S7 S8 e0 ((a:Int),(b:Int)) (ah M _)=_;simp only[Kf];by_cases h:b=0
 ·subst h;rw[aGR (by omega),aGS,aJn]
 ·have y1:(!decide ((b:Int)=0))=true:=by simp; omega
  have emod:Int.tmod (a:Int) (b:Int)=((a%b:Nat):Int):=rfl;rw[aGQ (by omega),aGT,ac y1,emod,ih (a%b) (aG6 _ (by omega)) b M (by have:=aG6 a (by omega:b>0); omega),aH7 b,<- aJP,aH7]
def CJ {y:Nat} (h:(ai y).length<=1):y<18446744073709551616:=by have:=nH y;have h2:18446744073709551616 ^ (ai y).length<=18446744073709551616 ^ 1:=aG7 (by decide) h;rw[aJO]at h2;omega
def IQ {N:Nat} (hN:1180591620717411303424<=N) {u v:List Int} {x y:Nat} (hy:(ai y).length<=1) (hx:y=0\/(ai x).length<=1) (k:Kz5) :
  Da N (Ea N) (BD N) (BF N) (D8 N) (bh N) (yS N) (BE N) (Fm N) u v (ai x) (ai y) k=k (ai (Nat.gcd x y)):=by
 unfold Da;have hyl:=CJ hy;by_cases h:y=0
 ·subst h;rw[bU,aJn]; rfl
 ·have e0:((((ai y).length:Nat):Int)==0)=false:=by rw[eu h]; simp; omega
  have hxl:=CJ (hx.resolve_left h);rw[e0,aGS,U9,U9,aG1 hxl,aG1 hyl,O9 _ y x N (by omega)];refine AJ (by omega) _ ?_ k;have:=aIQ x (aJo h);omega
def O2 {N:Nat} (hN:1180591620717411303424<=N) {u v:List Int} (k:Kz5) :
  ∀ s x y,x+y=s->s<N->y<=x->(ai x).length<=1099511626000 ->
   N7 N (Ea N) (BD N) (BF N) (D8 N) (bh N) (yS N) (BE N) (Fm N) u v (ai x) (ai y) k=k (ai (Nat.gcd x y)):=by
 intro s x y hs hsN hyx hxl;unfold N7;have main:∀ s x y M,x+y=s->s<M->M<=N->y<=x->(ai x).length<=1099511626000 ->
   ah M (Ft N (Ea N) (BD N) (BF N) (D8 N) (bh N) (yS N) (BE N) (Fm N) (λ(x_3:List Int) (y_3:List Int)=>(cond ((decide ((((List.length y_3):Nat):Int)>0))==true) (cond (decide ((((List.length x_3):Nat):Int)>1)) (yS N x_3 y_3 (λ(auv:List Int) (auu:List Int)=>(Da N (Ea N) (BD N) (BF N) (D8 N) (bh N) (yS N) (BE N) (Fm N) u v y_3 auu k))) (Da N (Ea N) (BD N) (BF N) (D8 N) (bh N) (yS N) (BE N) (Fm N) u v x_3 y_3 k)) (Da N (Ea N) (BD N) (BF N) (D8 N) (bh N) (yS N) (BE N) (Fm N) u v x_3 y_3 k)))) (ai x,ai y)=k (ai (Nat.gcd x y)):=by
  intro s;induction s using Nat.strongRecOn with
  | ind s ih=>
  intro x y M hs hsM hMN hyx hxl;obtain⟨M,rfl⟩:∃ m,M=m+1:=⟨M - 1,by omega⟩
  have hyl:=ir hyx;show Ft N _ _ _ _ _ _ _ _ _ (ai x,ai y) (ah M _)=_;simp only[Ft];by_cases h2:2<=(ai y).length
  ·have hyge:18446744073709551616<=y:=by
    rcases aHN y 18446744073709551616 with h | h
    ·have:=kx 1 y (by rw[aJO]; exact h); omega
    ·exact h
   have hblx:64<bl x:=by
    rcases aHN 64 (bl x)with h | h
    ·exact h
    ·have h1:=FK x;have h3:2 ^ bl x<=2 ^ 64:=aG7 (by decide) h;rw[uu]at h3;omega
   have hblu:bl x<=64*(ai x).length:=by refine Ds ?_;rw[aJJ,uu]; exact nH x
   obtain⟨f,hf⟩:∃ f,bl x=f+64:=⟨bl x - 64,by omega⟩
   have ef:(bl x:Int) - 64=(f:Int):=by omega
   have hF0:0<2 ^ f:=aG5 f;have hx0l:x / 2 ^ f<18446744073709551616:=by rw[aG0 hF0,<- uu,<- aG_,aIJ,<- hf]; exact FK x
   have hy0l:y / 2 ^ f<=x / 2 ^ f:=aI7 hyx;rw[aGQ (by omega),aGT,PA (by omega),ef,ac aGO,Va (by omega),Va (by omega),aG1 hx0l,aG1 (by omega)];obtain⟨a,b,c,d,odd,g1,g2⟩:=XF hN hx0l hy0l;rw[g2];by_cases hb:b=0
   ·subst hb;rw[show(((0:Nat):Int) != 0)=false from rfl,aGS,oQ hN (by omega) (by omega) (by omega)];have hm:=aG6 x (by omega:y>0);rw[ih (y+x%y) (by omega) y (x%y) M rfl (by omega) (by omega) (by omega) (by omega),aH7 y,<- aJP,aH7]
   ·have hbn:((b:Int) != 0)=true:=by simp; omega
    rw[hbn,aGT];obtain⟨U,V,k1,k2,k3,k4,k5⟩:=Xn (N:=N) (g1.resolve_left hb) (aG6 x hF0) (aG6 y hF0) (aHQ x (2 ^ f)).symm (aHQ y (2 ^ f)).symm (by omega) ⟨by omega,by omega⟩ ⟨by omega,by omega⟩;have hUl:=ir k3;rw[k5,ih (U+V) (by omega) U V M rfl (by omega) (by omega) k1 (by omega),k4]
  ·rw[aGR (by omega),aGS];by_cases h0:y=0
   ·have:(((ai y).length:Nat):Int)=0:=by rw[h0,bU]; rfl
    rw[this,aGR (by omega),show(false==true)=false from rfl,aGS,IQ hN (by omega) (.inl h0)]
   ·have hpos:0<(ai y).length:=by rw[eu h0]; simp
    rw[aGQ (by omega),show(true==true)=true from rfl,aGT];by_cases h1:1<(ai x).length
    ·have hm:=aG6 x (aJo h0);have hml:=ir (Nat.le_of_lt hm);rw[aGQ (by omega),aGT,oQ hN (aJo h0) (by omega) (by omega),IQ hN (by omega) (.inr (by omega)),aH7 y,<- aJP,aH7]
    ·rw[aGR (by omega),aGS,IQ hN (by omega) (.inr (by omega))]
 exact main s x y N hs hsN (aG4 _) hyx hxl
def PB {N:Nat} (hN:1180591620717411303424<=N) {x y:Nat} (hf:x+y<N) (hxl:(ai x).length<=1099511626000) (hyl:(ai y).length<=1099511626000) (k:Kz5):M9 N (ai x) (ai y) k=k (ai (Nat.gcd x y)):=by
 unfold M9 aaE;rw[mA x y ⟨by omega,by omega⟩ ⟨by omega,by omega⟩];by_cases h:x<y
 ·have hc:decide (iW x y<0)=true:=by unfold iW; rw[if_pos h]; rfl
  rw[hc,aGT,O2 hN _ (y+x) y x rfl (by omega) (by omega) hyl,aH7]
 ·have hc:decide (iW x y<0)=false:=by unfold iW; rw[if_neg h]; split <;> rfl
  rw[hc,aGS,O2 hN _ (x+y) x y rfl hf (by omega) hxl]
def Fuel (N:Nat):Prop:=∃ E,4398046511104<=E/\2 ^ E<=N
def Fuel.lt {N:Nat} (h:Fuel N):4398046511104<N:=by obtain⟨E,h1,h2⟩:=h;have:E<2 ^ E:=Nat.lt_two_pow_self;omega
def Fuel.sum {N C x y:Nat} (h:Fuel N) (hC:C<=4398046511000) (hx:bg C x) (hy:bg C y):x+y<N:=by obtain⟨E,h1,h2⟩:=h;have h3:2 ^ (C+1)<=2 ^ E:=aG7 (by decide) (by omega);rw[aG3]at h3;unfold bg at hx hy;omega
def Fuel.big {N:Nat} (h:Fuel N):1180591620717411303424<=N:=by
 obtain⟨E,h1,h2⟩:=h;have h3:2 ^ 70<=2 ^ E:=aG7 (by decide) (by omega);have e:(2:Nat) ^ 70=1180591620717411303424:=by decide
 rw[e]at h3;exact aHj h3 h2
def GG {B n:Nat} (hB:B<=2000000000100) (h:bg B n):(ai n).length<=31250000003:=by have:=WQ h; omega
def kr (z:Int) (d:Nat) (k:Kx6):Bool:=k (decide (z<0)) (ai z.natAbs) false (ai d)
def kq (x:Rat) (k:Kx6):Bool:=kr x.num x.den k
def Pq (g:Bool) (n d:Nat) (k:Kx6):k (sg g n) (ai n) false (ai d)=kr (bB g n) d k:=PW g n (λa b=>k a b false (ai d))
def MK {N:Nat} (g:Bool) (n:Nat) (l:List Int) (b1 b2:Bool) (k:Ky1):Tb N g (ai n) l b1 b2 k=k (sg g n) false:=by
 unfold Tb anM Qj aaB X1 ahs;cases g
 ·rfl
 ·simp only[wz,sg,aHV]; rfl
def Xv {N:Nat} (g b:Bool) (n:Nat) (k:Kz0):M8 N g (ai n) b k=k (sg g n):=by
 unfold M8 anE;cases g
 ·rfl
 ·simp only[wz,sg,aHV]; rfl
def ai7 (g:Bool) (n:Nat):bB (sg g n) n=bB g n:=by
 unfold bB sg;cases g
 ·rfl
 ·by_cases h:n=0
  ·subst h; rfl
  ·rw[aGQ h]; rfl
def Xx {N:Nat} (g1:Bool) (n1:Nat) (g2:Bool) (n2:Nat) (h1:pS N (ai n1)) (h2:pS N (ai n2)) (k:Ky2) :
  aeZ N g2 (ai n2) g1 (ai n1) k=zN (bB g1 n1+bB g2 n2) k:=by
 unfold aeZ an_;rw[ad1 _ _ (bA _) (bA _) h1 h2,mA _ _ h1 h2,aH,aH,un g2 _ _ (n1+n2) k,<- TE];congr 1;by_cases h:n2<=n1
 ·rw[tz _ _ (bA _) (bA _) (by rw[aH,aH]; exact h) h1,aH,aH,un g1 _ _ (n1 - n2) k,Ax,aGQ h];rfl
 ·rw[tz _ _ (bA n2) (bA n1) (by rw[aH,aH]; omega) h2,aH,aH,un g2 _ _ (n2 - n1) k,Ax,aGR h];rfl
def ad5 {N:Nat} (hF:Fuel N) {x y:Nat} (hy:0<y) (hxl:(ai x).length<=1099511627000) (hyl:(ai y).length<=1099511627000) (k:Kz5):JU N (ai x) (ai y) k=k (ai (x / y)):=by
 have hj:Oc N (yS N) (ai x) (ai y) k=k (ai (x / y)):=by unfold Oc;rw[oQ hF.big hy hxl hyl]
 unfold JU KZ;by_cases h1:(ai y).length=1
 ·have e:((((ai y).length:Nat):Int)==1)=true:=by rw[h1]; rfl
  rw[e,show(true==true)=true from rfl,aGT,ac aGP];have hyw:=xy (by omega:y ≠ 0) (CJ (by omega));by_cases h2:y=1
  ·have:((ai y).getD 0 0==1)=true:=by rw[hyw,h2]; rfl
   rw[this,aGT,h2,aIH]
  ·have:((ai y).getD 0 0==1)=false:=by rw[hyw]; simp; omega
   rw[this,aGS,hj]
 ·have e:((((ai y).length:Nat):Int)==1)=false:=by simp; omega
  rw[e,show(false==true)=false from rfl,aGS,hj]
def k9 {N:Nat} (a:Bool) (l:List Int) (b:Bool) {d:Nat} (hd:d ≠ 0) (k:Kz5):Qk N a l b (ai d) k=k (ai d):=by
 unfold Qk anR;have:((((ai d).length:Nat):Int)==0)=false:=by rw[eu hd]; simp; omega
 rw[this]; rfl
def PK {N:Nat} (a:Bool) (l:List Int) (b:Bool) {d:Nat} (hd:d ≠ 0) (k:Kz5):VH N a l b (ai d) k=k (ai d):=by
 unfold VH Zy;have:((((ai d).length:Nat):Int)==0)=false:=by rw[eu hd]; simp; omega
 rw[this]; rfl
def AM {N B:Nat} (hF:Fuel N) (hB:B<=2000000000100) {a b:Nat} (ha:bg B a) (hb:bg B b) (k:Kz5):Gd N (ai a) (ai b) k=k (ai (a*b)):=by have h1:=GG hB ha;have h2:=GG hB hb;have:=hF.lt;rw[R8 _ _ (bA _) (bA _) (by omega) (by omega),aH,aH]
def DS {N B:Nat} (hF:Fuel N) (hB:B<=2000000000100) {a b:Nat} (ha:bg B a) (hb:bg B b) (k:Kz5):M9 N (ai a) (ai b) k=k (ai (Nat.gcd a b)):=by have h1:=GG hB ha;have h2:=GG hB hb;rw[PB hF.big (hF.sum (by omega) ha hb) (by omega) (by omega)]
def vw {N B:Nat} (hF:Fuel N) (hB:B<=2000000000100) {a b:Nat} (h0:0<b) (ha:bg B a) (hb:bg B b) (k:Kz5):JU N (ai a) (ai b) k=k (ai (a / b)):=by have h1:=GG hB ha;have h2:=GG hB hb;rw[ad5 hF h0 (by omega) (by omega)]
def xT {N B:Nat} (hB:B<=2000000000100) {a:Nat} (ha:bg B a) (k:Kz5):GJ N (ai a) k=k (ai a):=by have h1:=GG hB ha;rw[Ff _ (by omega)]
def eE {B a b:Nat} (h:bg B a):bg B (a / b):=qz h (aIu _ _)
def ae4 {N B n:Nat} (hF:Fuel N) (hB:B<=2000000000100) (h:bg B n):pS N (ai n):=by have h1:=GG hB h;have:=hF.lt;exact⟨by omega,by omega⟩
def Bq (B:Nat) (x:Rat):Prop:=bg B x.num.natAbs/\bg B x.den
def Bq.mono {A B:Nat} {x:Rat} (h:Bq A x) (hAB:A<=B):Bq B x:=⟨dE h.1 hAB,dE h.2 hAB⟩
def zO (z:Int) (f:Nat):bB (decide (z<0)) (z.natAbs*f)=z*f:=by
 unfold bB;by_cases h:z<0
 ·rw[aGQ h,if_pos rfl];have:(z.natAbs:Int) = -z:=by omega
  rw[aHa,this,aJZ,Int.neg_neg]
 ·rw[aGR h,if_neg (by decide)];have:(z.natAbs:Int)=z:=by omega
  rw[aHa,this]
def Ji {z:Int} {h:Nat} (h0:0<h) (hd:h∣z.natAbs):bB (decide (z<0)) (z.natAbs / h)=z / (h:Int):=by
 obtain⟨q,hq⟩:=hd;rw[hq,aHs _ h0];unfold bB;have hh:(h:Int) ≠ 0:=by omega
 by_cases hz:z<0
 ·rw[aGQ hz,if_pos rfl];have:z=(h:Int)*(-(q:Int)):=by
   have e:(z.natAbs:Int)=(h:Int)*q:=by rw[hq,aHa]
   rw[aJK,<- e]; omega
  rw[this,aIN _ hh]
 ·rw[aGR hz,if_neg (by decide)];have:z=(h:Int)*(q:Int):=by
   have e:(z.natAbs:Int)=(h:Int)*q:=by rw[hq,aHa]
   rw[<- e]; omega
  rw[this,aIN _ hh]
def aaK (x y:Rat):(x+y).num=(x.num*((y.den / Nat.gcd x.den y.den:Nat):Int)+y.num*((x.den / Nat.gcd x.den y.den:Nat):Int)) / ((Nat.gcd (x.num*((y.den / Nat.gcd x.den y.den:Nat):Int)+y.num*((x.den / Nat.gcd x.den y.den:Nat):Int)).natAbs (Nat.gcd x.den y.den):Nat):Int)
  /\ (x+y).den=x.den / Nat.gcd x.den y.den*(y.den / Nat.gcd (x.num*((y.den / Nat.gcd x.den y.den:Nat):Int)+y.num*((x.den / Nat.gcd x.den y.den:Nat):Int)).natAbs (Nat.gcd x.den y.den)):=by
 have aux:=Rat.add.aux x y (g:=Nat.gcd x.den y.den) rfl rfl rfl;simp only at aux;have hx:=x.den_pos;have hy:=y.den_pos;obtain⟨g,hg⟩:∃ g,g=Nat.gcd x.den y.den:=⟨_,rfl⟩
 rw[<- hg]at aux ⊢;have hg0:0<g:=by rw[hg]; exact Nat.gcd_pos_of_pos_left _ hx
 have hgx:g∣x.den:=by rw[hg]; exact aHI _ _
 have hgy:g∣y.den:=by rw[hg]; exact aH4 _ _
 obtain⟨e,he⟩:∃ e,e=x.den / g:=⟨_,rfl⟩
 obtain⟨f,hf⟩:∃ f,f=y.den / g:=⟨_,rfl⟩
 rw[<- he,<- hf]at aux ⊢;have ex:x.den=e*g:=by rw[he,Nat.div_mul_cancel hgx]
 have ey:y.den=f*g:=by rw[hf,Nat.div_mul_cancel hgy]
 obtain⟨n,hn⟩:∃ n,n=x.num*(f:Int)+y.num*(e:Int):=⟨_,rfl⟩
 rw[<- hn]at aux ⊢;have hsum:x+y=mkRat n (e*y.den):=by
  rw[Rat.add_def'];have e1:x.num*(y.den:Int)+y.num*(x.den:Int)=n*(g:Int):=by rw[ex,ey,hn]; simp only[aHa]; grind
  have e2:x.den*y.den=e*y.den*g:=by rw[ex]; grind
  rw[e1,e2,Rat.mkRat_mul_right (by omega)]
 have he0:0<e:=by
  rcases aHY e with h | h
  ·rw[h,aIh]at ex; omega
  ·exact h
 have hd0:e*y.den ≠ 0:=by have:=aIO he0 hy; omega
 have hhy:Nat.gcd n.natAbs g∣y.den:=Nat.dvd_trans (aH4 _ _) hgy;constructor
 ·rw[hsum,aJ0,if_neg hd0,aH7,<- aux]
 ·rw[hsum,aJ1,if_neg hd0,aH7,<- aux,Nat.mul_div_assoc _ hhy]
def Lc {A:Nat} {z w:Int} (hz:bg A z.natAbs) (hw:bg A w.natAbs):bg (A+1) (z+w).natAbs:=qz (Dr hz hw) (by omega)
def Aw {A B:Nat} {z:Int} {n:Nat} (hz:bg A z.natAbs) (hn:bg B n):bg (A+B) (z*(n:Int)).natAbs:=by rw[aIE,aHO]; exact iV hz hn
def Ju {N B:Nat} (hF:Fuel N) (hB:B<=1000000000000) {x y:Rat} (hx:Bq B x) (hy:Bq B y) (b1 b2:Bool) (k:Kx6) :
  P5 N (decide (x.num<0)) (ai x.num.natAbs) false (ai x.den) (decide (y.num<0)) (ai y.num.natAbs) false (ai y.den) b1 b2 k=kq (x+y) k:=by
 unfold P5 Uu;obtain⟨m1,m2⟩:=aaK x y;have hB2:B<=2000000000100:=by omega
 have hxd:=x.den_pos;have hyd:=y.den_pos;rw[k9 _ _ _ x.den_nz,k9 _ _ _ y.den_nz,DS hF hB2 hx.2 hy.2];obtain⟨g,hg⟩:∃ g,g=Nat.gcd x.den y.den:=⟨_,rfl⟩
 rw[<- hg]at m1 m2 ⊢;have hg0:0<g:=by rw[hg]; exact Nat.gcd_pos_of_pos_left _ hxd
 have hgb:bg B g:=by rw[hg]; exact qz hx.2 (Nat.gcd_le_left _ hxd)
 have hgy:g∣y.den:=by rw[hg]; exact aH4 _ _
 rw[vw hF hB2 hg0 hx.2 hgb,vw hF hB2 hg0 hy.2 hgb,AM hF hB2 hx.1 (eE hy.2),Xv,AM hF hB2 hy.1 (eE hx.2)];have hb1:=iV hx.1 (eE (b:=g) hy.2);have hb2:=iV hy.1 (eE (b:=g) hx.2);rw[Xx _ _ _ _ (ae4 hF (by omega) hb1) (ae4 hF (by omega) hb2),ai7,zO,zO];have hnb:bg (B+B+1) (x.num*((y.den / g:Nat):Int)+y.num*((x.den / g:Nat):Int)).natAbs:=Lc (Aw hx.1 (eE hy.2)) (Aw hy.1 (eE hx.2));obtain⟨n,hn⟩:∃ n,n=x.num*((y.den / g:Nat):Int)+y.num*((x.den / g:Nat):Int):=⟨_,rfl⟩
 rw[<- hn]at m1 m2 hnb ⊢;have hB3:B+B+1<=2000000000100:=by omega
 unfold zN;dsimp only;rw[DS hF hB3 hnb (dE hgb (by omega))];obtain⟨h,hh⟩:∃ h,h=Nat.gcd n.natAbs g:=⟨_,rfl⟩
 rw[<- hh]at m1 m2 ⊢;have hh0:0<h:=by rw[hh]; exact aHZ _ hg0
 have hhb:bg B h:=by rw[hh]; exact qz hgb (aIQ _ hg0)
 rw[vw hF hB3 hh0 hnb (dE hhb (by omega)),xT hB3 (eE hnb),vw hF hB2 hh0 hy.2 hhb,AM hF hB2 (eE hx.2) (eE hy.2),MK,Pq _ _ _ k,Ji hh0 (by rw[hh]; exact aHI _ _),<- m1,<- m2];rfl
def Pu {N B:Nat} (hF:Fuel N) (hB:B<=1000000000000) {x y:Rat} (hx:Bq B x) (hy:Bq B y) (b1 b2:Bool) (k:Kx6) :
  VA N (decide (x.num<0)) (ai x.num.natAbs) false (ai x.den) b1 b2 (decide (y.num<0)) (ai y.num.natAbs) false (ai y.den) k=kq (x+y) k:=by
 rw[<- Ju hF hB hx hy b1 b2 k];unfold VA Zr P5 Uu;rw[k9 _ _ _ x.den_nz,PK _ _ _ y.den_nz,k9 _ _ _ x.den_nz,k9 _ _ _ y.den_nz]
def adR (g:Bool) (n:Nat):bB (!g) n = -(bB g n):=by unfold bB; cases g <;> simp
def mz (z:Int):bB (decide (z<0)) z.natAbs=z:=adQ z
def R6 {N B:Nat} (hB:B<=2000000000100) {y:Rat} (hy:Bq B y) (b1 b2:Bool) (k:Kx6) :
  VL N (decide (y.num<0)) (ai y.num.natAbs) false (ai y.den) b1 b2 k=kq (-y) k:=by
 unfold VL ZK;rw[xT hB hy.1,k9 _ _ _ y.den_nz,xT hB hy.2,MK,Pq _ _ _ k,adR,mz];rfl
def PE {N B:Nat} (hF:Fuel N) (hB:B<=1000000000000) {x y:Rat} (hx:Bq B x) (hy:Bq B y) (k:Kx6) :
  bC N (decide (x.num<0)) (ai x.num.natAbs) false (ai x.den) (decide (y.num<0)) (ai y.num.natAbs) false (ai y.den) k=kq (x - y) k:=by
 unfold bC jE aeE ZR;rw[R6 (by omega) hy];unfold kq kr;dsimp only;have hny:Bq B (-y):=⟨by rw[Rat.neg_num,aJt]; exact hy.1,hy.2⟩
 rw[Pu hF hB hx hny,Rat.sub_eq_add_neg];rfl
def ajd {N B:Nat} (hF:Fuel N) (hB:B<=1000000000000) {x y:Rat} (hx:Bq B x) (hy:Bq B y) (k:Kx6) :
  gV N (decide (x.num<0)) (ai x.num.natAbs) false (ai x.den) (decide (y.num<0)) (ai y.num.natAbs) false (ai y.den) k=kq (x+y) k:=by
 unfold gV jG;rw[Ju hF hB hx hy]
def aej (x w:Rat):(x*w).num=bB (decide (x.num<0)) (x.num.natAbs / Nat.gcd x.num.natAbs w.den)*bB (decide (w.num<0)) (w.num.natAbs / Nat.gcd w.num.natAbs x.den)
  /\ (x*w).den=x.den / Nat.gcd w.num.natAbs x.den*(w.den / Nat.gcd x.num.natAbs w.den):=by
 have H1:0<x.num.natAbs.gcd w.den:=aHZ _ w.den_pos;have H2:0<w.num.natAbs.gcd x.den:=aHZ _ x.den_pos;have d1:Nat.gcd x.num.natAbs w.den∣x.num.natAbs:=aHI _ _;have d2:Nat.gcd w.num.natAbs x.den∣w.num.natAbs:=aHI _ _;rw[Ji H1 d1,Ji H2 d2];have e1:(x*w).num=x.num.tdiv (Nat.gcd x.num.natAbs w.den:Nat)*w.num.tdiv (Nat.gcd w.num.natAbs x.den:Nat):=by
  show(Rat.mul x w).num=_
  delta Rat.mul
  simp only[Int.divExact_eq_tdiv]
 have e2:(x*w).den=x.den / Nat.gcd w.num.natAbs x.den*(w.den / Nat.gcd x.num.natAbs w.den):=by
  show(Rat.mul x w).den=_
  delta Rat.mul
  simp only[Nat.divExact_eq_div]
 refine⟨?_,e2⟩;rw[e1,Int.tdiv_eq_ediv_of_dvd (Int.ofNat_dvd_left.2 d1),Int.tdiv_eq_ediv_of_dvd (Int.ofNat_dvd_left.2 d2)]
def PG {N B:Nat} (hF:Fuel N) (hB:B<=1000000000000) {x w:Rat} (hx:Bq B x) (hw:Bq B w) (b1 b2:Bool) (k:Kx6) :
  aeW N (decide (x.num<0) != decide (w.num<0)) (ai x.num.natAbs) (ai x.den) (ai w.num.natAbs) (ai w.den) b1 b2 k=kq (x*w) k:=by
 unfold aeW an2;have hB2:B<=2000000000100:=by omega
 obtain⟨m1,m2⟩:=aej x w;have H1:0<x.num.natAbs.gcd w.den:=aHZ _ w.den_pos;have H2:0<w.num.natAbs.gcd x.den:=aHZ _ x.den_pos;have L1:bg B (x.num.natAbs.gcd w.den):=qz hw.2 (aIQ _ w.den_pos);have L2:bg B (w.num.natAbs.gcd x.den):=qz hx.2 (aIQ _ x.den_pos);rw[DS hF hB2 hx.1 hw.2,DS hF hB2 hw.1 hx.2,vw hF hB2 H1 hx.1 L1,vw hF hB2 H2 hw.1 L2,AM hF hB2 (eE hx.1) (eE hw.1),vw hF hB2 H2 hx.2 L2,vw hF hB2 H1 hw.2 L1,AM hF hB2 (eE hx.2) (eE hw.2),MK,Pq _ _ _ k,Jj,<- m1,<- m2];rfl
def ajf {N B:Nat} (hF:Fuel N) (hB:B<=1000000000000) {x y:Rat} (hx:Bq B x) (hy:Bq B y) (k:Kx6) :
  gA N (decide (x.num<0)) (ai x.num.natAbs) false (ai x.den) (decide (y.num<0)) (ai y.num.natAbs) false (ai y.den) k=kq (x*y) k:=by
 unfold gA ji aeC ZP;rw[k9 _ _ _ x.den_nz,k9 _ _ _ y.den_nz,PG hF hB hx hy]
def Jg {y:Rat} (h:y.num ≠ 0):(y⁻¹).num.natAbs=y.den/\(y⁻¹).den=y.num.natAbs/\decide ((y⁻¹).num<0)=decide (y.num<0):=by
 have hd:=y.den_pos;refine⟨?_,?_,?_⟩
 ·rw[Rat.num_inv,aIE,aHO,Int.natAbs_sign,if_neg h,aIS]
 ·rw[Rat.den_inv,if_neg h]
 ·rw[Rat.num_inv];rcases Int.lt_trichotomy y.num 0 with h1 | h1 | h1
  ·rw[Int.sign_eq_neg_one_of_neg h1,aGQ h1,aGQ (by omega)]
  ·exact absurd h1 h
  ·rw[Int.sign_eq_one_of_pos h1,aGR (by omega),aGR (by omega)]
def ajj {N B:Nat} (hF:Fuel N) (hB:B<=1000000000000) {x y:Rat} (hx:Bq B x) (hy:Bq B y) (h0:y.num ≠ 0) (k:Kx6) :
  ce N (decide (x.num<0)) (ai x.num.natAbs) false (ai x.den) (decide (y.num<0)) (ai y.num.natAbs) false (ai y.den) k=kq (x / y) k:=by
 obtain⟨i1,i2,i3⟩:=Jg h0;unfold ce jF aeD ZQ;have hw:Bq B (y⁻¹):=⟨by rw[i1]; exact hy.2,by rw[i2]; exact hy.1⟩
 have hp:=λkk=>PG (b1:=false) (b2:=false) hF hB hx hw kk
 rw[i1,i2,i3]at hp;rw[k9 _ _ _ x.den_nz,k9 _ _ _ y.den_nz,hp,Rat.div_def]
def F0 {N B:Nat} (hF:Fuel N) (hB:B<=2000000000000) (g:Bool) {n d:Nat} (hn:bg B n) (hd:bg B d) (h0:0<d) (b1 b2:Bool) (k:Kx6) :
  VG N g (ai n) (ai d) b1 b2 k=kq (mkRat (bB g n) d) k:=by
 have hB2:B<=2000000000100:=by omega
 have hl:=hF.lt;have hnum:(mkRat (bB g n) d).num=bB g (n / Nat.gcd n d):=by
  rw[aJ0,if_neg (by omega)];have e:(bB g n).natAbs=n:=by unfold bB; cases g <;> simp
  have hg:0<Nat.gcd n d:=aHZ _ h0;rw[e,aH7];obtain⟨q,hq⟩:=aHI n d;have hh:((Nat.gcd n d:Nat):Int) ≠ 0:=by omega
  have e2:bB g n=((Nat.gcd n d:Nat):Int)*bB g (n / Nat.gcd n d):=by
   have hnn:n=Nat.gcd n d*(n / Nat.gcd n d):=(Nat.mul_div_cancel' (aHI n d)).symm;have hc:(n:Int)=((Nat.gcd n d:Nat):Int)*((n / Nat.gcd n d:Nat):Int):=by rw[<- aHa,<- hnn]
   unfold bB;cases g
   ·simpa using hc
   ·simp only[aIr]; rw[hc,aJK]
  rw[e2,aIN _ hh]
 have hden:(mkRat (bB g n) d).den=d / Nat.gcd n d:=by
  rw[aJ1,if_neg (by omega)];have e:(bB g n).natAbs=n:=by unfold bB; cases g <;> simp
  rw[e,aH7]
 have hj:∀ m e:Nat,bg B m->bg B e->N8 N (M9 N) (Ea N) (yS N) (GJ N) (Qj N) (X1 N) g (ai n) (ai d) b1 b2 (ai m) (ai e) k=k (sg g m) (ai m) false (ai e):=by
  intro m e hm he;unfold N8;rw[xT hB2 hm];unfold Qj aaB;dsimp only;rw[xT hB2 he,xT hB2 he];unfold X1 ahs;cases g
  ·rfl
  ·simp only[wz,sg,aHV]; rfl
 have hg0:0<Nat.gcd n d:=aHZ _ h0;have hgb:bg B (Nat.gcd n d):=qz hd (aIQ _ h0);have h1:=GG hB2 hn;have h2:=GG hB2 hd;have h3:=GG hB2 hgb;have e1:ai 1=[1]:=xy (by decide) (by decide);unfold VG KU;rw[DS hF hB2 hn hd,<- e1,mA _ 1 ⟨by omega,by omega⟩ ⟨by rw[e1]; simp; omega,by rw[e1]; simp⟩];by_cases hc:Nat.gcd n d=1
 ·have:(iW (Nat.gcd n d) 1 != 0)=false:=by rw[hc]; rfl
  rw[this,aGS,hj n d hn hd,Pq _ _ _ k];rw[hc,aIH]at hnum hden;unfold kq;rw[hnum,hden]
 ·have:(iW (Nat.gcd n d) 1 != 0)=true:=by unfold iW; rw[if_neg (by omega),if_neg hc]; rfl
  rw[this,aGT,oQ hF.big hg0 (by omega) (by omega),oQ hF.big hg0 (by omega) (by omega),hj _ _ (eE hn) (eE hd),Pq _ _ _ k,<- hnum,<- hden];rfl
def Sn {N:Nat} (hF:Fuel N) (k:Kx6):gI N 0 k=kq 0 k:=by
 have:=hF.lt;unfold gI pR aeN aak;have n0:=λkk=>zQ (N:=N) (by omega) 0 (by decide) kk
 have n1:=λkk=>zQ (N:=N) (by omega) 1 (by decide) kk
 rw[show((0:Nat):Int)=0 from rfl]at n0;rw[show((1:Nat):Int)=1 from rfl]at n1;unfold Qh ahq;rw[n0,n1,F0 hF (B:=10) (by decide) _ (by unfold bg; decide) (by unfold bg; decide) (by decide)];rfl
def q9 {N:Nat} (x:Rat) (k:Kz1):bD N (decide (x.num<0)) (ai x.num.natAbs) false (ai x.den) k=k (Ec x.num):=by
 unfold bD jH aeI Z8 aeH Z7 Ec;by_cases h:x.num<0
 ·rw[aGQ h,aGT,if_neg (by omega),if_pos h]
 ·rw[aGR h,aGS,if_neg h];by_cases h0:x.num=0
  ·rw[h0,if_pos rfl];have:ai (0:Int).natAbs=[]:=bU;rw[this]; rfl
  ·have:((((ai x.num.natAbs).length:Nat):Int)==0)=false:=by rw[eu (by omega)]; simp; omega
   rw[this,aGS,if_neg h0]
end Go.Proofs.YteifemaagdeomaaGreatDoor
end
