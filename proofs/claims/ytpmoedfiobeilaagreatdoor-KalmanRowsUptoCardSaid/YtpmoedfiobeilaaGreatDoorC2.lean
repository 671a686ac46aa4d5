/- Laws in plain Lean. Conditions: none. -/
import Derived.Test.YtpmoedfiobeilaaGreatDoorC1
set_option linter.defProp false
set_option linter.unusedVariables false
section
namespace Go.Proofs.YtpmoedfiobeilaaGreatDoor
open Go Go.Mach
def yR (N:Nat) {x:Nat} (hx:x<18446744073709551616) (k:Kz3):OA N (x:Int) k=k (bl x:Int):=by
 have key:∀(z:Int) (m:Nat),z=(m:Int)->m<256 -> ∀ c:Nat,c<=56->((inR z 256)&&((ah .i64 (List.getD ay (Int.toNat z) 0))&&((ah .i64 ((c:Int)+(List.getD ay (Int.toNat z) 0)))&&k ((c:Int)+List.getD ay (Int.toNat z) 0))))=k ((c+bl m:Nat):Int):=by intro z m hz hm c hc;subst hz;have:=CC hm;rw[adr,MZ hm,aa adj,aa adi,aa adi];rfl
 have j1:∀(y z c:Nat),z<65536->c<=48->Gw N (y:Int) (z:Int) (c:Int) k=k ((c+bl z:Nat):Int):=by
  intro y z c hz hc;unfold Gw;simp only[O3,Pw];by_cases h8:256<=z
  ·have e8:=k9 (n:=z) 8 (by simpa using h8);rw[show(2:Nat) ^ 8=256 by decide]at e8;have h:=key ((z:Int) / 256%256) (z / 256) (by omega) (by omega) (c+8) (by omega);rw[show((c+8:Nat):Int)=(c:Int)+8 by omega]at h;rw[adk (by omega:(z:Int)>=256),adn,aa adi,h];congr 1; omega
  ·rw[adl (by omega:¬(z:Int)>=256),adm,key ((z:Int)%256) z (by omega) (by omega) c (by omega)]
 have j0:∀(y z c:Nat),z<4294967296->c<=32->Gv N (y:Int) (z:Int) (c:Int) k=k ((c+bl z:Nat):Int):=by
  intro y z c hz hc;unfold Gv;simp only[K2];by_cases h16:65536<=z
  ·have e16:=k9 (n:=z) 16 (by simpa using h16);rw[show(2:Nat) ^ 16=65536 by decide]at e16;have h:=j1 y (z / 65536) (c+16) (by omega) (by omega);rw[show((c+16:Nat):Int)=(c:Int)+16 by omega,show((z / 65536:Nat):Int)=(z:Int) / 65536 by omega]at h;rw[adk (by omega:(z:Int)>=65536),adn,aa adi,h];congr 1; omega
  ·rw[adl (by omega:¬(z:Int)>=65536),adm,j1 y z c (by omega) (by omega)]
 (unfold OA; rw[ac]; unfold Qd)
 simp only[jN];by_cases h32:4294967296<=x
 ·have e32:=k9 (n:=x) 32 (by rw[show(2:Nat) ^ 32=4294967296 by decide]; exact h32);rw[show(2:Nat) ^ 32=4294967296 by decide]at e32;have h:=j0 x (x / 4294967296) 32 (by omega) (by omega);rw[show((x / 4294967296:Nat):Int)=(x:Int) / 4294967296 by omega,show((32:Nat):Int)=32 from rfl]at h;rw[adk (by omega:(x:Int)>=4294967296),adn,h];congr 1; omega
 ·have h:=j0 x x 0 (by omega) (by omega);rw[show((0:Nat):Int)=0 from rfl]at h;rw[adl (by omega:¬(x:Int)>=4294967296),adm,h];congr 1; omega
def uA {n j:Nat} (h:n<2 ^ j):bl n<=j:=by
 unfold bl;split
 ·omega
 ·rename_i h0;have:=(Nat.log2_lt h0).2 h;omega
def wD (n:Nat):n<2 ^ bl n:=by
 unfold bl;split
 ·rename_i h; subst h; decide
 ·exact Nat.lt_log2_self
def KA {n:Nat} (h:n ≠ 0):0<bl n/\2 ^ (bl n - 1)<=n:=by unfold bl;rw[if_neg h];exact⟨by omega,by rw[afO]; exact Nat.log2_self_le h⟩
def mT:(2:Nat) ^ 64=18446744073709551616:=by decide
def Dp (N:Nat) {x:Nat} (hx:x<18446744073709551616) (k:Kz3):On N (x:Int) k=k ((64 - bl x:Nat):Int):=by unfold On SW;have:=uA (n:=x) (j:=64) (by rw[mT]; exact hx);rw[yR N hx,aa adi];congr 1; omega
def Hy {y:Nat} (h0:y ≠ 0) (hy:y<18446744073709551616):64 - bl y<64/\9223372036854775808<=y*2 ^ (64 - bl y)/\y*2 ^ (64 - bl y)<18446744073709551616:=by
 have h1:=uA (n:=y) (j:=64) (by rw[mT]; exact hy);obtain⟨h2,h3⟩:=KA h0;have h4:=wD y;have hp:0<2 ^ (64 - bl y):=adz _;refine⟨by omega,?_,?_⟩
 ·have:=adp (2 ^ (64 - bl y)) h3;rw[<- adE,show bl y - 1+(64 - bl y)=63 by omega]at this;exact this
 ·have:=aec h4 hp;rw[<- adE,show bl y+(64 - bl y)=64 by omega]at this;exact this
def yD {a c u u1 p r:Nat} (hc:c<4294967296) (hp:p<=4294967296) (hu:(p+1)*a+r=u) (hb:4294967296<=r+a):p*(a*4294967296+c)<=u*4294967296+u1:=by
 have e1:u*4294967296+u1=p*a*4294967296+(r+a)*4294967296+u1:=by rw[<- hu,aeV,adQ,adQ,adQ]; omega
 have e2:p*(a*4294967296+c)=p*a*4294967296+p*c:=by rw[adC,adw]
 have:=aee hp (Nat.le_of_lt_succ hc:c<=4294967295);rw[e1,e2]; omega
def xE {a c u u1:Nat} (hu1:u1<4294967296) (hD:u<a*4294967296+c):(u*4294967296+u1) / (a*4294967296+c)<4294967296:=by rw[adu (by omega)]; omega
def Fm {N:Nat} {y s un0:Int} {a c u u1:Nat} (ha2:a<4294967296) (hc:c<4294967296) (hu1:u1<4294967296) (hD:u<a*4294967296+c) {d:Nat} (hd:∀ p,p<=d↔p*(a*4294967296+c)<=u*4294967296+u1) (hlt:d<4294967296) (e0:Int->Bool) :
  ∀ q r M,q<M->q<=4294967297->q*a+r=u->r<4294967296->d<=q ->
   ai M (wh N y s (a:Int) (c:Int) (u:Int) (u1:Int) un0 e0) ((q:Int),(r:Int))=e0 (d:Int):=by
 intro q;induction q using Nat.strongRecOn with
 | ind q ih=>
 intro r M hM hqb hu hr hle;obtain⟨M,rfl⟩:∃ m,M=m+1:=⟨M - 1,by omega⟩
 show wh N y s a c u u1 un0 e0 ((q:Int),(r:Int)) (ai M _)=_;have hY:0<a*4294967296+c:=by omega
 have hdec:d<q->cond (decide ((IntKind.wrap .u64 ((r:Int)+(a:Int)))>=4294967296)) (e0 (IntKind.wrap .u64 ((q:Int) - 1))) (ai M (wh N y s (a:Int) (c:Int) (u:Int) (u1:Int) un0 e0) ((IntKind.wrap .u64 ((q:Int) - 1)),(IntKind.wrap .u64 ((r:Int)+(a:Int)))))=e0 (d:Int):=by
  intro hlq;obtain⟨p,rfl⟩:∃ p,q=p+1:=⟨q - 1,by omega⟩
  have w1:IntKind.wrap .u64 (((p+1:Nat):Int) - 1)=(p:Int):=by rw[am]; omega
  have w2:IntKind.wrap .u64 ((r:Int)+(a:Int))=((r+a:Nat):Int):=by rw[am]; omega
  rw[w1,w2];by_cases hb:4294967296<=r+a
  ·rw[adk (by omega),adn];have h1:=yD (u1:=u1) hc (by omega) hu hb;rw[<- hd]at h1;rw[show d=p by omega]
  ·rw[adl (by omega),adm];exact ih p (by omega) (r+a) M (by omega) (by omega) (by rw[<- hu,aeV]; omega) (by omega) (by omega)
 simp only[wh];by_cases hq:4294967296<=q
 ·rw[adk (by omega:(q:Int)>=4294967296),show(true==false)=false from rfl,adm];exact hdec (by omega)
 ·have e1:u*4294967296+u1=q*a*4294967296+r*4294967296+u1:=by rw[<- hu,adQ]
  have e2:q*(a*4294967296+c)=q*a*4294967296+q*c:=by rw[adC,adw]
  have hqc:q*c<=4294967295*4294967295:=aee (by omega) (by omega);have w1:IntKind.wrap .u64 ((q:Int)*(c:Int))=((q*c:Nat):Int):=by rw[<- adH,am]; omega
  have w2:IntKind.wrap .u64 ((IntKind.wrap .u64 (4294967296*(r:Int)))+(u1:Int))=((r*4294967296+u1:Nat):Int):=by rw[am,am]; omega
  rw[adl (by omega:¬(q:Int)>=4294967296),show(false==false)=true from rfl,adn,w1,w2];by_cases ht:r*4294967296+u1<q*c
  ·rw[adk (by omega),adn];refine hdec ?_;rw[<- Nat.not_le,hd]; omega
  ·rw[adl (by omega),adm];have h1:q*(a*4294967296+c)<=u*4294967296+u1:=by omega
   rw[<- hd]at h1;rw[show d=q by omega]
def Fo {N:Nat} {y s q1:Int} {x21:Int} {a c u u1:Nat} (ha2:a<4294967296) (hc:c<4294967296) (hu1:u1<4294967296) (hD:u<a*4294967296+c) {d:Nat} (hd:∀ p,p<=d↔p*(a*4294967296+c)<=u*4294967296+u1) (hlt:d<4294967296) (e0:Int->Bool) :
  ∀ q r M,q<M->q<=4294967297->q*a+r=u->r<4294967296->d<=q ->
   ai M (wi N y s (a:Int) (c:Int) (u1:Int) q1 x21 e0) ((r:Int),(q:Int))=e0 (d:Int):=by
 intro q;induction q using Nat.strongRecOn with
 | ind q ih=>
 intro r M hM hqb hu hr hle;obtain⟨M,rfl⟩:∃ m,M=m+1:=⟨M - 1,by omega⟩
 show wi N y s a c u1 q1 x21 e0 ((r:Int),(q:Int)) (ai M _)=_;have hY:0<a*4294967296+c:=by omega
 have hdec:d<q->cond (decide ((IntKind.wrap .u64 ((r:Int)+(a:Int)))>=4294967296)) (e0 (IntKind.wrap .u64 ((q:Int) - 1))) (ai M (wi N y s (a:Int) (c:Int) (u1:Int) q1 x21 e0) ((IntKind.wrap .u64 ((r:Int)+(a:Int))),(IntKind.wrap .u64 ((q:Int) - 1))))=e0 (d:Int):=by
  intro hlq;obtain⟨p,rfl⟩:∃ p,q=p+1:=⟨q - 1,by omega⟩
  have w1:IntKind.wrap .u64 (((p+1:Nat):Int) - 1)=(p:Int):=by rw[am]; omega
  have w2:IntKind.wrap .u64 ((r:Int)+(a:Int))=((r+a:Nat):Int):=by rw[am]; omega
  rw[w1,w2];by_cases hb:4294967296<=r+a
  ·rw[adk (by omega),adn];have h1:=yD (u1:=u1) hc (by omega) hu hb;rw[<- hd]at h1;rw[show d=p by omega]
  ·rw[adl (by omega),adm];exact ih p (by omega) (r+a) M (by omega) (by omega) (by rw[<- hu,aeV]; omega) (by omega) (by omega)
 simp only[wi];by_cases hq:4294967296<=q
 ·rw[adk (by omega:(q:Int)>=4294967296),show(true==false)=false from rfl,adm];exact hdec (by omega)
 ·have e1:u*4294967296+u1=q*a*4294967296+r*4294967296+u1:=by rw[<- hu,adQ]
  have e2:q*(a*4294967296+c)=q*a*4294967296+q*c:=by rw[adC,adw]
  have hqc:q*c<=4294967295*4294967295:=aee (by omega) (by omega);have w1:IntKind.wrap .u64 ((q:Int)*(c:Int))=((q*c:Nat):Int):=by rw[<- adH,am]; omega
  have w2:IntKind.wrap .u64 ((IntKind.wrap .u64 (4294967296*(r:Int)))+(u1:Int))=((r*4294967296+u1:Nat):Int):=by rw[am,am]; omega
  rw[adl (by omega:¬(q:Int)>=4294967296),show(false==false)=true from rfl,adn,w1,w2];by_cases ht:r*4294967296+u1<q*c
  ·rw[adk (by omega),adn];refine hdec ?_;rw[<- Nat.not_le,hd]; omega
  ·rw[adl (by omega),adm];have h1:q*(a*4294967296+c)<=u*4294967296+u1:=by omega
   rw[<- hd]at h1;rw[show d=q by omega]
def yE {a c u u1:Nat} (ha:2147483648<=a) (ha2:a<4294967296) (hc:c<4294967296) (hD:u<a*4294967296+c) (hu1:u1<4294967296) :
  u / a<=4294967297/\u / a*a+u%a=u/\u%a<4294967296/\(u*4294967296+u1) / (a*4294967296+c)<=u / a:=by
 have h0:0<a:=by omega
 refine⟨?_,aek u a,ae_ (adA _ h0) ha2,?_⟩
 ·have:u / a<4294967298:=by rw[adu h0]; omega
  omega
 ·have h1:(u*4294967296+u1) / (a*4294967296)=u / a:=by rw[ado a,<- adt];congr 1; omega
  rw[<- h1];exact Nat.div_le_div_left (afH _ _) (by omega)
def H3 {m p y s:Nat} (u L b D1 q1 R1 u1 u0 q0 R0 Y:Nat) (hb:b=4294967296) (hT:m*2 ^ s=u*18446744073709551616+L) (hL:L=u1*b+u0) (hY:Y=y*2 ^ s) (hY0:0<Y)
  (h1:D1=u*b+u1) (hq1:q1=D1 / Y) (hR1:R1=D1%Y) (hq0:q0=(R1*b+u0) / Y) (hR0:R0=(R1*b+u0)%Y):m / y=q1*b+q0/\m%y=R0 / 2 ^ s:=by
 have hs:0<2 ^ s:=adz s;have e1:=aeh D1 Y;have e0:=aeh (R1*b+u0) Y;rw[<- hq1,<- hR1]at e1;rw[<- hq0,<- hR0]at e0;have hlt:R0<Y:=by rw[hR0]; exact adA _ hY0
 have hm:m*2 ^ s=Y*(q1*b+q0)+R0:=by
  rw[hT,hL];have e2:u*18446744073709551616+(u1*b+u0)=(u*b+u1)*b+u0:=by subst hb; omega
  rw[e2,<- h1,<- e1,adC,adQ,ad5,<- e0,adw,ad5]
 have d1:m / y=(m*2 ^ s) / Y:=by rw[hY,af1 _ _ hs]
 have d2:(m%y)*2 ^ s=(m*2 ^ s)%Y:=by rw[hY,af2]
 constructor
 ·rw[d1,hm,agm hY0,adS hlt,adU]
 ·have:(m%y)*2 ^ s=R0:=by rw[d2,hm,afy,adv hlt]
  rw[<- this,ae6 _ hs]
def AH {N:Nat} (hN:8589934592<=N) {hi lo y:Nat} (hy:y<18446744073709551616) (hlo:lo<18446744073709551616) (hhi:hi<y) (k:Ky4) :
  D6 N (hi:Int) (lo:Int) (y:Int) k=k (((hi*18446744073709551616+lo) / y:Nat):Int) (((hi*18446744073709551616+lo)%y:Nat):Int):=by
 (unfold D6; rw[ac]; unfold JM)
 have y0:((y:Int)==0)=false:=by simp; omega
 have y1:(!decide ((y:Int)=0))=true:=by simp; omega
 rw[y0,adm,adl (by omega:¬(y:Int)<=hi),adm];by_cases h0:hi=0
 ·subst h0;rw[show(((0:Nat):Int)==0)=true from rfl,adn,aa y1,aa y1,aeN,adR];have e1:Int.tdiv (lo:Int) (y:Int)=((lo / y:Nat):Int):=rfl;have e2:Int.tmod (lo:Int) (y:Int)=((lo%y:Nat):Int):=rfl;have:=aeX lo y;rw[e1,e2];generalize lo / y=d at *;rw[am];congr 1; omega
 ·have hne:((hi:Int)==0)=false:=by simp; omega
  obtain⟨hs64,hYlo,hYhi⟩:=Hy (y:=y) (by omega) hy;rw[hne,adm,Dp N hy];generalize hs:64 - bl y=s at *;have hs0:0<2 ^ s:=adz s;have hs1:2 ^ s*2 ^ (64 - s)=18446744073709551616:=by rw[<- adE,show s+(64 - s)=64 by omega]
  have cp:((2:Int) ^ s)=((2 ^ s:Nat):Int):=by rw[aeP]; rfl
  have cp2:((2:Int) ^ (64 - s))=((2 ^ (64 - s):Nat):Int):=by rw[aeP]; rfl
  have ew:IntKind.wrap .u64 ((s:Nat):Int)=(s:Int):=by rw[am]; omega
  have ew2:IntKind.wrap .u64 (64 - ((s:Nat):Int))=((64 - s:Nat):Int):=by rw[am]; omega
  have em:min s 64=s:=by omega
  have em2:min (64 - s) 64=64 - s:=by omega
  simp only[ew,ew2,adr,em,em2];rw[cp,cp2];have eY:IntKind.wrap .u64 ((y:Int)*((2 ^ s:Nat):Int))=((y*2 ^ s:Nat):Int):=by rw[<- adH,am]; omega
  have hm:hi*2 ^ s<y*2 ^ s:=aec hhi hs0;have eH:IntKind.wrap .u64 ((hi:Int)*((2 ^ s:Nat):Int))=((2 ^ s*hi:Nat):Int):=by rw[<- adH,ado hi,am]; rw[ado hi]at hm; generalize 2 ^ s*hi=H at *; generalize y*2 ^ s=Y at *; omega
  have hlo2:lo / 2 ^ (64 - s)<2 ^ s:=by rw[adu (adz _),hs1]; exact hlo
  have hlo3:=aeh lo (2 ^ (64 - s));have eT:(hi*18446744073709551616+lo)*2 ^ s=(2 ^ s*hi+lo / 2 ^ (64 - s))*18446744073709551616+lo*2 ^ s%18446744073709551616:=by
   have e1:lo*2 ^ s / 18446744073709551616=lo / 2 ^ (64 - s):=by rw[<- hs1,ado lo,Nat.mul_div_mul_left _ _ hs0]
   have e2:=aeh (lo*2 ^ s) 18446744073709551616;rw[e1]at e2;rw[adQ,<- e2,adQ,agr,ado hi];omega
  have hD:2 ^ s*hi+lo / 2 ^ (64 - s)<y*2 ^ s:=by have:2 ^ s*(hi+1)<=2 ^ s*y:=ads _ hhi;rw[adC,ado _ y]at this;omega
  have eU:aA .or .u64 ((2 ^ s*hi:Nat):Int) (Int.fdiv (lo:Int) ((2 ^ (64 - s):Nat):Int))=((2 ^ s*hi+lo / 2 ^ (64 - s):Nat):Int):=by rw[j6,sW,cl _ _ s hlo2 (by omega)]
  have eL:IntKind.wrap .u64 ((lo:Int)*((2 ^ s:Nat):Int))=((lo*2 ^ s%18446744073709551616:Nat):Int):=by rw[<- adH,am]; omega
  simp only[eY,eH,eU,eL,CB,jN];have hLlt:lo*2 ^ s%18446744073709551616<18446744073709551616:=adA _ (by decide);obtain⟨d1,d2⟩:=H3 (m:=hi*18446744073709551616+lo) (p:=0) (y:=y) (s:=s) (2 ^ s*hi+lo / 2 ^ (64 - s)) (lo*2 ^ s%18446744073709551616) 4294967296 _ _ _ (lo*2 ^ s%18446744073709551616 / 4294967296) (lo*2 ^ s%18446744073709551616%4294967296) _ _ (y*2 ^ s) rfl eT (by omega) rfl (by omega) rfl rfl rfl rfl rfl;rw[d1,d2];generalize y*2 ^ s=Y at *;generalize 2 ^ s*hi+lo / 2 ^ (64 - s)=u at *;generalize lo*2 ^ s%18446744073709551616=L at *;have hu1:L / 4294967296<4294967296:=by omega
  have hu0:L%4294967296<4294967296:=by omega
  have eL1:((L:Int) / 4294967296)=((L / 4294967296:Nat):Int):=by omega
  have ea:((Y:Int) / 4294967296)=((Y / 4294967296:Nat):Int):=by omega
  have eY2:Y=Y / 4294967296*4294967296+Y%4294967296:=by omega
  rw[eL1,ea];generalize hu1':L / 4294967296=u1 at *;generalize hu0':L%4294967296=u0 at *;have ha1:2147483648<=Y / 4294967296:=by omega
  have ha2:Y / 4294967296<4294967296:=by omega
  have hc:Y%4294967296<4294967296:=by omega
  generalize Y / 4294967296=a at *;generalize Y%4294967296=c at *;have a0:(!decide ((a:Int)=0))=true:=by simp; omega
  have hD':u<a*4294967296+c:=by omega
  have hY0':0<a*4294967296+c:=by omega
  rw[aa (adk (by omega)),aa (adk (by omega)),aa (adk (by omega)),aa (adk (by omega)),aa a0];have start:∀ v:Nat,v<18446744073709551616->IntKind.wrap .u64 (Int.tdiv (v:Int) (a:Int))=((v / a:Nat):Int)/\IntKind.wrap .u64 ((v:Int) - (IntKind.wrap .u64 (((v / a:Nat):Int)*(a:Int))))=((v%a:Nat):Int):=by
   intro v hv;have e1:Int.tdiv (v:Int) (a:Int)=((v / a:Nat):Int):=rfl;have h1:=aeX v a;have h2:=aek v a;rw[e1,<- adH];generalize v / a*a=P at *;generalize v / a=Q at *;generalize v%a=Z at *;constructor
   ·rw[am]; omega
   ·rw[am,am]; omega
  obtain⟨g1,g2,g3,g4⟩:=yE ha1 ha2 hc hD' hu1;obtain⟨s1,s2⟩:=start u (by omega);rw[s1,s2,Fm ha2 hc hu1 hD' (λp=>ae5 hY0') (xE hu1 hD') _ (u / a) (u%a) N (by omega) g1 g2 g3 g4];rw[aa a0];rw[<- eY2];have hY0:0<Y:=by omega
  have hR1:=adA (u*4294967296+u1) hY0;have hE1:=aek (u*4294967296+u1) Y;have e21:IntKind.wrap .u64 ((IntKind.wrap .u64 ((IntKind.wrap .u64 ((u:Int)*4294967296))+(u1:Int))) - (IntKind.wrap .u64 ((((u*4294967296+u1) / Y:Nat):Int)*(Y:Int))))=(((u*4294967296+u1)%Y:Nat):Int):=by rw[<- adH];generalize (u*4294967296+u1) / Y*Y=P at *;rw[am,am,am,am]; omega
  simp only[e21];have hq1:(u*4294967296+u1) / Y<4294967296:=by rw[eY2]; exact xE hu1 hD'
  obtain⟨q1,hq1e⟩:∃ q,q=(u*4294967296+u1) / Y:=⟨_,rfl⟩
  obtain⟨R1,hR1e⟩:∃ q,q=(u*4294967296+u1)%Y:=⟨_,rfl⟩
  rw[<- hq1e,<- hR1e];rw[<- hq1e]at hq1;rw[<- hR1e]at hR1;have hD2:R1<a*4294967296+c:=by omega
  obtain⟨g1,g2,g3,g4⟩:=yE ha1 ha2 hc hD2 hu0;obtain⟨s1,s2⟩:=start R1 (by omega);rw[s1,s2,Fo ha2 hc hu0 hD2 (λp=>ae5 hY0') (xE hu0 hD2) _ (R1 / a) (R1%a) N (by omega) g1 g2 g3 g4,<- eY2];rw[aa (adk (by omega))];have hR0:=adA (R1*4294967296+u0) hY0;have hE0:=aek (R1*4294967296+u0) Y;have hq0:(R1*4294967296+u0) / Y<4294967296:=by rw[eY2]; exact xE hu0 hD2
  have e20:IntKind.wrap .u64 ((IntKind.wrap .u64 ((IntKind.wrap .u64 ((R1:Int)*4294967296))+(u0:Int))) - (IntKind.wrap .u64 ((((R1*4294967296+u0) / Y:Nat):Int)*(Y:Int))))=(((R1*4294967296+u0)%Y:Nat):Int):=by
   rw[<- adH];obtain⟨P,hP⟩:∃ q,q=(R1*4294967296+u0) / Y*Y:=⟨_,rfl⟩
   obtain⟨Z,hZ⟩:∃ q,q=(R1*4294967296+u0)%Y:=⟨_,rfl⟩
   rw[<- hP,<- hZ]at hE0;rw[<- hZ]at hR0;rw[<- hP,<- hZ];rw[am,am,am,am]; omega
  rw[e20,j6];obtain⟨q0,hq0e⟩:∃ q,q=(R1*4294967296+u0) / Y:=⟨_,rfl⟩
  rw[<- hq0e]at hq0;rw[<- hq0e];congr 1;rw[am,am]; omega
def Hb (Q n m:Nat) (h:m<n):(List.replicate (m+1) (0:Int)++(dlq Q n).drop (m+1)).set m ((Q / 18446744073709551616 ^ m%18446744073709551616:Nat):Int)=List.replicate m 0++(dlq Q n).drop m:=by rw[aeY,adD,List.singleton_append,aX _ _ _ _ _ (by simp),db (n:=m) (by rw[ak]; exact h),qM Q h]
def Bc {A d:Nat} (hd:0<d):(A / 18446744073709551616%d*18446744073709551616+A%18446744073709551616)%d=A%d/\(A / 18446744073709551616%d*18446744073709551616+A%18446744073709551616) / d=A / d%18446744073709551616:=by
 have h1:=aeh A 18446744073709551616;have h2:=aeh (A / 18446744073709551616) d;have h3:=adA (A / 18446744073709551616) hd;have h4:A%18446744073709551616<18446744073709551616:=adA _ (by decide);obtain⟨a,ha⟩:∃ a,a=A / 18446744073709551616:=⟨_,rfl⟩
 obtain⟨e,he⟩:∃ e,e=A%18446744073709551616:=⟨_,rfl⟩
 rw[<- ha]at h1 h2 h3 ⊢;rw[<- he]at h1 h4 ⊢;obtain⟨c,hc⟩:∃ c,c=a / d:=⟨_,rfl⟩
 obtain⟨r,hr⟩:∃ r,r=a%d:=⟨_,rfl⟩
 rw[<- hc,<- hr]at h2;rw[<- hr]at h3 ⊢;have h5:A=d*(c*18446744073709551616)+(r*18446744073709551616+e):=by rw[<- h1,<- h2,<- adw,adC,ado 18446744073709551616,ado 18446744073709551616]; omega
 constructor
 ·rw[h5,afy]
 ·rw[h5,agm hd,ado c,afy];refine(adv ?_).symm;rw[adu hd];have:=adp 18446744073709551616 h3;rw[aeV]at this;rw[ado _ d,ado d];rw[ado d]at this;omega
def i9 (x:Nat):x<18446744073709551616 ^ (ae x).length:=by have:=im (aS x); rwa [aB]at this
def IJ {N:Nat} (hN:8589934592<=N) {x d:Nat} (hd0:0<d) (hd:d<18446744073709551616) (hs:kA N (ae x)) (k:List Int->Int->Bool):nC N (ae x) (d:Int) k=k (ae (x / d)) ((x%d:Nat):Int):=by
 (unfold nC; rw[ac]; unfold qp)
 obtain⟨s1,s2⟩:=hs;have hx:=i9 x;generalize hn:(ae x).length=n at *;rw[aa (cb (by omega) (by omega) (by omega) (by omega)),aa adi,adr];refine aE (λi=>(((x / 18446744073709551616 ^ (n - i)%d:Nat):Int),((n:Int) - 1 - (i:Int)),List.replicate (n - i) (0:Int)++(dlq (x / d) n).drop (n - i))) n ?_ (by omega) (λi hi K=>?_) (λK=>?_)
 ·rw[aft,adS hx,Nat.zero_mod,ad9 (by rw[ak]; omega),adW];simp
 ·obtain⟨m,hm⟩:∃ m,n - i=m+1:=⟨n - i - 1,by omega⟩
  have hm2:n - (i+1)=m:=by omega
  have ei:(n:Int) - 1 - (i:Int)=(m:Int):=by omega
  have ei2:(n:Int) - 1 - ((i+1:Nat):Int)=(m:Int) - 1:=by omega
  have hp:x / 18446744073709551616 ^ (m+1)=x / 18446744073709551616 ^ m / 18446744073709551616:=by rw[ady,adt]
  have hdg:x / d / 18446744073709551616 ^ m%18446744073709551616=x / 18446744073709551616 ^ m / d%18446744073709551616:=by rw[adt,adt,ado d]
  obtain⟨n1,n2⟩:=Bc (A:=x / 18446744073709551616 ^ m) hd0;rw[hm,hm2,ei,ei2,hp];simp only[ke,adr];have hl:(List.replicate (m+1) (0:Int)++(dlq (x / d) n).drop (m+1)).length=n:=by simp[ak]; omega
  rw[adk (by omega:(m:Int)>=0),adn,hn,aa adj,my,AH hN hd (adA _ (by decide)) (adA _ hd0),n1,n2,<- hdg,hl,aa adj,aa (adk (by omega)),aa adi,Hb _ _ _ (by omega)]
 ·simp only[ke];have e0:(n:Int) - 1 - (n:Int) = -1:=by omega
  rw[e0,adl (by omega),adm,adX,afh,afd];rw[ad0,aeb,aeU];have hq:x / d<18446744073709551616 ^ n:=aeW (aeX _ _) hx;rw[jY _ (gw _ _) (by rw[ak]; omega) (by rw[ak]; omega) (λz=>k z ((x%d:Nat):Int)),lh hq]
def BH {P A B U3 V2 U V g:Nat} (hA:A<P) (hU:U=A+P*U3) (hV:V=B+P*V2) (hV0:0<V) (h:U3<g*V2):U / V<g:=by rw[adu hV0,hU,hV,adC,adN g P V2];have:=ads P h;rw[agH]at this;omega
def GP {W P A B U V u0 u1 u2 v0 v1:Nat} (hA:A<P) (hU:U=A+P*(u0+W*(u2*W+u1))) (hV:V=B+P*(v0+W*v1)) (hV0:0<V) (hv1:0<v1) (hu0:u0<W):U / V<=(u2*W+u1) / v1:=by
 refine Nat.le_of_lt_succ (BH hA hU hV hV0 ?_);have h1:=afM (u2*W+u1) hv1;rw[ado v1]at h1;have h2:=ads W h1;rw[agH]at h2;have e:((u2*W+u1) / v1).succ*(v0+W*v1)=((u2*W+u1) / v1).succ*v0+W*(((u2*W+u1) / v1+1)*v1):=by rw[adC,adN]
 rw[e];omega
def Fk {N:Nat} {o n u0 v0 v1 T d:Nat} {b c:List Int} (hn:2<=n) (hc1:c.getD (n - 2) 0=(v0:Int)) (hc2:c.getD (n - 1) 0=(v1:Int)) (hb:b.getD (o+(n - 2)) 0=(u0:Int)) (hcl:n<=c.length) (hbl:o+n+1<=b.length) (hbs:b.length<=1099511627780)
  (hv0:v0<18446744073709551616) (hv1:v1<18446744073709551616) (hu0:u0<18446744073709551616) (hd:∀ g,u0+18446744073709551616*T<g*(v0+18446744073709551616*v1)->d<g) :
  ∀ q r M,q<M->q<18446744073709551616->q*v1+r=T->r<18446744073709551616->d<=q ->
   ∃ g,d<=g/\g<18446744073709551616 /\ ∀ e0,ai M (rG N o (n+1) 0 n (n:Int) b c e0) ((q:Int),(r:Int))=e0 (g:Int):=by
 intro q;induction q using Nat.strongRecOn with
 | ind q ih=>
 intro r M hM hq hT hr hdq;obtain⟨M,rfl⟩:∃ m,M=m+1:=⟨M - 1,by omega⟩
 have i2:0+Int.toNat ((n:Int) - 2)=n - 2:=by omega
 have i1:0+Int.toNat ((n:Int) - 1)=n - 1:=by omega
 have j2:o+Int.toNat ((n:Int) - 2)=o+(n - 2):=by omega
 have hqv:=aeh (q*v0) 18446744073709551616;have hlo:q*v0%18446744073709551616<18446744073709551616:=adA _ (by decide);by_cases hex:q*v0<=r*18446744073709551616+u0
 ·refine⟨q,hdq,hq,λe0=>?_⟩;show rG N o (n+1) 0 n (n:Int) b c e0 ((q:Int),(r:Int)) (ai M _)=_;simp only[rG,i2,i1,j2,hc1,hc2,hb];rw[aa adi,aa adj,aa (adk (by omega)),vL N hq hv0];generalize q*v0%18446744073709551616=lo at *;generalize q*v0 / 18446744073709551616=hi at *;rcases afV hi r with h | h | h
  ·rw[adk (by omega:(hi:Int)<r),show(true==false)=false from rfl,adm]
  ·subst h;rw[adl (by omega:¬(hi:Int)<hi),show(false==false)=true from rfl,adn,show((hi:Int)==hi)=true by simp,show(true==true)=true from rfl,adn,aa adi,aa adj,aa (adk (by omega)),adk (by omega:(lo:Int)<=u0),adn]
  ·exfalso; omega
 ·have hgt:=hd q (by rw[adC,adN,<- hT]; rw[adC]; omega);obtain⟨p,rfl⟩:∃ p,q=p+1:=⟨q - 1,by omega⟩
  have w1:IntKind.wrap .u64 (((p+1:Nat):Int) - 1)=(p:Int):=by rw[am]; omega
  have step:∀ e0:Int->Bool,ai (M+1) (rG N o (n+1) 0 n (n:Int) b c e0) (((p+1:Nat):Int),(r:Int))
    = cond (decide (18446744073709551616<=r+v1)) (e0 (p:Int)) (ai M (rG N o (n+1) 0 n (n:Int) b c e0) ((p:Int),((r+v1:Nat):Int))):=by
   intro e0;show rG N o (n+1) 0 n (n:Int) b c e0 (((p+1:Nat):Int),(r:Int)) (ai M _)=_;simp only[rG,i2,i1,j2,hc1,hc2,hb];have tail:(ah .i64 ((n:Int) - 1)&&((inR ((n:Int) - 1) n)&&((decide (n - 1<c.length))&&(sQ1 N (r:Int) (v1:Int) 0 (λ(VX:Int) (n5:Int)=>(cond (n5 != 0) (e0 (IntKind.wrap .u64 (((p+1:Nat):Int) - 1))) (ai M (rG N o (n+1) 0 n (n:Int) b c e0) ((IntKind.wrap .u64 (((p+1:Nat):Int) - 1)),VX))))))))
     = cond (decide (18446744073709551616<=r+v1)) (e0 (p:Int)) (ai M (rG N o (n+1) 0 n (n:Int) b c e0) ((p:Int),((r+v1:Nat):Int))):=by
    rw[aa adi,aa adj,aa (adk (by omega)),mg N (c:=0) (a:=r) (b:=v1) (d:=0) rfl rfl rfl (by omega),w1];by_cases hb2:18446744073709551616<=r+v1
    ·have:(((r+v1+0) / 18446744073709551616:Nat):Int)=1:=by omega
     rw[this,adk hb2]; rfl
    ·have:(((r+v1+0) / 18446744073709551616:Nat):Int)=0:=by omega
     have e2:(r+v1+0)%18446744073709551616=r+v1:=by omega
     rw[this,e2,adl hb2]; rfl
   rw[aa adi,aa adj,aa (adk (by omega)),vL N hq hv0];generalize (p+1)*v0%18446744073709551616=lo at *;generalize (p+1)*v0 / 18446744073709551616=hi at *;rcases afV hi r with h | h | h
   ·exfalso; omega
   ·subst h;rw[adl (by omega:¬(hi:Int)<hi),show(false==false)=true from rfl,adn,show((hi:Int)==hi)=true by simp,show(true==true)=true from rfl,adn,aa adi,aa adj,aa (adk (by omega)),adl (by omega:¬(lo:Int)<=u0),adm];exact tail
   ·rw[adl (by omega:¬(hi:Int)<r),show(false==false)=true from rfl,adn,show((hi:Int)==r)=false by simp; omega,show(false==true)=false from rfl,adm];exact tail
  by_cases hb2:18446744073709551616<=r+v1
  ·exact⟨p,by omega,by omega,λe0=>by rw[step,adk hb2,adn]⟩
  ·obtain⟨g,g1,g2,g3⟩:=ih p (by omega) (r+v1) M (by omega) (by omega) (by rw[<- hT,aeV]; omega) (by omega) (by omega);exact⟨g,g1,g2,λe0=>by rw[step,adl hb2,adm]; exact g3 e0⟩
def jt {b:List Int} (o i:Nat):(b.drop o).getD i 0=b.getD (o+i) 0:=by rw[List.getD_eq_getElem?_getD,List.getD_eq_getElem?_getD,List.getElem?_drop]
def Vi (c:List Int) (m:Nat):au (c.take (m+3))=au (c.take m)+18446744073709551616 ^ m*((c.getD m 0).toNat+18446744073709551616*((c.getD (m+2) 0).toNat*18446744073709551616+(c.getD (m+1) 0).toNat)):=by rw[show m+3=m+2+1 by omega,aJ,show m+2=m+1+1 by omega,aJ,aJ];simp only[ady];generalize 18446744073709551616 ^ m=P;grind
def Vh (c:List Int) (m:Nat):au (c.take (m+2))=au (c.take m)+18446744073709551616 ^ m*((c.getD m 0).toNat+18446744073709551616*(c.getD (m+1) 0).toNat):=by rw[show m+2=m+1+1 by omega,aJ,aJ];simp only[ady];generalize 18446744073709551616 ^ m=P;grind
def Ix {N:Nat} (hN:1180591620717411303424<=N) {o n:Nat} {b c:List Int} (hn:2<=n) (hb:InWq b) (hc:InWq c) (hcl:n<=c.length) (hbl:o+n+1<=b.length) (hbs:b.length<=1099511627780)
  (htop:0<(c.getD (n - 1) 0).toNat) (hU:au ((b.drop o).take (n+1))<au (c.take n)*18446744073709551616) :
  ∃ g:Nat,au ((b.drop o).take (n+1)) / au (c.take n)<=g/\g<18446744073709551616 /\ ∀ k,Hi N o (n+1) 0 n b c k=k (g:Int):=by
 obtain⟨m,rfl⟩:∃ m,n=m+2:=⟨n - 2,by omega⟩
 have hU3:=Vi (b.drop o) m;have hV2:=Vh c m;rw[jt,jt,jt]at hU3;have a0:=hb.at (i:=o+m);have a1:=hb.at (i:=o+(m+1));have a2:=hb.at (i:=o+(m+2));have c0:=hc.at (i:=m);have c1:=hc.at (i:=m+1);have hA:=aO (hb.drop o) m;have hB:=aO hc m;rw[show m+2 - 1=m+1 by omega]at htop;obtain⟨u0,hu0⟩:∃ u,u=(b.getD (o+m) 0).toNat:=⟨_,rfl⟩
 obtain⟨u1,hu1⟩:∃ u,u=(b.getD (o+(m+1)) 0).toNat:=⟨_,rfl⟩
 obtain⟨u2,hu2⟩:∃ u,u=(b.getD (o+(m+2)) 0).toNat:=⟨_,rfl⟩
 obtain⟨v0,hv0⟩:∃ u,u=(c.getD m 0).toNat:=⟨_,rfl⟩
 obtain⟨v1,hv1⟩:∃ u,u=(c.getD (m+1) 0).toNat:=⟨_,rfl⟩
 have g0:b.getD (o+m) 0=(u0:Int):=by omega
 have g1:b.getD (o+(m+1)) 0=(u1:Int):=by omega
 have g2:b.getD (o+(m+2)) 0=(u2:Int):=by omega
 have k0:c.getD m 0=(v0:Int):=by omega
 have k1:c.getD (m+1) 0=(v1:Int):=by omega
 rw[<- hu0,<- hu1,<- hu2]at hU3;rw[<- hv0,<- hv1]at hV2;rw[<- hv1]at htop;rw[show m+2+1=m+3 by omega];rw[show m+2+1=m+3 by omega]at hU;generalize au ((b.drop o).take (m+3))=U at *;generalize au (c.take (m+2))=V at *;have hV0:0<V:=by
  rcases aeI V with h | h
  ·rw[h,aeN]at hU; omega
  ·exact h
 have hq:U / V<18446744073709551616:=by rw[adu hV0,ado]; exact hU
 have i2:o+Int.toNat (((m+2:Nat):Int))=o+(m+2):=by omega
 have i1:o+Int.toNat (((m+2:Nat):Int) - 1)=o+(m+1):=by omega
 have j1:0+Int.toNat (((m+2:Nat):Int) - 1)=m+1:=by omega
 by_cases h0:v1<=u2
 ·refine⟨18446744073709551615,by omega,by omega,λk=>?_⟩
  (unfold Hi; rw[ac]; unfold Gp)
  simp only[i2,i1,j1,g2,g1,k1];rw[aa adj,aa (adk (by omega)),aa adi,aa adj,aa (adk (by omega)),adk (by omega:(u2:Int)>=v1),adn];rfl
 ·have hT:(u2*18446744073709551616+u1) / v1<18446744073709551616:=by rw[adu htop];have:=ads 18446744073709551616 (Nat.lt_of_not_le h0);rw[agH]at this;omega
  obtain⟨g,e1,e2,e3⟩:=Fk (N:=N) (o:=o) (n:=m+2) (T:=u2*18446744073709551616+u1) (d:=U / V) (u0:=u0) (v0:=v0) (v1:=v1) (by omega) (by rw[show m+2 - 2=m by omega]; exact k0) (by rw[show m+2 - 1=m+1 by omega]; exact k1) (by rw[show m+2 - 2=m by omega]; exact g0) hcl hbl hbs (by omega) (by omega) (by omega)
   (λg hg=>BH hA hU3 hV2 hV0 hg)
   ((u2*18446744073709551616+u1) / v1) ((u2*18446744073709551616+u1)%v1) N (by omega) hT (aek _ _) (ae_ (adA _ htop) (by omega)) (GP hA hU3 hV2 hV0 htop (by omega))
  refine⟨g,e1,e2,λk=>?_⟩
  (unfold Hi; rw[ac]; unfold Gp)
  simp only[i2,i1,j1,g2,g1,k1];rw[aa adj,aa (adk (by omega)),aa adi,aa adj,aa (adk (by omega)),adl (by omega:¬(u2:Int)>=v1),adm];rw[aa adj,aa (adk (by omega)),aa adi,aa adj,aa (adk (by omega)),aa adi,aa adj,aa (adk (by omega))];rw[AH (by omega) (by omega) (by omega) (by omega),e3]
def HH {b:List Int} {o i:Nat} (D:Nat) (h:o+i<=b.length):(b.take o++(dlq D i++b.drop (o+i))).length=b.length:=by simp[ak]; omega
def HG {b:List Int} {o i:Nat} (D:Nat) (h:o+i<b.length):(b.take o++(dlq D i++b.drop (o+i))).getD (o+i) 0=b.getD (o+i) 0:=by rw[<- adD,db h,bR (by simp[ak]; omega)]
def HI {b:List Int} {o i:Nat} (D:Nat) (h:o+i<b.length):(b.take o++(dlq D i++b.drop (o+i))).set (o+i) ((D / 18446744073709551616 ^ i%18446744073709551616:Nat):Int)=b.take o++(dlq D (i+1)++b.drop (o+(i+1))):=by rw[<- adD,db h,aX _ _ _ _ _ (by simp[ak]; omega),dlq];simp[ad5]
def HE {b:List Int} {o i n:Nat} (D E:Nat) (hi:i<=n) (h:o+n<=b.length):(b.take o++(dlq E i++((dlq D n).drop i++b.drop (o+n)))).length=b.length:=by simp[ak]; omega
def HC {b:List Int} {o i n:Nat} (D E:Nat) (hi:i<n) (h:o+n<=b.length):(b.take o++(dlq E i++((dlq D n).drop i++b.drop (o+n)))).getD (o+i) 0=((D / 18446744073709551616 ^ i%18446744073709551616:Nat):Int):=by rw[<- adD,db (n:=i) (by rw[ak]; exact hi),ae8,bR (by simp[ak]; omega),qM D hi]
def HF {b:List Int} {o i n:Nat} (D E:Nat) (hi:i<n) (h:o+n<=b.length):(b.take o++(dlq E i++((dlq D n).drop i++b.drop (o+n)))).set (o+i) ((E / 18446744073709551616 ^ i%18446744073709551616:Nat):Int)=b.take o++(dlq E (i+1)++((dlq D n).drop (i+1)++b.drop (o+n))):=by rw[<- adD,db (n:=i) (by rw[ak]; exact hi),ae8,aX _ _ _ _ _ (by simp[ak]; omega),dlq];simp
def GH {m:Nat} (S X:Nat):∀ n,n<=m->dlq (S+18446744073709551616 ^ m*X) n=dlq S n
 | 0,_=>rfl
 | n+1,h=>by rw[dlq,dlq,GH S X n (by omega)];congr 3;refine iu (R:=18446744073709551616 ^ (m - (n+1))*X) ?_;rw[<- adw,<- adE,show n+1+(m - (n+1))=m by omega]
def Bd {w:List Int} {n i U Q:Nat} (hw:InWq w) (hl:w.length=n+1) (hU:U=au w) (hi:i<=n) (hQ:Q<18446744073709551616 ^ (n+1)) :
  (((w.getD i 0).toNat+18446744073709551616 - Q / 18446744073709551616 ^ i%18446744073709551616 - (if au (w.take i)<Q%18446744073709551616 ^ i then 1 else 0))%18446744073709551616=(U+18446744073709551616 ^ (n+1) - Q) / 18446744073709551616 ^ i%18446744073709551616)
  /\ (if (w.getD i 0).toNat<Q / 18446744073709551616 ^ i%18446744073709551616+(if au (w.take i)<Q%18446744073709551616 ^ i then 1 else 0)then 1 else 0)=(if au (w.take (i+1))<Q%18446744073709551616 ^ (i+1)then 1 else(0:Nat)):=by
 have hx:=hw.at (i:=i);have hA:=aJ (m:=w) i;have hAl:=aO hw i;have hp:=aV i;have hBl:=adA Q hp;have hPs:18446744073709551616 ^ (i+1)=18446744073709551616 ^ i*18446744073709551616:=ady ..;have hmm:Q%18446744073709551616 ^ (i+1)=Q%18446744073709551616 ^ i+18446744073709551616 ^ i*(Q / 18446744073709551616 ^ i%18446744073709551616):=by rw[hPs,agf]
 have hyl:Q / 18446744073709551616 ^ i%18446744073709551616<18446744073709551616:=adA _ (by decide);constructor
 ·obtain⟨R1,h1⟩:=bB w (i+1);have hW:18446744073709551616 ^ (n+1)=18446744073709551616 ^ i*18446744073709551616*18446744073709551616 ^ (n - i):=by rw[<- hPs,<- adE,show i+1+(n - i)=n+1 by omega]
  have hq:=Aw (D:=U+18446744073709551616 ^ (n+1) - Q) (a:=U+18446744073709551616 ^ (n+1)) (b:=Q) (x:=(w.getD i 0).toNat) (y:=Q / 18446744073709551616 ^ i%18446744073709551616) (R1:=R1+18446744073709551616 ^ (n - i)) (R2:=Q / (18446744073709551616 ^ i*18446744073709551616)) hAl hBl rfl
   (by rw[hU,h1,hA,hW,hPs,adC]; omega)
   (by rw[<- hmm,hPs]; exact(afx _ _).symm)
   (by omega)
  generalize (U+18446744073709551616 ^ (n+1) - Q) / 18446744073709551616 ^ i=Z at *;generalize Q / 18446744073709551616 ^ i%18446744073709551616=y at *;generalize (w.getD i 0).toNat=x at *;generalize ((R1+18446744073709551616 ^ (n - i):Nat):Int) - ((Q / (18446744073709551616 ^ i*18446744073709551616):Nat):Int)=RR at *;split at hq <;> rename_i hh <;> simp only[hh,ae0,adV] <;> omega
 ·rw[hA,hmm];exact(ne _ _ _ _ _ hAl hBl).symm
def j7 (i:Nat):(i:Int)+1=((i+1:Nat):Int):=rfl
def CL (p:Prop) [Decidable p]:(if p then(1:Int)else 0)=((if p then 1 else 0:Nat):Int):=by split <;> rfl
def EG (p:Nat) (h:p<18446744073709551616):IntKind.wrap .u64 (((p+1:Nat):Int) - 1)=(p:Int):=by rw[am]; omega
def Ap {D V c v i:Nat} (hc:c=(D%18446744073709551616 ^ i+V) / 18446744073709551616 ^ i) :
  (D%18446744073709551616 ^ (i+1)+(V+18446744073709551616 ^ i*v)) / 18446744073709551616 ^ (i+1)=(D / 18446744073709551616 ^ i%18446744073709551616+v+c) / 18446744073709551616 /\
  ∀ R,(D+(V+18446744073709551616 ^ i*v+18446744073709551616 ^ (i+1)*R)) / 18446744073709551616 ^ i%18446744073709551616=(D / 18446744073709551616 ^ i%18446744073709551616+v+c)%18446744073709551616:=by
 have hp:=aV i;have hPs:18446744073709551616 ^ (i+1)=18446744073709551616 ^ i*18446744073709551616:=ady ..;have hmm:D%18446744073709551616 ^ (i+1)=D%18446744073709551616 ^ i+18446744073709551616 ^ i*(D / 18446744073709551616 ^ i%18446744073709551616):=by rw[hPs,agf]
 have e:D%18446744073709551616 ^ (i+1)+(V+18446744073709551616 ^ i*v)=(D%18446744073709551616 ^ i+V)+18446744073709551616 ^ i*(D / 18446744073709551616 ^ i%18446744073709551616+v):=by rw[hmm,adC]; omega
 have e2:(D%18446744073709551616 ^ (i+1)+(V+18446744073709551616 ^ i*v)) / 18446744073709551616 ^ i=D / 18446744073709551616 ^ i%18446744073709551616+v+c:=by rw[e,cM,<- hc]; omega
 constructor
 ·rw[hPs,<- adt,<- hPs,e2]
 ·intro R;have e3:D+(V+18446744073709551616 ^ i*v+18446744073709551616 ^ (i+1)*R)=(D%18446744073709551616 ^ (i+1)+(V+18446744073709551616 ^ i*v))+18446744073709551616 ^ (i+1)*(D / 18446744073709551616 ^ (i+1)+R):=by have:=afx D (18446744073709551616 ^ (i+1));rw[adC]; omega
  rw[iu e3,e2]
def EO {D V c i:Nat} (hc:c=(D%18446744073709551616 ^ i+V) / 18446744073709551616 ^ i) :
  (D%18446744073709551616 ^ (i+1)+V) / 18446744073709551616 ^ (i+1)=(D / 18446744073709551616 ^ i%18446744073709551616+0+c) / 18446744073709551616 /\
  (D+V) / 18446744073709551616 ^ i%18446744073709551616=(D / 18446744073709551616 ^ i%18446744073709551616+0+c)%18446744073709551616:=by
 obtain⟨a1,a2⟩:=Ap (v:=0) hc;have a3:=a2 0;rw[aeK,adU V]at a1;rw[aeK,aeK,adU V]at a3;exact⟨a1,a3⟩
def HS {N:Nat} (hN:1180591620717411303424<=N) {o n U V d:Nat} {b c:List Int} (hn:1<=n) (hc:InWq c) (hcl:n<=c.length) (hbl:o+(n+1)<=b.length) (hbs:b.length<=1099511627780) (hV:V=au (c.take n)) (hUW:U<18446744073709551616 ^ (n+1)) (hd:∀ g,g<=d↔g*V<=U) (e0:Int->List Int->Bool) :
  ∀ g M,g<M->g<18446744073709551616->d<=g->g*V<18446744073709551616 ^ (n+1) ->
   ai M (rD N o (n+1) 0 n (n:Int) c e0) ((g:Int),((if U<g*V then 1 else 0:Nat):Int),b.take o++(dlq (U+18446744073709551616 ^ (n+1) - g*V) (n+1)++b.drop (o+(n+1))))=e0 (d:Int) (b.take o++(dlq (U+18446744073709551616 ^ (n+1) - d*V) (n+1)++b.drop (o+(n+1)))):=by
 intro g;induction g with
 | zero=>
  intro M hM _ hdg _;obtain⟨M,rfl⟩:∃ m,M=m+1:=⟨M - 1,by omega⟩
  have:d=0:=by omega
  subst this;show rD N o (n+1) 0 n (n:Int) c e0 (_,_,_) (ai M _)=_;simp only[rD,aeN];rw[if_neg (by omega:¬ U<0),show(((0:Nat):Int) != 0)=false from rfl,adm]
 | succ p ih=>
  intro M hM hg hdg hgW;obtain⟨M,rfl⟩:∃ m,M=m+1:=⟨M - 1,by omega⟩
  show rD N o (n+1) 0 n (n:Int) c e0 (_,_,_) (ai M _)=_;have hps:(p+1)*V=p*V+V:=aeV _ _;by_cases hlt:U<(p+1)*V
  ·have hdp:d<=p:=by
    rcases aen p d with h | h
    ·have:=(hd (p+1)).1 h; omega
    ·exact h
   simp only[rD];rw[if_pos hlt,show(((1:Nat):Int) != 0)=true from rfl,adn];obtain⟨D,hD⟩:∃ D,D=U+18446744073709551616 ^ (n+1) - (p+1)*V:=⟨_,rfl⟩
   obtain⟨E,hE⟩:∃ E,E=U+18446744073709551616 ^ (n+1) - p*V:=⟨_,rfl⟩
   have hDE:E=D+V:=by omega
   have hDl:D<18446744073709551616 ^ (n+1):=by omega
   rw[<- hD];refine aE (λi=>((((D%18446744073709551616 ^ i+au (c.take i)) / 18446744073709551616 ^ i:Nat):Int),(i:Int),b.take o++(dlq E i++((dlq D (n+1)).drop i++b.drop (o+(n+1)))))) n ?_ (by omega) (λi hi K=>?_) (λK=>?_)
   ·simp[dlq,au,age]
   ·have hx:=hc.at (i:=i);have hcv:=aJ (m:=c) i;have hVl:=aO hc i;have hp:=aV i;have hml:=adA D hp;obtain⟨cy,hcy⟩:∃ cy,cy=(D%18446744073709551616 ^ i+au (c.take i)) / 18446744073709551616 ^ i:=⟨_,rfl⟩
    have hcl1:cy<=1:=by
     have:cy<2:=by rw[hcy,adu hp]; omega
     omega
    obtain⟨a1,a2⟩:=Ap (D:=D) (V:=au (c.take i)) (v:=(c.getD i 0).toNat) hcy;obtain⟨R,hR⟩:=bB (c.take n) (i+1);rw[agt,aeO (by omega),<- hV,hcv]at hR;have a3:=a2 R;rw[<- hR,<- hDE]at a3;have hdl:D / 18446744073709551616 ^ i%18446744073709551616<18446744073709551616:=adA _ (by decide);simp only[gP,adr,adR];rw[HE D E (by omega) (by omega),HC D E (by omega) (by omega)];rw[adk (by omega:(i:Int)<n),adn,aa adj,aa (adk (by omega)),aa adj,aa (adk (by omega)),<- hcy,
     mg N (a:=D / 18446744073709551616 ^ i%18446744073709551616) (b:=(c.getD i 0).toNat) (d:=cy) rfl (by omega) rfl hcl1,aa adj,aa (adk (by omega)),aa adi,<- a3,HF D E (by omega) (by omega),<- a1,hcv,j7]
   ·have hp:=aV n;have hml:=adA D hp;have hVl:V<18446744073709551616 ^ n:=by rw[hV]; exact aO hc n
    obtain⟨cy,hcy⟩:∃ cy,cy=(D%18446744073709551616 ^ n+V) / 18446744073709551616 ^ n:=⟨_,rfl⟩
    have hcl1:cy<=1:=by
     have:cy<2:=by rw[hcy,adu hp]; omega
     omega
    obtain⟨a1,a3⟩:=EO (D:=D) (V:=V) (i:=n) hcy;rw[adv hDl,<- hDE]at a1;rw[<- hDE]at a3;simp only[gP,adr];rw[adl (by omega:¬(n:Int)<n),adm,HE D E (by omega) (by omega),HC D E (by omega) (by omega),<- hV,<- hcy,aa adj,aa (adk (by omega)),
     mg N (y:=0) (c:=((cy:Nat):Int)) (a:=D / 18446744073709551616 ^ n%18446744073709551616) (b:=0) (d:=cy) rfl rfl rfl hcl1,aa adj,aa (adk (by omega)),<- a3,<- a1,HF D E (by omega) (by omega),EG p (by omega)]
    rw[ad9 (by rw[ak]; omega),aeb];have eb:IntKind.wrap .u64 (((1:Nat):Int) - ((E / 18446744073709551616 ^ (n+1):Nat):Int))=((if U<p*V then 1 else 0:Nat):Int):=by
     have hp1:=aV (n+1);by_cases h:U<p*V
     ·rw[if_pos h,adS (by omega),am]; omega
     ·rw[if_neg h];have:E / 18446744073709551616 ^ (n+1)=1:=by refine Nat.div_eq_of_lt_le ?_ ?_ <;> omega
      rw[this,am]; omega
    rw[eb,hE];exact ih M (by omega) (by omega) hdp (by omega)
  ·have:d=p+1:=by have:=(hd (p+1)).2 (by omega);omega
   subst this;simp only[rD];rw[if_neg hlt,show(((0:Nat):Int) != 0)=false from rfl,adm]
def LM {N:Nat} (hN:1180591620717411303424<=N) {o n:Nat} {b c:List Int} (hn:2<=n) (hb:InWq b) (hc:InWq c) (hcl:n<=c.length) (hbl:o+(n+1)<=b.length) (hbs:b.length<=1099511627780)
  (htop:0<(c.getD (n - 1) 0).toNat) (hU:au ((b.drop o).take (n+1))<au (c.take n)*18446744073709551616) (k:Ky9) :
  Mv N o (n+1) 0 n b c k=k ((au ((b.drop o).take (n+1)) / au (c.take n):Nat):Int) (b.take o++(dlq (au ((b.drop o).take (n+1))%au (c.take n)) (n+1)++b.drop (o+(n+1)))):=by
 obtain⟨g,g1,g2,g3⟩:=Ix hN hn hb hc hcl (by omega) hbs htop hU
 (unfold Mv; rw[ac]; unfold J7)
 rw[g3];have hw:InWq ((b.drop o).take (n+1)):=(hb.drop o).take _;have hwl:((b.drop o).take (n+1)).length=n+1:=by rw[ad3,aeZ]; omega
 have hwg:∀ i,i<=n->((b.drop o).take (n+1)).getD i 0=b.getD (o+i) 0:=λi hi=>by rw[sa (by omega),jt]
 generalize (b.drop o).take (n+1)=w at *;obtain⟨U,hUe⟩:∃ U,U=au w:=⟨_,rfl⟩
 obtain⟨V,hVe⟩:∃ V,V=au (c.take n):=⟨_,rfl⟩
 rw[<- hUe,<- hVe]at hU g1 ⊢;have hV0:0<V:=by
  rcases aeI V with h | h
  ·rw[h,aeN]at hU; omega
  ·exact h
 have hVl:V<18446744073709551616 ^ n:=by rw[hVe]; exact aO hc n
 have hUW:U<18446744073709551616 ^ (n+1):=by rw[hUe]; have:=im hw; rwa [hwl]at this
 have hgV:g*V<18446744073709551616 ^ (n+1):=by rw[ady,ado];exact aes hVl g2
 have hres:b.take o++(dlq (U%V) (n+1)++b.drop (o+(n+1)))=b.take o++(dlq (U+18446744073709551616 ^ (n+1) - (U / V)*V) (n+1)++b.drop (o+(n+1))):=by
  have e:U+18446744073709551616 ^ (n+1) - (U / V)*V=U%V+18446744073709551616 ^ (n+1)*1:=by have:=aek U V;omega
  rw[e,GH _ _ _ (adx _)]
 rw[hres];obtain⟨D,hD⟩:∃ D,D=U+18446744073709551616 ^ (n+1) - g*V:=⟨_,rfl⟩
 obtain⟨Q,hQ⟩:∃ Q,Q=g*V:=⟨_,rfl⟩
 have hQW:Q<18446744073709551616 ^ (n+1):=by rw[hQ]; exact hgV
 refine aE (λi=>(((g*au (c.take i) / 18446744073709551616 ^ i:Nat):Int),((if au (w.take i)<Q%18446744073709551616 ^ i then 1 else 0:Nat):Int),(i:Int),b.take o++(dlq D i++b.drop (o+i)))) n ?_ (by omega) (λi hi K=>?_) (λK=>?_)
 ·simp[dlq,au,age]
 ·have hx:=hb.at (i:=o+i);have hy:=hc.at (i:=i);have hcv:=aJ (m:=c) i;have hp:=aV i;have hVi:=aO hc i;obtain⟨s1,s2⟩:=Bd hw hwl hUe (by omega:i<=n) (by rw[hQ]; exact hgV:Q<_);rw[hwg i (by omega)]at s1 s2;rw[hQ,<- hD,<- hQ]at s1;obtain⟨cy,hcy⟩:∃ cy,cy=g*au (c.take i) / 18446744073709551616 ^ i:=⟨_,rfl⟩
  have hcyl:cy<18446744073709551616:=by rw[hcy,adu hp];exact aes g2 hVi
  have e1:g*au (c.take (i+1))=g*au (c.take i)+18446744073709551616 ^ i*(g*(c.getD i 0).toNat):=by rw[hcv,adC,adN g]
  have ecy:g*au (c.take (i+1)) / 18446744073709551616 ^ (i+1)=(g*(c.getD i 0).toNat+0+cy) / 18446744073709551616:=by rw[ady,<- adt,e1,cM,<- hcy];congr 1; omega
  obtain⟨R,hR⟩:=bB (c.take n) (i+1);rw[agt,aeO (by omega),<- hVe]at hR;have elo:Q / 18446744073709551616 ^ i%18446744073709551616=(g*(c.getD i 0).toNat+0+cy)%18446744073709551616:=by
   have:Q=g*au (c.take (i+1))+18446744073709551616 ^ (i+1)*(g*R):=by rw[hQ,hR,adC,adN g]
   rw[iu this,e1,cM,<- hcy];congr 1; omega
  simp only[gN,adr,adR];rw[HH D (by omega),HG D (by omega),adk (by omega:(i:Int)<n),adn,aa adj,aa (adk (by omega)),<- hcy,
   yX N (c:=0) (a:=g) (b:=(c.getD i 0).toNat) (e:=0) (f:=cy) rfl (by omega) rfl rfl g2 (by omega) (by omega) hcyl,aa adj,aa (adk (by omega)),<- elo,<- ecy,
   vN N (a:=(b.getD (o+i) 0).toNat) (b:=Q / 18446744073709551616 ^ i%18446744073709551616) (d:=if au (w.take i)<Q%18446744073709551616 ^ i then 1 else 0) (by omega) rfl rfl (by split <;> omega),aa adj,aa (adk (by omega)),aa adi,s1,HI D (by omega)]
  have s3:(if (b.getD (o+i) 0).toNat<Q / 18446744073709551616 ^ i%18446744073709551616+(if au (w.take i)<Q%18446744073709551616 ^ i then 1 else 0)then(1:Int)else 0)=((if au (w.take (i+1))<Q%18446744073709551616 ^ (i+1)then 1 else 0:Nat):Int):=by rw[CL,s2]
  rw[s3];rfl
 ·have hx:=hb.at (i:=o+n);obtain⟨s1,s2⟩:=Bd hw hwl hUe (adx n) (by rw[hQ]; exact hgV:Q<_);rw[hwg n (by omega)]at s1 s2;rw[hQ,<- hD,<- hQ]at s1;have hql:Q / 18446744073709551616 ^ n<18446744073709551616:=by rw[adu (aV n),ado,<- ady,hQ]; exact hgV
  rw[adv hql]at s1 s2;have hwt:w.take (n+1)=w:=adI (by omega);rw[hwt,<- hUe,adv hQW]at s2;simp only[gN,adr];rw[adl (by omega:¬(n:Int)<n),adm,<- hVe,<- hQ,HH D (by omega),HG D (by omega),aa adj,aa (adk (by omega)),
   vN N (a:=(b.getD (o+n) 0).toNat) (b:=Q / 18446744073709551616 ^ n) (d:=if au (w.take n)<Q%18446744073709551616 ^ n then 1 else 0) (by omega) rfl rfl (by split <;> omega),aa adj,aa (adk (by omega)),s1,HI D (by omega)]
  have s3:(if (b.getD (o+n) 0).toNat<Q / 18446744073709551616 ^ n+(if au (w.take n)<Q%18446744073709551616 ^ n then 1 else 0)then(1:Int)else 0)=((if U<g*V then 1 else 0:Nat):Int):=by rw[<- hQ,CL,s2]
  rw[s3,hD];exact HS hN (by omega) hc hcl hbl hbs hVe hUW (λp=>ae5 hV0) _ g N (by omega) g2 g1 hgV
def FC {N:Nat} (b:List Int) (m:Nat) (hm:m<=b.length) (hN:m<N) (hs:m<9223372036854775807) (k:Kz4):pA N 0 m b k=k (bM b m):=by
 (unfold pA; rw[ac]; unfold oG)
 have key:∀ n,n<=m -> ∀ M,n<M->ai M (um N 0 m b λWc=>((decide (0<=Wc/\Wc<=((m:Nat):Int)))&&(k ((Int.toNat Wc) - 0)))) (n:Int)=k (bM b n):=by
  intro n;induction n with
  | zero=>
   intro _ M hM;obtain⟨M,rfl⟩:∃ m,M=m+1:=⟨M - 1,by omega⟩
   show um N 0 m b _ ((0:Nat):Int) _=_;simp only[um,bM];rw[adl (by omega:¬((0:Nat):Int)>0),show(false==true)=false from rfl,adm,adk (by omega),aet];rfl
  | succ n ih=>
   intro hn M hM;obtain⟨M,rfl⟩:∃ m,M=m+1:=⟨M - 1,by omega⟩
   show um N 0 m b _ ((n+1:Nat):Int) (ai M _)=_;have e:0+Int.toNat (((n+1:Nat):Int) - 1)=n:=by omega
   have e2:((n+1:Nat):Int) - 1=(n:Int):=by omega
   simp only[um,e];rw[adk (by omega:((n+1:Nat):Int)>0),show(true==true)=true from rfl,adn,aa adi,aa adj,aa (adk (by omega)),aa adi,e2,ih (by omega) M (by omega),nj];by_cases h0:b.getD n 0=0
   ·have:(b.getD n 0==0)=true:=by simpa using h0
    rw[this,if_pos h0]; rfl
   ·have:(b.getD n 0==0)=false:=by simpa using h0
    rw[this,if_neg h0,adm,adk (by omega),aet];rfl
 exact key m (adx _) N hN
def wU (N:Nat) (b:List Int) (m i:Nat) (hm:m<=b.length) (hi:i<9223372036854775807) (k:Kz3):Hq N 0 m (i:Int) b k=k ((b.take m).getD i 0):=by
 unfold Hq OY;by_cases h:i<m
 ·rw[adk (by omega),adn,aa adj,aa (adk (by omega)),sa h];simp
 ·rw[adl (by omega),adm,d8 (by rw[ad3]; omega)]
def DE {N:Nat} (b:List Int) (hb:InWq b) (m s:Nat) (hm:m<=b.length) (hs:s<64) (hN:m+3<N) (hms:m<=1099511627780):∃ lost:Bool,∀ k,Hn N 0 m (s:Int) b k=k (ae (au (b.take m) / 2 ^ s)) lost:=by
 have ew:IntKind.wrap .u64 (Int.tdiv (s:Int) 64)=0:=by rw[am,aer (by omega)]; omega
 have es:Int.tmod (s:Int) 64=(s:Int):=by rw[aeg (by omega)]; omega
 have eml:IntKind.wrap .u64 ((m:Nat):Int)=(m:Int):=by rw[am]; omega
 have hs0:0<2 ^ s:=adz _;by_cases h0:m=0
 ·subst h0;refine⟨false,λk=>?_⟩
  (unfold Hn; rw[ac]; unfold Gr)
  rw[ew,afF,show au []=0 from rfl,Nat.zero_div,ba];rfl
 ·refine⟨aA .and .u64 (b.getD 0 0) (IntKind.wrap .u64 ((IntKind.wrap .u64 ((1:Int)*2 ^ s)) - 1)) != 0,λk=>?_⟩
  (unfold Hn; rw[ac]; unfold Gr)
  have emin:min s 64=s:=by omega
  have e64:min (Int.toNat (IntKind.wrap .u64 (64 - (s:Int)))) 64=64 - s:=by rw[am]; omega
  have z0:0+Int.toNat (0:Int)=0:=rfl;have z1:Int.toNat (0:Int) - 0=0:=rfl;rw[ew,es,eml,adl (by omega:¬(0:Int)>=(m:Int)),adm,aa adi,aa adj,z0,z1,aa (adk (by omega)),aa (adk (by omega)),aa (adk (by omega)),adr,emin];refine aE (λi=>(aA .and .u64 (b.getD 0 0) (IntKind.wrap .u64 ((IntKind.wrap .u64 ((1:Int)*2 ^ s)) - 1)),(i:Int))) 0 rfl (by omega) (λi hi K=>by omega) (λK=>?_);simp only[kP];rw[adl (by omega:¬((0:Nat):Int)<((0:Nat):Int)),adm];generalize aA .and .u64 (b.getD 0 0) (IntKind.wrap .u64 ((IntKind.wrap .u64 ((1:Int)*2 ^ s)) - 1))=lo;have hw:InWq (b.take m):=hb.take m;have hwl:(b.take m).length=m:=by rw[ad3]; omega
  obtain⟨X,hX⟩:∃ X,X=au (b.take m) / 2 ^ s:=⟨_,rfl⟩
  have elen:Int.toNat ((m:Int) - 0)=m:=by omega
  have elen2:(m:Int) - 0=(m:Int):=by omega
  rw[elen2,aa adi,aa (cb (by omega) (by omega) (by omega) (by omega)),aeJ,adr,<- hX];refine aE (λi=>((i:Int),dlq X i++List.replicate (m - i) 0)) m (by simp[dlq]) (by omega) (λi hi K=>?_) (λK=>?_)
  ·have hx:=hw.at (i:=i);have hy:=hw.at (i:=i+1);have hset:=rZ X i m (by omega);have hl:(dlq X i++List.replicate (m - i) (0:Int)).length=m:=by simp[ak]; omega
   obtain⟨R,hR⟩:=yn hw i;have hdig:X / 18446744073709551616 ^ i%18446744073709551616=(((b.take m).getD i 0).toNat+18446744073709551616*((b.take m).getD (i+1) 0).toNat) / 2 ^ s%18446744073709551616:=by
    rw[hX,adt,ado (2 ^ s),<- adt,hR];have e2:18446744073709551616*18446744073709551616*R=2 ^ s*(18446744073709551616*(2 ^ (64 - s)*R)):=by
     have hs1:2 ^ s*2 ^ (64 - s)=18446744073709551616:=by rw[<- adE,show s+(64 - s)=64 by omega]
     rw[adN (2 ^ s),<- adw (2 ^ s),hs1,adw]
    rw[e2,aej _ _ hs0,aeF]
   have ea:(0:Int)+(i:Int)=(i:Int):=by omega
   have eb:(i:Int)+1=((i+1:Nat):Int):=by omega
   simp only[iA,adr,ea,eb,emin,e64,hl];rw[adk (by omega:(i:Int)<(m:Int)),adn,aa adi,wU N b m i hm (by omega),aa (adk (by omega)),aa adi,aa adi,wU N b m (i+1) hm (by omega),aa (adk (by rw[am]; omega)),aa adj,aa (adk (by omega)),aa adi];have ex:(b.take m).getD i 0=((((b.take m).getD i 0).toNat:Nat):Int):=by omega
   have ey:(b.take m).getD (i+1) 0=((((b.take m).getD (i+1) 0).toNat:Nat):Int):=by omega
   rw[ex,ey,Be (by omega) (by omega) (by omega),<- hdig,hset]
  ·simp only[iA];rw[adl (by omega:¬(m:Int)<(m:Int)),adm,adX,ad0,adW];have hXl:X<18446744073709551616 ^ m:=by have h1:=im hw;rw[hwl]at h1;rw[hX];exact aeW (aeX _ _) h1
   have:=jY (N:=N) _ (gw X m) (by rw[ak]; omega) (by rw[ak]; omega) (λl=>k l (lo != 0));rw[this,lh hXl]
def IP {N:Nat} (m:List Int) (hm:InWq m) (n:Nat) (hn:n<4294967296) (hN:m.length+n / 64+4<N) (hs:m.length<=1099511627776) (e0:List Int->Bool) :
  ai N (eE N ((n / 64:Nat):Int) ((n%64:Nat):Int) m ((m.length:Nat):Int) e0) (0,List.replicate (n / 64+m.length+1) (0:Int))=e0 (dlq (au m*2 ^ n) (n / 64+m.length+1)):=by
 have hw6:n / 64<67108864:=by omega
 generalize hw:n / 64=w at *;generalize hsh:n%64=s at *;have hs32:s<64:=by omega
 have hp2:2 ^ n=18446744073709551616 ^ w*2 ^ s:=by rw[BX,hw,hsh]
 have hs0:0<2 ^ s:=adz s;have hs1:2 ^ s*2 ^ (64 - s)=18446744073709551616:=by rw[<- adE,show s+(64 - s)=64 by omega]
 let V:=au m*2 ^ n
 let X:=au m*2 ^ s
 have hVX:V=18446744073709551616 ^ w*X:=by simp only[V,X]; rw[hp2,adN]
 let T:=λi=>au (m.take i)*2 ^ s
 let c:=λi=>T i / 18446744073709551616 ^ i
 have hcl:∀ i,c i<2 ^ s:=by intro i;simp only[c,T];rw[adu (aV i),ado];exact aex (aO hm i) hs0
 refine aE (N:=N) (λi=>((i:Int),dlq V (w+i)++((c i:Nat):Int)::List.replicate (m.length - i) 0)) m.length ?_ (by omega) (λi hi K=>?_) (λK=>?_)
 ·congr 1;show List.replicate (w+m.length+1) (0:Int)=dlq V w++((c 0:Nat):Int)::List.replicate m.length 0;rw[hVX,qN];have hc0:c 0=0:=by simp[c,T,au]
  rw[hc0];have:w+m.length+1=w+(m.length+1):=by omega
  rw[this,<- ae2,ad8]; rfl
 ·have hx:=hm.at (i:=i);have hT:T (i+1)=T i+18446744073709551616 ^ i*((m.getD i 0).toNat*2 ^ s):=by simp only[T,aJ,adQ,adw]
  have hq:T (i+1) / 18446744073709551616 ^ i=c i+(m.getD i 0).toNat*2 ^ s:=by rw[hT,cM]
  have hci:c i<2 ^ s:=hcl i;have hc1:c (i+1)=(c i+(m.getD i 0).toNat*2 ^ s) / 18446744073709551616:=by rw[<- hq]; simp only[c]; rw[ady,adt]
  have hdig:V / 18446744073709551616 ^ (w+i)%18446744073709551616=(c i+(m.getD i 0).toNat*2 ^ s)%18446744073709551616:=by rw[<- hq,hVX,adE,<- adt,adY _ (aV w)];obtain⟨R,hR⟩:=bB m (i+1);refine iu (R:=R*2 ^ s) ?_;simp only[X,T];rw[hR,adQ,adw]
  have hrep:List.replicate (m.length - i) (0:Int)=0::List.replicate (m.length - (i+1)) 0:=by rw[show m.length - i=(m.length - (i+1))+1 by omega,ad8]
  have hdl:=ak V (w+i);have ei:Int.toNat ((w:Int)+(i:Int))=w+i:=by omega
  have ei1:Int.toNat ((w:Int)+(i:Int)+1)=w+i+1:=by omega
  have emin:min s 64=s:=by omega
  have e64:min (Int.toNat (IntKind.wrap .u64 (64 - (s:Int)))) 64=64 - s:=by rw[am]; omega
  simp only[eE,adr,ei,ei1,emin,e64];rw[hrep,bR hdl.symm,aX _ _ _ _ _ hdl.symm];have hmx:m.getD i 0=(((m.getD i 0).toNat:Nat):Int):=by omega
  rw[hmx];generalize hxx:(m.getD i 0).toNat=x at *;have hx32:x<18446744073709551616:=by omega
  have hlow:x*2 ^ s%18446744073709551616=2 ^ s*(x%2 ^ (64 - s)):=by
   have e:x*2 ^ s%(2 ^ s*2 ^ (64 - s))=2 ^ s*(x%2 ^ (64 - s)):=by rw[ado x]; exact ae9 _ _ _
   rwa [hs1]at e
  have hsum:2 ^ s*(x%2 ^ (64 - s))+c i<18446744073709551616:=by have h1:x%2 ^ (64 - s)+1<=2 ^ (64 - s):=adA _ (adz _);have h2:=ads (2 ^ s) h1;rw[hs1,adC]at h2;omega
  have epw:(x:Int)*2 ^ s=((x*2 ^ s:Nat):Int):=by rw[adH,aeP]; rfl
  have eor:aA .or .u64 ((c i:Nat):Int) (IntKind.wrap .u64 ((x:Int)*2 ^ s))=((V / 18446744073709551616 ^ (w+i)%18446744073709551616:Nat):Int):=by
   have e1:IntKind.wrap .u64 ((x*2 ^ s:Nat):Int)=((2 ^ s*(x%2 ^ (64 - s)):Nat):Int):=by rw[<- hlow,am]; omega
   rw[epw,e1,cl _ _ s hci hsum,hdig];omega
  have ehi:Int.fdiv (x:Int) (2 ^ (64 - s))=((c (i+1):Nat):Int):=by
   have e2:(2:Int) ^ (64 - s)=((2 ^ (64 - s):Nat):Int):=by rw[aeP]; rfl
   rw[e2,j6,hc1];have:(c i+x*2 ^ s) / 18446744073709551616=x / 2 ^ (64 - s):=by rw[<- hs1,<- adt,ado x,aej _ _ hs0,adS hci,adR]
   rw[this]
  rw[eor,ehi];have hl1:∀(a b:Int) (ys:List Int),(dlq V (w+i)++a::b::ys).length=w+i+2+ys.length:=by intro a b ys; simp[hdl]; omega
  have hset2:(dlq V (w+i)++((V / 18446744073709551616 ^ (w+i)%18446744073709551616:Nat):Int)::0::List.replicate (m.length - (i+1)) 0).set (w+i+1) ((c (i+1):Nat):Int)=dlq V (w+(i+1))++((c (i+1):Nat):Int)::List.replicate (m.length - (i+1)) 0:=by
   have:dlq V (w+i)++((V / 18446744073709551616 ^ (w+i)%18446744073709551616:Nat):Int)::0::List.replicate (m.length - (i+1)) 0=dlq V (w+(i+1))++0::List.replicate (m.length - (i+1)) 0:=by rw[<- ad5,dlq]; simp
   rw[this];exact aX _ _ _ _ _ (by rw[ak]; omega)
  rw[hset2,hl1,hl1];simp only[aeJ];rw[adk (by omega:(i:Int)<((m.length:Nat):Int)),adn,aa adj,aa adi,aa adj,aa (adk (by omega)),aa (adk (by omega)),aa adj,aa (adk (by omega)),aa adi,aa adi,aa (adk (by rw[am]; omega)),aa adj,aa (adk (by omega)),aa adi];rfl
 ·simp only[eE];rw[adl (by omega:¬(m.length:Int)<m.length),adm,adX,ad0];have hV:V<18446744073709551616 ^ (w+m.length+1):=by
   have h1:=im hm;simp only[V];rw[hp2,ady,adE,adN,adw];refine aex ?_ (aV w);have hs2:2 ^ s<=18446744073709551616:=by rw[<- hs1]; exact ael _ (adz _)
   exact ad7 h1 hs2 (by decide)
  have hT:T m.length=X:=by simp only[T,X]; rw[ad6]
  have hend:dlq V (w+m.length)++[((c m.length:Nat):Int)]=dlq V (w+m.length+1):=by
   rw[dlq];have:c m.length=V / 18446744073709551616 ^ (w+m.length)%18446744073709551616:=by
    have hX:V / 18446744073709551616 ^ (w+m.length)=X / 18446744073709551616 ^ m.length:=by rw[hVX,adE,<- adt,adY _ (aV w)]
    have h2:=hcl m.length;have hs2:2 ^ s<=18446744073709551616:=by rw[<- hs1]; exact ael _ (adz _)
    rw[hX,<- hT];exact(adv (by show c m.length<_; omega)).symm
   rw[this]
  rw[hend]
def C2 (n:Nat):dlq n (ae n).length=ae n:=by refine List.ext_getElem (ak n _) (λi h1 h2=>?_);have e1:=qM n h2;have e2:=my i n;rw[List.getD_eq_getElem?_getD,List.getElem?_eq_getElem h1,ad_]at e1;rw[List.getD_eq_getElem?_getD,List.getElem?_eq_getElem h2,ad_]at e2;rw[e1,e2]
def Bv {X L:Nat} (hX:X<18446744073709551616 ^ L):∀ k,dlq X (L+k)=dlq X L++List.replicate k 0
 | 0=>by simp
 | k+1=>by rw[<- ad5,dlq,Bv hX k,adS (adF hX (adB (by decide) (afH _ _))),aeY,adD];rfl
def qO (S:Nat):∀{m n:Nat},n<=m->(dlq S m).take n=dlq S n
 | 0,n,h=>by
  have:n=0:=by omega
  subst this; rfl
 | m+1,n,h=>by
  by_cases e:n=m+1
  ·subst e; rw[adI (by rw[ak]; omega)]
  ·rw[dlq,aeq (by rw[ak]; omega),qO S (by omega)]
def Ay (S a:Nat):∀ c,dlq S (a+c)=dlq S a++dlq (S / 18446744073709551616 ^ a) c
 | 0=>by simp[dlq]
 | c+1=>by rw[<- ad5,dlq,Ay S a c,dlq,adt,<- adE,adD]
def E3 {V m:Nat} (h:V<18446744073709551616 ^ m):bM (dlq V m) m=(ae V).length:=by have h1:=vj (gw V m);rw[ak,om,adv h]at h1;rw[<- h1,ad3,ak];have:=js (dlq V m) m;omega
def R4 {V m:Nat} (h1:18446744073709551616 ^ m<=V) (h2:V<18446744073709551616 ^ (m+1)):(ae V).length=m+1:=by have a:=fM (m+1) V h2;have b:=R3 (V:=V) (w:=m) (by have:=afL h1 (aV m); omega);omega
def th {N:Nat} {m s:Nat} (hm:m ≠ 0) (hs:s<64) (hN:(ae m).length+4<N) (hl:(ae m).length<=1099511627776) (k0:Bool) (k1:Nat->List Int->Bool) :
  D2 N (ae m) (s:Int) k0 k1=k1 (ae (m*2 ^ s)).length (dlq (m*2 ^ s) ((ae m).length+1)):=by
 have hlp:(ae m).length ≠ 0:=by rw[bN hm]; simp
 have hV:m*2 ^ s<18446744073709551616 ^ ((ae m).length+1):=by
  rw[ady];have h2:2 ^ s<18446744073709551616:=by rw[<- mT]; exact Nat.pow_lt_pow_right (by decide) hs
  exact aes (i9 m) h2
 (unfold D2; rw[ac]; unfold JC)
 have e0:((((ae m).length:Nat):Int)==0)=false:=by simp; intro h; rw[h]at hlp; simp at hlp
 have ew:IntKind.wrap .u64 (Int.tdiv (s:Int) 64)=((s / 64:Nat):Int):=by rw[am,aer (by omega)]; omega
 have es:Int.tmod (s:Int) 64=((s%64:Nat):Int):=by rw[aeg (by omega)]; rfl
 have elen:Int.toNat (((s / 64:Nat):Int)+(((ae m).length:Nat):Int)+1)=s / 64+(ae m).length+1:=by omega
 rw[e0,adm,ew,es,aa adi,aa adi,aa adi,aa (cb (by omega) (by omega) (by omega) (by omega)),elen];have:=IP (N:=N) (ae m) (aS m) s (by omega) (by omega) hl (λVY=>va N VY λmr=>k1 mr VY);rw[aB,show s / 64=0 by omega,adR]at this;rw[show s / 64=0 by omega,adR];refine Eq.trans this ?_;rw[yZ _ (by rw[ak]; omega) (by rw[ak]; omega),ak,E3 hV]
def IV (xs:List Int) (k:Nat):au (xs++List.replicate k 0)=au xs:=by rw[l8,xv]; simp
def uP {N:Nat} (hN:1180591620717411303424<=N) {x y:Nat} (hxy:y<=x) (hy2:2<=(ae y).length) (hxl:(ae x).length<=1099511627000) (k:Kz1) :
  zA N (ae x) (ae y) k=k (ae (x / y)) (ae (x%y)):=by
 have hy0:y ≠ 0:=by intro h; rw[h,ba]at hy2; simp at hy2
 have hyx:=di hxy;have hylt:=i9 y;have hxlt:=i9 x;have hylo:18446744073709551616 ^ ((ae y).length - 1)<=y:=by
  rcases aen y (18446744073709551616 ^ ((ae y).length - 1))with h | h
  ·have:=fM _ _ h; omega
  ·exact h
 (unfold zA; rw[ac]; unfold Ki)
 rw[iw x y ⟨by omega,by omega⟩ ⟨by omega,by omega⟩];have hc:decide (dD x y<0)=false:=by unfold dD; rw[if_neg (by omega)]; split <;> rfl
 obtain⟨n,hn⟩:∃ n,(ae y).length=n+2:=⟨(ae y).length - 2,by omega⟩
 obtain⟨lx,hlx⟩:∃ lx,(ae x).length=lx:=⟨_,rfl⟩
 have htd:(ae y).getD (n+1) 0=((y / 18446744073709551616 ^ (n+1):Nat):Int):=by rw[my,adv];rw[adu (aV _),ado,<- ady];rw[hn]at hylt; exact hylt
 rw[hn]at hylt hylo;rw[hlx]at hxlt;rw[show n+2 - 1=n+1 by omega]at hylo;obtain⟨t,ht⟩:∃ t,t=y / 18446744073709551616 ^ (n+1):=⟨_,rfl⟩
 rw[<- ht]at htd;have htl:t<18446744073709551616:=by rw[ht,adu (aV _),ado,<- ady]; exact hylt
 have ht0:t ≠ 0:=by have:=afL hylo (aV (n+1)); omega
 obtain⟨g1,g2,g3⟩:=Hy ht0 htl;have ein:Int.toNat (((n+2:Nat):Int) - 1)=n+1:=by omega
 have e1':(((n+2:Nat):Int)==1)=false:=by simp; omega
 rw[hc,adm,hn,hlx,e1',adm,aa adi,aa adj,ein,htd,Dp N htl];obtain⟨s,hs⟩:∃ s,s=64 - bl t:=⟨_,rfl⟩
 rw[<- hs]at g1 g2 g3 ⊢;have hs0:0<2 ^ s:=adz s;have ews:IntKind.wrap .u64 ((s:Nat):Int)=(s:Int):=by rw[am]; omega
 rw[ews];obtain⟨V,hV⟩:∃ V,V=y*2 ^ s:=⟨_,rfl⟩
 obtain⟨X,hX⟩:∃ X,X=x*2 ^ s:=⟨_,rfl⟩
 have hVlt:V<18446744073709551616 ^ (n+2):=by
  have h1:=afM y (aV (n+1));rw[<- ht]at h1;have h2:y*2 ^ s<18446744073709551616 ^ (n+1)*(t+1)*2 ^ s:=aec h1 hs0;have h3:(t+1)*2 ^ s<=18446744073709551616:=by
   have hd:2 ^ s*2 ^ (64 - s)=18446744073709551616:=by rw[<- adE,show s+(64 - s)=64 by omega]
   have h4:t<2 ^ (64 - s):=by rw[ado]at g3;rw[<- hd]at g3;exact afG g3
   rw[<- hd,ado];exact ads _ h4
  have h5:=ads (18446744073709551616 ^ (n+1)) h3;rw[hV,show n+2=n+1+1 by omega,ady];rw[adw]at h2;omega
 have hVge:18446744073709551616 ^ (n+1)<=V:=by rw[hV]; exact adL hylo (ael _ hs0)
 have hVlen:(ae V).length=n+2:=R4 hVge hVlt;have hV0:0<V:=adF (aV _) hVge;have hx0:x ≠ 0:=by omega
 rw[th hy0 g1 (by omega) (by omega),hn,<- hV,hVlen,th hx0 g1 (by omega) (by omega),hlx,<- hX];have hs2:2 ^ s<=18446744073709551616:=by rw[<- mT]; exact adB (by decide) (by omega)
 have hXlt:X<18446744073709551616 ^ (lx+1):=by rw[hX,ady]; exact ad7 hxlt hs2 (by decide)
 have hXlen1:(ae X).length<=lx+1:=fM _ _ hXlt;have hXlen2:lx<=(ae X).length:=by rw[<- hlx,hX]; exact di (ael _ hs0)
 have etk:(dlq X (lx+1)).take (ae X).length=ae X:=by rw[qO X hXlen1,C2]
 have ebl:(ae X++[0,0]).length=(ae X).length+2:=by simp
 obtain⟨M,hM⟩:∃ M,lx+1=M+(n+2):=⟨lx+1 - (n+2),by omega⟩
 have eu1:Int.toNat ((lx:Int)+1) - 0=lx+1:=by omega
 have eM:(((lx+1:Nat):Int) - ((n+2:Nat):Int))=(M:Int):=by omega
 rw[aeU,etk,ebl,eu1,eM];rw[aa (adk (by rw[ak]; omega)),aa (adk (by omega)),aa adi,aa (adk (by omega)),aa adi,aa (cb (by omega) (by omega) (by omega) (by omega)),aa adi,aa adi,adr];obtain⟨tail,htail⟩:∃ tail,tail=(ae X++[(0:Int),0]).drop (lx+1):=⟨_,rfl⟩
 have htw:InWq tail:=by
  rw[htail];refine InWq.drop (λz hz=>?_) _;rcases List.mem_append.1 hz with h | h
  ·exact aS X z h
  ·simp only[aeL,afp,or_false,or_self]at h; subst h; omega
 have htlen:tail.length<=2:=by rw[htail,aeZ,ebl]; omega
 have hstart:ae X++[(0:Int),0]=dlq X M++(dlq (X / 18446744073709551616 ^ M%V) (n+2)++(List.replicate 0 0++tail)):=by
  have hXM:X / 18446744073709551616 ^ M<V:=by
   rw[adu (aV M),hX,hV];have h1:x*2 ^ s<18446744073709551616 ^ lx*2 ^ s:=aec hxlt hs0;have h2:18446744073709551616 ^ lx=18446744073709551616 ^ (n+1)*18446744073709551616 ^ M:=by rw[<- adE]; congr 1; omega
   have h3:=adp (18446744073709551616 ^ M*2 ^ s) hylo;rw[h2,adw]at h1;have e:y*2 ^ s*18446744073709551616 ^ M=y*(18446744073709551616 ^ M*2 ^ s):=by rw[adw,ado (2 ^ s)]
   rw[e]; omega
  rw[adv hXM,ad0,aeb,<- adD,<- Ay,<- hM];rw[htail];have hpad:(ae X++[(0:Int),0]).take (lx+1)=dlq X (lx+1):=by
   have:ae X++[(0:Int),0]=dlq X ((ae X).length+2):=by rw[Bv (i9 X) 2,C2]; rfl
   rw[this,qO X (by omega)]
  rw[<- hpad,af0]
 rw[hstart];have hQlt:X / V<18446744073709551616 ^ M:=by
  rw[adu hV0];have h1:x*2 ^ s<18446744073709551616 ^ lx*2 ^ s:=aec hxlt hs0;have h2:18446744073709551616 ^ lx=18446744073709551616 ^ M*18446744073709551616 ^ (n+1):=by rw[<- adE]; congr 1; omega
  have h3:=ads (18446744073709551616 ^ M) (adp (2 ^ s) hylo);rw[hX,hV];rw[h2,adw]at h1;omega
 have hmk:M<=1099511627001:=by omega
 refine aE (λi=>((M:Int) - 1 - (i:Int),dlq X (M - i)++(dlq (X / 18446744073709551616 ^ (M - i)%V) (n+2)++(List.replicate i 0++tail)),List.replicate (M - i) (0:Int)++(dlq (X / V) M).drop (M - i))) M ?_ (by omega) (λi hi K=>?_) (λK=>?_)
 ·rw[aft,ad9 (by rw[ak]; omega),adW];congr 1;omega
 ·obtain⟨j,hj⟩:∃ j,M - i=j+1:=⟨M - i - 1,by omega⟩
  have hj2:M - (i+1)=j:=by omega
  have ei:(M:Int) - 1 - (i:Int)=(j:Int):=by omega
  have ei2:(M:Int) - 1 - ((i+1:Nat):Int)=(j:Int) - 1:=by omega
  rw[hj,hj2,ei,ei2];obtain⟨A,hA⟩:∃ A,A=X / 18446744073709551616 ^ j:=⟨_,rfl⟩
  have hA1:X / 18446744073709551616 ^ (j+1)=A / 18446744073709551616:=by rw[hA,ady,adt]
  obtain⟨n1,n2⟩:=Bc (A:=A) hV0;obtain⟨R,hR⟩:∃ R,R=A / 18446744073709551616%V:=⟨_,rfl⟩
  have hRV:R<V:=by rw[hR]; exact adA _ hV0
  rw[hA1,<- hR];rw[<- hR]at n1 n2;obtain⟨b,hb⟩:∃ b,b=dlq X (j+1)++(dlq R (n+2)++(List.replicate i 0++tail)):=⟨_,rfl⟩
  have hblen:b.length=j+1+(n+2)+i+tail.length:=by rw[hb]; simp[ak]; omega
  have hbw:InWq b:=by
   rw[hb];intro z hz;rcases List.mem_append.1 hz with h | h
   ·exact gw _ _ z h
   ·rcases List.mem_append.1 h with h | h
    ·exact gw _ _ z h
    ·rcases List.mem_append.1 h with h | h
     ·have:=(List.mem_replicate.1 h).2; subst this; omega
     ·exact htw z h
  have hbt:b.take j=dlq X j:=by rw[hb,aeq (by rw[ak]; omega),qO X (by omega)]
  have hbd:b.drop j=((A%18446744073709551616:Nat):Int)::(dlq R (n+2)++(List.replicate i 0++tail)):=by rw[hb,dlq,adD,aep (by rw[ak]; omega),ad9 (by rw[ak]; omega),aeb,hA];rfl
  have hwv:au ((b.drop j).take (n+2+1))=R*18446744073709551616+A%18446744073709551616:=by rw[hbd,agc,aeq (by rw[ak]; omega),adI (by rw[ak]; omega),au,om,adv (ae_ hRV hVlt),adr];omega
  have hbd2:b.drop (j+(n+2+1))=List.replicate i 0++tail:=by rw[<- List.drop_drop,hbd,List.drop_succ_cons,aep (by rw[ak]; omega),ad9 (by rw[ak]; omega),aeb]
  have hcv:au ((dlq V (n+2+1)).take (n+2))=V:=by rw[qO V (by omega),om,adv hVlt]
  have hctop:0<((dlq V (n+2+1)).getD (n+2 - 1) 0).toNat:=by
   rw[qM V (by omega),adr,show n+2 - 1=n+1 by omega,adv]
   ·exact afL hVge (aV _)
   ·rw[adu (aV _),ado,<- ady]; exact hVlt
  have hAm:A%18446744073709551616<18446744073709551616:=adA _ (by decide);have hstep:=λkk=>LM hN (o:=j) (n:=n+2) (b:=b) (c:=dlq V (n+2+1)) (by omega) hbw (gw _ _) (by rw[ak]; omega) (by omega) (by omega) hctop (by rw[hwv,hcv];have:=adp 18446744073709551616 hRV;rw[aeV]at this;omega) kk
  rw[hwv,hcv,n1,n2,hbt,hbd2]at hstep;have hnext:dlq X j++(dlq (A%V) (n+2+1)++(List.replicate i 0++tail))=dlq X j++(dlq (A%V) (n+2)++(List.replicate (i+1) 0++tail)):=by rw[Bv (ae_ (adA A hV0) hVlt) 1,adD,ad8];rfl
  have hdg:X / V / 18446744073709551616 ^ j%18446744073709551616=A / V%18446744073709551616:=by rw[hA,adt,adt,ado V]
  have ej:0+Int.toNat (j:Int)=j:=by omega
  have ej2:Int.toNat ((j:Int)+((n+2:Nat):Int)+1) - Int.toNat (j:Int)=n+2+1:=by omega
  rw[<- hb];simp only[zI,ej,ej2];rw[adk (by omega:(j:Int)>=0),adn,aa adi,aa adi,aa (adk (by omega))];rw[hstep];have hql:(List.replicate (j+1) (0:Int)++(dlq (X / V) M).drop (j+1)).length=M:=by simp[ak]; omega
  rw[hql,aa adj,aa (adk (by omega)),aa adi,adr,<- hdg,Hb _ _ _ (by omega),hnext,<- hA]
 ·simp only[zI];have e0:(M:Int) - 1 - (M:Int) = -1:=by omega
  rw[e0,adl (by omega),adm,adX,afh,afd,ad0,aeb,aeU];obtain⟨L,hL⟩:∃ L,L=dlq X 0++(dlq (X%V) (n+2)++(List.replicate M 0++tail)):=⟨_,rfl⟩
  have hRlt:X%V<18446744073709551616 ^ (n+2):=ae_ (adA _ hV0) hVlt;have hLt:L.take (lx+1)=dlq (X%V) (n+2)++List.replicate M 0:=by rw[hL,hM,show dlq X 0=[] from rfl,aeb,<- adD,aeq (by simp[ak]; omega),adI (by simp[ak]; omega)]
  have hLw:InWq L:=by
   rw[hL];intro z hz;rcases List.mem_append.1 hz with h | h
   ·cases h
   ·rcases List.mem_append.1 h with h | h
    ·exact gw _ _ z h
    ·rcases List.mem_append.1 h with h | h
     ·have:=(List.mem_replicate.1 h).2; subst this; omega
     ·exact htw z h
  have hLlen:lx+1<=L.length:=by rw[hL]; simp[ak]; omega
  rw[<- hL];unfold Kn;rw[FC L (lx+1) hLlen (by omega) (by omega)];have hcl:=js L (lx+1);obtain⟨lost,hlost⟩:=DE (N:=N) L hLw (bM L (lx+1)) s (by omega) g1 (by omega) (by omega);rw[hlost,oU,hLt,IV,om,adv hRlt];have:=jY (N:=N) (dlq (X / V) M) (gw _ _) (by rw[ak]; omega) (by rw[ak]; omega) (λz=>k z (ae (X%V / 2 ^ s)));rw[this,lh hQlt,hX,hV,af1 _ _ hs0,af2,ae6 _ hs0]
def jZ {N:Nat} (hN:1180591620717411303424<=N) {x y:Nat} (hy:0<y) (hxl:(ae x).length<=1099511627000) (hyl:(ae y).length<=1099511627000) (k:Kz1) :
  zA N (ae x) (ae y) k=k (ae (x / y)) (ae (x%y)):=by
 by_cases hxy:y<=x
 ·by_cases h2:2<=(ae y).length
  ·exact uP hN hxy h2 hxl k
  ·have hylt:=i9 y;have hl1:(ae y).length=1:=by rw[bN (by omega)]at h2 ⊢; simp at h2 ⊢; exact h2
   rw[hl1,agn]at hylt;have hd:=oY (by omega:y ≠ 0) hylt;have hc:decide (dD x y<0)=false:=by unfold dD; rw[if_neg (by omega)]; split <;> rfl
   (unfold zA; rw[ac]; unfold Ki)
   rw[iw x y ⟨by omega,by omega⟩ ⟨by omega,by omega⟩,hc,adm,hd];show cond (((1:Nat):Int)==1) _ _=_;rw[show(((1:Nat):Int)==1)=true from rfl,adn,aa (af (by omega) (by simp))];show nC N (ae x) (y:Int) _=_;have hm:x%y<18446744073709551616:=ae_ (adA _ hy) hylt;rw[IJ (by omega) hy hylt ⟨by omega,by omega⟩,sk (by omega) _ hm]
 ·have hc:decide (dD x y<0)=true:=by unfold dD; rw[if_pos (by omega)]; rfl
  (unfold zA; rw[ac]; unfold Ki)
  rw[iw x y ⟨by omega,by omega⟩ ⟨by omega,by omega⟩,hc,adn,vO _ (by omega),adS (by omega),adv (by omega),ba]
def xn:∀ n,n ≠ 0->bl n=64*((ae n).length - 1)+bl ((ae n).getD ((ae n).length - 1) 0).toNat/\0<(ae n).length:=by
 intro n;induction n using Nat.strongRecOn with
 | ind n ih=>
  intro h;rw[bN h];by_cases h1:n / 18446744073709551616=0
  ·rw[h1,ba];have:n%18446744073709551616=n:=adv (by omega);simp[this]
  ·obtain⟨i1,i2⟩:=ih (n / 18446744073709551616) (by omega) h1;have e:=k9 (n:=n) 64 (by rw[mT]; omega);rw[mT]at e;refine⟨?_,by simp⟩;have e2:(((n%18446744073709551616:Nat):Int)::ae (n / 18446744073709551616)).getD ((((n%18446744073709551616:Nat):Int)::ae (n / 18446744073709551616)).length - 1) 0=(ae (n / 18446744073709551616)).getD ((ae (n / 18446744073709551616)).length - 1) 0:=by
    simp only[adZ,afO];generalize ae (n / 18446744073709551616)=l at i2 ⊢;cases l with
    | nil=>simp at i2
    | cons y l=>simp
   rw[e2,e,i1];simp only[adZ];omega
def Dt {N:Nat} {n:Nat} (hs:(ae n).length<=1099511627776) (k:Kz3):pz N (ae n) k=k (bl n:Int):=by
 (unfold pz; rw[ac]; unfold oF)
 by_cases h:n=0
 ·subst h; rw[ba]; rfl
 ·obtain⟨e1,e2⟩:=xn n h;have e0:(((ae n).length:Int)==0)=false:=by simp; intro h'; rw[h']at e2; simp at e2
  have e3:Int.toNat (((ae n).length:Int) - 1)=(ae n).length - 1:=by omega
  have hw:=(aS n).at (i:=(ae n).length - 1);have e4:(ae n).getD ((ae n).length - 1) 0=((((ae n).getD ((ae n).length - 1) 0).toNat:Nat):Int):=by omega
  have hb:=uA (n:=((ae n).getD ((ae n).length - 1) 0).toNat) (j:=64) (by rw[mT]; omega);rw[e0,adm,aa adi,aa adi,aa adi,aa adj,e3,e4,yR N (by omega),aa adi,e1];congr 1;omega
def GU {N:Nat} {x f:Nat} (hf:f<140737488355328) (k:Kz3):sJ N (ae x) (f:Int) k=k ((x / 2 ^ f%18446744073709551616:Nat):Int):=by
 (unfold sJ; rw[ac]; unfold vn)
 have e1:Int.tdiv (f:Int) 64=((f / 64:Nat):Int):=by rw[aer (by omega)]; rfl
 have e2:IntKind.wrap .u64 (Int.tmod (f:Int) 64)=((f%64:Nat):Int):=by rw[am,aeg (by omega)]; omega
 have e3:min (f%64) 64=f%64:=by omega
 have e4:min (Int.toNat (IntKind.wrap .u64 (64 - ((f%64:Nat):Int)))) 64=64 - f%64:=by rw[am]; omega
 have e5:((f / 64:Nat):Int)+1=((f / 64+1:Nat):Int):=by omega
 have hx:=(aS x).at (i:=f / 64);have hy:=(aS x).at (i:=f / 64+1);have ex:(ae x).getD (f / 64) 0=((((ae x).getD (f / 64) 0).toNat:Nat):Int):=by omega
 have ey:(ae x).getD (f / 64+1) 0=((((ae x).getD (f / 64+1) 0).toNat:Nat):Int):=by omega
 rw[e1,e2,e5,aa adi,mi N _ (f / 64) (by omega),aa (adk (by omega)),aa adi,mi N _ (f / 64+1) (by omega),aa (adk (by rw[am]; omega)),adr,e3,e4,ex,ey,Be (by omega) (by omega) (by omega)];obtain⟨R,hR⟩:=yn (aS x) (f / 64);rw[aB]at hR;have hp:2 ^ f=18446744073709551616 ^ (f / 64)*2 ^ (f%64):=BX f;have hs0:0<2 ^ (f%64):=adz _;rw[hp,<- adt,hR];have e6:18446744073709551616*18446744073709551616*R=2 ^ (f%64)*(18446744073709551616*(2 ^ (64 - f%64)*R)):=by
  have hs1:2 ^ (f%64)*2 ^ (64 - f%64)=18446744073709551616:=by rw[<- adE,show f%64+(64 - f%64)=64 by omega]
  rw[adN (2 ^ (f%64)),<- adw (2 ^ (f%64)),hs1,adw]
 rw[e6,aej _ _ hs0,aeF]
def DA {N:Nat} {x d e:Nat} (hd:d<18446744073709551616) (he:e<18446744073709551616) (hs:kA N (ae x)) (k:Kz7):tm N (ae x) (d:Int) (e:Int) k=k (ae (x*d+e)):=by
 (unfold tm; rw[ac]; unfold J6)
 obtain⟨s1,s2⟩:=hs;obtain⟨L,hL⟩:∃ L,(ae x).length=L:=⟨_,rfl⟩
 have hx:=i9 x;rw[hL]at hx;have eL:Int.toNat ((L:Int)+1)=L+1:=by omega
 rw[hL,aa adi,aa (cb (by omega) (by omega) (by omega) (by omega)),eL];obtain⟨m,hm⟩:∃ m,m=ae x:=⟨_,rfl⟩
 have hmw:InWq m:=by rw[hm]; exact aS x
 have hmv:au m=x:=by rw[hm]; exact aB x
 have hml:m.length=L:=by rw[hm]; exact hL
 rw[<- hm];obtain⟨S,hS⟩:∃ S,S=x*d+e:=⟨_,rfl⟩
 rw[<- hS];refine aE (λi=>((((au (m.take i)*d+e) / 18446744073709551616 ^ i:Nat):Int),(i:Int),dlq S i++List.replicate (L+1 - i) 0)) L (by simp[au,dlq]) (by omega) (λi hi K=>?_) (λK=>?_)
 ·have hz:=hmw.at (i:=i);have hp:=aV i;have hXi:=aO hmw i;have hcv:=aJ (m:=m) i;obtain⟨cy,hcy⟩:∃ cy,cy=(au (m.take i)*d+e) / 18446744073709551616 ^ i:=⟨_,rfl⟩
  have e1:au (m.take (i+1))*d+e=(au (m.take i)*d+e)+18446744073709551616 ^ i*((m.getD i 0).toNat*d):=by rw[hcv,adQ,adw]; omega
  have hcyl:cy<18446744073709551616:=by
   rw[hcy,adu hp];have:=aee (afE hXi) (afE hd);have h1:1<=18446744073709551616 ^ i:=hp;have h2:(18446744073709551616 ^ i - 1)*(18446744073709551616 - 1)+18446744073709551615=18446744073709551616 ^ i*18446744073709551615:=by
    obtain⟨P,hP⟩:∃ P,18446744073709551616 ^ i=P+1:=⟨18446744073709551616 ^ i - 1,by omega⟩
    rw[hP]; omega
   omega
  have ecy:(au (m.take (i+1))*d+e) / 18446744073709551616 ^ (i+1)=((m.getD i 0).toNat*d+0+cy) / 18446744073709551616:=by rw[ady,<- adt,e1,cM,<- hcy];congr 1; omega
  obtain⟨R,hR⟩:=bB m (i+1);have elo:S / 18446744073709551616 ^ i%18446744073709551616=((m.getD i 0).toNat*d+0+cy)%18446744073709551616:=by
   have:S=(au (m.take (i+1))*d+e)+18446744073709551616 ^ (i+1)*(R*d):=by rw[hS,<- hmv,hR,adQ,adw]; omega
   rw[iu this,e1,cM,<- hcy];congr 1; omega
  have hset:=rZ S i (L+1) (by omega);have hl:(dlq S i++List.replicate (L+1 - i) (0:Int)).length=L+1:=by simp[ak]; omega
  simp only[kZ,adr];rw[adk (by omega:(i:Int)<(L:Int)),adn,hml,aa adj,<- hcy,yX N (c:=0) (a:=(m.getD i 0).toNat) (b:=d) (e:=0) (f:=cy) (by omega) rfl rfl rfl (by omega) hd (by omega) hcyl,hl,aa adj,aa (adk (by omega)),aa adi,<- elo,<- ecy,hset,j7]
 ·simp only[kZ];have hl:(dlq S L++List.replicate (L+1 - L) (0:Int)).length=L+1:=by simp[ak]
  have hSl:S<18446744073709551616 ^ (L+1):=by
   rw[hS,ady];have h1:=aee (afE hx) (afE hd);obtain⟨P,hP⟩:∃ P,18446744073709551616 ^ L=P+1:=⟨18446744073709551616 ^ L - 1,by have:=aV L; omega⟩
   rw[hP]at h1 ⊢;omega
  have ee:(au (m.take L)*d+e) / 18446744073709551616 ^ L=S / 18446744073709551616 ^ L%18446744073709551616:=by rw[adI (by omega),hmv,<- hS,adv];rw[adu (aV L),ado,<- ady]; exact hSl
  rw[adl (by omega:¬(L:Int)<(L:Int)),adm,hl,ee,adr,rZ S L (L+1) (by omega),aa adj,aa (adk (by omega)),adX,ad0,adW,jY _ (gw _ _) (by rw[ak]; omega) (by rw[ak]; omega),lh hSl]
def xT (x0 y0 a b c d:Nat) (odd:Bool):Prop:=
 ∃ p q,x0=d*p+b*q/\y0=c*p+a*q/\(cond odd (b*c=a*d+1) (a*d=b*c+1))/\a<=b/\c<=d/\d<=q/\q+b+d<=p/\1<=b/\1<=c/\b<18446744073709551616/\d<18446744073709551616
def Gf {N:Nat} {x0 y0:Nat} (hx0:x0<18446744073709551616) (hy0:y0<18446744073709551616) (t1 t2 t3 t4:Int) (t5:Bool) :
  ∀ y x u v a b c d odd M,y<M->y<=x->x0=v*x+d*y->y0=u*x+c*y->(cond odd (c*v=d*u+1) (d*u=c*v+1))->1<=v ->
   ((d=0/\u=0/\b=0/\c=1/\v=1)\/(1<=u/\c<=d/\u<=v/\(b=0\/xT x0 y0 a b c d odd))) ->
   ∃ a' b' c' d':Nat,∃ odd',(b'=0\/xT x0 y0 a' b' c' d' odd') /\ ∀ e0,ai M (mZ N t1 t2 t3 t4 t5 e0) ((x:Int),(y:Int),(u:Int),(v:Int),(a:Int),(b:Int),(c:Int),(d:Int),odd)=e0 (a':Int) (b':Int) (c':Int) (d':Int) odd':=by
 intro y;induction y using Nat.strongRecOn with
 | ind y ih=>
 intro x u v a b c d odd M hM hyx h1 h2 hdet hv hor;obtain⟨M,rfl⟩:∃ m,M=m+1:=⟨M - 1,by omega⟩
 have hend:b=0\/xT x0 y0 a b c d odd:=by
  rcases hor with h | h
  ·exact .inl h.2.2.1
  ·exact h.2.2.2
 by_cases c1:v<=y
 ·have hy1:1<=y:=by omega
  have b1:v*1<=v*x:=ads _ (by omega);have b2:d*1<=d*y:=ads _ hy1;have w1:IntKind.wrap .u64 ((x:Int) - (y:Int))=((x - y:Nat):Int):=by have:1*x<=v*x:=adp _ hv;rw[am]; omega
  have w2:IntKind.wrap .u64 ((d:Int)+(v:Int))=((d+v:Nat):Int):=by rw[am]; omega
  by_cases c2:d+v<=x - y
  ·-- one step more
   obtain⟨q,hq⟩:∃ q,q=x / y:=⟨_,rfl⟩
   obtain⟨r,hr⟩:∃ r,r=x%y:=⟨_,rfl⟩
   have hxq:x=q*y+r:=by rw[hq,hr]; exact(aek x y).symm
   have hry:r<y:=by rw[hr]; exact adA _ hy1
   have hq1:1<=q:=by rw[hq]; exact afL hyx hy1
   have n1:x0=(d+q*v)*y+v*r:=by rw[h1,hxq]; grind
   have n2:y0=(c+q*u)*y+u*r:=by rw[h2,hxq]; grind
   have m1:(d+q*v)*1<=(d+q*v)*y:=ads _ hy1;have m2:(c+q*u)*1<=(c+q*u)*y:=ads _ hy1;have hvq:v<=d+q*v:=by have:=adp v hq1;omega
   have hg:∀(e0:Int->Int->Int->Int->Bool->Bool),ai (M+1) (mZ N t1 t2 t3 t4 t5 e0) ((x:Int),(y:Int),(u:Int),(v:Int),(a:Int),(b:Int),(c:Int),(d:Int),odd)=ai M (mZ N t1 t2 t3 t4 t5 e0) ((y:Int),(r:Int),((c+q*u:Nat):Int),((d+q*v:Nat):Int),(c:Int),(d:Int),(u:Int),(v:Int),!odd):=by
    intro e0;show mZ N t1 t2 t3 t4 t5 e0 _ (ai M _)=_;simp only[mZ];have y1:(!decide ((y:Int)=0))=true:=by simp; omega
    have ediv:Int.tdiv (x:Int) (y:Int)=(q:Int):=by rw[hq]; rfl
    have emod:Int.tmod (x:Int) (y:Int)=(r:Int):=by rw[hr]; rfl
    have wq:IntKind.wrap .u64 (q:Int)=(q:Int):=by have:q*1<=q*v:=ads _ hv;rw[am]; omega
    have wu:IntKind.wrap .u64 ((c:Int)+IntKind.wrap .u64 ((q:Int)*(u:Int)))=((c+q*u:Nat):Int):=by rw[<- adH,am,am]; omega
    have wv:IntKind.wrap .u64 ((d:Int)+IntKind.wrap .u64 ((q:Int)*(v:Int)))=((d+q*v:Nat):Int):=by rw[<- adH,am,am]; omega
    rw[adk (by omega:(y:Int)>=v),show(true==true)=true from rfl,adn,w1,w2,adk (by omega),adn,aa y1,aa y1,ediv,emod,wq,wu,wv]
   have hstep:=ih r hry y (c+q*u) (d+q*v) c d u v (!odd) M (by omega) (by omega) n1 n2 (by
    cases odd with
    | true=>
     simp only[adn,aef,adm]at hdet ⊢;have:v*(c+q*u)=v*c+q*u*v:=by grind
     have:u*(d+q*v)=u*d+q*u*v:=by grind
     have:c*v=v*c:=ado _ _;have:d*u=u*d:=ado _ _;omega
    | false=>
     simp only[adn,ad4,adm]at hdet ⊢;have:u*(d+q*v)=u*d+q*u*v:=by grind
     have:v*(c+q*u)=v*c+q*u*v:=by grind
     have:c*v=v*c:=ado _ _;have:d*u=u*d:=ado _ _;omega) (by omega) (by
    refine .inr ?_;rcases hor with⟨k1,k2,k3,k4,k5⟩ | ⟨k1,k2,k3,k4⟩
    ·subst k1 k2 k4 k5;exact⟨by omega,by omega,by omega,.inl rfl⟩
    ·have hu1:u<=c+q*u:=by have:=adp u hq1;omega
     refine⟨by omega,k3,?_,?_⟩
     ·have:=ads q k3;omega
     ·rcases aeI d with hd0 | hd0
      ·exact .inl hd0
      ·refine .inr ⟨x,y,h1,h2,?_,k2,k3,c1,by omega,hd0,k1,by omega,by omega⟩;cases odd with
       | true=>simp only[aef,adm,adn]at hdet ⊢; exact hdet
       | false=>simp only[ad4,adn,adm]at hdet ⊢; exact hdet)
   obtain⟨a',b',c',d',odd',g1,g2⟩:=hstep;exact⟨a',b',c',d',odd',g1,λe0=>by rw[hg,g2]⟩
  ·refine⟨a,b,c,d,odd,hend,λe0=>?_⟩;show mZ N t1 t2 t3 t4 t5 e0 _ (ai M _)=_;simp only[mZ];rw[adk (by omega:(y:Int)>=v),show(true==true)=true from rfl,adn,w1,w2,adl (by omega),adm]
 ·refine⟨a,b,c,d,odd,hend,λe0=>?_⟩;show mZ N t1 t2 t3 t4 t5 e0 _ (ai M _)=_;simp only[mZ];rw[adl (by omega:¬(y:Int)>=v),show(false==true)=false from rfl,adm]
def IL {N:Nat} (hN:1180591620717411303424<=N) {x0 y0:Nat} (hx0:x0<18446744073709551616) (hyx:y0<=x0):∃ a b c d:Nat,∃ odd,(b=0\/xT x0 y0 a b c d odd) /\ ∀ k,rj N (x0:Int) (y0:Int) k=k (a:Int) (b:Int) (c:Int) (d:Int) odd:=by obtain⟨a,b,c,d,odd,h1,h2⟩:=Gf (N:=N) (x0:=x0) (y0:=y0) hx0 (by omega) 0 0 0 0 false y0 x0 0 1 0 0 1 0 true N (by omega) hyx (by omega) (by omega) rfl (adx _) (.inl ⟨rfl,rfl,rfl,rfl,rfl⟩);exact⟨a,b,c,d,odd,h1,λk=>by unfold rj; rw[ac]; exact h2 _⟩
def HO {x0 y0 a b c d F rx ry X Y:Nat} (h:xT x0 y0 a b c d true) (hrx:rx<F) (hry:ry<F) (hX:X=x0*F+rx) (hY:Y=y0*F+ry) :
  a*X<=b*Y/\d*Y<=c*X/\c*X - d*Y<=b*Y - a*X/\X=d*(b*Y - a*X)+b*(c*X - d*Y)/\Y=c*(b*Y - a*X)+a*(c*X - d*Y):=by
 obtain⟨p,q,h1,h2,hdet,hab,hcd,hdq,hpq,hb1,hc1,hbl,hdl⟩:=h;simp only[adn]at hdet;have e1:b*Y+a*rx=a*X+(p*F+b*ry):=by
  subst h1 h2 hX hY;have:b*(c*p*F)=(a*d+1)*(p*F):=by rw[<- hdet]; grind
  grind
 have e2:c*X+d*ry=d*Y+(q*F+c*rx):=by
  subst h1 h2 hX hY;have:b*c*(q*F)=(a*d+1)*(q*F):=by rw[<- hdet]
  grind
 have m1:a*rx<=a*F:=ads _ (by omega);have m2:a*F<=b*F:=adp _ hab;have m3:d*ry<=d*F:=ads _ (by omega);have m4:d*F<=q*F:=adp _ hdq;have m5:(q+b+d)*F<=p*F:=adp _ hpq;rw[adQ,adQ]at m5;have m6:c*rx<=c*F:=ads _ (by omega);have m7:c*F<=d*F:=adp _ hcd;have g1:a*X<=b*Y:=by omega
 have g2:d*Y<=c*X:=by omega
 refine⟨g1,g2,by omega,?_,?_⟩
 ·obtain⟨U,hU⟩:=ae3 g1;obtain⟨V,hV⟩:=ae3 g2;rw[<- hU,<- hV,ad2,ad2];have t1:d*(b*Y)=d*(a*X)+d*U:=by rw[<- hU,adC]
  have t2:b*(c*X)=b*(d*Y)+b*V:=by rw[<- hV,adC]
  have t3:b*(c*X)=(a*d+1)*X:=by rw[<- hdet,adw]
  have t4:(a*d+1)*X=d*(a*X)+X:=by grind
  have t5:d*(b*Y)=b*(d*Y):=by grind
  omega
 ·obtain⟨U,hU⟩:=ae3 g1;obtain⟨V,hV⟩:=ae3 g2;rw[<- hU,<- hV,ad2,ad2];have t1:c*(b*Y)=c*(a*X)+c*U:=by rw[<- hU,adC]
  have t2:a*(c*X)=a*(d*Y)+a*V:=by rw[<- hV,adC]
  have t3:c*(b*Y)=(a*d+1)*Y:=by rw[<- hdet]; grind
  have t4:(a*d+1)*Y=a*(d*Y)+Y:=by grind
  have t5:c*(a*X)=a*(c*X):=by grind
  omega
def EQ {x0 y0 a b c d F rx ry X Y:Nat} (h:xT x0 y0 a b c d false) (hrx:rx<F) (hry:ry<F) (hX:X=x0*F+rx) (hY:Y=y0*F+ry) :
  b*Y<=a*X/\c*X<=d*Y/\d*Y - c*X<=a*X - b*Y/\X=d*(a*X - b*Y)+b*(d*Y - c*X)/\Y=c*(a*X - b*Y)+a*(d*Y - c*X):=by
 obtain⟨p,q,h1,h2,hdet,hab,hcd,hdq,hpq,hb1,hc1,hbl,hdl⟩:=h;simp only[adm]at hdet;have e1:a*X+b*ry=b*Y+(p*F+a*rx):=by
  subst h1 h2 hX hY;have:a*d*(p*F)=(b*c+1)*(p*F):=by rw[<- hdet]
  grind
 have e2:d*Y+c*rx=c*X+(q*F+d*ry):=by
  subst h1 h2 hX hY;have:a*d*(q*F)=(b*c+1)*(q*F):=by rw[<- hdet]
  grind
 have m1:b*ry<=b*F:=ads _ (by omega);have m3:c*rx<=c*F:=ads _ (by omega);have m4:d*F<=q*F:=adp _ hdq;have m5:(q+b+d)*F<=p*F:=adp _ hpq;rw[adQ,adQ]at m5;have m6:d*ry<=d*F:=ads _ (by omega);have m7:c*F<=d*F:=adp _ hcd;have g1:b*Y<=a*X:=by omega
 have g2:c*X<=d*Y:=by omega
 refine⟨g1,g2,by omega,?_,?_⟩
 ·obtain⟨U,hU⟩:=ae3 g1;obtain⟨V,hV⟩:=ae3 g2;rw[<- hU,<- hV,ad2,ad2];have t1:d*(a*X)=d*(b*Y)+d*U:=by rw[<- hU,adC]
  have t2:b*(d*Y)=b*(c*X)+b*V:=by rw[<- hV,adC]
  have t3:d*(a*X)=(b*c+1)*X:=by rw[<- hdet]; grind
  have t4:(b*c+1)*X=b*(c*X)+X:=by grind
  have t5:d*(b*Y)=b*(d*Y):=by grind
  omega
 ·obtain⟨U,hU⟩:=ae3 g1;obtain⟨V,hV⟩:=ae3 g2;rw[<- hU,<- hV,ad2,ad2];have t1:c*(a*X)=c*(b*Y)+c*U:=by rw[<- hU,adC]
  have t2:a*(d*Y)=a*(c*X)+a*V:=by rw[<- hV,adC]
  have t3:a*(d*Y)=(b*c+1)*Y:=by rw[<- hdet]; grind
  have t4:(b*c+1)*Y=c*(b*Y)+Y:=by grind
  have t5:c*(a*X)=a*(c*X):=by grind
  omega
def uH {X Y U V a b c d:Nat} (h1:X=d*U+b*V) (h2:Y=c*U+a*V) (hU:Nat.gcd X Y∣U) (hV:Nat.gcd X Y∣V):Nat.gcd U V=Nat.gcd X Y:=by
 refine Nat.dvd_antisymm (Nat.dvd_gcd ?_ ?_) (Nat.dvd_gcd hU hV)
 ·rw[h1];exact Nat.dvd_add (adK (aed _ _) _) (adK (aeA _ _) _)
 ·rw[h2];exact Nat.dvd_add (adK (aed _ _) _) (adK (aeA _ _) _)
def Is {N:Nat} {x0 y0 a b c d F rx ry X Y:Nat} {odd:Bool} (h:xT x0 y0 a b c d odd) (hrx:rx<F) (hry:ry<F) (hX:X=x0*F+rx) (hY:Y=y0*F+ry) (hY0:0<Y) (sX:(ae X).length+10<N/\(ae X).length<=1099511627000) (sY:(ae Y).length+10<N/\(ae Y).length<=1099511627000) :
  ∃ U V,V<=U/\U+V<X+Y/\U<=X/\Nat.gcd U V=Nat.gcd X Y /\ ∀ k,eA N (a:Int) (b:Int) (c:Int) (d:Int) odd (ae X) (ae Y) k=k (ae U) (ae V):=by
 have hb:=h;obtain⟨p,q,h1,h2,hdet,hab,hcd,hdq,hpq,hb1,hc1,hbl,hdl⟩:=hb;have len1:∀ z e:Nat,(ae z).length+10<N/\(ae z).length<=1099511627000->e<18446744073709551616->kA N (ae (z*e+0)):=by
  intro z e hz he;have:=fM ((ae z).length+1) (z*e+0) (by rw[adU,ady]; exact aes (i9 z) he)
  exact⟨by omega,by omega⟩
 have fin:∀ U V:Nat,X=d*U+b*V->Y=c*U+a*V->V<=U->U+V<X+Y/\U<=X:=by
  intro U V hx hy hvu;have k1:1*U<=d*U:=adp _ (by omega);have k2:1*V<=b*V:=adp _ hb1;have k3:1*U<=c*U:=adp _ hc1;have hU0:0<U:=by
   rcases aeI U with hu | hu
   ·exfalso;have hv:V=0:=by omega
    rw[hu,hv,aeK,aeK]at hy;omega
   ·exact hu
  exact⟨by omega,by omega⟩
 cases odd with
 | true=>
  obtain⟨g1,g2,g3,g4,g5⟩:=HO h hrx hry hX hY;obtain⟨f1,f2⟩:=fin _ _ g4 g5 g3;refine⟨b*Y - a*X,c*X - d*Y,g3,f1,f2,uH g4 g5 ?_ ?_,λk=>?_⟩
  ·exact afN (adK (aeA _ _) _) (adK (aed _ _) _)
  ·exact afN (adK (aed _ _) _) (adK (aeA _ _) _)
  ·(unfold eA; rw[ac]; unfold dW)
   have m:=λ(z e:Nat) (he:e<18446744073709551616) (hz:kA N (ae z)) (kk:List Int->Bool)=>DA (N:=N) (e:=0) he (by decide) hz kk
   rw[show((0:Nat):Int)=0 from rfl]at m;rw[adn,m Y b hbl ⟨by omega,by omega⟩,m X a (by omega) ⟨by omega,by omega⟩,mh _ _ (aS _) (aS _) (by rw[aB,aB,adU,adU,ado X,ado Y]; exact g1) (len1 Y b sY hbl),m X c (by omega) ⟨by omega,by omega⟩,m Y d hdl ⟨by omega,by omega⟩,mh _ _ (aS _) (aS _) (by rw[aB,aB,adU,adU,ado X,ado Y]; exact g2) (len1 X c sX (by omega)),aB,aB,aB,aB,adU,adU,adU,adU,ado Y b,ado X a,ado X c,ado Y d]
 | false=>
  obtain⟨g1,g2,g3,g4,g5⟩:=EQ h hrx hry hX hY;obtain⟨f1,f2⟩:=fin _ _ g4 g5 g3;refine⟨a*X - b*Y,d*Y - c*X,g3,f1,f2,uH g4 g5 ?_ ?_,λk=>?_⟩
  ·exact afN (adK (aed _ _) _) (adK (aeA _ _) _)
  ·exact afN (adK (aeA _ _) _) (adK (aed _ _) _)
  ·(unfold eA; rw[ac]; unfold dW)
   have m:=λ(z e:Nat) (he:e<18446744073709551616) (hz:kA N (ae z)) (kk:List Int->Bool)=>DA (N:=N) (e:=0) he (by decide) hz kk
   rw[show((0:Nat):Int)=0 from rfl]at m;rw[adm,m X a (by omega) ⟨by omega,by omega⟩,m Y b hbl ⟨by omega,by omega⟩,mh _ _ (aS _) (aS _) (by rw[aB,aB,adU,adU,ado X,ado Y]; exact g1) (len1 X a sX (by omega)),m Y d hdl ⟨by omega,by omega⟩,m X c (by omega) ⟨by omega,by omega⟩,mh _ _ (aS _) (aS _) (by rw[aB,aB,adU,adU,ado X,ado Y]; exact g2) (len1 Y d sY hdl),aB,aB,aB,aB,adU,adU,adU,adU,ado Y b,ado X a,ado X c,ado Y d]
def GS (N x:Nat) (k:Kz3):sI N (ae x) k=k ((x%18446744073709551616:Nat):Int):=by unfold sI Am;have:=mi N (ae x) 0 (by omega) k;rw[show((0:Nat):Int)=0 from rfl]at this;rw[this,my,afh,afd]
def C8 {N:Nat} (e0:Int->Bool):∀(b a M:Nat),b<M->ai M (fz N e0) ((a:Int),(b:Int))=e0 ((Nat.gcd a b:Nat):Int):=by
 intro b;induction b using Nat.strongRecOn with
 | ind b ih=>
 intro a M hM;obtain⟨M,rfl⟩:∃ m,M=m+1:=⟨M - 1,by omega⟩
 show fz N e0 ((a:Int),(b:Int)) (ai M _)=_;simp only[fz];by_cases h:b=0
 ·subst h;rw[adl (by omega),adm,afS]
 ·have y1:(!decide ((b:Int)=0))=true:=by simp; omega
  have emod:Int.tmod (a:Int) (b:Int)=((a%b:Nat):Int):=rfl;rw[adk (by omega),adn,aa y1,emod,ih (a%b) (adA _ (by omega)) b M (by have:=adA a (by omega:b>0); omega),aeE b,<- ago,aeE]
def tT {y:Nat} (h:(ae y).length<=1):y<18446744073709551616:=by have:=i9 y;have h2:18446744073709551616 ^ (ae y).length<=18446744073709551616 ^ 1:=adB (by decide) h;rw[agn]at h2;omega
def ym {N:Nat} (hN:1180591620717411303424<=N) {u v:List Int} {x y:Nat} (hy:(ae y).length<=1) (hx:y=0\/(ae x).length<=1) (k:Kz7) :
  wz N u v (ae x) (ae y) k=k (ae (Nat.gcd x y)):=by
 unfold wz;have hyl:=tT hy;by_cases h:y=0
 ·subst h;rw[ba,afS]; rfl
 ·have e0:((((ae y).length:Nat):Int)==0)=false:=by rw[bN h]; simp; omega
  have hxl:=tT (hx.resolve_left h);rw[e0,adm,GS,GS,adv hxl,adv hyl,C8 _ y x N (by omega)];refine sk (by omega) _ ?_ k;have:=afq x (afT h);omega
def C1 {N:Nat} (hN:1180591620717411303424<=N) {u v:List Int} (k:Kz7) :
  ∀ s x y,x+y=s->s<N->y<=x->(ae x).length<=1099511626000 ->
   Nh N u v (ae x) (ae y) k=k (ae (Nat.gcd x y)):=by
 intro s x y hs hsN hyx hxl;unfold Nh;have main:∀ s x y M,x+y=s->s<M->M<=N->y<=x->(ae x).length<=1099511626000 ->
   ai M (Eu N (λ(V7:List Int) (Xk:List Int)=>(cond ((decide ((((List.length Xk):Nat):Int)>0))==true) (cond (decide ((((List.length V7):Nat):Int)>1)) (zA N V7 Xk (λ(VA:List Int) (Vz:List Int)=>(wz N u v Xk Vz k))) (wz N u v V7 Xk k)) (wz N u v V7 Xk k)))) (ae x,ae y)=k (ae (Nat.gcd x y)):=by
  intro s;induction s using Nat.strongRecOn with
  | ind s ih=>
  intro x y M hs hsM hMN hyx hxl;obtain⟨M,rfl⟩:∃ m,M=m+1:=⟨M - 1,by omega⟩
  have hyl:=di hyx;show Eu N _ (ae x,ae y) (ai M _)=_;simp only[Eu];by_cases h2:2<=(ae y).length
  ·have hyge:18446744073709551616<=y:=by
    rcases aen y 18446744073709551616 with h | h
    ·have:=fM 1 y (by rw[agn]; exact h); omega
    ·exact h
   have hblx:64<bl x:=by
    rcases aen 64 (bl x)with h | h
    ·exact h
    ·have h1:=wD x;have h3:2 ^ bl x<=2 ^ 64:=adB (by decide) h;rw[mT]at h3;omega
   have hblu:bl x<=64*(ae x).length:=by refine uA ?_;rw[agi,mT]; exact i9 x
   obtain⟨f,hf⟩:∃ f,bl x=f+64:=⟨bl x - 64,by omega⟩
   have ef:(bl x:Int) - 64=(f:Int):=by omega
   have hF0:0<2 ^ f:=adz f;have hx0l:x / 2 ^ f<18446744073709551616:=by rw[adu hF0,<- mT,<- adE,afg,<- hf]; exact wD x
   have hy0l:y / 2 ^ f<=x / 2 ^ f:=afD hyx;rw[adk (by omega),adn,Dt (by omega),ef,aa adi,GU (by omega),GU (by omega),adv hx0l,adv (by omega)];obtain⟨a,b,c,d,odd,g1,g2⟩:=IL hN hx0l hy0l;rw[g2];by_cases hb:b=0
   ·subst hb;rw[show(((0:Nat):Int) != 0)=false from rfl,adm,jZ hN (by omega) (by omega) (by omega)];have hm:=adA x (by omega:y>0);rw[ih (y+x%y) (by omega) y (x%y) M rfl (by omega) (by omega) (by omega) (by omega),aeE y,<- ago,aeE]
   ·have hbn:((b:Int) != 0)=true:=by simp; omega
    rw[hbn,adn];obtain⟨U,V,k1,k2,k3,k4,k5⟩:=Is (N:=N) (g1.resolve_left hb) (adA x hF0) (adA y hF0) (aek x (2 ^ f)).symm (aek y (2 ^ f)).symm (by omega) ⟨by omega,by omega⟩ ⟨by omega,by omega⟩;have hUl:=di k3;rw[k5,ih (U+V) (by omega) U V M rfl (by omega) (by omega) k1 (by omega),k4]
  ·rw[adl (by omega),adm];by_cases h0:y=0
   ·have:(((ae y).length:Nat):Int)=0:=by rw[h0,ba]; rfl
    rw[this,adl (by omega),show(false==true)=false from rfl,adm,ym hN (by omega) (.inl h0)]
   ·have hpos:0<(ae y).length:=by rw[bN h0]; simp
    rw[adk (by omega),show(true==true)=true from rfl,adn];by_cases h1:1<(ae x).length
    ·have hm:=adA x (afT h0);have hml:=di (Nat.le_of_lt hm);rw[adk (by omega),adn,jZ hN (afT h0) (by omega) (by omega),ym hN (by omega) (.inr (by omega)),aeE y,<- ago,aeE]
    ·rw[adl (by omega),adm,ym hN (by omega) (.inr (by omega))]
 exact main s x y N hs hsN (adx _) hyx hxl
def Du {N:Nat} (hN:1180591620717411303424<=N) {x y:Nat} (hf:x+y<N) (hxl:(ae x).length<=1099511626000) (hyl:(ae y).length<=1099511626000) (k:Kz7):Af N (ae x) (ae y) k=k (ae (Nat.gcd x y)):=by
 (unfold Af; rw[ac]; unfold P1)
 rw[iw x y ⟨by omega,by omega⟩ ⟨by omega,by omega⟩];by_cases h:x<y
 ·have hc:decide (dD x y<0)=true:=by unfold dD; rw[if_pos h]; rfl
  rw[hc,adn,C1 hN _ (y+x) y x rfl (by omega) (by omega) hyl,aeE]
 ·have hc:decide (dD x y<0)=false:=by unfold dD; rw[if_neg h]; split <;> rfl
  rw[hc,adm,C1 hN _ (x+y) x y rfl hf (by omega) hxl]
def Fuel (N:Nat):Prop:=∃ E,4398046511104<=E/\2 ^ E<=N
def Fuel.lt {N:Nat} (h:Fuel N):4398046511104<N:=by obtain⟨E,h1,h2⟩:=h;have:E<2 ^ E:=Nat.lt_two_pow_self;omega
def Fuel.sum {N C x y:Nat} (h:Fuel N) (hC:C<=4398046511000) (hx:aQ C x) (hy:aQ C y):x+y<N:=by obtain⟨E,h1,h2⟩:=h;have h3:2 ^ (C+1)<=2 ^ E:=adB (by decide) (by omega);rw[ady]at h3;unfold aQ at hx hy;omega
def Fuel.big {N:Nat} (h:Fuel N):1180591620717411303424<=N:=by
 obtain⟨E,h1,h2⟩:=h;have h3:2 ^ 70<=2 ^ E:=adB (by decide) (by omega);have e:(2:Nat) ^ 70=1180591620717411303424:=by decide
 rw[e]at h3;exact adL h3 h2
def xu {B n:Nat} (hB:B<=2000000000100) (h:aQ B n):(ae n).length<=31250000003:=by have:=HT h; omega
def kr (z:Int) (d:Nat) (k:Kx8):Bool:=k (decide (z<0)) (ae z.natAbs) false (ae d)
def kq (x:Rat) (k:Kx8):Bool:=kr x.num x.den k
def Dm (g:Bool) (n d:Nat) (k:Kx8):k (sg g n) (ae n) false (ae d)=kr (aT g n) d k:=DY g n (λa b=>k a b false (ae d))
def BL {N:Nat} (g:Bool) (n:Nat) (l:List Int) (b1 b2:Bool) (k:Ky3):Ja N g (ae n) l b1 b2 k=k (sg g n) false:=by
 (unfold Ja; rw[ac]; unfold PO I7 Nd Ou PZ)
 cases g
 ·rfl
 ·simp only[nX,sg,aet]; rfl
def IA {N:Nat} (g b:Bool) (n:Nat) (k:Kz2):B2 N g (ae n) b k=k (sg g n):=by
 unfold B2 SQ;cases g
 ·rfl
 ·simp only[nX,sg,aet]; rfl
def NI (g:Bool) (n:Nat):aT (sg g n) n=aT g n:=by
 unfold aT sg;cases g
 ·rfl
 ·by_cases h:n=0
  ·subst h; rfl
  ·rw[adk h]; rfl
def IC {N:Nat} (g1:Bool) (n1:Nat) (g2:Bool) (n2:Nat) (h1:kA N (ae n1)) (h2:kA N (ae n2)) (k:Ky5) :
  Oo N g2 (ae n2) g1 (ae n1) k=qT (aT g1 n1+aT g2 n2) k:=by
 (unfold Oo; rw[ac]; unfold PU)
 rw[Lw _ _ (aS _) (aS _) h1 h2,iw _ _ h1 h2,aB,aB,mJ g2 _ _ (n1+n2) k,<- Gi];congr 1;by_cases h:n2<=n1
 ·rw[mh _ _ (aS _) (aS _) (by rw[aB,aB]; exact h) h1,aB,aB,mJ g1 _ _ (n1 - n2) k,rV,adk h];rfl
 ·rw[mh _ _ (aS n2) (aS n1) (by rw[aB,aB]; omega) h2,aB,aB,mJ g2 _ _ (n2 - n1) k,rV,adl h];rfl
def LB {N:Nat} (hF:Fuel N) {x y:Nat} (hy:0<y) (hxl:(ae x).length<=1099511627000) (hyl:(ae y).length<=1099511627000) (k:Kz7):mW N (ae x) (ae y) k=k (ae (x / y)):=by
 have hj:lY N (ae x) (ae y) k=k (ae (x / y)):=by unfold lY;rw[jZ hF.big hy hxl hyl]
 (unfold mW; rw[ac]; unfold JD)
 by_cases h1:(ae y).length=1
 ·have e:((((ae y).length:Nat):Int)==1)=true:=by rw[h1]; rfl
  rw[e,show(true==true)=true from rfl,adn,aa adj];have hyw:=oY (by omega:y ≠ 0) (tT (by omega));by_cases h2:y=1
  ·have:((ae y).getD 0 0==1)=true:=by rw[hyw,h2]; rfl
   rw[this,adn,h2,afd]
  ·have:((ae y).getD 0 0==1)=false:=by rw[hyw]; simp; omega
   rw[this,adm,hj]
 ·have e:((((ae y).length:Nat):Int)==1)=false:=by simp; omega
  rw[e,show(false==true)=false from rfl,adm,hj]
def gl {N:Nat} (a:Bool) (l:List Int) (b:Bool) {d:Nat} (hd:d ≠ 0) (k:Kz7):Ae N a l b (ae d) k=k (ae d):=by
 unfold Ae SY;have:((((ae d).length:Nat):Int)==0)=false:=by rw[bN hd]; simp; omega
 rw[this]; rfl
def DH {N:Nat} (a:Bool) (l:List Int) (b:Bool) {d:Nat} (hd:d ≠ 0) (k:Kz7):Sz N a l b (ae d) k=k (ae d):=by
 unfold Sz S7;have:((((ae d).length:Nat):Int)==0)=false:=by rw[bN hd]; simp; omega
 rw[this]; rfl
def sy {N B:Nat} (hF:Fuel N) (hB:B<=2000000000100) {a b:Nat} (ha:aQ B a) (hb:aQ B b) (k:Kz7):qb N (ae a) (ae b) k=k (ae (a*b)):=by have h1:=xu hB ha;have h2:=xu hB hb;have:=hF.lt;rw[Fw _ _ (aS _) (aS _) (by omega) (by omega),aB,aB]
def uN {N B:Nat} (hF:Fuel N) (hB:B<=2000000000100) {a b:Nat} (ha:aQ B a) (hb:aQ B b) (k:Kz7):Af N (ae a) (ae b) k=k (ae (Nat.gcd a b)):=by have h1:=xu hB ha;have h2:=xu hB hb;rw[Du hF.big (hF.sum (by omega) ha hb) (by omega) (by omega)]
def ny {N B:Nat} (hF:Fuel N) (hB:B<=2000000000100) {a b:Nat} (h0:0<b) (ha:aQ B a) (hb:aQ B b) (k:Kz7):mW N (ae a) (ae b) k=k (ae (a / b)):=by have h1:=xu hB ha;have h2:=xu hB hb;rw[LB hF h0 (by omega) (by omega)]
def pd {N B:Nat} (hB:B<=2000000000100) {a:Nat} (ha:aQ B a) (k:Kz7):qf N (ae a) k=k (ae a):=by have h1:=xu hB ha;rw[vO _ (by omega)]
def bP {B a b:Nat} (h:aQ B a):aQ B (a / b):=kT h (aeX _ _)
def MI {N B n:Nat} (hF:Fuel N) (hB:B<=2000000000100) (h:aQ B n):kA N (ae n):=by have h1:=xu hB h;have:=hF.lt;exact⟨by omega,by omega⟩
def Bq (B:Nat) (x:Rat):Prop:=aQ B x.num.natAbs/\aQ B x.den
def Bq.mono {A B:Nat} {x:Rat} (h:Bq A x) (hAB:A<=B):Bq B x:=⟨bK h.1 hAB,bK h.2 hAB⟩
def qU (z:Int) (f:Nat):aT (decide (z<0)) (z.natAbs*f)=z*f:=by
 unfold aT;by_cases h:z<0
 ·rw[adk h,if_pos rfl];have:(z.natAbs:Int) = -z:=by omega
  rw[adH,this,agz,Int.neg_neg]
 ·rw[adl h,if_neg (by decide)];have:(z.natAbs:Int)=z:=by omega
  rw[adH,this]
def yK {z:Int} {h:Nat} (h0:0<h) (hd:h∣z.natAbs):aT (decide (z<0)) (z.natAbs / h)=z / (h:Int):=by
 obtain⟨q,hq⟩:=hd;rw[hq,adY _ h0];unfold aT;have hh:(h:Int) ≠ 0:=by omega
 by_cases hz:z<0
 ·rw[adk hz,if_pos rfl];have:z=(h:Int)*(-(q:Int)):=by
   have e:(z.natAbs:Int)=(h:Int)*q:=by rw[hq,adH]
   rw[agj,<- e]; omega
  rw[this,afm _ hh]
 ·rw[adl hz,if_neg (by decide)];have:z=(h:Int)*(q:Int):=by
   have e:(z.natAbs:Int)=(h:Int)*q:=by rw[hq,adH]
   rw[<- e]; omega
  rw[this,afm _ hh]
def Kx (x y:Rat):(x+y).num=(x.num*((y.den / Nat.gcd x.den y.den:Nat):Int)+y.num*((x.den / Nat.gcd x.den y.den:Nat):Int)) / ((Nat.gcd (x.num*((y.den / Nat.gcd x.den y.den:Nat):Int)+y.num*((x.den / Nat.gcd x.den y.den:Nat):Int)).natAbs (Nat.gcd x.den y.den):Nat):Int)
  /\ (x+y).den=x.den / Nat.gcd x.den y.den*(y.den / Nat.gcd (x.num*((y.den / Nat.gcd x.den y.den:Nat):Int)+y.num*((x.den / Nat.gcd x.den y.den:Nat):Int)).natAbs (Nat.gcd x.den y.den)):=by
 have aux:=Rat.add.aux x y (g:=Nat.gcd x.den y.den) rfl rfl rfl;simp only at aux;have hx:=x.den_pos;have hy:=y.den_pos;obtain⟨g,hg⟩:∃ g,g=Nat.gcd x.den y.den:=⟨_,rfl⟩
 rw[<- hg]at aux ⊢;have hg0:0<g:=by rw[hg]; exact Nat.gcd_pos_of_pos_left _ hx
 have hgx:g∣x.den:=by rw[hg]; exact aed _ _
 have hgy:g∣y.den:=by rw[hg]; exact aeA _ _
 obtain⟨e,he⟩:∃ e,e=x.den / g:=⟨_,rfl⟩
 obtain⟨f,hf⟩:∃ f,f=y.den / g:=⟨_,rfl⟩
 rw[<- he,<- hf]at aux ⊢;have ex:x.den=e*g:=by rw[he,Nat.div_mul_cancel hgx]
 have ey:y.den=f*g:=by rw[hf,Nat.div_mul_cancel hgy]
 obtain⟨n,hn⟩:∃ n,n=x.num*(f:Int)+y.num*(e:Int):=⟨_,rfl⟩
 rw[<- hn]at aux ⊢;have hsum:x+y=mkRat n (e*y.den):=by
  rw[Rat.add_def'];have e1:x.num*(y.den:Int)+y.num*(x.den:Int)=n*(g:Int):=by rw[ex,ey,hn]; simp only[adH]; grind
  have e2:x.den*y.den=e*y.den*g:=by rw[ex]; grind
  rw[e1,e2,Rat.mkRat_mul_right (by omega)]
 have he0:0<e:=by
  rcases aeI e with h | h
  ·rw[h,aeN]at ex; omega
  ·exact h
 have hd0:e*y.den ≠ 0:=by have:=afo he0 hy; omega
 have hhy:Nat.gcd n.natAbs g∣y.den:=Nat.dvd_trans (aeA _ _) hgy;constructor
 ·rw[hsum,agA,if_neg hd0,aeE,<- aux]
 ·rw[hsum,agB,if_neg hd0,aeE,<- aux,Nat.mul_div_assoc _ hhy]
def Aq {A:Nat} {z w:Int} (hz:aQ A z.natAbs) (hw:aQ A w.natAbs):aQ (A+1) (z+w).natAbs:=kT (uz hz hw) (by omega)
def rU {A B:Nat} {z:Int} {n:Nat} (hz:aQ A z.natAbs) (hn:aQ B n):aQ (A+B) (z*(n:Int)).natAbs:=by rw[afa,aei]; exact dC hz hn
def yU {N B:Nat} (hF:Fuel N) (hB:B<=1000000000000) {x y:Rat} (hx:Bq B x) (hy:Bq B y) (b1 b2:Bool) (k:Kx8) :
  Oq N (decide (x.num<0)) (ae x.num.natAbs) false (ae x.den) (decide (y.num<0)) (ae y.num.natAbs) false (ae y.den) b1 b2 k=kq (x+y) k:=by
 (unfold Oq; rw[ac]; unfold Nf)
 obtain⟨m1,m2⟩:=Kx x y;have hB2:B<=2000000000100:=by omega
 have hxd:=x.den_pos;have hyd:=y.den_pos;rw[gl _ _ _ x.den_nz,gl _ _ _ y.den_nz,uN hF hB2 hx.2 hy.2];obtain⟨g,hg⟩:∃ g,g=Nat.gcd x.den y.den:=⟨_,rfl⟩
 rw[<- hg]at m1 m2 ⊢;have hg0:0<g:=by rw[hg]; exact Nat.gcd_pos_of_pos_left _ hxd
 have hgb:aQ B g:=by rw[hg]; exact kT hx.2 (Nat.gcd_le_left _ hxd)
 have hgy:g∣y.den:=by rw[hg]; exact aeA _ _
 rw[ny hF hB2 hg0 hx.2 hgb,ny hF hB2 hg0 hy.2 hgb,sy hF hB2 hx.1 (bP hy.2),IA,sy hF hB2 hy.1 (bP hx.2)];have hb1:=dC hx.1 (bP (b:=g) hy.2);have hb2:=dC hy.1 (bP (b:=g) hx.2);rw[IC _ _ _ _ (MI hF (by omega) hb1) (MI hF (by omega) hb2),NI,qU,qU];have hnb:aQ (B+B+1) (x.num*((y.den / g:Nat):Int)+y.num*((x.den / g:Nat):Int)).natAbs:=Aq (rU hx.1 (bP hy.2)) (rU hy.1 (bP hx.2));obtain⟨n,hn⟩:∃ n,n=x.num*((y.den / g:Nat):Int)+y.num*((x.den / g:Nat):Int):=⟨_,rfl⟩
 rw[<- hn]at m1 m2 hnb ⊢;have hB3:B+B+1<=2000000000100:=by omega
 unfold qT;dsimp only;rw[uN hF hB3 hnb (bK hgb (by omega))];obtain⟨h,hh⟩:∃ h,h=Nat.gcd n.natAbs g:=⟨_,rfl⟩
 rw[<- hh]at m1 m2 ⊢;have hh0:0<h:=by rw[hh]; exact aeu _ hg0
 have hhb:aQ B h:=by rw[hh]; exact kT hgb (afq _ hg0)
 rw[ny hF hB3 hh0 hnb (bK hhb (by omega)),pd hB3 (bP hnb),ny hF hB2 hh0 hy.2 hhb,sy hF hB2 (bP hx.2) (bP hy.2),BL,Dm _ _ _ k,yK hh0 (by rw[hh]; exact aed _ _),<- m1,<- m2];rfl
def Dq {N B:Nat} (hF:Fuel N) (hB:B<=1000000000000) {x y:Rat} (hx:Bq B x) (hy:Bq B y) (b1 b2:Bool) (k:Kx8) :
  Sk N (decide (x.num<0)) (ae x.num.natAbs) false (ae x.den) b1 b2 (decide (y.num<0)) (ae y.num.natAbs) false (ae y.den) k=kq (x+y) k:=by
 rw[<- yU hF hB hx hy b1 b2 k]
 (unfold Sk; rw[ac]; unfold PQ; unfold Oq; rw[ac]; unfold Nf)
 rw[gl _ _ _ x.den_nz,DH _ _ _ y.den_nz,gl _ _ _ x.den_nz,gl _ _ _ y.den_nz]
def Lj (g:Bool) (n:Nat):aT (!g) n = -(aT g n):=by unfold aT; cases g <;> simp
def iv (z:Int):aT (decide (z<0)) z.natAbs=z:=Li z
def Fu {N B:Nat} (hB:B<=2000000000100) {y:Rat} (hy:Bq B y) (b1 b2:Bool) (k:Kx8) :
  SB N (decide (y.num<0)) (ae y.num.natAbs) false (ae y.den) b1 b2 k=kq (-y) k:=by
 (unfold SB; rw[ac]; unfold Qj)
 rw[pd hB hy.1,gl _ _ _ y.den_nz,pd hB hy.2,BL,Dm _ _ _ k,Lj,iv];rfl
def Dz {N B:Nat} (hF:Fuel N) (hB:B<=1000000000000) {x y:Rat} (hx:Bq B x) (hy:Bq B y) (k:Kx8) :
  cN N (decide (x.num<0)) (ae x.num.natAbs) false (ae x.den) (decide (y.num<0)) (ae y.num.natAbs) false (ae y.den) k=kq (x - y) k:=by
 (unfold cN iT; unfold Pj; rw[ac]; unfold JK)
 rw[Fu (by omega) hy];unfold kq kr;dsimp only;have hny:Bq B (-y):=⟨by rw[Rat.neg_num,afY]; exact hy.1,hy.2⟩
 rw[Dq hF hB hx hny,Rat.sub_eq_add_neg];rfl
def NO {N B:Nat} (hF:Fuel N) (hB:B<=1000000000000) {x y:Rat} (hx:Bq B x) (hy:Bq B y) (k:Kx8) :
  eD N (decide (x.num<0)) (ae x.num.natAbs) false (ae x.den) (decide (y.num<0)) (ae y.num.natAbs) false (ae y.den) k=kq (x+y) k:=by
 unfold eD iV;rw[yU hF hB hx hy]
def LY (x w:Rat):(x*w).num=aT (decide (x.num<0)) (x.num.natAbs / Nat.gcd x.num.natAbs w.den)*aT (decide (w.num<0)) (w.num.natAbs / Nat.gcd w.num.natAbs x.den)
  /\ (x*w).den=x.den / Nat.gcd w.num.natAbs x.den*(w.den / Nat.gcd x.num.natAbs w.den):=by
 have H1:0<x.num.natAbs.gcd w.den:=aeu _ w.den_pos;have H2:0<w.num.natAbs.gcd x.den:=aeu _ x.den_pos;have d1:Nat.gcd x.num.natAbs w.den∣x.num.natAbs:=aed _ _;have d2:Nat.gcd w.num.natAbs x.den∣w.num.natAbs:=aed _ _;rw[yK H1 d1,yK H2 d2];have e1:(x*w).num=x.num.tdiv (Nat.gcd x.num.natAbs w.den:Nat)*w.num.tdiv (Nat.gcd w.num.natAbs x.den:Nat):=by
  show(Rat.mul x w).num=_
  delta Rat.mul
  simp only[Int.divExact_eq_tdiv]
 have e2:(x*w).den=x.den / Nat.gcd w.num.natAbs x.den*(w.den / Nat.gcd x.num.natAbs w.den):=by
  show(Rat.mul x w).den=_
  delta Rat.mul
  simp only[Nat.divExact_eq_div]
 refine⟨?_,e2⟩;rw[e1,Int.tdiv_eq_ediv_of_dvd (Int.ofNat_dvd_left.2 d1),Int.tdiv_eq_ediv_of_dvd (Int.ofNat_dvd_left.2 d2)]
def DB {N B:Nat} (hF:Fuel N) (hB:B<=1000000000000) {x w:Rat} (hx:Bq B x) (hw:Bq B w) (b1 b2:Bool) (k:Kx8) :
  Ol N (decide (x.num<0) != decide (w.num<0)) (ae x.num.natAbs) (ae x.den) (ae w.num.natAbs) (ae w.den) b1 b2 k=kq (x*w) k:=by
 (unfold Ol; rw[ac]; unfold PK)
 have hB2:B<=2000000000100:=by omega
 obtain⟨m1,m2⟩:=LY x w;have H1:0<x.num.natAbs.gcd w.den:=aeu _ w.den_pos;have H2:0<w.num.natAbs.gcd x.den:=aeu _ x.den_pos;have L1:aQ B (x.num.natAbs.gcd w.den):=kT hw.2 (afq _ w.den_pos);have L2:aQ B (w.num.natAbs.gcd x.den):=kT hx.2 (afq _ x.den_pos);rw[uN hF hB2 hx.1 hw.2,uN hF hB2 hw.1 hx.2,ny hF hB2 H1 hx.1 L1,ny hF hB2 H2 hw.1 L2,sy hF hB2 (bP hx.1) (bP hw.1),ny hF hB2 H2 hx.2 L2,ny hF hB2 H1 hw.2 L1,sy hF hB2 (bP hx.2) (bP hw.2),BL,Dm _ _ _ k,yL,<- m1,<- m2];rfl
def NQ {N B:Nat} (hF:Fuel N) (hB:B<=1000000000000) {x y:Rat} (hx:Bq B x) (hy:Bq B y) (k:Kx8) :
  dU N (decide (x.num<0)) (ae x.num.natAbs) false (ae x.den) (decide (y.num<0)) (ae y.num.natAbs) false (ae y.den) k=kq (x*y) k:=by
 (unfold dU iE; unfold Ph; rw[ac]; unfold JI)
 rw[gl _ _ _ x.den_nz,gl _ _ _ y.den_nz,DB hF hB hx hy]
def yH {y:Rat} (h:y.num ≠ 0):(y⁻¹).num.natAbs=y.den/\(y⁻¹).den=y.num.natAbs/\decide ((y⁻¹).num<0)=decide (y.num<0):=by
 have hd:=y.den_pos;refine⟨?_,?_,?_⟩
 ·rw[Rat.num_inv,afa,aei,Int.natAbs_sign,if_neg h,afn]
 ·rw[Rat.den_inv,if_neg h]
 ·rw[Rat.num_inv];rcases Int.lt_trichotomy y.num 0 with h1 | h1 | h1
  ·rw[Int.sign_eq_neg_one_of_neg h1,adk h1,adk (by omega)]
  ·exact absurd h1 h
  ·rw[Int.sign_eq_one_of_pos h1,adl (by omega),adl (by omega)]
def NU {N B:Nat} (hF:Fuel N) (hB:B<=1000000000000) {x y:Rat} (hx:Bq B x) (hy:Bq B y) (h0:y.num ≠ 0) (k:Kx8) :
  eC N (decide (x.num<0)) (ae x.num.natAbs) false (ae x.den) (decide (y.num<0)) (ae y.num.natAbs) false (ae y.den) k=kq (x / y) k:=by
 obtain⟨i1,i2,i3⟩:=yH h0
 (unfold eC iU; unfold Pi; rw[ac]; unfold JJ)
 have hw:Bq B (y⁻¹):=⟨by rw[i1]; exact hy.2,by rw[i2]; exact hy.1⟩
 have hp:=λkk=>DB (b1:=false) (b2:=false) hF hB hx hw kk
 rw[i1,i2,i3]at hp;rw[gl _ _ _ x.den_nz,gl _ _ _ y.den_nz,hp,Rat.div_def]
def wR {N B:Nat} (hF:Fuel N) (hB:B<=2000000000000) (g:Bool) {n d:Nat} (hn:aQ B n) (hd:aQ B d) (h0:0<d) (b1 b2:Bool) (k:Kx8) :
  Ss N g (ae n) (ae d) b1 b2 k=kq (mkRat (aT g n) d) k:=by
 have hB2:B<=2000000000100:=by omega
 have hl:=hF.lt;have hnum:(mkRat (aT g n) d).num=aT g (n / Nat.gcd n d):=by
  rw[agA,if_neg (by omega)];have e:(aT g n).natAbs=n:=by unfold aT; cases g <;> simp
  have hg:0<Nat.gcd n d:=aeu _ h0;rw[e,aeE];obtain⟨q,hq⟩:=aed n d;have hh:((Nat.gcd n d:Nat):Int) ≠ 0:=by omega
  have e2:aT g n=((Nat.gcd n d:Nat):Int)*aT g (n / Nat.gcd n d):=by
   have hnn:n=Nat.gcd n d*(n / Nat.gcd n d):=(Nat.mul_div_cancel' (aed n d)).symm;have hc:(n:Int)=((Nat.gcd n d:Nat):Int)*((n / Nat.gcd n d:Nat):Int):=by rw[<- adH,<- hnn]
   unfold aT;cases g
   ·simpa using hc
   ·simp only[ae0]; rw[hc,agj]
  rw[e2,afm _ hh]
 have hden:(mkRat (aT g n) d).den=d / Nat.gcd n d:=by
  rw[agB,if_neg (by omega)];have e:(aT g n).natAbs=n:=by unfold aT; cases g <;> simp
  rw[e,aeE]
 have hj:∀ m e:Nat,aQ B m->aQ B e->Gu N g (ae n) (ae d) b1 b2 (ae m) (ae e) k=k (sg g m) (ae m) false (ae e):=by
  intro m e hm he;unfold Gu;rw[pd hB2 hm];unfold I7 Nd;dsimp only;rw[pd hB2 he,pd hB2 he];unfold Ou PZ;cases g
  ·rfl
  ·simp only[nX,sg,aet]; rfl
 have hg0:0<Nat.gcd n d:=aeu _ h0;have hgb:aQ B (Nat.gcd n d):=kT hd (afq _ h0);have h1:=xu hB2 hn;have h2:=xu hB2 hd;have h3:=xu hB2 hgb;have e1:ae 1=[1]:=oY (by decide) (by decide)
 (unfold Ss; rw[ac]; unfold P8)
 rw[uN hF hB2 hn hd,<- e1,iw _ 1 ⟨by omega,by omega⟩ ⟨by rw[e1]; simp; omega,by rw[e1]; simp⟩];by_cases hc:Nat.gcd n d=1
 ·have:(dD (Nat.gcd n d) 1 != 0)=false:=by rw[hc]; rfl
  rw[this,adm,hj n d hn hd,Dm _ _ _ k];rw[hc,afd]at hnum hden;unfold kq;rw[hnum,hden]
 ·have:(dD (Nat.gcd n d) 1 != 0)=true:=by unfold dD; rw[if_neg (by omega),if_neg hc]; rfl
  rw[this,adn,jZ hF.big hg0 (by omega) (by omega),jZ hF.big hg0 (by omega) (by omega),hj _ _ (bP hn) (bP hd),Dm _ _ _ k,<- hnum,<- hden];rfl
def FL {N:Nat} (hF:Fuel N) (k:Kx8):kK N 0 k=kq 0 k:=by
 have:=hF.lt
 (unfold kK nT; unfold vb; rw[ac]; unfold oE)
 have n0:=λkk=>qW (N:=N) (by omega) 0 (by decide) kk
 have n1:=λkk=>qW (N:=N) (by omega) 1 (by decide) kk
 rw[show((0:Nat):Int)=0 from rfl]at n0;rw[show((1:Nat):Int)=1 from rfl]at n1;unfold Oi PD;rw[n0,n1,wR hF (B:=10) (by decide) _ (by unfold aQ; decide) (by unfold aQ; decide) (by decide)];rfl
def lw {N:Nat} (x:Rat) (k:Kz3):bf N (decide (x.num<0)) (ae x.num.natAbs) false (ae x.den) k=k (vg x.num):=by
 (unfold bf iW ri qo; unfold Pq; rw[ac]; unfold Kg vg)
 by_cases h:x.num<0
 ·rw[adk h,adn,if_neg (by omega),if_pos h]
 ·rw[adl h,adm,if_neg h];by_cases h0:x.num=0
  ·rw[h0,if_pos rfl];have:ae (0:Int).natAbs=[]:=ba;rw[this]; rfl
  ·have:((((ae x.num.natAbs).length:Nat):Int)==0)=false:=by rw[bN (by omega)]; simp; omega
   rw[this,adm,if_neg h0]
end Go.Proofs.YtpmoedfiobeilaaGreatDoor
end
