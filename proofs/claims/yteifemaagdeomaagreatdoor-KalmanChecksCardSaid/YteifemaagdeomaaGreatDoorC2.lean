/-
  PURE: bit lengths, leading noughts, math/bits.Div64: a quotient of two words by one.
  Conditions: N is great.
-/
import Derived.Test.YteifemaagdeomaaGreatDoorC1
set_option linter.unusedVariables false
section
namespace Go.Proofs.YteifemaagdeomaaGreatDoor
open Go Go.Mach
theorem IY (N:Nat) {x:Nat} (hx:x<18446744073709551616) (k:Kz0):Pd N (x:Int) k=k (bl x:Int):=by
 have key:∀(z:Int) (m:Nat),z=(m:Int)->m<256 -> ∀ c:Nat,c<=56->((inR z 256)&&((aj .i64 (List.getD aE (Int.toNat z) 0))&&((aj .i64 ((c:Int)+(List.getD aE (Int.toNat z) 0)))&&k ((c:Int)+List.getD aE (Int.toNat z) 0))))=k ((c+bl m:Nat):Int):=by intro z m hz hm c hc;subst hz;have:=NF hm;rw[aFC,agF hm,ac aFx,ac aFw,ac aFw];rfl
 have j1:∀(y z c:Nat),z<65536->c<=48->Nk N (y:Int) (z:Int) (c:Int) k=k ((c+bl z:Nat):Int):=by
  intro y z c hz hc;unfold Nk;simp only[ak2,al9];by_cases h8:256<=z
  ·have e8:=qu (n:=z) 8 (by simpa using h8);rw[show(2:Nat) ^ 8=256 by decide]at e8;have h:=key ((z:Int) / 256%256) (z / 256) (by omega) (by omega) (c+8) (by omega);rw[show((c+8:Nat):Int)=(c:Int)+8 by omega]at h;rw[aFy (by omega:(z:Int)>=256),aFB,ac aFw,h];congr 1; omega
  ·rw[aFz (by omega:¬(z:Int)>=256),aFA,key ((z:Int)%256) z (by omega) (by omega) c (by omega)]
 have j0:∀(y z c:Nat),z<4294967296->c<=32->Ni N (y:Int) (z:Int) (c:Int) k=k ((c+bl z:Nat):Int):=by
  intro y z c hz hc;unfold Ni;simp only[abc];by_cases h16:65536<=z
  ·have e16:=qu (n:=z) 16 (by simpa using h16);rw[show(2:Nat) ^ 16=65536 by decide]at e16;have h:=j1 y (z / 65536) (c+16) (by omega) (by omega);rw[show((c+16:Nat):Int)=(c:Int)+16 by omega,show((z / 65536:Nat):Int)=(z:Int) / 65536 by omega]at h;rw[aFy (by omega:(z:Int)>=65536),aFB,ac aFw,h];congr 1; omega
  ·rw[aFz (by omega:¬(z:Int)>=65536),aFA,j1 y z c (by omega) (by omega)]
 unfold Pd Ko;simp only[oB];by_cases h32:4294967296<=x
 ·have e32:=qu (n:=x) 32 (by rw[show(2:Nat) ^ 32=4294967296 by decide]; exact h32);rw[show(2:Nat) ^ 32=4294967296 by decide]at e32;have h:=j0 x (x / 4294967296) 32 (by omega) (by omega);rw[show((x / 4294967296:Nat):Int)=(x:Int) / 4294967296 by omega,show((32:Nat):Int)=32 from rfl]at h;rw[aFy (by omega:(x:Int)>=4294967296),aFB,h];congr 1; omega
 ·have h:=j0 x x 0 (by omega) (by omega);rw[show((0:Nat):Int)=0 from rfl]at h;rw[aFz (by omega:¬(x:Int)>=4294967296),aFA,h];congr 1; omega
theorem C2 {n j:Nat} (h:n<2 ^ j):bl n<=j:=by
 unfold bl;split
 ·omega
 ·rename_i h0;have:=(Nat.log2_lt h0).2 h;omega
theorem Fi (n:Nat):n<2 ^ bl n:=by
 unfold bl;split
 ·rename_i h; subst h; decide
 ·exact Nat.lt_log2_self
theorem aap {n:Nat} (h:n ≠ 0):0<bl n/\2 ^ (bl n - 1)<=n:=by unfold bl;rw[if_neg h];exact⟨by omega,by rw[aHZ]; exact Nat.log2_self_le h⟩
theorem tU:(2:Nat) ^ 64=18446744073709551616:=by decide
theorem OI (N:Nat) {x:Nat} (hx:x<18446744073709551616) (k:Kz0):adW N (x:Int) k=k ((64 - bl x:Nat):Int):=by unfold adW amh;have:=C2 (n:=x) (j:=64) (by rw[tU]; exact hx);rw[IY N hx,ac aFw];congr 1; omega
theorem V0 {y:Nat} (h0:y ≠ 0) (hy:y<18446744073709551616):64 - bl y<64/\9223372036854775808<=y*2 ^ (64 - bl y)/\y*2 ^ (64 - bl y)<18446744073709551616:=by
 have h1:=C2 (n:=y) (j:=64) (by rw[tU]; exact hy);obtain⟨h2,h3⟩:=aap h0;have h4:=Fi y;have hp:0<2 ^ (64 - bl y):=aFN _;refine⟨by omega,?_,?_⟩
 ·have:=aFF (2 ^ (64 - bl y)) h3;rw[<- aFS,show bl y - 1+(64 - bl y)=63 by omega]at this;exact this
 ·have:=aGl h4 hp;rw[<- aFS,show bl y+(64 - bl y)=64 by omega]at this;exact this
theorem ID {a c u u1 p r:Nat} (hc:c<4294967296) (hp:p<=4294967296) (hu:(p+1)*a+r=u) (hb:4294967296<=r+a):p*(a*4294967296+c)<=u*4294967296+u1:=by
 have e1:u*4294967296+u1=p*a*4294967296+(r+a)*4294967296+u1:=by rw[<- hu,aG7,aF2,aF2,aF2]; omega
 have e2:p*(a*4294967296+c)=p*a*4294967296+p*c:=by rw[aFQ,aFK]
 have:=aGu hp (Nat.le_of_lt_succ hc:c<=4294967295);rw[e1,e2]; omega
theorem Gu {a c u u1:Nat} (hu1:u1<4294967296) (hD:u<a*4294967296+c):(u*4294967296+u1) / (a*4294967296+c)<4294967296:=by rw[aFI (by omega)]; omega
theorem Q0 {N:Nat} {Sz:uE} {y s un0:Int} {a c u u1:Nat} (ha2:a<4294967296) (hc:c<4294967296) (hu1:u1<4294967296) (hD:u<a*4294967296+c) {d:Nat} (hd:∀ p,p<=d↔p*(a*4294967296+c)<=u*4294967296+u1) (hlt:d<4294967296) (e0:Int->Bool) :
  ∀ q r M,q<M->q<=4294967297->q*a+r=u->r<4294967296->d<=q ->
   ah M (E4 N Sz y s (a:Int) (c:Int) (u:Int) (u1:Int) un0 e0) ((q:Int),(r:Int))=e0 (d:Int):=by
 intro q;induction q using Nat.strongRecOn with
 | ind q ih=>
 intro r M hM hqb hu hr hle;obtain⟨M,rfl⟩:∃ m,M=m+1:=⟨M - 1,by omega⟩
 show E4 N Sz y s a c u u1 un0 e0 ((q:Int),(r:Int)) (ah M _)=_;have hY:0<a*4294967296+c:=by omega
 have hdec:d<q->cond (decide ((IntKind.wrap .u64 ((r:Int)+(a:Int)))>=4294967296)) (e0 (IntKind.wrap .u64 ((q:Int) - 1))) (ah M (E4 N Sz y s (a:Int) (c:Int) (u:Int) (u1:Int) un0 e0) ((IntKind.wrap .u64 ((q:Int) - 1)),(IntKind.wrap .u64 ((r:Int)+(a:Int)))))=e0 (d:Int):=by
  intro hlq;obtain⟨p,rfl⟩:∃ p,q=p+1:=⟨q - 1,by omega⟩
  have w1:IntKind.wrap .u64 (((p+1:Nat):Int) - 1)=(p:Int):=by rw[ar]; omega
  have w2:IntKind.wrap .u64 ((r:Int)+(a:Int))=((r+a:Nat):Int):=by rw[ar]; omega
  rw[w1,w2];by_cases hb:4294967296<=r+a
  ·rw[aFy (by omega),aFB];have h1:=ID (u1:=u1) hc (by omega) hu hb;rw[<- hd]at h1;rw[show d=p by omega]
  ·rw[aFz (by omega),aFA];exact ih p (by omega) (r+a) M (by omega) (by omega) (by rw[<- hu,aG7]; omega) (by omega) (by omega)
 simp only[E4];by_cases hq:4294967296<=q
 ·rw[aFy (by omega:(q:Int)>=4294967296),show(true==false)=false from rfl,aFA];exact hdec (by omega)
 ·have e1:u*4294967296+u1=q*a*4294967296+r*4294967296+u1:=by rw[<- hu,aF2]
  have e2:q*(a*4294967296+c)=q*a*4294967296+q*c:=by rw[aFQ,aFK]
  have hqc:q*c<=4294967295*4294967295:=aGu (by omega) (by omega);have w1:IntKind.wrap .u64 ((q:Int)*(c:Int))=((q*c:Nat):Int):=by rw[<- aFV,ar]; omega
  have w2:IntKind.wrap .u64 ((IntKind.wrap .u64 (4294967296*(r:Int)))+(u1:Int))=((r*4294967296+u1:Nat):Int):=by rw[ar,ar]; omega
  rw[aFz (by omega:¬(q:Int)>=4294967296),show(false==false)=true from rfl,aFB,w1,w2];by_cases ht:r*4294967296+u1<q*c
  ·rw[aFy (by omega),aFB];refine hdec ?_;rw[<- Nat.not_le,hd]; omega
  ·rw[aFz (by omega),aFA];have h1:q*(a*4294967296+c)<=u*4294967296+u1:=by omega
   rw[<- hd]at h1;rw[show d=q by omega]
theorem Q1 {N:Nat} {Sz:uE} {y s q1:Int} {x21:Int} {a c u u1:Nat} (ha2:a<4294967296) (hc:c<4294967296) (hu1:u1<4294967296) (hD:u<a*4294967296+c) {d:Nat} (hd:∀ p,p<=d↔p*(a*4294967296+c)<=u*4294967296+u1) (hlt:d<4294967296) (e0:Int->Bool) :
  ∀ q r M,q<M->q<=4294967297->q*a+r=u->r<4294967296->d<=q ->
   ah M (E5 N Sz y s (a:Int) (c:Int) (u1:Int) q1 x21 e0) ((r:Int),(q:Int))=e0 (d:Int):=by
 intro q;induction q using Nat.strongRecOn with
 | ind q ih=>
 intro r M hM hqb hu hr hle;obtain⟨M,rfl⟩:∃ m,M=m+1:=⟨M - 1,by omega⟩
 show E5 N Sz y s a c u1 q1 x21 e0 ((r:Int),(q:Int)) (ah M _)=_;have hY:0<a*4294967296+c:=by omega
 have hdec:d<q->cond (decide ((IntKind.wrap .u64 ((r:Int)+(a:Int)))>=4294967296)) (e0 (IntKind.wrap .u64 ((q:Int) - 1))) (ah M (E5 N Sz y s (a:Int) (c:Int) (u1:Int) q1 x21 e0) ((IntKind.wrap .u64 ((r:Int)+(a:Int))),(IntKind.wrap .u64 ((q:Int) - 1))))=e0 (d:Int):=by
  intro hlq;obtain⟨p,rfl⟩:∃ p,q=p+1:=⟨q - 1,by omega⟩
  have w1:IntKind.wrap .u64 (((p+1:Nat):Int) - 1)=(p:Int):=by rw[ar]; omega
  have w2:IntKind.wrap .u64 ((r:Int)+(a:Int))=((r+a:Nat):Int):=by rw[ar]; omega
  rw[w1,w2];by_cases hb:4294967296<=r+a
  ·rw[aFy (by omega),aFB];have h1:=ID (u1:=u1) hc (by omega) hu hb;rw[<- hd]at h1;rw[show d=p by omega]
  ·rw[aFz (by omega),aFA];exact ih p (by omega) (r+a) M (by omega) (by omega) (by rw[<- hu,aG7]; omega) (by omega) (by omega)
 simp only[E5];by_cases hq:4294967296<=q
 ·rw[aFy (by omega:(q:Int)>=4294967296),show(true==false)=false from rfl,aFA];exact hdec (by omega)
 ·have e1:u*4294967296+u1=q*a*4294967296+r*4294967296+u1:=by rw[<- hu,aF2]
  have e2:q*(a*4294967296+c)=q*a*4294967296+q*c:=by rw[aFQ,aFK]
  have hqc:q*c<=4294967295*4294967295:=aGu (by omega) (by omega);have w1:IntKind.wrap .u64 ((q:Int)*(c:Int))=((q*c:Nat):Int):=by rw[<- aFV,ar]; omega
  have w2:IntKind.wrap .u64 ((IntKind.wrap .u64 (4294967296*(r:Int)))+(u1:Int))=((r*4294967296+u1:Nat):Int):=by rw[ar,ar]; omega
  rw[aFz (by omega:¬(q:Int)>=4294967296),show(false==false)=true from rfl,aFB,w1,w2];by_cases ht:r*4294967296+u1<q*c
  ·rw[aFy (by omega),aFB];refine hdec ?_;rw[<- Nat.not_le,hd]; omega
  ·rw[aFz (by omega),aFA];have h1:q*(a*4294967296+c)<=u*4294967296+u1:=by omega
   rw[<- hd]at h1;rw[show d=q by omega]
theorem IE {a c u u1:Nat} (ha:2147483648<=a) (ha2:a<4294967296) (hc:c<4294967296) (hD:u<a*4294967296+c) (hu1:u1<4294967296) :
  u / a<=4294967297/\u / a*a+u%a=u/\u%a<4294967296/\(u*4294967296+u1) / (a*4294967296+c)<=u / a:=by
 have h0:0<a:=by omega
 refine⟨?_,aGs u a,aHj (aFO _ h0) ha2,?_⟩
 ·have:u / a<4294967298:=by rw[aFI h0]; omega
  omega
 ·have h1:(u*4294967296+u1) / (a*4294967296)=u / a:=by rw[aFD a,<- aFG];congr 1; omega
  rw[<- h1];exact Nat.div_le_div_left (aHR _ _) (by omega)
theorem Wz {m p y s:Nat} (u L b D1 q1 R1 u1 u0 q0 R0 Y:Nat) (hb:b=4294967296) (hT:m*2 ^ s=u*18446744073709551616+L) (hL:L=u1*b+u0) (hY:Y=y*2 ^ s) (hY0:0<Y)
  (h1:D1=u*b+u1) (hq1:q1=D1 / Y) (hR1:R1=D1%Y) (hq0:q0=(R1*b+u0) / Y) (hR0:R0=(R1*b+u0)%Y):m / y=q1*b+q0/\m%y=R0 / 2 ^ s:=by
 have hs:0<2 ^ s:=aFN s;have e1:=aGv D1 Y;have e0:=aGv (R1*b+u0) Y;rw[<- hq1,<- hR1]at e1;rw[<- hq0,<- hR0]at e0;have hlt:R0<Y:=by rw[hR0]; exact aFO _ hY0
 have hm:m*2 ^ s=Y*(q1*b+q0)+R0:=by
  rw[hT,hL];have e2:u*18446744073709551616+(u1*b+u0)=(u*b+u1)*b+u0:=by subst hb; omega
  rw[e2,<- h1,<- e1,aFQ,aF2,aGf,<- e0,aFK,aGf]
 have d1:m / y=(m*2 ^ s) / Y:=by rw[hY,aIa _ _ hs]
 have d2:(m%y)*2 ^ s=(m*2 ^ s)%Y:=by rw[hY,aIb]
 constructor
 ·rw[d1,hm,aIu hY0,aF4 hlt,aF5]
 ·have:(m%y)*2 ^ s=R0:=by rw[d2,hm,aHH,aFJ hlt]
  rw[<- this,aHg _ hs]
theorem KT {N:Nat} (hN:8589934592<=N) {hi lo y:Nat} (hy:y<18446744073709551616) (hlo:lo<18446744073709551616) (hhi:hi<y) (k:Ky2) :
  Jp N (hi:Int) (lo:Int) (y:Int) k=k (((hi*18446744073709551616+lo) / y:Nat):Int) (((hi*18446744073709551616+lo)%y:Nat):Int):=by
 unfold Jp ahj;have y0:((y:Int)==0)=false:=by simp; omega
 have y1:(!decide ((y:Int)=0))=true:=by simp; omega
 rw[y0,aFA,aFz (by omega:¬(y:Int)<=hi),aFA];by_cases h0:hi=0
 ·subst h0;rw[show(((0:Nat):Int)==0)=true from rfl,aFB,ac y1,ac y1,aG4,aF3];have e1:Int.tdiv (lo:Int) (y:Int)=((lo / y:Nat):Int):=rfl;have e2:Int.tmod (lo:Int) (y:Int)=((lo%y:Nat):Int):=rfl;have:=aHa lo y;rw[e1,e2];generalize lo / y=d at *;rw[ar];congr 1; omega
 ·have hne:((hi:Int)==0)=false:=by simp; omega
  obtain⟨hs64,hYlo,hYhi⟩:=V0 (y:=y) (by omega) hy;rw[hne,aFA,OI N hy];generalize hs:64 - bl y=s at *;have hs0:0<2 ^ s:=aFN s;have hs1:2 ^ s*2 ^ (64 - s)=18446744073709551616:=by rw[<- aFS,show s+(64 - s)=64 by omega]
  have cp:((2:Int) ^ s)=((2 ^ s:Nat):Int):=by rw[aG0]; rfl
  have cp2:((2:Int) ^ (64 - s))=((2 ^ (64 - s):Nat):Int):=by rw[aG0]; rfl
  have ew:IntKind.wrap .u64 ((s:Nat):Int)=(s:Int):=by rw[ar]; omega
  have ew2:IntKind.wrap .u64 (64 - ((s:Nat):Int))=((64 - s:Nat):Int):=by rw[ar]; omega
  have em:min s 64=s:=by omega
  have em2:min (64 - s) 64=64 - s:=by omega
  simp only[ew,ew2,aFC,em,em2];rw[cp,cp2];have eY:IntKind.wrap .u64 ((y:Int)*((2 ^ s:Nat):Int))=((y*2 ^ s:Nat):Int):=by rw[<- aFV,ar]; omega
  have hm:hi*2 ^ s<y*2 ^ s:=aGl hhi hs0;have eH:IntKind.wrap .u64 ((hi:Int)*((2 ^ s:Nat):Int))=((2 ^ s*hi:Nat):Int):=by rw[<- aFV,aFD hi,ar]; rw[aFD hi]at hm; generalize 2 ^ s*hi=H at *; generalize y*2 ^ s=Y at *; omega
  have hlo2:lo / 2 ^ (64 - s)<2 ^ s:=by rw[aFI (aFN _),hs1]; exact hlo
  have hlo3:=aGv lo (2 ^ (64 - s));have eT:(hi*18446744073709551616+lo)*2 ^ s=(2 ^ s*hi+lo / 2 ^ (64 - s))*18446744073709551616+lo*2 ^ s%18446744073709551616:=by
   have e1:lo*2 ^ s / 18446744073709551616=lo / 2 ^ (64 - s):=by rw[<- hs1,aFD lo,Nat.mul_div_mul_left _ _ hs0]
   have e2:=aGv (lo*2 ^ s) 18446744073709551616;rw[e1]at e2;rw[aF2,<- e2,aF2,aIz,aFD hi];omega
  have hD:2 ^ s*hi+lo / 2 ^ (64 - s)<y*2 ^ s:=by have:2 ^ s*(hi+1)<=2 ^ s*y:=aFH _ hhi;rw[aFQ,aFD _ y]at this;omega
  have eU:aH .or .u64 ((2 ^ s*hi:Nat):Int) (Int.fdiv (lo:Int) ((2 ^ (64 - s):Nat):Int))=((2 ^ s*hi+lo / 2 ^ (64 - s):Nat):Int):=by rw[oR,A4,gb _ _ s hlo2 (by omega)]
  have eL:IntKind.wrap .u64 ((lo:Int)*((2 ^ s:Nat):Int))=((lo*2 ^ s%18446744073709551616:Nat):Int):=by rw[<- aFV,ar]; omega
  simp only[eY,eH,eU,eL,NE,oB];have hLlt:lo*2 ^ s%18446744073709551616<18446744073709551616:=aFO _ (by decide);obtain⟨d1,d2⟩:=Wz (m:=hi*18446744073709551616+lo) (p:=0) (y:=y) (s:=s) (2 ^ s*hi+lo / 2 ^ (64 - s)) (lo*2 ^ s%18446744073709551616) 4294967296 _ _ _ (lo*2 ^ s%18446744073709551616 / 4294967296) (lo*2 ^ s%18446744073709551616%4294967296) _ _ (y*2 ^ s) rfl eT (by omega) rfl (by omega) rfl rfl rfl rfl rfl;rw[d1,d2];generalize y*2 ^ s=Y at *;generalize 2 ^ s*hi+lo / 2 ^ (64 - s)=u at *;generalize lo*2 ^ s%18446744073709551616=L at *;have hu1:L / 4294967296<4294967296:=by omega
  have hu0:L%4294967296<4294967296:=by omega
  have eL1:((L:Int) / 4294967296)=((L / 4294967296:Nat):Int):=by omega
  have ea:((Y:Int) / 4294967296)=((Y / 4294967296:Nat):Int):=by omega
  have eY2:Y=Y / 4294967296*4294967296+Y%4294967296:=by omega
  rw[eL1,ea];generalize hu1':L / 4294967296=u1 at *;generalize hu0':L%4294967296=u0 at *;have ha1:2147483648<=Y / 4294967296:=by omega
  have ha2:Y / 4294967296<4294967296:=by omega
  have hc:Y%4294967296<4294967296:=by omega
  generalize Y / 4294967296=a at *;generalize Y%4294967296=c at *;have a0:(!decide ((a:Int)=0))=true:=by simp; omega
  have hD':u<a*4294967296+c:=by omega
  have hY0':0<a*4294967296+c:=by omega
  rw[ac (aFy (by omega)),ac (aFy (by omega)),ac (aFy (by omega)),ac (aFy (by omega)),ac a0];have start:∀ v:Nat,v<18446744073709551616->IntKind.wrap .u64 (Int.tdiv (v:Int) (a:Int))=((v / a:Nat):Int)/\IntKind.wrap .u64 ((v:Int) - (IntKind.wrap .u64 (((v / a:Nat):Int)*(a:Int))))=((v%a:Nat):Int):=by
   intro v hv;have e1:Int.tdiv (v:Int) (a:Int)=((v / a:Nat):Int):=rfl;have h1:=aHa v a;have h2:=aGs v a;rw[e1,<- aFV];generalize v / a*a=P at *;generalize v / a=Q at *;generalize v%a=Z at *;constructor
   ·rw[ar]; omega
   ·rw[ar,ar]; omega
  obtain⟨g1,g2,g3,g4⟩:=IE ha1 ha2 hc hD' hu1;obtain⟨s1,s2⟩:=start u (by omega);rw[s1,s2,Q0 ha2 hc hu1 hD' (λp=>aHf hY0') (Gu hu1 hD') _ (u / a) (u%a) N (by omega) g1 g2 g3 g4];rw[ac a0];rw[<- eY2];have hY0:0<Y:=by omega
  have hR1:=aFO (u*4294967296+u1) hY0;have hE1:=aGs (u*4294967296+u1) Y;have e21:IntKind.wrap .u64 ((IntKind.wrap .u64 ((IntKind.wrap .u64 ((u:Int)*4294967296))+(u1:Int))) - (IntKind.wrap .u64 ((((u*4294967296+u1) / Y:Nat):Int)*(Y:Int))))=(((u*4294967296+u1)%Y:Nat):Int):=by rw[<- aFV];generalize (u*4294967296+u1) / Y*Y=P at *;rw[ar,ar,ar,ar]; omega
  simp only[e21];have hq1:(u*4294967296+u1) / Y<4294967296:=by rw[eY2]; exact Gu hu1 hD'
  obtain⟨q1,hq1e⟩:∃ q,q=(u*4294967296+u1) / Y:=⟨_,rfl⟩
  obtain⟨R1,hR1e⟩:∃ q,q=(u*4294967296+u1)%Y:=⟨_,rfl⟩
  rw[<- hq1e,<- hR1e];rw[<- hq1e]at hq1;rw[<- hR1e]at hR1;have hD2:R1<a*4294967296+c:=by omega
  obtain⟨g1,g2,g3,g4⟩:=IE ha1 ha2 hc hD2 hu0;obtain⟨s1,s2⟩:=start R1 (by omega);rw[s1,s2,Q1 ha2 hc hu0 hD2 (λp=>aHf hY0') (Gu hu0 hD2) _ (R1 / a) (R1%a) N (by omega) g1 g2 g3 g4,<- eY2];rw[ac (aFy (by omega))];have hR0:=aFO (R1*4294967296+u0) hY0;have hE0:=aGs (R1*4294967296+u0) Y;have hq0:(R1*4294967296+u0) / Y<4294967296:=by rw[eY2]; exact Gu hu0 hD2
  have e20:IntKind.wrap .u64 ((IntKind.wrap .u64 ((IntKind.wrap .u64 ((R1:Int)*4294967296))+(u0:Int))) - (IntKind.wrap .u64 ((((R1*4294967296+u0) / Y:Nat):Int)*(Y:Int))))=(((R1*4294967296+u0)%Y:Nat):Int):=by
   rw[<- aFV];obtain⟨P,hP⟩:∃ q,q=(R1*4294967296+u0) / Y*Y:=⟨_,rfl⟩
   obtain⟨Z,hZ⟩:∃ q,q=(R1*4294967296+u0)%Y:=⟨_,rfl⟩
   rw[<- hP,<- hZ]at hE0;rw[<- hZ]at hR0;rw[<- hP,<- hZ];rw[ar,ar,ar,ar]; omega
  rw[e20,oR];obtain⟨q0,hq0e⟩:∃ q,q=(R1*4294967296+u0) / Y:=⟨_,rfl⟩
  rw[<- hq0e]at hq0;rw[<- hq0e];congr 1;rw[ar,ar]; omega
theorem UP (Q n m:Nat) (h:m<n):(List.replicate (m+1) (0:Int)++(dlq Q n).drop (m+1)).set m ((Q / 18446744073709551616 ^ m%18446744073709551616:Nat):Int)=List.replicate m 0++(dlq Q n).drop m:=by rw[aHb,aFR,List.singleton_append,bT _ _ _ _ _ (by simp),g8 (n:=m) (by rw[al]; exact h),yN Q h]
theorem Ln {A d:Nat} (hd:0<d):(A / 18446744073709551616%d*18446744073709551616+A%18446744073709551616)%d=A%d/\(A / 18446744073709551616%d*18446744073709551616+A%18446744073709551616) / d=A / d%18446744073709551616:=by
 have h1:=aGv A 18446744073709551616;have h2:=aGv (A / 18446744073709551616) d;have h3:=aFO (A / 18446744073709551616) hd;have h4:A%18446744073709551616<18446744073709551616:=aFO _ (by decide);obtain⟨a,ha⟩:∃ a,a=A / 18446744073709551616:=⟨_,rfl⟩
 obtain⟨e,he⟩:∃ e,e=A%18446744073709551616:=⟨_,rfl⟩
 rw[<- ha]at h1 h2 h3 ⊢;rw[<- he]at h1 h4 ⊢;obtain⟨c,hc⟩:∃ c,c=a / d:=⟨_,rfl⟩
 obtain⟨r,hr⟩:∃ r,r=a%d:=⟨_,rfl⟩
 rw[<- hc,<- hr]at h2;rw[<- hr]at h3 ⊢;have h5:A=d*(c*18446744073709551616)+(r*18446744073709551616+e):=by rw[<- h1,<- h2,<- aFK,aFQ,aFD 18446744073709551616,aFD 18446744073709551616]; omega
 constructor
 ·rw[h5,aHH]
 ·rw[h5,aIu hd,aFD c,aHH];refine(aFJ ?_).symm;rw[aFI hd];have:=aFF 18446744073709551616 h3;rw[aG7]at this;rw[aFD _ d,aFD d];rw[aFD d]at this;omega
theorem nH (x:Nat):x<18446744073709551616 ^ (ai x).length:=by have:=mh (bE x); rwa [aK]at this
theorem Xa {N:Nat} (hN:8589934592<=N) {x d:Nat} (hd0:0<d) (hd:d<18446744073709551616) (hs:pN N (ai x)) (k:List Int->Int->Bool):Pc N (ai x) (d:Int) k=k (ai (x / d)) ((x%d:Nat):Int):=by
 unfold Pc TU;obtain⟨s1,s2⟩:=hs;have hx:=nH x;generalize hn:(ai x).length=n at *;rw[ac (iy (by omega) (by omega) (by omega) (by omega)),ac aFw,aFC];refine aS (λi=>(((x / 18446744073709551616 ^ (n - i)%d:Nat):Int),((n:Int) - 1 - (i:Int)),List.replicate (n - i) (0:Int)++(dlq (x / d) n).drop (n - i))) n ?_ (by omega) (λi hi K=>?_) (λK=>?_)
 ·rw[aHA,aF4 hx,Nat.zero_mod,aGi (by rw[al]; omega),aF7];simp
 ·obtain⟨m,hm⟩:∃ m,n - i=m+1:=⟨n - i - 1,by omega⟩
  have hm2:n - (i+1)=m:=by omega
  have ei:(n:Int) - 1 - (i:Int)=(m:Int):=by omega
  have ei2:(n:Int) - 1 - ((i+1:Nat):Int)=(m:Int) - 1:=by omega
  have hp:x / 18446744073709551616 ^ (m+1)=x / 18446744073709551616 ^ m / 18446744073709551616:=by rw[aFL,aFG]
  have hdg:x / d / 18446744073709551616 ^ m%18446744073709551616=x / 18446744073709551616 ^ m / d%18446744073709551616:=by rw[aFG,aFG,aFD d]
  obtain⟨n1,n2⟩:=Ln (A:=x / 18446744073709551616 ^ m) hd0;rw[hm,hm2,ei,ei2,hp];simp only[o7,aFC];have hl:(List.replicate (m+1) (0:Int)++(dlq (x / d) n).drop (m+1)).length=n:=by simp[al]; omega
  rw[aFy (by omega:(m:Int)>=0),aFB,hn,ac aFx,tB,KT hN hd (aFO _ (by decide)) (aFO _ hd0),n1,n2,<- hdg,hl,ac aFx,ac (aFy (by omega)),ac aFw,UP _ _ _ (by omega)]
 ·simp only[o7];have e0:(n:Int) - 1 - (n:Int) = -1:=by omega
  rw[e0,aFz (by omega),aFA,aF9,aHq,aHn];rw[aF_,aGk,aG1];have hq:x / d<18446744073709551616 ^ n:=aG_ (aHa _ _) hx;rw[oP _ (lC _ _) (by rw[al]; omega) (by rw[al]; omega) (λz=>k z ((x%d:Nat):Int)),qz hq]
theorem LX {P A B U3 V2 U V g:Nat} (hA:A<P) (hU:U=A+P*U3) (hV:V=B+P*V2) (hV0:0<V) (h:U3<g*V2):U / V<g:=by rw[aFI hV0,hU,hV,aFQ,aF0 g P V2];have:=aFH P h;rw[aIQ]at this;omega
theorem UC {W P A B U V u0 u1 u2 v0 v1:Nat} (hA:A<P) (hU:U=A+P*(u0+W*(u2*W+u1))) (hV:V=B+P*(v0+W*v1)) (hV0:0<V) (hv1:0<v1) (hu0:u0<W):U / V<=(u2*W+u1) / v1:=by
 refine Nat.le_of_lt_succ (LX hA hU hV hV0 ?_);have h1:=aHX (u2*W+u1) hv1;rw[aFD v1]at h1;have h2:=aFH W h1;rw[aIQ]at h2;have e:((u2*W+u1) / v1).succ*(v0+W*v1)=((u2*W+u1) / v1).succ*v0+W*(((u2*W+u1) / v1+1)*v1):=by rw[aFQ,aF0]
 rw[e];omega
theorem QZ {N:Nat} {o n u0 v0 v1 T d:Nat} {b c:List Int} (hn:2<=n) (hc1:c.getD (n - 2) 0=(v0:Int)) (hc2:c.getD (n - 1) 0=(v1:Int)) (hb:b.getD (o+(n - 2)) 0=(u0:Int)) (hcl:n<=c.length) (hbl:o+n+1<=b.length) (hbs:b.length<=1099511627780)
  (hv0:v0<18446744073709551616) (hv1:v1<18446744073709551616) (hu0:u0<18446744073709551616) (hd:∀ g,u0+18446744073709551616*T<g*(v0+18446744073709551616*v1)->d<g) :
  ∀ q r M,q<M->q<18446744073709551616->q*v1+r=T->r<18446744073709551616->d<=q ->
   ∃ g,d<=g/\g<18446744073709551616 /\ ∀ e0,ah M (uf N (Jp N) (Jq N) (Cl N) o (n+1) 0 n (n:Int) b c e0) ((q:Int),(r:Int))=e0 (g:Int):=by
 intro q;induction q using Nat.strongRecOn with
 | ind q ih=>
 intro r M hM hq hT hr hdq;obtain⟨M,rfl⟩:∃ m,M=m+1:=⟨M - 1,by omega⟩
 have i2:0+Int.toNat ((n:Int) - 2)=n - 2:=by omega
 have i1:0+Int.toNat ((n:Int) - 1)=n - 1:=by omega
 have j2:o+Int.toNat ((n:Int) - 2)=o+(n - 2):=by omega
 have hqv:=aGv (q*v0) 18446744073709551616;have hlo:q*v0%18446744073709551616<18446744073709551616:=aFO _ (by decide);by_cases hex:q*v0<=r*18446744073709551616+u0
 ·refine⟨q,hdq,hq,λe0=>?_⟩;show uf N _ _ _ o (n+1) 0 n (n:Int) b c e0 ((q:Int),(r:Int)) (ah M _)=_;simp only[uf,i2,i1,j2,hc1,hc2,hb];rw[ac aFw,ac aFx,ac (aFy (by omega)),EI N hq hv0];generalize q*v0%18446744073709551616=lo at *;generalize q*v0 / 18446744073709551616=hi at *;rcases aHK hi r with h | h | h
  ·rw[aFy (by omega:(hi:Int)<r),show(true==false)=false from rfl,aFA]
  ·subst h;rw[aFz (by omega:¬(hi:Int)<hi),show(false==false)=true from rfl,aFB,show((hi:Int)==hi)=true by simp,show(true==true)=true from rfl,aFB,ac aFw,ac aFx,ac (aFy (by omega)),aFy (by omega:(lo:Int)<=u0),aFB]
  ·exfalso; omega
 ·have hgt:=hd q (by rw[aFQ,aF0,<- hT]; rw[aFQ]; omega);obtain⟨p,rfl⟩:∃ p,q=p+1:=⟨q - 1,by omega⟩
  have w1:IntKind.wrap .u64 (((p+1:Nat):Int) - 1)=(p:Int):=by rw[ar]; omega
  have step:∀ e0:Int->Bool,ah (M+1) (uf N (Jp N) (Jq N) (Cl N) o (n+1) 0 n (n:Int) b c e0) (((p+1:Nat):Int),(r:Int))
    = cond (decide (18446744073709551616<=r+v1)) (e0 (p:Int)) (ah M (uf N (Jp N) (Jq N) (Cl N) o (n+1) 0 n (n:Int) b c e0) ((p:Int),((r+v1:Nat):Int))):=by
   intro e0;show uf N _ _ _ o (n+1) 0 n (n:Int) b c e0 (((p+1:Nat):Int),(r:Int)) (ah M _)=_;simp only[uf,i2,i1,j2,hc1,hc2,hb];have tail:(aj .i64 ((n:Int) - 1)&&((inR ((n:Int) - 1) n)&&((decide (n - 1<c.length))&&(Cl N (r:Int) (v1:Int) 0 (λ(at9:Int) (n5:Int)=>(cond (n5 != 0) (e0 (IntKind.wrap .u64 (((p+1:Nat):Int) - 1))) (ah M (uf N (Jp N) (Jq N) (Cl N) o (n+1) 0 n (n:Int) b c e0) ((IntKind.wrap .u64 (((p+1:Nat):Int) - 1)),at9))))))))
     = cond (decide (18446744073709551616<=r+v1)) (e0 (p:Int)) (ah M (uf N (Jp N) (Jq N) (Cl N) o (n+1) 0 n (n:Int) b c e0) ((p:Int),((r+v1:Nat):Int))):=by
    rw[ac aFw,ac aFx,ac (aFy (by omega)),sZ N (c:=0) (a:=r) (b:=v1) (d:=0) rfl rfl rfl (by omega),w1];by_cases hb2:18446744073709551616<=r+v1
    ·have:(((r+v1+0) / 18446744073709551616:Nat):Int)=1:=by omega
     rw[this,aFy hb2]; rfl
    ·have:(((r+v1+0) / 18446744073709551616:Nat):Int)=0:=by omega
     have e2:(r+v1+0)%18446744073709551616=r+v1:=by omega
     rw[this,e2,aFz hb2]; rfl
   rw[ac aFw,ac aFx,ac (aFy (by omega)),EI N hq hv0];generalize (p+1)*v0%18446744073709551616=lo at *;generalize (p+1)*v0 / 18446744073709551616=hi at *;rcases aHK hi r with h | h | h
   ·exfalso; omega
   ·subst h;rw[aFz (by omega:¬(hi:Int)<hi),show(false==false)=true from rfl,aFB,show((hi:Int)==hi)=true by simp,show(true==true)=true from rfl,aFB,ac aFw,ac aFx,ac (aFy (by omega)),aFz (by omega:¬(lo:Int)<=u0),aFA];exact tail
   ·rw[aFz (by omega:¬(hi:Int)<r),show(false==false)=true from rfl,aFB,show((hi:Int)==r)=false by simp; omega,show(false==true)=false from rfl,aFA];exact tail
  by_cases hb2:18446744073709551616<=r+v1
  ·exact⟨p,by omega,by omega,λe0=>by rw[step,aFy hb2,aFB]⟩
  ·obtain⟨g,g1,g2,g3⟩:=ih p (by omega) (r+v1) M (by omega) (by omega) (by rw[<- hT,aG7]; omega) (by omega) (by omega);exact⟨g,g1,g2,λe0=>by rw[step,aFz hb2,aFA]; exact g3 e0⟩
theorem nV {b:List Int} (o i:Nat):(b.drop o).getD i 0=b.getD (o+i) 0:=by rw[List.getD_eq_getElem?_getD,List.getD_eq_getElem?_getD,List.getElem?_drop]
theorem arQ (c:List Int) (m:Nat):ax (c.take (m+3))=ax (c.take m)+18446744073709551616 ^ m*((c.getD m 0).toNat+18446744073709551616*((c.getD (m+2) 0).toNat*18446744073709551616+(c.getD (m+1) 0).toNat)):=by rw[show m+3=m+2+1 by omega,ba,show m+2=m+1+1 by omega,ba,ba];simp only[aFL];generalize 18446744073709551616 ^ m=P;grind
theorem arP (c:List Int) (m:Nat):ax (c.take (m+2))=ax (c.take m)+18446744073709551616 ^ m*((c.getD m 0).toNat+18446744073709551616*(c.getD (m+1) 0).toNat):=by rw[show m+2=m+1+1 by omega,ba,ba];simp only[aFL];generalize 18446744073709551616 ^ m=P;grind
theorem W1 {N:Nat} (hN:1180591620717411303424<=N) {o n:Nat} {b c:List Int} (hn:2<=n) (hb:InWq b) (hc:InWq c) (hcl:n<=c.length) (hbl:o+n+1<=b.length) (hbs:b.length<=1099511627780)
  (htop:0<(c.getD (n - 1) 0).toNat) (hU:ax ((b.drop o).take (n+1))<ax (c.take n)*18446744073709551616) :
  ∃ g:Nat,ax ((b.drop o).take (n+1)) / ax (c.take n)<=g/\g<18446744073709551616 /\ ∀ k,aeq N o (n+1) 0 n b c k=k (g:Int):=by
 obtain⟨m,rfl⟩:∃ m,n=m+2:=⟨n - 2,by omega⟩
 have hU3:=arQ (b.drop o) m;have hV2:=arP c m;rw[nV,nV,nV]at hU3;have a0:=hb.at (i:=o+m);have a1:=hb.at (i:=o+(m+1));have a2:=hb.at (i:=o+(m+2));have c0:=hc.at (i:=m);have c1:=hc.at (i:=m+1);have hA:=be (hb.drop o) m;have hB:=be hc m;rw[show m+2 - 1=m+1 by omega]at htop;obtain⟨u0,hu0⟩:∃ u,u=(b.getD (o+m) 0).toNat:=⟨_,rfl⟩
 obtain⟨u1,hu1⟩:∃ u,u=(b.getD (o+(m+1)) 0).toNat:=⟨_,rfl⟩
 obtain⟨u2,hu2⟩:∃ u,u=(b.getD (o+(m+2)) 0).toNat:=⟨_,rfl⟩
 obtain⟨v0,hv0⟩:∃ u,u=(c.getD m 0).toNat:=⟨_,rfl⟩
 obtain⟨v1,hv1⟩:∃ u,u=(c.getD (m+1) 0).toNat:=⟨_,rfl⟩
 have g0:b.getD (o+m) 0=(u0:Int):=by omega
 have g1:b.getD (o+(m+1)) 0=(u1:Int):=by omega
 have g2:b.getD (o+(m+2)) 0=(u2:Int):=by omega
 have k0:c.getD m 0=(v0:Int):=by omega
 have k1:c.getD (m+1) 0=(v1:Int):=by omega
 rw[<- hu0,<- hu1,<- hu2]at hU3;rw[<- hv0,<- hv1]at hV2;rw[<- hv1]at htop;rw[show m+2+1=m+3 by omega];rw[show m+2+1=m+3 by omega]at hU;generalize ax ((b.drop o).take (m+3))=U at *;generalize ax (c.take (m+2))=V at *;have hV0:0<V:=by
  rcases aGR V with h | h
  ·rw[h,aG4]at hU; omega
  ·exact h
 have hq:U / V<18446744073709551616:=by rw[aFI hV0,aFD]; exact hU
 have i2:o+Int.toNat (((m+2:Nat):Int))=o+(m+2):=by omega
 have i1:o+Int.toNat (((m+2:Nat):Int) - 1)=o+(m+1):=by omega
 have j1:0+Int.toNat (((m+2:Nat):Int) - 1)=m+1:=by omega
 by_cases h0:v1<=u2
 ·refine⟨18446744073709551615,by omega,by omega,λk=>?_⟩;unfold aeq ZY;simp only[i2,i1,j1,g2,g1,k1];rw[ac aFx,ac (aFy (by omega)),ac aFw,ac aFx,ac (aFy (by omega)),aFy (by omega:(u2:Int)>=v1),aFB];rfl
 ·have hT:(u2*18446744073709551616+u1) / v1<18446744073709551616:=by rw[aFI htop];have:=aFH 18446744073709551616 (Nat.lt_of_not_le h0);rw[aIQ]at this;omega
  obtain⟨g,e1,e2,e3⟩:=QZ (N:=N) (o:=o) (n:=m+2) (T:=u2*18446744073709551616+u1) (d:=U / V) (u0:=u0) (v0:=v0) (v1:=v1) (by omega) (by rw[show m+2 - 2=m by omega]; exact k0) (by rw[show m+2 - 1=m+1 by omega]; exact k1) (by rw[show m+2 - 2=m by omega]; exact g0) hcl hbl hbs (by omega) (by omega) (by omega)
   (λg hg=>LX hA hU3 hV2 hV0 hg)
   ((u2*18446744073709551616+u1) / v1) ((u2*18446744073709551616+u1)%v1) N (by omega) hT (aGs _ _) (aHj (aFO _ htop) (by omega)) (UC hA hU3 hV2 hV0 htop (by omega))
  refine⟨g,e1,e2,λk=>?_⟩;unfold aeq ZY;simp only[i2,i1,j1,g2,g1,k1];rw[ac aFx,ac (aFy (by omega)),ac aFw,ac aFx,ac (aFy (by omega)),aFz (by omega:¬(u2:Int)>=v1),aFA];rw[ac aFx,ac (aFy (by omega)),ac aFw,ac aFx,ac (aFy (by omega)),ac aFw,ac aFx,ac (aFy (by omega))];rw[KT (by omega) (by omega) (by omega) (by omega),e3]
theorem V8 {b:List Int} {o i:Nat} (D:Nat) (h:o+i<=b.length):(b.take o++(dlq D i++b.drop (o+i))).length=b.length:=by simp[al]; omega
theorem V7 {b:List Int} {o i:Nat} (D:Nat) (h:o+i<b.length):(b.take o++(dlq D i++b.drop (o+i))).getD (o+i) 0=b.getD (o+i) 0:=by rw[<- aFR,g8 h,eG (by simp[al]; omega)]
theorem V9 {b:List Int} {o i:Nat} (D:Nat) (h:o+i<b.length):(b.take o++(dlq D i++b.drop (o+i))).set (o+i) ((D / 18446744073709551616 ^ i%18446744073709551616:Nat):Int)=b.take o++(dlq D (i+1)++b.drop (o+(i+1))):=by rw[<- aFR,g8 h,bT _ _ _ _ _ (by simp[al]; omega),dlq];simp[aGf]
theorem V5 {b:List Int} {o i n:Nat} (D E:Nat) (hi:i<=n) (h:o+n<=b.length):(b.take o++(dlq E i++((dlq D n).drop i++b.drop (o+n)))).length=b.length:=by simp[al]; omega
theorem V4 {b:List Int} {o i n:Nat} (D E:Nat) (hi:i<n) (h:o+n<=b.length):(b.take o++(dlq E i++((dlq D n).drop i++b.drop (o+n)))).getD (o+i) 0=((D / 18446744073709551616 ^ i%18446744073709551616:Nat):Int):=by rw[<- aFR,g8 (n:=i) (by rw[al]; exact hi),aHh,eG (by simp[al]; omega),yN D hi]
theorem V6 {b:List Int} {o i n:Nat} (D E:Nat) (hi:i<n) (h:o+n<=b.length):(b.take o++(dlq E i++((dlq D n).drop i++b.drop (o+n)))).set (o+i) ((E / 18446744073709551616 ^ i%18446744073709551616:Nat):Int)=b.take o++(dlq E (i+1)++((dlq D n).drop (i+1)++b.drop (o+n))):=by rw[<- aFR,g8 (n:=i) (by rw[al]; exact hi),aHh,bT _ _ _ _ _ (by simp[al]; omega),dlq];simp
theorem Ur {m:Nat} (S X:Nat):∀ n,n<=m->dlq (S+18446744073709551616 ^ m*X) n=dlq S n
 | 0,_=>rfl
 | n+1,h=>by rw[dlq,dlq,Ur S X n (by omega)];congr 3;refine mv (R:=18446744073709551616 ^ (m - (n+1))*X) ?_;rw[<- aFK,<- aFS,show n+1+(m - (n+1))=m by omega]
theorem Lp {w:List Int} {n i U Q:Nat} (hw:InWq w) (hl:w.length=n+1) (hU:U=ax w) (hi:i<=n) (hQ:Q<18446744073709551616 ^ (n+1)) :
  (((w.getD i 0).toNat+18446744073709551616 - Q / 18446744073709551616 ^ i%18446744073709551616 - (if ax (w.take i)<Q%18446744073709551616 ^ i then 1 else 0))%18446744073709551616=(U+18446744073709551616 ^ (n+1) - Q) / 18446744073709551616 ^ i%18446744073709551616)
  /\ (if (w.getD i 0).toNat<Q / 18446744073709551616 ^ i%18446744073709551616+(if ax (w.take i)<Q%18446744073709551616 ^ i then 1 else 0)then 1 else 0)=(if ax (w.take (i+1))<Q%18446744073709551616 ^ (i+1)then 1 else(0:Nat)):=by
 have hx:=hw.at (i:=i);have hA:=ba (m:=w) i;have hAl:=be hw i;have hp:=bN i;have hBl:=aFO Q hp;have hPs:18446744073709551616 ^ (i+1)=18446744073709551616 ^ i*18446744073709551616:=aFL ..;have hmm:Q%18446744073709551616 ^ (i+1)=Q%18446744073709551616 ^ i+18446744073709551616 ^ i*(Q / 18446744073709551616 ^ i%18446744073709551616):=by rw[hPs,aIo]
 have hyl:Q / 18446744073709551616 ^ i%18446744073709551616<18446744073709551616:=aFO _ (by decide);constructor
 ·obtain⟨R1,h1⟩:=di w (i+1);have hW:18446744073709551616 ^ (n+1)=18446744073709551616 ^ i*18446744073709551616*18446744073709551616 ^ (n - i):=by rw[<- hPs,<- aFS,show i+1+(n - i)=n+1 by omega]
  have hq:=KI (D:=U+18446744073709551616 ^ (n+1) - Q) (a:=U+18446744073709551616 ^ (n+1)) (b:=Q) (x:=(w.getD i 0).toNat) (y:=Q / 18446744073709551616 ^ i%18446744073709551616) (R1:=R1+18446744073709551616 ^ (n - i)) (R2:=Q / (18446744073709551616 ^ i*18446744073709551616)) hAl hBl rfl
   (by rw[hU,h1,hA,hW,hPs,aFQ]; omega)
   (by rw[<- hmm,hPs]; exact(aHG _ _).symm)
   (by omega)
  generalize (U+18446744073709551616 ^ (n+1) - Q) / 18446744073709551616 ^ i=Z at *;generalize Q / 18446744073709551616 ^ i%18446744073709551616=y at *;generalize (w.getD i 0).toNat=x at *;generalize ((R1+18446744073709551616 ^ (n - i):Nat):Int) - ((Q / (18446744073709551616 ^ i*18446744073709551616):Nat):Int)=RR at *;split at hq <;> rename_i hh <;> simp only[hh,aG8,aF6] <;> omega
 ·rw[hA,hmm];exact(uG _ _ _ _ _ hAl hBl).symm
theorem oS (i:Nat):(i:Int)+1=((i+1:Nat):Int):=rfl
theorem NO (p:Prop) [Decidable p]:(if p then(1:Int)else 0)=((if p then 1 else 0:Nat):Int):=by split <;> rfl
theorem PS (p:Nat) (h:p<18446744073709551616):IntKind.wrap .u64 (((p+1:Nat):Int) - 1)=(p:Int):=by rw[ar]; omega
theorem Kz {D V c v i:Nat} (hc:c=(D%18446744073709551616 ^ i+V) / 18446744073709551616 ^ i) :
  (D%18446744073709551616 ^ (i+1)+(V+18446744073709551616 ^ i*v)) / 18446744073709551616 ^ (i+1)=(D / 18446744073709551616 ^ i%18446744073709551616+v+c) / 18446744073709551616 /\
  ∀ R,(D+(V+18446744073709551616 ^ i*v+18446744073709551616 ^ (i+1)*R)) / 18446744073709551616 ^ i%18446744073709551616=(D / 18446744073709551616 ^ i%18446744073709551616+v+c)%18446744073709551616:=by
 have hp:=bN i;have hPs:18446744073709551616 ^ (i+1)=18446744073709551616 ^ i*18446744073709551616:=aFL ..;have hmm:D%18446744073709551616 ^ (i+1)=D%18446744073709551616 ^ i+18446744073709551616 ^ i*(D / 18446744073709551616 ^ i%18446744073709551616):=by rw[hPs,aIo]
 have e:D%18446744073709551616 ^ (i+1)+(V+18446744073709551616 ^ i*v)=(D%18446744073709551616 ^ i+V)+18446744073709551616 ^ i*(D / 18446744073709551616 ^ i%18446744073709551616+v):=by rw[hmm,aFQ]; omega
 have e2:(D%18446744073709551616 ^ (i+1)+(V+18446744073709551616 ^ i*v)) / 18446744073709551616 ^ i=D / 18446744073709551616 ^ i%18446744073709551616+v+c:=by rw[e,gF,<- hc]; omega
 constructor
 ·rw[hPs,<- aFG,<- hPs,e2]
 ·intro R;have e3:D+(V+18446744073709551616 ^ i*v+18446744073709551616 ^ (i+1)*R)=(D%18446744073709551616 ^ (i+1)+(V+18446744073709551616 ^ i*v))+18446744073709551616 ^ (i+1)*(D / 18446744073709551616 ^ (i+1)+R):=by have:=aHG D (18446744073709551616 ^ (i+1));rw[aFQ]; omega
  rw[mv e3,e2]
theorem Qa {D V c i:Nat} (hc:c=(D%18446744073709551616 ^ i+V) / 18446744073709551616 ^ i) :
  (D%18446744073709551616 ^ (i+1)+V) / 18446744073709551616 ^ (i+1)=(D / 18446744073709551616 ^ i%18446744073709551616+0+c) / 18446744073709551616 /\
  (D+V) / 18446744073709551616 ^ i%18446744073709551616=(D / 18446744073709551616 ^ i%18446744073709551616+0+c)%18446744073709551616:=by
 obtain⟨a1,a2⟩:=Kz (v:=0) hc;have a3:=a2 0;rw[aGU,aF5 V]at a1;rw[aGU,aGU,aF5 V]at a3;exact⟨a1,a3⟩
theorem Ws {N:Nat} (hN:1180591620717411303424<=N) {o n U V d:Nat} {b c:List Int} (hn:1<=n) (hc:InWq c) (hcl:n<=c.length) (hbl:o+(n+1)<=b.length) (hbs:b.length<=1099511627780) (hV:V=ax (c.take n)) (hUW:U<18446744073709551616 ^ (n+1)) (hd:∀ g,g<=d↔g*V<=U) {Sg:Fb} {Sf:pG} {Ss:tw} (e0:Int->List Int->Bool) :
  ∀ g M,g<M->g<18446744073709551616->d<=g->g*V<18446744073709551616 ^ (n+1) ->
   ah M (zT N Sg Sf Ss (Cl N) o (n+1) 0 n (n:Int) c e0) ((g:Int),((if U<g*V then 1 else 0:Nat):Int),b.take o++(dlq (U+18446744073709551616 ^ (n+1) - g*V) (n+1)++b.drop (o+(n+1))))=e0 (d:Int) (b.take o++(dlq (U+18446744073709551616 ^ (n+1) - d*V) (n+1)++b.drop (o+(n+1)))):=by
 intro g;induction g with
 | zero=>
  intro M hM _ hdg _;obtain⟨M,rfl⟩:∃ m,M=m+1:=⟨M - 1,by omega⟩
  have:d=0:=by omega
  subst this;show zT N Sg Sf Ss _ o (n+1) 0 n (n:Int) c e0 (_,_,_) (ah M _)=_;simp only[zT,aG4];rw[if_neg (by omega:¬ U<0),show(((0:Nat):Int) != 0)=false from rfl,aFA]
 | succ p ih=>
  intro M hM hg hdg hgW;obtain⟨M,rfl⟩:∃ m,M=m+1:=⟨M - 1,by omega⟩
  show zT N Sg Sf Ss _ o (n+1) 0 n (n:Int) c e0 (_,_,_) (ah M _)=_;have hps:(p+1)*V=p*V+V:=aG7 _ _;by_cases hlt:U<(p+1)*V
  ·have hdp:d<=p:=by
    rcases aGw p d with h | h
    ·have:=(hd (p+1)).1 h; omega
    ·exact h
   simp only[zT];rw[if_pos hlt,show(((1:Nat):Int) != 0)=true from rfl,aFB];obtain⟨D,hD⟩:∃ D,D=U+18446744073709551616 ^ (n+1) - (p+1)*V:=⟨_,rfl⟩
   obtain⟨E,hE⟩:∃ E,E=U+18446744073709551616 ^ (n+1) - p*V:=⟨_,rfl⟩
   have hDE:E=D+V:=by omega
   have hDl:D<18446744073709551616 ^ (n+1):=by omega
   rw[<- hD];refine aS (λi=>((((D%18446744073709551616 ^ i+ax (c.take i)) / 18446744073709551616 ^ i:Nat):Int),(i:Int),b.take o++(dlq E i++((dlq D (n+1)).drop i++b.drop (o+(n+1)))))) n ?_ (by omega) (λi hi K=>?_) (λK=>?_)
   ·simp[dlq,ax,aIn]
   ·have hx:=hc.at (i:=i);have hcv:=ba (m:=c) i;have hVl:=be hc i;have hp:=bN i;have hml:=aFO D hp;obtain⟨cy,hcy⟩:∃ cy,cy=(D%18446744073709551616 ^ i+ax (c.take i)) / 18446744073709551616 ^ i:=⟨_,rfl⟩
    have hcl1:cy<=1:=by
     have:cy<2:=by rw[hcy,aFI hp]; omega
     omega
    obtain⟨a1,a2⟩:=Kz (D:=D) (V:=ax (c.take i)) (v:=(c.getD i 0).toNat) hcy;obtain⟨R,hR⟩:=di (c.take n) (i+1);rw[aIB,aGY (by omega),<- hV,hcv]at hR;have a3:=a2 R;rw[<- hR,<- hDE]at a3;have hdl:D / 18446744073709551616 ^ i%18446744073709551616<18446744073709551616:=aFO _ (by decide);simp only[ML,aFC,aF3];rw[V5 D E (by omega) (by omega),V4 D E (by omega) (by omega)];rw[aFy (by omega:(i:Int)<n),aFB,ac aFx,ac (aFy (by omega)),ac aFx,ac (aFy (by omega)),<- hcy,
     sZ N (a:=D / 18446744073709551616 ^ i%18446744073709551616) (b:=(c.getD i 0).toNat) (d:=cy) rfl (by omega) rfl hcl1,ac aFx,ac (aFy (by omega)),ac aFw,<- a3,V6 D E (by omega) (by omega),<- a1,hcv,oS]
   ·have hp:=bN n;have hml:=aFO D hp;have hVl:V<18446744073709551616 ^ n:=by rw[hV]; exact be hc n
    obtain⟨cy,hcy⟩:∃ cy,cy=(D%18446744073709551616 ^ n+V) / 18446744073709551616 ^ n:=⟨_,rfl⟩
    have hcl1:cy<=1:=by
     have:cy<2:=by rw[hcy,aFI hp]; omega
     omega
    obtain⟨a1,a3⟩:=Qa (D:=D) (V:=V) (i:=n) hcy;rw[aFJ hDl,<- hDE]at a1;rw[<- hDE]at a3;simp only[ML,aFC];rw[aFz (by omega:¬(n:Int)<n),aFA,V5 D E (by omega) (by omega),V4 D E (by omega) (by omega),<- hV,<- hcy,ac aFx,ac (aFy (by omega)),
     sZ N (y:=0) (c:=((cy:Nat):Int)) (a:=D / 18446744073709551616 ^ n%18446744073709551616) (b:=0) (d:=cy) rfl rfl rfl hcl1,ac aFx,ac (aFy (by omega)),<- a3,<- a1,V6 D E (by omega) (by omega),PS p (by omega)]
    rw[aGi (by rw[al]; omega),aGk];have eb:IntKind.wrap .u64 (((1:Nat):Int) - ((E / 18446744073709551616 ^ (n+1):Nat):Int))=((if U<p*V then 1 else 0:Nat):Int):=by
     have hp1:=bN (n+1);by_cases h:U<p*V
     ·rw[if_pos h,aF4 (by omega),ar]; omega
     ·rw[if_neg h];have:E / 18446744073709551616 ^ (n+1)=1:=by refine Nat.div_eq_of_lt_le ?_ ?_ <;> omega
      rw[this,ar]; omega
    rw[eb,hE];exact ih M (by omega) (by omega) hdp (by omega)
  ·have:d=p+1:=by have:=(hd (p+1)).2 (by omega);omega
   subst this;simp only[zT];rw[if_neg hlt,show(((0:Nat):Int) != 0)=false from rfl,aFA]
theorem adG {N:Nat} (hN:1180591620717411303424<=N) {o n:Nat} {b c:List Int} (hn:2<=n) (hb:InWq b) (hc:InWq c) (hcl:n<=c.length) (hbl:o+(n+1)<=b.length) (hbs:b.length<=1099511627780)
  (htop:0<(c.getD (n - 1) 0).toNat) (hU:ax ((b.drop o).take (n+1))<ax (c.take n)*18446744073709551616) (k:Ky5) :
  ajw N o (n+1) 0 n b c k=k ((ax ((b.drop o).take (n+1)) / ax (c.take n):Nat):Int) (b.take o++(dlq (ax ((b.drop o).take (n+1))%ax (c.take n)) (n+1)++b.drop (o+(n+1)))):=by
 obtain⟨g,g1,g2,g3⟩:=W1 hN hn hb hc hcl (by omega) hbs htop hU;unfold ajw ahq;rw[g3];have hw:InWq ((b.drop o).take (n+1)):=(hb.drop o).take _;have hwl:((b.drop o).take (n+1)).length=n+1:=by rw[aGc,aHc]; omega
 have hwg:∀ i,i<=n->((b.drop o).take (n+1)).getD i 0=b.getD (o+i) 0:=λi hi=>by rw[Al (by omega),nV]
 generalize (b.drop o).take (n+1)=w at *;obtain⟨U,hUe⟩:∃ U,U=ax w:=⟨_,rfl⟩
 obtain⟨V,hVe⟩:∃ V,V=ax (c.take n):=⟨_,rfl⟩
 rw[<- hUe,<- hVe]at hU g1 ⊢;have hV0:0<V:=by
  rcases aGR V with h | h
  ·rw[h,aG4]at hU; omega
  ·exact h
 have hVl:V<18446744073709551616 ^ n:=by rw[hVe]; exact be hc n
 have hUW:U<18446744073709551616 ^ (n+1):=by rw[hUe]; have:=mh hw; rwa [hwl]at this
 have hgV:g*V<18446744073709551616 ^ (n+1):=by rw[aFL,aFD];exact aGA hVl g2
 have hres:b.take o++(dlq (U%V) (n+1)++b.drop (o+(n+1)))=b.take o++(dlq (U+18446744073709551616 ^ (n+1) - (U / V)*V) (n+1)++b.drop (o+(n+1))):=by
  have e:U+18446744073709551616 ^ (n+1) - (U / V)*V=U%V+18446744073709551616 ^ (n+1)*1:=by have:=aGs U V;omega
  rw[e,Ur _ _ _ (aFM _)]
 rw[hres];obtain⟨D,hD⟩:∃ D,D=U+18446744073709551616 ^ (n+1) - g*V:=⟨_,rfl⟩
 obtain⟨Q,hQ⟩:∃ Q,Q=g*V:=⟨_,rfl⟩
 have hQW:Q<18446744073709551616 ^ (n+1):=by rw[hQ]; exact hgV
 refine aS (λi=>(((g*ax (c.take i) / 18446744073709551616 ^ i:Nat):Int),((if ax (w.take i)<Q%18446744073709551616 ^ i then 1 else 0:Nat):Int),(i:Int),b.take o++(dlq D i++b.drop (o+i)))) n ?_ (by omega) (λi hi K=>?_) (λK=>?_)
 ·simp[dlq,ax,aIn]
 ·have hx:=hb.at (i:=o+i);have hy:=hc.at (i:=i);have hcv:=ba (m:=c) i;have hp:=bN i;have hVi:=be hc i;obtain⟨s1,s2⟩:=Lp hw hwl hUe (by omega:i<=n) (by rw[hQ]; exact hgV:Q<_);rw[hwg i (by omega)]at s1 s2;rw[hQ,<- hD,<- hQ]at s1;obtain⟨cy,hcy⟩:∃ cy,cy=g*ax (c.take i) / 18446744073709551616 ^ i:=⟨_,rfl⟩
  have hcyl:cy<18446744073709551616:=by rw[hcy,aFI hp];exact aGA g2 hVi
  have e1:g*ax (c.take (i+1))=g*ax (c.take i)+18446744073709551616 ^ i*(g*(c.getD i 0).toNat):=by rw[hcv,aFQ,aF0 g]
  have ecy:g*ax (c.take (i+1)) / 18446744073709551616 ^ (i+1)=(g*(c.getD i 0).toNat+0+cy) / 18446744073709551616:=by rw[aFL,<- aFG,e1,gF,<- hcy];congr 1; omega
  obtain⟨R,hR⟩:=di (c.take n) (i+1);rw[aIB,aGY (by omega),<- hVe]at hR;have elo:Q / 18446744073709551616 ^ i%18446744073709551616=(g*(c.getD i 0).toNat+0+cy)%18446744073709551616:=by
   have:Q=g*ax (c.take (i+1))+18446744073709551616 ^ (i+1)*(g*R):=by rw[hQ,hR,aFQ,aF0 g]
   rw[mv this,e1,gF,<- hcy];congr 1; omega
  simp only[MK,aFC,aF3];rw[V8 D (by omega),V7 D (by omega),aFy (by omega:(i:Int)<n),aFB,ac aFx,ac (aFy (by omega)),<- hcy,
   I2 N (c:=0) (a:=g) (b:=(c.getD i 0).toNat) (e:=0) (f:=cy) rfl (by omega) rfl rfl g2 (by omega) (by omega) hcyl,ac aFx,ac (aFy (by omega)),<- elo,<- ecy,
   EJ N (a:=(b.getD (o+i) 0).toNat) (b:=Q / 18446744073709551616 ^ i%18446744073709551616) (d:=if ax (w.take i)<Q%18446744073709551616 ^ i then 1 else 0) (by omega) rfl rfl (by split <;> omega),ac aFx,ac (aFy (by omega)),ac aFw,s1,V9 D (by omega)]
  have s3:(if (b.getD (o+i) 0).toNat<Q / 18446744073709551616 ^ i%18446744073709551616+(if ax (w.take i)<Q%18446744073709551616 ^ i then 1 else 0)then(1:Int)else 0)=((if ax (w.take (i+1))<Q%18446744073709551616 ^ (i+1)then 1 else 0:Nat):Int):=by rw[NO,s2]
  rw[s3];rfl
 ·have hx:=hb.at (i:=o+n);obtain⟨s1,s2⟩:=Lp hw hwl hUe (aFM n) (by rw[hQ]; exact hgV:Q<_);rw[hwg n (by omega)]at s1 s2;rw[hQ,<- hD,<- hQ]at s1;have hql:Q / 18446744073709551616 ^ n<18446744073709551616:=by rw[aFI (bN n),aFD,<- aFL,hQ]; exact hgV
  rw[aFJ hql]at s1 s2;have hwt:w.take (n+1)=w:=aFW (by omega);rw[hwt,<- hUe,aFJ hQW]at s2;simp only[MK,aFC];rw[aFz (by omega:¬(n:Int)<n),aFA,<- hVe,<- hQ,V8 D (by omega),V7 D (by omega),ac aFx,ac (aFy (by omega)),
   EJ N (a:=(b.getD (o+n) 0).toNat) (b:=Q / 18446744073709551616 ^ n) (d:=if ax (w.take n)<Q%18446744073709551616 ^ n then 1 else 0) (by omega) rfl rfl (by split <;> omega),ac aFx,ac (aFy (by omega)),s1,V9 D (by omega)]
  have s3:(if (b.getD (o+n) 0).toNat<Q / 18446744073709551616 ^ n+(if ax (w.take n)<Q%18446744073709551616 ^ n then 1 else 0)then(1:Int)else 0)=((if U<g*V then 1 else 0:Nat):Int):=by rw[<- hQ,NO,s2]
  rw[s3,hD];exact Ws hN (by omega) hc hcl hbl hbs hVe hUW (λp=>aHf hV0) _ g N (by omega) g2 g1 hgV
theorem Re {N:Nat} (b:List Int) (m:Nat) (hm:m<=b.length) (hN:m<N) (hs:m<9223372036854775807) (k:Kz1):UV N 0 m b k=k (d8 b m):=by
 unfold UV TQ;have key:∀ n,n<=m -> ∀ M,n<M->ah M (Cr N 0 m b λn_1=>((decide (0<=n_1/\n_1<=((m:Nat):Int)))&&(k ((Int.toNat n_1) - 0)))) (n:Int)=k (d8 b n):=by
  intro n;induction n with
  | zero=>
   intro _ M hM;obtain⟨M,rfl⟩:∃ m,M=m+1:=⟨M - 1,by omega⟩
   show Cr N 0 m b _ ((0:Nat):Int) _=_;simp only[Cr,d8];rw[aFz (by omega:¬((0:Nat):Int)>0),show(false==true)=false from rfl,aFA,aFy (by omega),aGB];rfl
  | succ n ih=>
   intro hn M hM;obtain⟨M,rfl⟩:∃ m,M=m+1:=⟨M - 1,by omega⟩
   show Cr N 0 m b _ ((n+1:Nat):Int) (ah M _)=_;have e:0+Int.toNat (((n+1:Nat):Int) - 1)=n:=by omega
   have e2:((n+1:Nat):Int) - 1=(n:Int):=by omega
   simp only[Cr,e];rw[aFy (by omega:((n+1:Nat):Int)>0),show(true==true)=true from rfl,aFB,ac aFw,ac aFx,ac (aFy (by omega)),ac aFw,e2,ih (by omega) M (by omega),uI];by_cases h0:b.getD n 0=0
   ·have:(b.getD n 0==0)=true:=by simpa using h0
    rw[this,if_pos h0]; rfl
   ·have:(b.getD n 0==0)=false:=by simpa using h0
    rw[this,if_neg h0,aFA,aFy (by omega),aGB];rfl
 exact key m (aFM _) N hN
theorem FA (N:Nat) (b:List Int) (m i:Nat) (hm:m<=b.length) (hi:i<9223372036854775807) (k:Kz0):U2 N 0 m (i:Int) b k=k ((b.take m).getD i 0):=by
 unfold U2 Y6;by_cases h:i<m
 ·rw[aFy (by omega),aFB,ac aFx,ac (aFy (by omega)),Al h];simp
 ·rw[aFz (by omega),aFA,ji (by rw[aGc]; omega)]
theorem OV {N:Nat} (b:List Int) (hb:InWq b) (m s:Nat) (hm:m<=b.length) (hs:s<64) (hN:m+3<N) (hms:m<=1099511627780):∃ lost:Bool,∀ k,aeu N 0 m (s:Int) b k=k (ai (ax (b.take m) / 2 ^ s)) lost:=by
 have ew:IntKind.wrap .u64 (Int.tdiv (s:Int) 64)=0:=by rw[ar,aGz (by omega)]; omega
 have es:Int.tmod (s:Int) 64=(s:Int):=by rw[aGo (by omega)]; omega
 have eml:IntKind.wrap .u64 ((m:Nat):Int)=(m:Int):=by rw[ar]; omega
 have hs0:0<2 ^ s:=aFN _;by_cases h0:m=0
 ·subst h0;refine⟨false,λk=>?_⟩;unfold aeu ZZ;rw[ew,aHP,show ax []=0 from rfl,Nat.zero_div,bW];rfl
 ·refine⟨aH .and .u64 (b.getD 0 0) (IntKind.wrap .u64 ((IntKind.wrap .u64 ((1:Int)*2 ^ s)) - 1)) != 0,λk=>?_⟩;unfold aeu ZZ;have emin:min s 64=s:=by omega
  have e64:min (Int.toNat (IntKind.wrap .u64 (64 - (s:Int)))) 64=64 - s:=by rw[ar]; omega
  have z0:0+Int.toNat (0:Int)=0:=rfl;have z1:Int.toNat (0:Int) - 0=0:=rfl;rw[ew,es,eml,aFz (by omega:¬(0:Int)>=(m:Int)),aFA,ac aFw,ac aFx,z0,z1,ac (aFy (by omega)),ac (aFy (by omega)),ac (aFy (by omega)),aFC,emin];refine aS (λi=>(aH .and .u64 (b.getD 0 0) (IntKind.wrap .u64 ((IntKind.wrap .u64 ((1:Int)*2 ^ s)) - 1)),(i:Int))) 0 rfl (by omega) (λi hi K=>by omega) (λK=>?_);simp only[qf];rw[aFz (by omega:¬((0:Nat):Int)<((0:Nat):Int)),aFA];generalize aH .and .u64 (b.getD 0 0) (IntKind.wrap .u64 ((IntKind.wrap .u64 ((1:Int)*2 ^ s)) - 1))=lo;have hw:InWq (b.take m):=hb.take m;have hwl:(b.take m).length=m:=by rw[aGc]; omega
  obtain⟨X,hX⟩:∃ X,X=ax (b.take m) / 2 ^ s:=⟨_,rfl⟩
  have elen:Int.toNat ((m:Int) - 0)=m:=by omega
  have elen2:(m:Int) - 0=(m:Int):=by omega
  rw[elen2,ac aFw,ac (iy (by omega) (by omega) (by omega) (by omega)),aGT,aFC,<- hX];refine aS (λi=>((i:Int),dlq X i++List.replicate (m - i) 0)) m (by simp[dlq]) (by omega) (λi hi K=>?_) (λK=>?_)
  ·have hx:=hw.at (i:=i);have hy:=hw.at (i:=i+1);have hset:=Aj X i m (by omega);have hl:(dlq X i++List.replicate (m - i) (0:Int)).length=m:=by simp[al]; omega
   obtain⟨R,hR⟩:=Io hw i;have hdig:X / 18446744073709551616 ^ i%18446744073709551616=(((b.take m).getD i 0).toNat+18446744073709551616*((b.take m).getD (i+1) 0).toNat) / 2 ^ s%18446744073709551616:=by
    rw[hX,aFG,aFD (2 ^ s),<- aFG,hR];have e2:18446744073709551616*18446744073709551616*R=2 ^ s*(18446744073709551616*(2 ^ (64 - s)*R)):=by
     have hs1:2 ^ s*2 ^ (64 - s)=18446744073709551616:=by rw[<- aFS,show s+(64 - s)=64 by omega]
     rw[aF0 (2 ^ s),<- aFK (2 ^ s),hs1,aFK]
    rw[e2,aGr _ _ hs0,aGL]
   have ea:(0:Int)+(i:Int)=(i:Int):=by omega
   have eb:(i:Int)+1=((i+1:Nat):Int):=by omega
   simp only[mK,aFC,ea,eb,emin,e64,hl];rw[aFy (by omega:(i:Int)<(m:Int)),aFB,ac aFw,FA N b m i hm (by omega),ac (aFy (by omega)),ac aFw,ac aFw,FA N b m (i+1) hm (by omega),ac (aFy (by rw[ar]; omega)),ac aFx,ac (aFy (by omega)),ac aFw];have ex:(b.take m).getD i 0=((((b.take m).getD i 0).toNat:Nat):Int):=by omega
   have ey:(b.take m).getD (i+1) 0=((((b.take m).getD (i+1) 0).toNat:Nat):Int):=by omega
   rw[ex,ey,Lq (by omega) (by omega) (by omega),<- hdig,hset]
  ·simp only[mK];rw[aFz (by omega:¬(m:Int)<(m:Int)),aFA,aF9,aF_,aF7];have hXl:X<18446744073709551616 ^ m:=by have h1:=mh hw;rw[hwl]at h1;rw[hX];exact aG_ (aHa _ _) h1
   have:=oP (N:=N) _ (lC X m) (by rw[al]; omega) (by rw[al]; omega) (λl=>k l (lo != 0));rw[this,qz hXl]
theorem Xd {N:Nat} (m:List Int) (hm:InWq m) (n:Nat) (hn:n<4294967296) (hN:m.length+n / 64+4<N) (hs:m.length<=1099511627776) {Sw:lQ} (e0:List Int->Bool) :
  ah N (Cv N Sw ((n / 64:Nat):Int) ((n%64:Nat):Int) m ((m.length:Nat):Int) e0) (0,List.replicate (n / 64+m.length+1) (0:Int))=e0 (dlq (ax m*2 ^ n) (n / 64+m.length+1)):=by
 have hw6:n / 64<67108864:=by omega
 generalize hw:n / 64=w at *;generalize hsh:n%64=s at *;have hs32:s<64:=by omega
 have hp2:2 ^ n=18446744073709551616 ^ w*2 ^ s:=by rw[Ml,hw,hsh]
 have hs0:0<2 ^ s:=aFN s;have hs1:2 ^ s*2 ^ (64 - s)=18446744073709551616:=by rw[<- aFS,show s+(64 - s)=64 by omega]
 let V:=ax m*2 ^ n
 let X:=ax m*2 ^ s
 have hVX:V=18446744073709551616 ^ w*X:=by simp only[V,X]; rw[hp2,aF0]
 let T:=λi=>ax (m.take i)*2 ^ s
 let c:=λi=>T i / 18446744073709551616 ^ i
 have hcl:∀ i,c i<2 ^ s:=by intro i;simp only[c,T];rw[aFI (bN i),aFD];exact aGF (be hm i) hs0
 refine aS (N:=N) (λi=>((i:Int),dlq V (w+i)++((c i:Nat):Int)::List.replicate (m.length - i) 0)) m.length ?_ (by omega) (λi hi K=>?_) (λK=>?_)
 ·congr 1;show List.replicate (w+m.length+1) (0:Int)=dlq V w++((c 0:Nat):Int)::List.replicate m.length 0;rw[hVX,yO];have hc0:c 0=0:=by simp[c,T,ax]
  rw[hc0];have:w+m.length+1=w+(m.length+1):=by omega
  rw[this,<- aHd,aGh]; rfl
 ·have hx:=hm.at (i:=i);have hT:T (i+1)=T i+18446744073709551616 ^ i*((m.getD i 0).toNat*2 ^ s):=by simp only[T,ba,aF2,aFK]
  have hq:T (i+1) / 18446744073709551616 ^ i=c i+(m.getD i 0).toNat*2 ^ s:=by rw[hT,gF]
  have hci:c i<2 ^ s:=hcl i;have hc1:c (i+1)=(c i+(m.getD i 0).toNat*2 ^ s) / 18446744073709551616:=by rw[<- hq]; simp only[c]; rw[aFL,aFG]
  have hdig:V / 18446744073709551616 ^ (w+i)%18446744073709551616=(c i+(m.getD i 0).toNat*2 ^ s)%18446744073709551616:=by rw[<- hq,hVX,aFS,<- aFG,aF8 _ (bN w)];obtain⟨R,hR⟩:=di m (i+1);refine mv (R:=R*2 ^ s) ?_;simp only[X,T];rw[hR,aF2,aFK]
  have hrep:List.replicate (m.length - i) (0:Int)=0::List.replicate (m.length - (i+1)) 0:=by rw[show m.length - i=(m.length - (i+1))+1 by omega,aGh]
  have hdl:=al V (w+i);have ei:Int.toNat ((w:Int)+(i:Int))=w+i:=by omega
  have ei1:Int.toNat ((w:Int)+(i:Int)+1)=w+i+1:=by omega
  have emin:min s 64=s:=by omega
  have e64:min (Int.toNat (IntKind.wrap .u64 (64 - (s:Int)))) 64=64 - s:=by rw[ar]; omega
  simp only[Cv,aFC,ei,ei1,emin,e64];rw[hrep,eG hdl.symm,bT _ _ _ _ _ hdl.symm];have hmx:m.getD i 0=(((m.getD i 0).toNat:Nat):Int):=by omega
  rw[hmx];generalize hxx:(m.getD i 0).toNat=x at *;have hx32:x<18446744073709551616:=by omega
  have hlow:x*2 ^ s%18446744073709551616=2 ^ s*(x%2 ^ (64 - s)):=by
   have e:x*2 ^ s%(2 ^ s*2 ^ (64 - s))=2 ^ s*(x%2 ^ (64 - s)):=by rw[aFD x]; exact aHi _ _ _
   rwa [hs1]at e
  have hsum:2 ^ s*(x%2 ^ (64 - s))+c i<18446744073709551616:=by have h1:x%2 ^ (64 - s)+1<=2 ^ (64 - s):=aFO _ (aFN _);have h2:=aFH (2 ^ s) h1;rw[hs1,aFQ]at h2;omega
  have epw:(x:Int)*2 ^ s=((x*2 ^ s:Nat):Int):=by rw[aFV,aG0]; rfl
  have eor:aH .or .u64 ((c i:Nat):Int) (IntKind.wrap .u64 ((x:Int)*2 ^ s))=((V / 18446744073709551616 ^ (w+i)%18446744073709551616:Nat):Int):=by
   have e1:IntKind.wrap .u64 ((x*2 ^ s:Nat):Int)=((2 ^ s*(x%2 ^ (64 - s)):Nat):Int):=by rw[<- hlow,ar]; omega
   rw[epw,e1,gb _ _ s hci hsum,hdig];omega
  have ehi:Int.fdiv (x:Int) (2 ^ (64 - s))=((c (i+1):Nat):Int):=by
   have e2:(2:Int) ^ (64 - s)=((2 ^ (64 - s):Nat):Int):=by rw[aG0]; rfl
   rw[e2,oR,hc1];have:(c i+x*2 ^ s) / 18446744073709551616=x / 2 ^ (64 - s):=by rw[<- hs1,<- aFG,aFD x,aGr _ _ hs0,aF4 hci,aF3]
   rw[this]
  rw[eor,ehi];have hl1:∀(a b:Int) (ys:List Int),(dlq V (w+i)++a::b::ys).length=w+i+2+ys.length:=by intro a b ys; simp[hdl]; omega
  have hset2:(dlq V (w+i)++((V / 18446744073709551616 ^ (w+i)%18446744073709551616:Nat):Int)::0::List.replicate (m.length - (i+1)) 0).set (w+i+1) ((c (i+1):Nat):Int)=dlq V (w+(i+1))++((c (i+1):Nat):Int)::List.replicate (m.length - (i+1)) 0:=by
   have:dlq V (w+i)++((V / 18446744073709551616 ^ (w+i)%18446744073709551616:Nat):Int)::0::List.replicate (m.length - (i+1)) 0=dlq V (w+(i+1))++0::List.replicate (m.length - (i+1)) 0:=by rw[<- aGf,dlq]; simp
   rw[this];exact bT _ _ _ _ _ (by rw[al]; omega)
  rw[hset2,hl1,hl1];simp only[aGT];rw[aFy (by omega:(i:Int)<((m.length:Nat):Int)),aFB,ac aFx,ac aFw,ac aFx,ac (aFy (by omega)),ac (aFy (by omega)),ac aFx,ac (aFy (by omega)),ac aFw,ac aFw,ac (aFy (by rw[ar]; omega)),ac aFx,ac (aFy (by omega)),ac aFw];rfl
 ·simp only[Cv];rw[aFz (by omega:¬(m.length:Int)<m.length),aFA,aF9,aF_];have hV:V<18446744073709551616 ^ (w+m.length+1):=by
   have h1:=mh hm;simp only[V];rw[hp2,aFL,aFS,aF0,aFK];refine aGF ?_ (bN w);have hs2:2 ^ s<=18446744073709551616:=by rw[<- hs1]; exact aGt _ (aFN _)
   exact aGg h1 hs2 (by decide)
  have hT:T m.length=X:=by simp only[T,X]; rw[aGe]
  have hend:dlq V (w+m.length)++[((c m.length:Nat):Int)]=dlq V (w+m.length+1):=by
   rw[dlq];have:c m.length=V / 18446744073709551616 ^ (w+m.length)%18446744073709551616:=by
    have hX:V / 18446744073709551616 ^ (w+m.length)=X / 18446744073709551616 ^ m.length:=by rw[hVX,aFS,<- aFG,aF8 _ (bN w)]
    have h2:=hcl m.length;have hs2:2 ^ s<=18446744073709551616:=by rw[<- hs1]; exact aGt _ (aFN _)
    rw[hX,<- hT];exact(aFJ (by show c m.length<_; omega)).symm
   rw[this]
  rw[hend]
theorem Oh (n:Nat):dlq n (ai n).length=ai n:=by refine List.ext_getElem (al n _) (λi h1 h2=>?_);have e1:=yN n h2;have e2:=tB i n;rw[List.getD_eq_getElem?_getD,List.getElem?_eq_getElem h1,aGj]at e1;rw[List.getD_eq_getElem?_getD,List.getElem?_eq_getElem h2,aGj]at e2;rw[e1,e2]
theorem LE {X L:Nat} (hX:X<18446744073709551616 ^ L):∀ k,dlq X (L+k)=dlq X L++List.replicate k 0
 | 0=>by simp
 | k+1=>by rw[<- aGf,dlq,LE hX k,aF4 (aFT hX (aFP (by decide) (aHR _ _))),aHb,aFR];rfl
theorem yP (S:Nat):∀{m n:Nat},n<=m->(dlq S m).take n=dlq S n
 | 0,n,h=>by
  have:n=0:=by omega
  subst this; rfl
 | m+1,n,h=>by
  by_cases e:n=m+1
  ·subst e; rw[aFW (by rw[al]; omega)]
  ·rw[dlq,aGy (by rw[al]; omega),yP S (by omega)]
theorem KK (S a:Nat):∀ c,dlq S (a+c)=dlq S a++dlq (S / 18446744073709551616 ^ a) c
 | 0=>by simp[dlq]
 | c+1=>by rw[<- aGf,dlq,KK S a c,dlq,aFG,<- aFS,aFR]
theorem QE {V m:Nat} (h:V<18446744073709551616 ^ m):d8 (dlq V m) m=(ai V).length:=by have h1:=D0 (lC V m);rw[al,wb,aFJ h]at h1;rw[<- h1,aGc,al];have:=nU (dlq V m) m;omega
theorem an1 {V m:Nat} (h1:18446744073709551616 ^ m<=V) (h2:V<18446744073709551616 ^ (m+1)):(ai V).length=m+1:=by have a:=kz (m+1) V h2;have b:=an0 (V:=V) (w:=m) (by have:=aHW h1 (bN m); omega);omega
theorem Bb {N:Nat} {m s:Nat} (hm:m ≠ 0) (hs:s<64) (hN:(ai m).length+4<N) (hl:(ai m).length<=1099511627776) (k0:Bool) (k1:Nat->List Int->Bool) :
  ajv N (ai m) (s:Int) k0 k1=k1 (ai (m*2 ^ s)).length (dlq (m*2 ^ s) ((ai m).length+1)):=by
 have hlp:(ai m).length ≠ 0:=by rw[eB hm]; simp
 have hV:m*2 ^ s<18446744073709551616 ^ ((ai m).length+1):=by
  rw[aFL];have h2:2 ^ s<18446744073709551616:=by rw[<- tU]; exact Nat.pow_lt_pow_right (by decide) hs
  exact aGA (nH m) h2
 unfold ajv aho;have e0:((((ai m).length:Nat):Int)==0)=false:=by simp; intro h; rw[h]at hlp; simp at hlp
 have ew:IntKind.wrap .u64 (Int.tdiv (s:Int) 64)=((s / 64:Nat):Int):=by rw[ar,aGz (by omega)]; omega
 have es:Int.tmod (s:Int) 64=((s%64:Nat):Int):=by rw[aGo (by omega)]; rfl
 have elen:Int.toNat (((s / 64:Nat):Int)+(((ai m).length:Nat):Int)+1)=s / 64+(ai m).length+1:=by omega
 rw[e0,aFA,ew,es,ac aFw,ac aFw,ac aFw,ac (iy (by omega) (by omega) (by omega) (by omega)),elen];have:=Xd (N:=N) (ai m) (bE m) s (by omega) (by omega) hl (Sw:=sQ9 N) (λz_1=>sQ9 N z_1 λmr=>k1 mr z_1);rw[aK,show s / 64=0 by omega,aF3]at this;rw[show s / 64=0 by omega,aF3];refine Eq.trans this ?_;rw[I4 _ (by rw[al]; omega) (by rw[al]; omega),al,QE hV]
theorem Xg (xs:List Int) (k:Nat):ax (xs++List.replicate k 0)=ax xs:=by rw[sI,Gf]; simp
theorem Dw {N:Nat} (hN:1180591620717411303424<=N) {x y:Nat} (hxy:y<=x) (hy2:2<=(ai y).length) (hxl:(ai x).length<=1099511627000) (k:Ky8) :
  ye N (ai x) (ai y) k=k (ai (x / y)) (ai (x%y)):=by
 have hy0:y ≠ 0:=by intro h; rw[h,bW]at hy2; simp at hy2
 have hyx:=ii hxy;have hylt:=nH y;have hxlt:=nH x;have hylo:18446744073709551616 ^ ((ai y).length - 1)<=y:=by
  rcases aGw y (18446744073709551616 ^ ((ai y).length - 1))with h | h
  ·have:=kz _ _ h; omega
  ·exact h
 unfold ye Nc;rw[mE x y ⟨by omega,by omega⟩ ⟨by omega,by omega⟩];have hc:decide (iP x y<0)=false:=by unfold iP; rw[if_neg (by omega)]; split <;> rfl
 obtain⟨n,hn⟩:∃ n,(ai y).length=n+2:=⟨(ai y).length - 2,by omega⟩
 obtain⟨lx,hlx⟩:∃ lx,(ai x).length=lx:=⟨_,rfl⟩
 have htd:(ai y).getD (n+1) 0=((y / 18446744073709551616 ^ (n+1):Nat):Int):=by rw[tB,aFJ];rw[aFI (bN _),aFD,<- aFL];rw[hn]at hylt; exact hylt
 rw[hn]at hylt hylo;rw[hlx]at hxlt;rw[show n+2 - 1=n+1 by omega]at hylo;obtain⟨t,ht⟩:∃ t,t=y / 18446744073709551616 ^ (n+1):=⟨_,rfl⟩
 rw[<- ht]at htd;have htl:t<18446744073709551616:=by rw[ht,aFI (bN _),aFD,<- aFL]; exact hylt
 have ht0:t ≠ 0:=by have:=aHW hylo (bN (n+1)); omega
 obtain⟨g1,g2,g3⟩:=V0 ht0 htl;have ein:Int.toNat (((n+2:Nat):Int) - 1)=n+1:=by omega
 have e1':(((n+2:Nat):Int)==1)=false:=by simp; omega
 rw[hc,aFA,hn,hlx,e1',aFA,ac aFw,ac aFx,ein,htd,OI N htl];obtain⟨s,hs⟩:∃ s,s=64 - bl t:=⟨_,rfl⟩
 rw[<- hs]at g1 g2 g3 ⊢;have hs0:0<2 ^ s:=aFN s;have ews:IntKind.wrap .u64 ((s:Nat):Int)=(s:Int):=by rw[ar]; omega
 rw[ews];obtain⟨V,hV⟩:∃ V,V=y*2 ^ s:=⟨_,rfl⟩
 obtain⟨X,hX⟩:∃ X,X=x*2 ^ s:=⟨_,rfl⟩
 have hVlt:V<18446744073709551616 ^ (n+2):=by
  have h1:=aHX y (bN (n+1));rw[<- ht]at h1;have h2:y*2 ^ s<18446744073709551616 ^ (n+1)*(t+1)*2 ^ s:=aGl h1 hs0;have h3:(t+1)*2 ^ s<=18446744073709551616:=by
   have hd:2 ^ s*2 ^ (64 - s)=18446744073709551616:=by rw[<- aFS,show s+(64 - s)=64 by omega]
   have h4:t<2 ^ (64 - s):=by rw[aFD]at g3;rw[<- hd]at g3;exact aHQ g3
   rw[<- hd,aFD];exact aFH _ h4
  have h5:=aFH (18446744073709551616 ^ (n+1)) h3;rw[hV,show n+2=n+1+1 by omega,aFL];rw[aFK]at h2;omega
 have hVge:18446744073709551616 ^ (n+1)<=V:=by rw[hV]; exact aF1 hylo (aGt _ hs0)
 have hVlen:(ai V).length=n+2:=an1 hVge hVlt;have hV0:0<V:=aFT (bN _) hVge;have hx0:x ≠ 0:=by omega
 rw[Bb hy0 g1 (by omega) (by omega),hn,<- hV,hVlen,Bb hx0 g1 (by omega) (by omega),hlx,<- hX];have hs2:2 ^ s<=18446744073709551616:=by rw[<- tU]; exact aFP (by decide) (by omega)
 have hXlt:X<18446744073709551616 ^ (lx+1):=by rw[hX,aFL]; exact aGg hxlt hs2 (by decide)
 have hXlen1:(ai X).length<=lx+1:=kz _ _ hXlt;have hXlen2:lx<=(ai X).length:=by rw[<- hlx,hX]; exact ii (aGt _ hs0)
 have etk:(dlq X (lx+1)).take (ai X).length=ai X:=by rw[yP X hXlen1,Oh]
 have ebl:(ai X++[0,0]).length=(ai X).length+2:=by simp
 obtain⟨M,hM⟩:∃ M,lx+1=M+(n+2):=⟨lx+1 - (n+2),by omega⟩
 have eu1:Int.toNat ((lx:Int)+1) - 0=lx+1:=by omega
 have eM:(((lx+1:Nat):Int) - ((n+2:Nat):Int))=(M:Int):=by omega
 rw[aG1,etk,ebl,eu1,eM];rw[ac (aFy (by rw[al]; omega)),ac (aFy (by omega)),ac aFw,ac (aFy (by omega)),ac aFw,ac (iy (by omega) (by omega) (by omega) (by omega)),ac aFw,ac aFw,aFC];obtain⟨tail,htail⟩:∃ tail,tail=(ai X++[(0:Int),0]).drop (lx+1):=⟨_,rfl⟩
 have htw:InWq tail:=by
  rw[htail];refine InWq.drop (λz hz=>?_) _;rcases List.mem_append.1 hz with h | h
  ·exact bE X z h
  ·simp only[aGW,aHw,or_false,or_self]at h; subst h; omega
 have htlen:tail.length<=2:=by rw[htail,aHc,ebl]; omega
 have hstart:ai X++[(0:Int),0]=dlq X M++(dlq (X / 18446744073709551616 ^ M%V) (n+2)++(List.replicate 0 0++tail)):=by
  have hXM:X / 18446744073709551616 ^ M<V:=by
   rw[aFI (bN M),hX,hV];have h1:x*2 ^ s<18446744073709551616 ^ lx*2 ^ s:=aGl hxlt hs0;have h2:18446744073709551616 ^ lx=18446744073709551616 ^ (n+1)*18446744073709551616 ^ M:=by rw[<- aFS]; congr 1; omega
   have h3:=aFF (18446744073709551616 ^ M*2 ^ s) hylo;rw[h2,aFK]at h1;have e:y*2 ^ s*18446744073709551616 ^ M=y*(18446744073709551616 ^ M*2 ^ s):=by rw[aFK,aFD (2 ^ s)]
   rw[e]; omega
  rw[aFJ hXM,aF_,aGk,<- aFR,<- KK,<- hM];rw[htail];have hpad:(ai X++[(0:Int),0]).take (lx+1)=dlq X (lx+1):=by
   have:ai X++[(0:Int),0]=dlq X ((ai X).length+2):=by rw[LE (nH X) 2,Oh]; rfl
   rw[this,yP X (by omega)]
  rw[<- hpad,aHE]
 rw[hstart];have hQlt:X / V<18446744073709551616 ^ M:=by
  rw[aFI hV0];have h1:x*2 ^ s<18446744073709551616 ^ lx*2 ^ s:=aGl hxlt hs0;have h2:18446744073709551616 ^ lx=18446744073709551616 ^ M*18446744073709551616 ^ (n+1):=by rw[<- aFS]; congr 1; omega
  have h3:=aFH (18446744073709551616 ^ M) (aFF (2 ^ s) hylo);rw[hX,hV];rw[h2,aFK]at h1;omega
 have hmk:M<=1099511627001:=by omega
 refine aS (λi=>((M:Int) - 1 - (i:Int),dlq X (M - i)++(dlq (X / 18446744073709551616 ^ (M - i)%V) (n+2)++(List.replicate i 0++tail)),List.replicate (M - i) (0:Int)++(dlq (X / V) M).drop (M - i))) M ?_ (by omega) (λi hi K=>?_) (λK=>?_)
 ·rw[aHA,aGi (by rw[al]; omega),aF7];congr 1;omega
 ·obtain⟨j,hj⟩:∃ j,M - i=j+1:=⟨M - i - 1,by omega⟩
  have hj2:M - (i+1)=j:=by omega
  have ei:(M:Int) - 1 - (i:Int)=(j:Int):=by omega
  have ei2:(M:Int) - 1 - ((i+1:Nat):Int)=(j:Int) - 1:=by omega
  rw[hj,hj2,ei,ei2];obtain⟨A,hA⟩:∃ A,A=X / 18446744073709551616 ^ j:=⟨_,rfl⟩
  have hA1:X / 18446744073709551616 ^ (j+1)=A / 18446744073709551616:=by rw[hA,aFL,aFG]
  obtain⟨n1,n2⟩:=Ln (A:=A) hV0;obtain⟨R,hR⟩:∃ R,R=A / 18446744073709551616%V:=⟨_,rfl⟩
  have hRV:R<V:=by rw[hR]; exact aFO _ hV0
  rw[hA1,<- hR];rw[<- hR]at n1 n2;obtain⟨b,hb⟩:∃ b,b=dlq X (j+1)++(dlq R (n+2)++(List.replicate i 0++tail)):=⟨_,rfl⟩
  have hblen:b.length=j+1+(n+2)+i+tail.length:=by rw[hb]; simp[al]; omega
  have hbw:InWq b:=by
   rw[hb];intro z hz;rcases List.mem_append.1 hz with h | h
   ·exact lC _ _ z h
   ·rcases List.mem_append.1 h with h | h
    ·exact lC _ _ z h
    ·rcases List.mem_append.1 h with h | h
     ·have:=(List.mem_replicate.1 h).2; subst this; omega
     ·exact htw z h
  have hbt:b.take j=dlq X j:=by rw[hb,aGy (by rw[al]; omega),yP X (by omega)]
  have hbd:b.drop j=((A%18446744073709551616:Nat):Int)::(dlq R (n+2)++(List.replicate i 0++tail)):=by rw[hb,dlq,aFR,aGx (by rw[al]; omega),aGi (by rw[al]; omega),aGk,hA];rfl
  have hwv:ax ((b.drop j).take (n+2+1))=R*18446744073709551616+A%18446744073709551616:=by rw[hbd,aIk,aGy (by rw[al]; omega),aFW (by rw[al]; omega),ax,wb,aFJ (aHj hRV hVlt),aFC];omega
  have hbd2:b.drop (j+(n+2+1))=List.replicate i 0++tail:=by rw[<- List.drop_drop,hbd,List.drop_succ_cons,aGx (by rw[al]; omega),aGi (by rw[al]; omega),aGk]
  have hcv:ax ((dlq V (n+2+1)).take (n+2))=V:=by rw[yP V (by omega),wb,aFJ hVlt]
  have hctop:0<((dlq V (n+2+1)).getD (n+2 - 1) 0).toNat:=by
   rw[yN V (by omega),aFC,show n+2 - 1=n+1 by omega,aFJ]
   ·exact aHW hVge (bN _)
   ·rw[aFI (bN _),aFD,<- aFL]; exact hVlt
  have hAm:A%18446744073709551616<18446744073709551616:=aFO _ (by decide);have hstep:=λkk=>adG hN (o:=j) (n:=n+2) (b:=b) (c:=dlq V (n+2+1)) (by omega) hbw (lC _ _) (by rw[al]; omega) (by omega) (by omega) hctop (by rw[hwv,hcv];have:=aFF 18446744073709551616 hRV;rw[aG7]at this;omega) kk
  rw[hwv,hcv,n1,n2,hbt,hbd2]at hstep;have hnext:dlq X j++(dlq (A%V) (n+2+1)++(List.replicate i 0++tail))=dlq X j++(dlq (A%V) (n+2)++(List.replicate (i+1) 0++tail)):=by rw[LE (aHj (aFO A hV0) hVlt) 1,aFR,aGh];rfl
  have hdg:X / V / 18446744073709551616 ^ j%18446744073709551616=A / V%18446744073709551616:=by rw[hA,aFG,aFG,aFD V]
  have ej:0+Int.toNat (j:Int)=j:=by omega
  have ej2:Int.toNat ((j:Int)+((n+2:Nat):Int)+1) - Int.toNat (j:Int)=n+2+1:=by omega
  rw[<- hb];simp only[Co,ej,ej2];rw[aFy (by omega:(j:Int)>=0),aFB,ac aFw,ac aFw,ac (aFy (by omega))];rw[hstep];have hql:(List.replicate (j+1) (0:Int)++(dlq (X / V) M).drop (j+1)).length=M:=by simp[al]; omega
  rw[hql,ac aFx,ac (aFy (by omega)),ac aFw,aFC,<- hdg,UP _ _ _ (by omega),hnext,<- hA]
 ·simp only[Co];have e0:(M:Int) - 1 - (M:Int) = -1:=by omega
  rw[e0,aFz (by omega),aFA,aF9,aHq,aHn,aF_,aGk,aG1];obtain⟨L,hL⟩:∃ L,L=dlq X 0++(dlq (X%V) (n+2)++(List.replicate M 0++tail)):=⟨_,rfl⟩
  have hRlt:X%V<18446744073709551616 ^ (n+2):=aHj (aFO _ hV0) hVlt;have hLt:L.take (lx+1)=dlq (X%V) (n+2)++List.replicate M 0:=by rw[hL,hM,show dlq X 0=[] from rfl,aGk,<- aFR,aGy (by simp[al]; omega),aFW (by simp[al]; omega)]
  have hLw:InWq L:=by
   rw[hL];intro z hz;rcases List.mem_append.1 hz with h | h
   ·cases h
   ·rcases List.mem_append.1 h with h | h
    ·exact lC _ _ z h
    ·rcases List.mem_append.1 h with h | h
     ·have:=(List.mem_replicate.1 h).2; subst this; omega
     ·exact htw z h
  have hLlen:lx+1<=L.length:=by rw[hL]; simp[al]; omega
  rw[<- hL];unfold Kt;rw[Re L (lx+1) hLlen (by omega) (by omega)];have hcl:=nU L (lx+1);obtain⟨lost,hlost⟩:=OV (N:=N) L hLw (d8 L (lx+1)) s (by omega) g1 (by omega) (by omega);rw[hlost,wN,hLt,Xg,wb,aFJ hRlt];have:=oP (N:=N) (dlq (X / V) M) (lC _ _) (by rw[al]; omega) (by rw[al]; omega) (λz=>k z (ai (X%V / 2 ^ s)));rw[this,qz hQlt,hX,hV,aIa _ _ hs0,aIb,aHg _ hs0]
theorem oQ {N:Nat} (hN:1180591620717411303424<=N) {x y:Nat} (hy:0<y) (hxl:(ai x).length<=1099511627000) (hyl:(ai y).length<=1099511627000) (k:Ky8) :
  ye N (ai x) (ai y) k=k (ai (x / y)) (ai (x%y)):=by
 by_cases hxy:y<=x
 ·by_cases h2:2<=(ai y).length
  ·exact Dw hN hxy h2 hxl k
  ·have hylt:=nH y;have hl1:(ai y).length=1:=by rw[eB (by omega)]at h2 ⊢; simp at h2 ⊢; exact h2
   rw[hl1,aIv]at hylt;have hd:=wQ (by omega:y ≠ 0) hylt;have hc:decide (iP x y<0)=false:=by unfold iP; rw[if_neg (by omega)]; split <;> rfl
   unfold ye Nc;rw[mE x y ⟨by omega,by omega⟩ ⟨by omega,by omega⟩,hc,aFA,hd];show cond (((1:Nat):Int)==1) _ _=_;rw[show(((1:Nat):Int)==1)=true from rfl,aFB,ac (aq (by omega) (by simp))];show Pc N (ai x) (y:Int) _=_;have hm:x%y<18446744073709551616:=aHj (aFO _ hy) hylt;rw[Xa (by omega) hy hylt ⟨by omega,by omega⟩,Ap (by omega) _ hm]
 ·have hc:decide (iP x y<0)=true:=by unfold iP; rw[if_pos (by omega)]; rfl
  unfold ye Nc;rw[mE x y ⟨by omega,by omega⟩ ⟨by omega,by omega⟩,hc,aFB,EK _ (by omega),aF4 (by omega),aFJ (by omega),bW]
theorem F0:∀ n,n ≠ 0->bl n=64*((ai n).length - 1)+bl ((ai n).getD ((ai n).length - 1) 0).toNat/\0<(ai n).length:=by
 intro n;induction n using Nat.strongRecOn with
 | ind n ih=>
  intro h;rw[eB h];by_cases h1:n / 18446744073709551616=0
  ·rw[h1,bW];have:n%18446744073709551616=n:=aFJ (by omega);simp[this]
  ·obtain⟨i1,i2⟩:=ih (n / 18446744073709551616) (by omega) h1;have e:=qu (n:=n) 64 (by rw[tU]; omega);rw[tU]at e;refine⟨?_,by simp⟩;have e2:(((n%18446744073709551616:Nat):Int)::ai (n / 18446744073709551616)).getD ((((n%18446744073709551616:Nat):Int)::ai (n / 18446744073709551616)).length - 1) 0=(ai (n / 18446744073709551616)).getD ((ai (n / 18446744073709551616)).length - 1) 0:=by
    simp only[aGb,aHZ];generalize ai (n / 18446744073709551616)=l at i2 ⊢;cases l with
    | nil=>simp at i2
    | cons y l=>simp
   rw[e2,e,i1];simp only[aGb];omega
theorem ON {N:Nat} {n:Nat} (hs:(ai n).length<=1099511627776) (k:Kz0):Bd N (ai n) k=k (bl n:Int):=by
 unfold Bd YU;by_cases h:n=0
 ·subst h; rw[bW]; rfl
 ·obtain⟨e1,e2⟩:=F0 n h;have e0:(((ai n).length:Int)==0)=false:=by simp; intro h'; rw[h']at e2; simp at e2
  have e3:Int.toNat (((ai n).length:Int) - 1)=(ai n).length - 1:=by omega
  have hw:=(bE n).at (i:=(ai n).length - 1);have e4:(ai n).getD ((ai n).length - 1) 0=((((ai n).getD ((ai n).length - 1) 0).toNat:Nat):Int):=by omega
  have hb:=C2 (n:=((ai n).getD ((ai n).length - 1) 0).toNat) (j:=64) (by rw[tU]; omega);rw[e0,aFA,ac aFw,ac aFw,ac aFw,ac aFx,e3,e4,IY N (by omega),ac aFw,e1];congr 1;omega
theorem UG {N:Nat} {x f:Nat} (hf:f<140737488355328) (k:Kz0):Bf N (ai x) (f:Int) k=k ((x / 2 ^ f%18446744073709551616:Nat):Int):=by
 unfold Bf Zt;have e1:Int.tdiv (f:Int) 64=((f / 64:Nat):Int):=by rw[aGz (by omega)]; rfl
 have e2:IntKind.wrap .u64 (Int.tmod (f:Int) 64)=((f%64:Nat):Int):=by rw[ar,aGo (by omega)]; omega
 have e3:min (f%64) 64=f%64:=by omega
 have e4:min (Int.toNat (IntKind.wrap .u64 (64 - ((f%64:Nat):Int)))) 64=64 - f%64:=by rw[ar]; omega
 have e5:((f / 64:Nat):Int)+1=((f / 64+1:Nat):Int):=by omega
 have hx:=(bE x).at (i:=f / 64);have hy:=(bE x).at (i:=f / 64+1);have ex:(ai x).getD (f / 64) 0=((((ai x).getD (f / 64) 0).toNat:Nat):Int):=by omega
 have ey:(ai x).getD (f / 64+1) 0=((((ai x).getD (f / 64+1) 0).toNat:Nat):Int):=by omega
 rw[e1,e2,e5,ac aFw,ta N _ (f / 64) (by omega),ac (aFy (by omega)),ac aFw,ta N _ (f / 64+1) (by omega),ac (aFy (by rw[ar]; omega)),aFC,e3,e4,ex,ey,Lq (by omega) (by omega) (by omega)];obtain⟨R,hR⟩:=Io (bE x) (f / 64);rw[aK]at hR;have hp:2 ^ f=18446744073709551616 ^ (f / 64)*2 ^ (f%64):=Ml f;have hs0:0<2 ^ (f%64):=aFN _;rw[hp,<- aFG,hR];have e6:18446744073709551616*18446744073709551616*R=2 ^ (f%64)*(18446744073709551616*(2 ^ (64 - f%64)*R)):=by
  have hs1:2 ^ (f%64)*2 ^ (64 - f%64)=18446744073709551616:=by rw[<- aFS,show f%64+(64 - f%64)=64 by omega]
  rw[aF0 (2 ^ (f%64)),<- aFK (2 ^ (f%64)),hs1,aFK]
 rw[e6,aGr _ _ hs0,aGL]
theorem OT {N:Nat} {x d e:Nat} (hd:d<18446744073709551616) (he:e<18446744073709551616) (hs:pN N (ai x)) (k:Kz4):Vn N (ai x) (d:Int) (e:Int) k=k (ai (x*d+e)):=by
 unfold Vn T7;obtain⟨s1,s2⟩:=hs;obtain⟨L,hL⟩:∃ L,(ai x).length=L:=⟨_,rfl⟩
 have hx:=nH x;rw[hL]at hx;have eL:Int.toNat ((L:Int)+1)=L+1:=by omega
 rw[hL,ac aFw,ac (iy (by omega) (by omega) (by omega) (by omega)),eL];obtain⟨m,hm⟩:∃ m,m=ai x:=⟨_,rfl⟩
 have hmw:InWq m:=by rw[hm]; exact bE x
 have hmv:ax m=x:=by rw[hm]; exact aK x
 have hml:m.length=L:=by rw[hm]; exact hL
 rw[<- hm];obtain⟨S,hS⟩:∃ S,S=x*d+e:=⟨_,rfl⟩
 rw[<- hS];refine aS (λi=>((((ax (m.take i)*d+e) / 18446744073709551616 ^ i:Nat):Int),(i:Int),dlq S i++List.replicate (L+1 - i) 0)) L (by simp[ax,dlq]) (by omega) (λi hi K=>?_) (λK=>?_)
 ·have hz:=hmw.at (i:=i);have hp:=bN i;have hXi:=be hmw i;have hcv:=ba (m:=m) i;obtain⟨cy,hcy⟩:∃ cy,cy=(ax (m.take i)*d+e) / 18446744073709551616 ^ i:=⟨_,rfl⟩
  have e1:ax (m.take (i+1))*d+e=(ax (m.take i)*d+e)+18446744073709551616 ^ i*((m.getD i 0).toNat*d):=by rw[hcv,aF2,aFK]; omega
  have hcyl:cy<18446744073709551616:=by
   rw[hcy,aFI hp];have:=aGu (aHO hXi) (aHO hd);have h1:1<=18446744073709551616 ^ i:=hp;have h2:(18446744073709551616 ^ i - 1)*(18446744073709551616 - 1)+18446744073709551615=18446744073709551616 ^ i*18446744073709551615:=by
    obtain⟨P,hP⟩:∃ P,18446744073709551616 ^ i=P+1:=⟨18446744073709551616 ^ i - 1,by omega⟩
    rw[hP]; omega
   omega
  have ecy:(ax (m.take (i+1))*d+e) / 18446744073709551616 ^ (i+1)=((m.getD i 0).toNat*d+0+cy) / 18446744073709551616:=by rw[aFL,<- aFG,e1,gF,<- hcy];congr 1; omega
  obtain⟨R,hR⟩:=di m (i+1);have elo:S / 18446744073709551616 ^ i%18446744073709551616=((m.getD i 0).toNat*d+0+cy)%18446744073709551616:=by
   have:S=(ax (m.take (i+1))*d+e)+18446744073709551616 ^ (i+1)*(R*d):=by rw[hS,<- hmv,hR,aF2,aFK]; omega
   rw[mv this,e1,gF,<- hcy];congr 1; omega
  have hset:=Aj S i (L+1) (by omega);have hl:(dlq S i++List.replicate (L+1 - i) (0:Int)).length=L+1:=by simp[al]; omega
  simp only[qr,aFC];rw[aFy (by omega:(i:Int)<(L:Int)),aFB,hml,ac aFx,<- hcy,I2 N (c:=0) (a:=(m.getD i 0).toNat) (b:=d) (e:=0) (f:=cy) (by omega) rfl rfl rfl (by omega) hd (by omega) hcyl,hl,ac aFx,ac (aFy (by omega)),ac aFw,<- elo,<- ecy,hset,oS]
 ·simp only[qr];have hl:(dlq S L++List.replicate (L+1 - L) (0:Int)).length=L+1:=by simp[al]
  have hSl:S<18446744073709551616 ^ (L+1):=by
   rw[hS,aFL];have h1:=aGu (aHO hx) (aHO hd);obtain⟨P,hP⟩:∃ P,18446744073709551616 ^ L=P+1:=⟨18446744073709551616 ^ L - 1,by have:=bN L; omega⟩
   rw[hP]at h1 ⊢;omega
  have ee:(ax (m.take L)*d+e) / 18446744073709551616 ^ L=S / 18446744073709551616 ^ L%18446744073709551616:=by rw[aFW (by omega),hmv,<- hS,aFJ];rw[aFI (bN L),aFD,<- aFL]; exact hSl
  rw[aFz (by omega:¬(L:Int)<(L:Int)),aFA,hl,ee,aFC,Aj S L (L+1) (by omega),ac aFx,ac (aFy (by omega)),aF9,aF_,aF7,oP _ (lC _ _) (by rw[al]; omega) (by rw[al]; omega),qz hSl]
def GE (x0 y0 a b c d:Nat) (odd:Bool):Prop:=
 ∃ p q,x0=d*p+b*q/\y0=c*p+a*q/\(cond odd (b*c=a*d+1) (a*d=b*c+1))/\a<=b/\c<=d/\d<=q/\q+b+d<=p/\1<=b/\1<=c/\b<18446744073709551616/\d<18446744073709551616
theorem SQ {N:Nat} {x0 y0:Nat} (hx0:x0<18446744073709551616) (hy0:y0<18446744073709551616) (t1 t2 t3 t4:Int) (t5:Bool) :
  ∀ y x u v a b c d odd M,y<M->y<=x->x0=v*x+d*y->y0=u*x+c*y->(cond odd (c*v=d*u+1) (d*u=c*v+1))->1<=v ->
   ((d=0/\u=0/\b=0/\c=1/\v=1)\/(1<=u/\c<=d/\u<=v/\(b=0\/GE x0 y0 a b c d odd))) ->
   ∃ a' b' c' d':Nat,∃ odd',(b'=0\/GE x0 y0 a' b' c' d' odd') /\ ∀ e0,ah M (ug N t1 t2 t3 t4 t5 e0) ((x:Int),(y:Int),(u:Int),(v:Int),(a:Int),(b:Int),(c:Int),(d:Int),odd)=e0 (a':Int) (b':Int) (c':Int) (d':Int) odd':=by
 intro y;induction y using Nat.strongRecOn with
 | ind y ih=>
 intro x u v a b c d odd M hM hyx h1 h2 hdet hv hor;obtain⟨M,rfl⟩:∃ m,M=m+1:=⟨M - 1,by omega⟩
 have hend:b=0\/GE x0 y0 a b c d odd:=by
  rcases hor with h | h
  ·exact .inl h.2.2.1
  ·exact h.2.2.2
 by_cases c1:v<=y
 ·have hy1:1<=y:=by omega
  have b1:v*1<=v*x:=aFH _ (by omega);have b2:d*1<=d*y:=aFH _ hy1;have w1:IntKind.wrap .u64 ((x:Int) - (y:Int))=((x - y:Nat):Int):=by have:1*x<=v*x:=aFF _ hv;rw[ar]; omega
  have w2:IntKind.wrap .u64 ((d:Int)+(v:Int))=((d+v:Nat):Int):=by rw[ar]; omega
  by_cases c2:d+v<=x - y
  ·-- one step more
   obtain⟨q,hq⟩:∃ q,q=x / y:=⟨_,rfl⟩
   obtain⟨r,hr⟩:∃ r,r=x%y:=⟨_,rfl⟩
   have hxq:x=q*y+r:=by rw[hq,hr]; exact(aGs x y).symm
   have hry:r<y:=by rw[hr]; exact aFO _ hy1
   have hq1:1<=q:=by rw[hq]; exact aHW hyx hy1
   have n1:x0=(d+q*v)*y+v*r:=by rw[h1,hxq]; grind
   have n2:y0=(c+q*u)*y+u*r:=by rw[h2,hxq]; grind
   have m1:(d+q*v)*1<=(d+q*v)*y:=aFH _ hy1;have m2:(c+q*u)*1<=(c+q*u)*y:=aFH _ hy1;have hvq:v<=d+q*v:=by have:=aFF v hq1;omega
   have hg:∀(e0:Int->Int->Int->Int->Bool->Bool),ah (M+1) (ug N t1 t2 t3 t4 t5 e0) ((x:Int),(y:Int),(u:Int),(v:Int),(a:Int),(b:Int),(c:Int),(d:Int),odd)=ah M (ug N t1 t2 t3 t4 t5 e0) ((y:Int),(r:Int),((c+q*u:Nat):Int),((d+q*v:Nat):Int),(c:Int),(d:Int),(u:Int),(v:Int),!odd):=by
    intro e0;show ug N t1 t2 t3 t4 t5 e0 _ (ah M _)=_;simp only[ug];have y1:(!decide ((y:Int)=0))=true:=by simp; omega
    have ediv:Int.tdiv (x:Int) (y:Int)=(q:Int):=by rw[hq]; rfl
    have emod:Int.tmod (x:Int) (y:Int)=(r:Int):=by rw[hr]; rfl
    have wq:IntKind.wrap .u64 (q:Int)=(q:Int):=by have:q*1<=q*v:=aFH _ hv;rw[ar]; omega
    have wu:IntKind.wrap .u64 ((c:Int)+IntKind.wrap .u64 ((q:Int)*(u:Int)))=((c+q*u:Nat):Int):=by rw[<- aFV,ar,ar]; omega
    have wv:IntKind.wrap .u64 ((d:Int)+IntKind.wrap .u64 ((q:Int)*(v:Int)))=((d+q*v:Nat):Int):=by rw[<- aFV,ar,ar]; omega
    rw[aFy (by omega:(y:Int)>=v),show(true==true)=true from rfl,aFB,w1,w2,aFy (by omega),aFB,ac y1,ac y1,ediv,emod,wq,wu,wv]
   have hstep:=ih r hry y (c+q*u) (d+q*v) c d u v (!odd) M (by omega) (by omega) n1 n2 (by
    cases odd with
    | true=>
     simp only[aFB,aGn,aFA]at hdet ⊢;have:v*(c+q*u)=v*c+q*u*v:=by grind
     have:u*(d+q*v)=u*d+q*u*v:=by grind
     have:c*v=v*c:=aFD _ _;have:d*u=u*d:=aFD _ _;omega
    | false=>
     simp only[aFB,aGd,aFA]at hdet ⊢;have:u*(d+q*v)=u*d+q*u*v:=by grind
     have:v*(c+q*u)=v*c+q*u*v:=by grind
     have:c*v=v*c:=aFD _ _;have:d*u=u*d:=aFD _ _;omega) (by omega) (by
    refine .inr ?_;rcases hor with⟨k1,k2,k3,k4,k5⟩ | ⟨k1,k2,k3,k4⟩
    ·subst k1 k2 k4 k5;exact⟨by omega,by omega,by omega,.inl rfl⟩
    ·have hu1:u<=c+q*u:=by have:=aFF u hq1;omega
     refine⟨by omega,k3,?_,?_⟩
     ·have:=aFH q k3;omega
     ·rcases aGR d with hd0 | hd0
      ·exact .inl hd0
      ·refine .inr ⟨x,y,h1,h2,?_,k2,k3,c1,by omega,hd0,k1,by omega,by omega⟩;cases odd with
       | true=>simp only[aGn,aFA,aFB]at hdet ⊢; exact hdet
       | false=>simp only[aGd,aFB,aFA]at hdet ⊢; exact hdet)
   obtain⟨a',b',c',d',odd',g1,g2⟩:=hstep;exact⟨a',b',c',d',odd',g1,λe0=>by rw[hg,g2]⟩
  ·refine⟨a,b,c,d,odd,hend,λe0=>?_⟩;show ug N t1 t2 t3 t4 t5 e0 _ (ah M _)=_;simp only[ug];rw[aFy (by omega:(y:Int)>=v),show(true==true)=true from rfl,aFB,w1,w2,aFz (by omega),aFA]
 ·refine⟨a,b,c,d,odd,hend,λe0=>?_⟩;show ug N t1 t2 t3 t4 t5 e0 _ (ah M _)=_;simp only[ug];rw[aFz (by omega:¬(y:Int)>=v),show(false==true)=false from rfl,aFA]
theorem Xb {N:Nat} (hN:1180591620717411303424<=N) {x0 y0:Nat} (hx0:x0<18446744073709551616) (hyx:y0<=x0):∃ a b c d:Nat,∃ odd,(b=0\/GE x0 y0 a b c d odd) /\ ∀ k,DE N (x0:Int) (y0:Int) k=k (a:Int) (b:Int) (c:Int) (d:Int) odd:=by obtain⟨a,b,c,d,odd,h1,h2⟩:=SQ (N:=N) (x0:=x0) (y0:=y0) hx0 (by omega) 0 0 0 0 false y0 x0 0 1 0 0 1 0 true N (by omega) hyx (by omega) (by omega) rfl (aFM _) (.inl ⟨rfl,rfl,rfl,rfl,rfl⟩);exact⟨a,b,c,d,odd,h1,λk=>h2 _⟩
theorem Wp {x0 y0 a b c d F rx ry X Y:Nat} (h:GE x0 y0 a b c d true) (hrx:rx<F) (hry:ry<F) (hX:X=x0*F+rx) (hY:Y=y0*F+ry) :
  a*X<=b*Y/\d*Y<=c*X/\c*X - d*Y<=b*Y - a*X/\X=d*(b*Y - a*X)+b*(c*X - d*Y)/\Y=c*(b*Y - a*X)+a*(c*X - d*Y):=by
 obtain⟨p,q,h1,h2,hdet,hab,hcd,hdq,hpq,hb1,hc1,hbl,hdl⟩:=h;simp only[aFB]at hdet;have e1:b*Y+a*rx=a*X+(p*F+b*ry):=by
  subst h1 h2 hX hY;have:b*(c*p*F)=(a*d+1)*(p*F):=by rw[<- hdet]; grind
  grind
 have e2:c*X+d*ry=d*Y+(q*F+c*rx):=by
  subst h1 h2 hX hY;have:b*c*(q*F)=(a*d+1)*(q*F):=by rw[<- hdet]
  grind
 have m1:a*rx<=a*F:=aFH _ (by omega);have m2:a*F<=b*F:=aFF _ hab;have m3:d*ry<=d*F:=aFH _ (by omega);have m4:d*F<=q*F:=aFF _ hdq;have m5:(q+b+d)*F<=p*F:=aFF _ hpq;rw[aF2,aF2]at m5;have m6:c*rx<=c*F:=aFH _ (by omega);have m7:c*F<=d*F:=aFF _ hcd;have g1:a*X<=b*Y:=by omega
 have g2:d*Y<=c*X:=by omega
 refine⟨g1,g2,by omega,?_,?_⟩
 ·obtain⟨U,hU⟩:=aHe g1;obtain⟨V,hV⟩:=aHe g2;rw[<- hU,<- hV,aGa,aGa];have t1:d*(b*Y)=d*(a*X)+d*U:=by rw[<- hU,aFQ]
  have t2:b*(c*X)=b*(d*Y)+b*V:=by rw[<- hV,aFQ]
  have t3:b*(c*X)=(a*d+1)*X:=by rw[<- hdet,aFK]
  have t4:(a*d+1)*X=d*(a*X)+X:=by grind
  have t5:d*(b*Y)=b*(d*Y):=by grind
  omega
 ·obtain⟨U,hU⟩:=aHe g1;obtain⟨V,hV⟩:=aHe g2;rw[<- hU,<- hV,aGa,aGa];have t1:c*(b*Y)=c*(a*X)+c*U:=by rw[<- hU,aFQ]
  have t2:a*(c*X)=a*(d*Y)+a*V:=by rw[<- hV,aFQ]
  have t3:c*(b*Y)=(a*d+1)*Y:=by rw[<- hdet]; grind
  have t4:(a*d+1)*Y=a*(d*Y)+Y:=by grind
  have t5:c*(a*X)=a*(c*X):=by grind
  omega
theorem Qc {x0 y0 a b c d F rx ry X Y:Nat} (h:GE x0 y0 a b c d false) (hrx:rx<F) (hry:ry<F) (hX:X=x0*F+rx) (hY:Y=y0*F+ry) :
  b*Y<=a*X/\c*X<=d*Y/\d*Y - c*X<=a*X - b*Y/\X=d*(a*X - b*Y)+b*(d*Y - c*X)/\Y=c*(a*X - b*Y)+a*(d*Y - c*X):=by
 obtain⟨p,q,h1,h2,hdet,hab,hcd,hdq,hpq,hb1,hc1,hbl,hdl⟩:=h;simp only[aFA]at hdet;have e1:a*X+b*ry=b*Y+(p*F+a*rx):=by
  subst h1 h2 hX hY;have:a*d*(p*F)=(b*c+1)*(p*F):=by rw[<- hdet]
  grind
 have e2:d*Y+c*rx=c*X+(q*F+d*ry):=by
  subst h1 h2 hX hY;have:a*d*(q*F)=(b*c+1)*(q*F):=by rw[<- hdet]
  grind
 have m1:b*ry<=b*F:=aFH _ (by omega);have m3:c*rx<=c*F:=aFH _ (by omega);have m4:d*F<=q*F:=aFF _ hdq;have m5:(q+b+d)*F<=p*F:=aFF _ hpq;rw[aF2,aF2]at m5;have m6:d*ry<=d*F:=aFH _ (by omega);have m7:c*F<=d*F:=aFF _ hcd;have g1:b*Y<=a*X:=by omega
 have g2:c*X<=d*Y:=by omega
 refine⟨g1,g2,by omega,?_,?_⟩
 ·obtain⟨U,hU⟩:=aHe g1;obtain⟨V,hV⟩:=aHe g2;rw[<- hU,<- hV,aGa,aGa];have t1:d*(a*X)=d*(b*Y)+d*U:=by rw[<- hU,aFQ]
  have t2:b*(d*Y)=b*(c*X)+b*V:=by rw[<- hV,aFQ]
  have t3:d*(a*X)=(b*c+1)*X:=by rw[<- hdet]; grind
  have t4:(b*c+1)*X=b*(c*X)+X:=by grind
  have t5:d*(b*Y)=b*(d*Y):=by grind
  omega
 ·obtain⟨U,hU⟩:=aHe g1;obtain⟨V,hV⟩:=aHe g2;rw[<- hU,<- hV,aGa,aGa];have t1:c*(a*X)=c*(b*Y)+c*U:=by rw[<- hU,aFQ]
  have t2:a*(d*Y)=a*(c*X)+a*V:=by rw[<- hV,aFQ]
  have t3:a*(d*Y)=(b*c+1)*Y:=by rw[<- hdet]; grind
  have t4:(b*c+1)*Y=c*(b*Y)+Y:=by grind
  have t5:c*(a*X)=a*(c*X):=by grind
  omega
theorem Da {X Y U V a b c d:Nat} (h1:X=d*U+b*V) (h2:Y=c*U+a*V) (hU:Nat.gcd X Y∣U) (hV:Nat.gcd X Y∣V):Nat.gcd U V=Nat.gcd X Y:=by
 refine Nat.dvd_antisymm (Nat.dvd_gcd ?_ ?_) (Nat.dvd_gcd hU hV)
 ·rw[h1];exact Nat.dvd_add (aFX (aGm _ _) _) (aFX (aGH _ _) _)
 ·rw[h2];exact Nat.dvd_add (aFX (aGm _ _) _) (aFX (aGH _ _) _)
theorem WW {N:Nat} {x0 y0 a b c d F rx ry X Y:Nat} {odd:Bool} (h:GE x0 y0 a b c d odd) (hrx:rx<F) (hry:ry<F) (hX:X=x0*F+rx) (hY:Y=y0*F+ry) (hY0:0<Y) (sX:(ai X).length+10<N/\(ai X).length<=1099511627000) (sY:(ai Y).length+10<N/\(ai Y).length<=1099511627000) :
  ∃ U V,V<=U/\U+V<X+Y/\U<=X/\Nat.gcd U V=Nat.gcd X Y /\ ∀ k,bw N (a:Int) (b:Int) (c:Int) (d:Int) odd (ai X) (ai Y) k=k (ai U) (ai V):=by
 have hb:=h;obtain⟨p,q,h1,h2,hdet,hab,hcd,hdq,hpq,hb1,hc1,hbl,hdl⟩:=hb;have len1:∀ z e:Nat,(ai z).length+10<N/\(ai z).length<=1099511627000->e<18446744073709551616->pN N (ai (z*e+0)):=by
  intro z e hz he;have:=kz ((ai z).length+1) (z*e+0) (by rw[aF5,aFL]; exact aGA (nH z) he)
  exact⟨by omega,by omega⟩
 have fin:∀ U V:Nat,X=d*U+b*V->Y=c*U+a*V->V<=U->U+V<X+Y/\U<=X:=by
  intro U V hx hy hvu;have k1:1*U<=d*U:=aFF _ (by omega);have k2:1*V<=b*V:=aFF _ hb1;have k3:1*U<=c*U:=aFF _ hc1;have hU0:0<U:=by
   rcases aGR U with hu | hu
   ·exfalso;have hv:V=0:=by omega
    rw[hu,hv,aGU,aGU]at hy;omega
   ·exact hu
  exact⟨by omega,by omega⟩
 cases odd with
 | true=>
  obtain⟨g1,g2,g3,g4,g5⟩:=Wp h hrx hry hX hY;obtain⟨f1,f2⟩:=fin _ _ g4 g5 g3;refine⟨b*Y - a*X,c*X - d*Y,g3,f1,f2,Da g4 g5 ?_ ?_,λk=>?_⟩
  ·exact aHY (aFX (aGH _ _) _) (aFX (aGm _ _) _)
  ·exact aHY (aFX (aGm _ _) _) (aFX (aGH _ _) _)
  ·unfold bw jf;have m:=λ(z e:Nat) (he:e<18446744073709551616) (hz:pN N (ai z)) (kk:List Int->Bool)=>OT (N:=N) (e:=0) he (by decide) hz kk
   rw[show((0:Nat):Int)=0 from rfl]at m;rw[aFB,m Y b hbl ⟨by omega,by omega⟩,m X a (by omega) ⟨by omega,by omega⟩,s_ _ _ (bE _) (bE _) (by rw[aK,aK,aF5,aF5,aFD X,aFD Y]; exact g1) (len1 Y b sY hbl),m X c (by omega) ⟨by omega,by omega⟩,m Y d hdl ⟨by omega,by omega⟩,s_ _ _ (bE _) (bE _) (by rw[aK,aK,aF5,aF5,aFD X,aFD Y]; exact g2) (len1 X c sX (by omega)),aK,aK,aK,aK,aF5,aF5,aF5,aF5,aFD Y b,aFD X a,aFD X c,aFD Y d]
 | false=>
  obtain⟨g1,g2,g3,g4,g5⟩:=Qc h hrx hry hX hY;obtain⟨f1,f2⟩:=fin _ _ g4 g5 g3;refine⟨a*X - b*Y,d*Y - c*X,g3,f1,f2,Da g4 g5 ?_ ?_,λk=>?_⟩
  ·exact aHY (aFX (aGm _ _) _) (aFX (aGH _ _) _)
  ·exact aHY (aFX (aGH _ _) _) (aFX (aGm _ _) _)
  ·unfold bw jf;have m:=λ(z e:Nat) (he:e<18446744073709551616) (hz:pN N (ai z)) (kk:List Int->Bool)=>OT (N:=N) (e:=0) he (by decide) hz kk
   rw[show((0:Nat):Int)=0 from rfl]at m;rw[aFA,m X a (by omega) ⟨by omega,by omega⟩,m Y b hbl ⟨by omega,by omega⟩,s_ _ _ (bE _) (bE _) (by rw[aK,aK,aF5,aF5,aFD X,aFD Y]; exact g1) (len1 X a sX (by omega)),m Y d hdl ⟨by omega,by omega⟩,m X c (by omega) ⟨by omega,by omega⟩,s_ _ _ (bE _) (bE _) (by rw[aK,aK,aF5,aF5,aFD X,aFD Y]; exact g2) (len1 Y d sY hdl),aK,aK,aK,aK,aF5,aF5,aF5,aF5,aFD Y b,aFD X a,aFD X c,aFD Y d]
theorem UF (N x:Nat) (k:Kz0):Be N (ai x) k=k ((x%18446744073709551616:Nat):Int):=by unfold Be Zs;have:=ta N (ai x) 0 (by omega) k;rw[show((0:Nat):Int)=0 from rfl]at this;rw[this,tB,aHq,aHn]
theorem Oo {N:Nat} {S1 S2 S3 S4 S5 S6 S7 S8} (e0:Int->Bool):∀(b a M:Nat),b<M->ah M (JI N S1 S2 S3 S4 S5 S6 S7 S8 e0) ((a:Int),(b:Int))=e0 ((Nat.gcd a b:Nat):Int):=by
 intro b;induction b using Nat.strongRecOn with
 | ind b ih=>
 intro a M hM;obtain⟨M,rfl⟩:∃ m,M=m+1:=⟨M - 1,by omega⟩
 show JI N S1 S2 S3 S4 S5 S6 S7 S8 e0 ((a:Int),(b:Int)) (ah M _)=_;simp only[JI];by_cases h:b=0
 ·subst h;rw[aFz (by omega),aFA,aH3]
 ·have y1:(!decide ((b:Int)=0))=true:=by simp; omega
  have emod:Int.tmod (a:Int) (b:Int)=((a%b:Nat):Int):=rfl;rw[aFy (by omega),aFB,ac y1,emod,ih (a%b) (aFO _ (by omega)) b M (by have:=aFO a (by omega:b>0); omega),aGK b,<- aIw,aGK]
theorem Ce {y:Nat} (h:(ai y).length<=1):y<18446744073709551616:=by have:=nH y;have h2:18446744073709551616 ^ (ai y).length<=18446744073709551616 ^ 1:=aFP (by decide) h;rw[aIv]at h2;omega
theorem Im {N:Nat} (hN:1180591620717411303424<=N) {u v:List Int} {x y:Nat} (hy:(ai y).length<=1) (hx:y=0\/(ai x).length<=1) (k:Kz4) :
  CG N (DI N) (Bd N) (Bf N) (DE N) (bw N) (ye N) (Be N) (ER N) u v (ai x) (ai y) k=k (ai (Nat.gcd x y)):=by
 unfold CG;have hyl:=Ce hy;by_cases h:y=0
 ·subst h;rw[bW,aH3]; rfl
 ·have e0:((((ai y).length:Nat):Int)==0)=false:=by rw[eB h]; simp; omega
  have hxl:=Ce (hx.resolve_left h);rw[e0,aFA,UF,UF,aFJ hxl,aFJ hyl,Oo _ y x N (by omega)];refine Ap (by omega) _ ?_ k;have:=aHx x (aH4 h);omega
theorem Og {N:Nat} (hN:1180591620717411303424<=N) {u v:List Int} (k:Kz4) :
  ∀ s x y,x+y=s->s<N->y<=x->(ai x).length<=1099511626000 ->
   Ng N (DI N) (Bd N) (Bf N) (DE N) (bw N) (ye N) (Be N) (ER N) u v (ai x) (ai y) k=k (ai (Nat.gcd x y)):=by
 intro s x y hs hsN hyx hxl;unfold Ng;have main:∀ s x y M,x+y=s->s<M->M<=N->y<=x->(ai x).length<=1099511626000 ->
   ah M (E0 N (DI N) (Bd N) (Bf N) (DE N) (bw N) (ye N) (Be N) (ER N) (λ(x_3:List Int) (y_3:List Int)=>(cond ((decide ((((List.length y_3):Nat):Int)>0))==true) (cond (decide ((((List.length x_3):Nat):Int)>1)) (ye N x_3 y_3 (λ(asp:List Int) (aso:List Int)=>(CG N (DI N) (Bd N) (Bf N) (DE N) (bw N) (ye N) (Be N) (ER N) u v y_3 aso k))) (CG N (DI N) (Bd N) (Bf N) (DE N) (bw N) (ye N) (Be N) (ER N) u v x_3 y_3 k)) (CG N (DI N) (Bd N) (Bf N) (DE N) (bw N) (ye N) (Be N) (ER N) u v x_3 y_3 k)))) (ai x,ai y)=k (ai (Nat.gcd x y)):=by
  intro s;induction s using Nat.strongRecOn with
  | ind s ih=>
  intro x y M hs hsM hMN hyx hxl;obtain⟨M,rfl⟩:∃ m,M=m+1:=⟨M - 1,by omega⟩
  have hyl:=ii hyx;show E0 N _ _ _ _ _ _ _ _ _ (ai x,ai y) (ah M _)=_;simp only[E0];by_cases h2:2<=(ai y).length
  ·have hyge:18446744073709551616<=y:=by
    rcases aGw y 18446744073709551616 with h | h
    ·have:=kz 1 y (by rw[aIv]; exact h); omega
    ·exact h
   have hblx:64<bl x:=by
    rcases aGw 64 (bl x)with h | h
    ·exact h
    ·have h1:=Fi x;have h3:2 ^ bl x<=2 ^ 64:=aFP (by decide) h;rw[tU]at h3;omega
   have hblu:bl x<=64*(ai x).length:=by refine C2 ?_;rw[aIq,tU]; exact nH x
   obtain⟨f,hf⟩:∃ f,bl x=f+64:=⟨bl x - 64,by omega⟩
   have ef:(bl x:Int) - 64=(f:Int):=by omega
   have hF0:0<2 ^ f:=aFN f;have hx0l:x / 2 ^ f<18446744073709551616:=by rw[aFI hF0,<- tU,<- aFS,aHp,<- hf]; exact Fi x
   have hy0l:y / 2 ^ f<=x / 2 ^ f:=aHN hyx;rw[aFy (by omega),aFB,ON (by omega),ef,ac aFw,UG (by omega),UG (by omega),aFJ hx0l,aFJ (by omega)];obtain⟨a,b,c,d,odd,g1,g2⟩:=Xb hN hx0l hy0l;rw[g2];by_cases hb:b=0
   ·subst hb;rw[show(((0:Nat):Int) != 0)=false from rfl,aFA,oQ hN (by omega) (by omega) (by omega)];have hm:=aFO x (by omega:y>0);rw[ih (y+x%y) (by omega) y (x%y) M rfl (by omega) (by omega) (by omega) (by omega),aGK y,<- aIw,aGK]
   ·have hbn:((b:Int) != 0)=true:=by simp; omega
    rw[hbn,aFB];obtain⟨U,V,k1,k2,k3,k4,k5⟩:=WW (N:=N) (g1.resolve_left hb) (aFO x hF0) (aFO y hF0) (aGs x (2 ^ f)).symm (aGs y (2 ^ f)).symm (by omega) ⟨by omega,by omega⟩ ⟨by omega,by omega⟩;have hUl:=ii k3;rw[k5,ih (U+V) (by omega) U V M rfl (by omega) (by omega) k1 (by omega),k4]
  ·rw[aFz (by omega),aFA];by_cases h0:y=0
   ·have:(((ai y).length:Nat):Int)=0:=by rw[h0,bW]; rfl
    rw[this,aFz (by omega),show(false==true)=false from rfl,aFA,Im hN (by omega) (.inl h0)]
   ·have hpos:0<(ai y).length:=by rw[eB h0]; simp
    rw[aFy (by omega),show(true==true)=true from rfl,aFB];by_cases h1:1<(ai x).length
    ·have hm:=aFO x (aH4 h0);have hml:=ii (Nat.le_of_lt hm);rw[aFy (by omega),aFB,oQ hN (aH4 h0) (by omega) (by omega),Im hN (by omega) (.inr (by omega)),aGK y,<- aIw,aGK]
    ·rw[aFz (by omega),aFA,Im hN (by omega) (.inr (by omega))]
 exact main s x y N hs hsN (aFM _) hyx hxl
theorem OO {N:Nat} (hN:1180591620717411303424<=N) {x y:Nat} (hf:x+y<N) (hxl:(ai x).length<=1099511626000) (hyl:(ai y).length<=1099511626000) (k:Kz4):Mp N (ai x) (ai y) k=k (ai (Nat.gcd x y)):=by
 unfold Mp Wm;rw[mE x y ⟨by omega,by omega⟩ ⟨by omega,by omega⟩];by_cases h:x<y
 ·have hc:decide (iP x y<0)=true:=by unfold iP; rw[if_pos h]; rfl
  rw[hc,aFB,Og hN _ (y+x) y x rfl (by omega) (by omega) hyl,aGK]
 ·have hc:decide (iP x y<0)=false:=by unfold iP; rw[if_neg h]; split <;> rfl
  rw[hc,aFA,Og hN _ (x+y) x y rfl hf (by omega) hxl]
def Fuel (N:Nat):Prop:=∃ E,4398046511104<=E/\2 ^ E<=N
theorem Fuel.lt {N:Nat} (h:Fuel N):4398046511104<N:=by obtain⟨E,h1,h2⟩:=h;have:E<2 ^ E:=Nat.lt_two_pow_self;omega
theorem Fuel.sum {N C x y:Nat} (h:Fuel N) (hC:C<=4398046511000) (hx:bv C x) (hy:bv C y):x+y<N:=by obtain⟨E,h1,h2⟩:=h;have h3:2 ^ (C+1)<=2 ^ E:=aFP (by decide) (by omega);rw[aFL]at h3;unfold bv at hx hy;omega
theorem Fuel.big {N:Nat} (h:Fuel N):1180591620717411303424<=N:=by
 obtain⟨E,h1,h2⟩:=h;have h3:2 ^ 70<=2 ^ E:=aFP (by decide) (by omega);have e:(2:Nat) ^ 70=1180591620717411303424:=by decide
 rw[e]at h3;exact aF1 h3 h2
theorem Ge {B n:Nat} (hB:B<=2000000000100) (h:bv B n):(ai n).length<=31250000003:=by have:=Wt h; omega
def kr (z:Int) (d:Nat) (k:Kx5):Bool:=k (decide (z<0)) (ai z.natAbs) false (ai d)
def kq (x:Rat) (k:Kx5):Bool:=kr x.num x.den k
theorem OE (g:Bool) (n d:Nat) (k:Kx5):k (sg g n) (ai n) false (ai d)=kr (bF g n) d k:=O8 g n (λa b=>k a b false (ai d))
theorem L5 {N:Nat} (g:Bool) (n:Nat) (l:List Int) (b1 b2:Bool) (k:Ky0):RQ N g (ai n) l b1 b2 k=k (sg g n) false:=by
 unfold RQ amw Pt ZV Xw ahn;cases g
 ·rfl
 ·simp only[vJ,sg,aGB]; rfl
theorem W5 {N:Nat} (g b:Bool) (n:Nat) (k:Ky9):Mo N g (ai n) b k=k (sg g n):=by
 unfold Mo amr;cases g
 ·rfl
 ·simp only[vJ,sg,aGB]; rfl
theorem aiZ (g:Bool) (n:Nat):bF (sg g n) n=bF g n:=by
 unfold bF sg;cases g
 ·rfl
 ·by_cases h:n=0
  ·subst h; rfl
  ·rw[aFy h]; rfl
theorem W7 {N:Nat} (g1:Bool) (n1:Nat) (g2:Bool) (n2:Nat) (h1:pN N (ai n1)) (h2:pN N (ai n2)) (k:Ky1) :
  aet N g2 (ai n2) g1 (ai n1) k=zl (bF g1 n1+bF g2 n2) k:=by
 unfold aet amM;rw[ady _ _ (bE _) (bE _) h1 h2,mE _ _ h1 h2,aK,aK,tO g2 _ _ (n1+n2) k,<- SS];congr 1;by_cases h:n2<=n1
 ·rw[s_ _ _ (bE _) (bE _) (by rw[aK,aK]; exact h) h1,aK,aK,tO g1 _ _ (n1 - n2) k,Ag,aFy h];rfl
 ·rw[s_ _ _ (bE n2) (bE n1) (by rw[aK,aK]; omega) h2,aK,aK,tO g2 _ _ (n2 - n1) k,Ag,aFz h];rfl
theorem adC {N:Nat} (hF:Fuel N) {x y:Nat} (hy:0<y) (hxl:(ai x).length<=1099511627000) (hyl:(ai y).length<=1099511627000) (k:Kz4):Jm N (ai x) (ai y) k=k (ai (x / y)):=by
 have hj:Nm N (ye N) (ai x) (ai y) k=k (ai (x / y)):=by unfold Nm;rw[oQ hF.big hy hxl hyl]
 unfold Jm Kq;by_cases h1:(ai y).length=1
 ·have e:((((ai y).length:Nat):Int)==1)=true:=by rw[h1]; rfl
  rw[e,show(true==true)=true from rfl,aFB,ac aFx];have hyw:=wQ (by omega:y ≠ 0) (Ce (by omega));by_cases h2:y=1
  ·have:((ai y).getD 0 0==1)=true:=by rw[hyw,h2]; rfl
   rw[this,aFB,h2,aHn]
  ·have:((ai y).getD 0 0==1)=false:=by rw[hyw]; simp; omega
   rw[this,aFA,hj]
 ·have e:((((ai y).length:Nat):Int)==1)=false:=by simp; omega
  rw[e,show(false==true)=false from rfl,aFA,hj]
theorem ll {N:Nat} (a:Bool) (l:List Int) (b:Bool) {d:Nat} (hd:d ≠ 0) (k:Kz4):Pu N a l b (ai d) k=k (ai d):=by
 unfold Pu amz;have:((((ai d).length:Nat):Int)==0)=false:=by rw[eB hd]; simp; omega
 rw[this]; rfl
theorem OW {N:Nat} (a:Bool) (l:List Int) (b:Bool) {d:Nat} (hd:d ≠ 0) (k:Kz4):U0 N a l b (ai d) k=k (ai d):=by
 unfold U0 Y5;have:((((ai d).length:Nat):Int)==0)=false:=by rw[eB hd]; simp; omega
 rw[this]; rfl
theorem As {N B:Nat} (hF:Fuel N) (hB:B<=2000000000100) {a b:Nat} (ha:bv B a) (hb:bv B b) (k:Kz4):FN N (ai a) (ai b) k=k (ai (a*b)):=by have h1:=Ge hB ha;have h2:=Ge hB hb;have:=hF.lt;rw[Q9 _ _ (bE _) (bE _) (by omega) (by omega),aK,aK]
theorem Du {N B:Nat} (hF:Fuel N) (hB:B<=2000000000100) {a b:Nat} (ha:bv B a) (hb:bv B b) (k:Kz4):Mp N (ai a) (ai b) k=k (ai (Nat.gcd a b)):=by have h1:=Ge hB ha;have h2:=Ge hB hb;rw[OO hF.big (hF.sum (by omega) ha hb) (by omega) (by omega)]
theorem uP {N B:Nat} (hF:Fuel N) (hB:B<=2000000000100) {a b:Nat} (h0:0<b) (ha:bv B a) (hb:bv B b) (k:Kz4):Jm N (ai a) (ai b) k=k (ai (a / b)):=by have h1:=Ge hB ha;have h2:=Ge hB hb;rw[adC hF h0 (by omega) (by omega)]
theorem w_ {N B:Nat} (hB:B<=2000000000100) {a:Nat} (ha:bv B a) (k:Kz4):Gj N (ai a) k=k (ai a):=by have h1:=Ge hB ha;rw[EK _ (by omega)]
theorem eE {B a b:Nat} (h:bv B a):bv B (a / b):=qm h (aHa _ _)
theorem aeU {N B n:Nat} (hF:Fuel N) (hB:B<=2000000000100) (h:bv B n):pN N (ai n):=by have h1:=Ge hB h;have:=hF.lt;exact⟨by omega,by omega⟩
def Bq (B:Nat) (x:Rat):Prop:=bv B x.num.natAbs/\bv B x.den
theorem Bq.mono {A B:Nat} {x:Rat} (h:Bq A x) (hAB:A<=B):Bq B x:=⟨dU h.1 hAB,dU h.2 hAB⟩
theorem zm (z:Int) (f:Nat):bF (decide (z<0)) (z.natAbs*f)=z*f:=by
 unfold bF;by_cases h:z<0
 ·rw[aFy h,if_pos rfl];have:(z.natAbs:Int) = -z:=by omega
  rw[aFV,this,aII,Int.neg_neg]
 ·rw[aFz h,if_neg (by decide)];have:(z.natAbs:Int)=z:=by omega
  rw[aFV,this]
theorem IM {z:Int} {h:Nat} (h0:0<h) (hd:h∣z.natAbs):bF (decide (z<0)) (z.natAbs / h)=z / (h:Int):=by
 obtain⟨q,hq⟩:=hd;rw[hq,aF8 _ h0];unfold bF;have hh:(h:Int) ≠ 0:=by omega
 by_cases hz:z<0
 ·rw[aFy hz,if_pos rfl];have:z=(h:Int)*(-(q:Int)):=by
   have e:(z.natAbs:Int)=(h:Int)*q:=by rw[hq,aFV]
   rw[aIr,<- e]; omega
  rw[this,aHu _ hh]
 ·rw[aFz hz,if_neg (by decide)];have:z=(h:Int)*(q:Int):=by
   have e:(z.natAbs:Int)=(h:Int)*q:=by rw[hq,aFV]
   rw[<- e]; omega
  rw[this,aHu _ hh]
theorem Z3 (x y:Rat):(x+y).num=(x.num*((y.den / Nat.gcd x.den y.den:Nat):Int)+y.num*((x.den / Nat.gcd x.den y.den:Nat):Int)) / ((Nat.gcd (x.num*((y.den / Nat.gcd x.den y.den:Nat):Int)+y.num*((x.den / Nat.gcd x.den y.den:Nat):Int)).natAbs (Nat.gcd x.den y.den):Nat):Int)
  /\ (x+y).den=x.den / Nat.gcd x.den y.den*(y.den / Nat.gcd (x.num*((y.den / Nat.gcd x.den y.den:Nat):Int)+y.num*((x.den / Nat.gcd x.den y.den:Nat):Int)).natAbs (Nat.gcd x.den y.den)):=by
 have aux:=Rat.add.aux x y (g:=Nat.gcd x.den y.den) rfl rfl rfl;simp only at aux;have hx:=x.den_pos;have hy:=y.den_pos;obtain⟨g,hg⟩:∃ g,g=Nat.gcd x.den y.den:=⟨_,rfl⟩
 rw[<- hg]at aux ⊢;have hg0:0<g:=by rw[hg]; exact Nat.gcd_pos_of_pos_left _ hx
 have hgx:g∣x.den:=by rw[hg]; exact aGm _ _
 have hgy:g∣y.den:=by rw[hg]; exact aGH _ _
 obtain⟨e,he⟩:∃ e,e=x.den / g:=⟨_,rfl⟩
 obtain⟨f,hf⟩:∃ f,f=y.den / g:=⟨_,rfl⟩
 rw[<- he,<- hf]at aux ⊢;have ex:x.den=e*g:=by rw[he,Nat.div_mul_cancel hgx]
 have ey:y.den=f*g:=by rw[hf,Nat.div_mul_cancel hgy]
 obtain⟨n,hn⟩:∃ n,n=x.num*(f:Int)+y.num*(e:Int):=⟨_,rfl⟩
 rw[<- hn]at aux ⊢;have hsum:x+y=mkRat n (e*y.den):=by
  rw[Rat.add_def'];have e1:x.num*(y.den:Int)+y.num*(x.den:Int)=n*(g:Int):=by rw[ex,ey,hn]; simp only[aFV]; grind
  have e2:x.den*y.den=e*y.den*g:=by rw[ex]; grind
  rw[e1,e2,Rat.mkRat_mul_right (by omega)]
 have he0:0<e:=by
  rcases aGR e with h | h
  ·rw[h,aG4]at ex; omega
  ·exact h
 have hd0:e*y.den ≠ 0:=by have:=aHv he0 hy; omega
 have hhy:Nat.gcd n.natAbs g∣y.den:=Nat.dvd_trans (aGH _ _) hgy;constructor
 ·rw[hsum,aIJ,if_neg hd0,aGK,<- aux]
 ·rw[hsum,aIK,if_neg hd0,aGK,<- aux,Nat.mul_div_assoc _ hhy]
theorem KA {A:Nat} {z w:Int} (hz:bv A z.natAbs) (hw:bv A w.natAbs):bv (A+1) (z+w).natAbs:=qm (C1 hz hw) (by omega)
theorem Af {A B:Nat} {z:Int} {n:Nat} (hz:bv A z.natAbs) (hn:bv B n):bv (A+B) (z*(n:Int)).natAbs:=by rw[aHk,aGq]; exact iO hz hn
theorem I0 {N B:Nat} (hF:Fuel N) (hB:B<=1000000000000) {x y:Rat} (hx:Bq B x) (hy:Bq B y) (b1 b2:Bool) (k:Kx5) :
  Pf N (decide (x.num<0)) (ai x.num.natAbs) false (ai x.den) (decide (y.num<0)) (ai y.num.natAbs) false (ai y.den) b1 b2 k=kq (x+y) k:=by
 unfold Pf TW;obtain⟨m1,m2⟩:=Z3 x y;have hB2:B<=2000000000100:=by omega
 have hxd:=x.den_pos;have hyd:=y.den_pos;rw[ll _ _ _ x.den_nz,ll _ _ _ y.den_nz,Du hF hB2 hx.2 hy.2];obtain⟨g,hg⟩:∃ g,g=Nat.gcd x.den y.den:=⟨_,rfl⟩
 rw[<- hg]at m1 m2 ⊢;have hg0:0<g:=by rw[hg]; exact Nat.gcd_pos_of_pos_left _ hxd
 have hgb:bv B g:=by rw[hg]; exact qm hx.2 (Nat.gcd_le_left _ hxd)
 have hgy:g∣y.den:=by rw[hg]; exact aGH _ _
 rw[uP hF hB2 hg0 hx.2 hgb,uP hF hB2 hg0 hy.2 hgb,As hF hB2 hx.1 (eE hy.2),W5,As hF hB2 hy.1 (eE hx.2)];have hb1:=iO hx.1 (eE (b:=g) hy.2);have hb2:=iO hy.1 (eE (b:=g) hx.2);rw[W7 _ _ _ _ (aeU hF (by omega) hb1) (aeU hF (by omega) hb2),aiZ,zm,zm];have hnb:bv (B+B+1) (x.num*((y.den / g:Nat):Int)+y.num*((x.den / g:Nat):Int)).natAbs:=KA (Af hx.1 (eE hy.2)) (Af hy.1 (eE hx.2));obtain⟨n,hn⟩:∃ n,n=x.num*((y.den / g:Nat):Int)+y.num*((x.den / g:Nat):Int):=⟨_,rfl⟩
 rw[<- hn]at m1 m2 hnb ⊢;have hB3:B+B+1<=2000000000100:=by omega
 unfold zl;dsimp only;rw[Du hF hB3 hnb (dU hgb (by omega))];obtain⟨h,hh⟩:∃ h,h=Nat.gcd n.natAbs g:=⟨_,rfl⟩
 rw[<- hh]at m1 m2 ⊢;have hh0:0<h:=by rw[hh]; exact aGC _ hg0
 have hhb:bv B h:=by rw[hh]; exact qm hgb (aHx _ hg0)
 rw[uP hF hB3 hh0 hnb (dU hhb (by omega)),w_ hB3 (eE hnb),uP hF hB2 hh0 hy.2 hhb,As hF hB2 (eE hx.2) (eE hy.2),L5,OE _ _ _ k,IM hh0 (by rw[hh]; exact aGm _ _),<- m1,<- m2];rfl
theorem OK {N B:Nat} (hF:Fuel N) (hB:B<=1000000000000) {x y:Rat} (hx:Bq B x) (hy:Bq B y) (b1 b2:Bool) (k:Kx5) :
  UW N (decide (x.num<0)) (ai x.num.natAbs) false (ai x.den) b1 b2 (decide (y.num<0)) (ai y.num.natAbs) false (ai y.den) k=kq (x+y) k:=by
 rw[<- I0 hF hB hx hy b1 b2 k];unfold UW YZ Pf TW;rw[ll _ _ _ x.den_nz,OW _ _ _ y.den_nz,ll _ _ _ x.den_nz,ll _ _ _ y.den_nz]
theorem adp (g:Bool) (n:Nat):bF (!g) n = -(bF g n):=by unfold bF; cases g <;> simp
theorem mD (z:Int):bF (decide (z<0)) z.natAbs=z:=ado z
theorem Q7 {N B:Nat} (hB:B<=2000000000100) {y:Rat} (hy:Bq B y) (b1 b2:Bool) (k:Kx5) :
  U5 N (decide (y.num<0)) (ai y.num.natAbs) false (ai y.den) b1 b2 k=kq (-y) k:=by
 unfold U5 Ze;rw[w_ hB hy.1,ll _ _ _ y.den_nz,w_ hB hy.2,L5,OE _ _ _ k,adp,mD];rfl
theorem OR {N B:Nat} (hF:Fuel N) (hB:B<=1000000000000) {x y:Rat} (hx:Bq B x) (hy:Bq B y) (k:Kx5) :
  bI N (decide (x.num<0)) (ai x.num.natAbs) false (ai x.den) (decide (y.num<0)) (ai y.num.natAbs) false (ai y.den) k=kq (x - y) k:=by
 unfold bI jE ad9 Zk;rw[Q7 (by omega) hy];unfold kq kr;dsimp only;have hny:Bq B (-y):=⟨by rw[Rat.neg_num,aH9]; exact hy.1,hy.2⟩
 rw[OK hF hB hx hny,Rat.sub_eq_add_neg];rfl
theorem ai4 {N B:Nat} (hF:Fuel N) (hB:B<=1000000000000) {x y:Rat} (hx:Bq B x) (hy:Bq B y) (k:Kx5) :
  gJ N (decide (x.num<0)) (ai x.num.natAbs) false (ai x.den) (decide (y.num<0)) (ai y.num.natAbs) false (ai y.den) k=kq (x+y) k:=by
 unfold gJ jG;rw[I0 hF hB hx hy]
theorem adL (x w:Rat):(x*w).num=bF (decide (x.num<0)) (x.num.natAbs / Nat.gcd x.num.natAbs w.den)*bF (decide (w.num<0)) (w.num.natAbs / Nat.gcd w.num.natAbs x.den)
  /\ (x*w).den=x.den / Nat.gcd w.num.natAbs x.den*(w.den / Nat.gcd x.num.natAbs w.den):=by
 have H1:0<x.num.natAbs.gcd w.den:=aGC _ w.den_pos;have H2:0<w.num.natAbs.gcd x.den:=aGC _ x.den_pos;have d1:Nat.gcd x.num.natAbs w.den∣x.num.natAbs:=aGm _ _;have d2:Nat.gcd w.num.natAbs x.den∣w.num.natAbs:=aGm _ _;rw[IM H1 d1,IM H2 d2];have e1:(x*w).num=x.num.tdiv (Nat.gcd x.num.natAbs w.den:Nat)*w.num.tdiv (Nat.gcd w.num.natAbs x.den:Nat):=by
  show(Rat.mul x w).num=_
  delta Rat.mul
  simp only[Int.divExact_eq_tdiv]
 have e2:(x*w).den=x.den / Nat.gcd w.num.natAbs x.den*(w.den / Nat.gcd x.num.natAbs w.den):=by
  show(Rat.mul x w).den=_
  delta Rat.mul
  simp only[Nat.divExact_eq_div]
 refine⟨?_,e2⟩;rw[e1,Int.tdiv_eq_ediv_of_dvd (Int.ofNat_dvd_left.2 d1),Int.tdiv_eq_ediv_of_dvd (Int.ofNat_dvd_left.2 d2)]
theorem OU {N B:Nat} (hF:Fuel N) (hB:B<=1000000000000) {x w:Rat} (hx:Bq B x) (hw:Bq B w) (b1 b2:Bool) (k:Kx5) :
  aer N (decide (x.num<0) != decide (w.num<0)) (ai x.num.natAbs) (ai x.den) (ai w.num.natAbs) (ai w.den) b1 b2 k=kq (x*w) k:=by
 unfold aer amH;have hB2:B<=2000000000100:=by omega
 obtain⟨m1,m2⟩:=adL x w;have H1:0<x.num.natAbs.gcd w.den:=aGC _ w.den_pos;have H2:0<w.num.natAbs.gcd x.den:=aGC _ x.den_pos;have L1:bv B (x.num.natAbs.gcd w.den):=qm hw.2 (aHx _ w.den_pos);have L2:bv B (w.num.natAbs.gcd x.den):=qm hx.2 (aHx _ x.den_pos);rw[Du hF hB2 hx.1 hw.2,Du hF hB2 hw.1 hx.2,uP hF hB2 H1 hx.1 L1,uP hF hB2 H2 hw.1 L2,As hF hB2 (eE hx.1) (eE hw.1),uP hF hB2 H2 hx.2 L2,uP hF hB2 H1 hw.2 L1,As hF hB2 (eE hx.2) (eE hw.2),L5,OE _ _ _ k,i0o,<- m1,<- m2];rfl
theorem ai5 {N B:Nat} (hF:Fuel N) (hB:B<=1000000000000) {x y:Rat} (hx:Bq B x) (hy:Bq B y) (k:Kx5) :
  gk N (decide (x.num<0)) (ai x.num.natAbs) false (ai x.den) (decide (y.num<0)) (ai y.num.natAbs) false (ai y.den) k=kq (x*y) k:=by
 unfold gk ja ad7 Zi;rw[ll _ _ _ x.den_nz,ll _ _ _ y.den_nz,OU hF hB hx hy]
theorem IL {y:Rat} (h:y.num ≠ 0):(y⁻¹).num.natAbs=y.den/\(y⁻¹).den=y.num.natAbs/\decide ((y⁻¹).num<0)=decide (y.num<0):=by
 have hd:=y.den_pos;refine⟨?_,?_,?_⟩
 ·rw[Rat.num_inv,aHk,aGq,Int.natAbs_sign,if_neg h,aHz]
 ·rw[Rat.den_inv,if_neg h]
 ·rw[Rat.num_inv];rcases Int.lt_trichotomy y.num 0 with h1 | h1 | h1
  ·rw[Int.sign_eq_neg_one_of_neg h1,aFy h1,aFy (by omega)]
  ·exact absurd h1 h
  ·rw[Int.sign_eq_one_of_pos h1,aFz (by omega),aFz (by omega)]
theorem ai9 {N B:Nat} (hF:Fuel N) (hB:B<=1000000000000) {x y:Rat} (hx:Bq B x) (hy:Bq B y) (h0:y.num ≠ 0) (k:Kx5) :
  cA N (decide (x.num<0)) (ai x.num.natAbs) false (ai x.den) (decide (y.num<0)) (ai y.num.natAbs) false (ai y.den) k=kq (x / y) k:=by
 obtain⟨i1,i2,i3⟩:=IL h0;unfold cA jF ad8 Zj;have hw:Bq B (y⁻¹):=⟨by rw[i1]; exact hy.2,by rw[i2]; exact hy.1⟩
 have hp:=λkk=>OU (b1:=false) (b2:=false) hF hB hx hw kk
 rw[i1,i2,i3]at hp;rw[ll _ _ _ x.den_nz,ll _ _ _ y.den_nz,hp,Rat.div_def]
theorem Fz {N B:Nat} (hF:Fuel N) (hB:B<=2000000000000) (g:Bool) {n d:Nat} (hn:bv B n) (hd:bv B d) (h0:0<d) (b1 b2:Bool) (k:Kx5) :
  UZ N g (ai n) (ai d) b1 b2 k=kq (mkRat (bF g n) d) k:=by
 have hB2:B<=2000000000100:=by omega
 have hl:=hF.lt;have hnum:(mkRat (bF g n) d).num=bF g (n / Nat.gcd n d):=by
  rw[aIJ,if_neg (by omega)];have e:(bF g n).natAbs=n:=by unfold bF; cases g <;> simp
  have hg:0<Nat.gcd n d:=aGC _ h0;rw[e,aGK];obtain⟨q,hq⟩:=aGm n d;have hh:((Nat.gcd n d:Nat):Int) ≠ 0:=by omega
  have e2:bF g n=((Nat.gcd n d:Nat):Int)*bF g (n / Nat.gcd n d):=by
   have hnn:n=Nat.gcd n d*(n / Nat.gcd n d):=(Nat.mul_div_cancel' (aGm n d)).symm;have hc:(n:Int)=((Nat.gcd n d:Nat):Int)*((n / Nat.gcd n d:Nat):Int):=by rw[<- aFV,<- hnn]
   unfold bF;cases g
   ·simpa using hc
   ·simp only[aG8]; rw[hc,aIr]
  rw[e2,aHu _ hh]
 have hden:(mkRat (bF g n) d).den=d / Nat.gcd n d:=by
  rw[aIK,if_neg (by omega)];have e:(bF g n).natAbs=n:=by unfold bF; cases g <;> simp
  rw[e,aGK]
 have hj:∀ m e:Nat,bv B m->bv B e->Nh N (Mp N) (DI N) (ye N) (Gj N) (Pt N) (Xw N) g (ai n) (ai d) b1 b2 (ai m) (ai e) k=k (sg g m) (ai m) false (ai e):=by
  intro m e hm he;unfold Nh;rw[w_ hB2 hm];unfold Pt ZV;dsimp only;rw[w_ hB2 he,w_ hB2 he];unfold Xw ahn;cases g
  ·rfl
  ·simp only[vJ,sg,aGB]; rfl
 have hg0:0<Nat.gcd n d:=aGC _ h0;have hgb:bv B (Nat.gcd n d):=qm hd (aHx _ h0);have h1:=Ge hB2 hn;have h2:=Ge hB2 hd;have h3:=Ge hB2 hgb;have e1:ai 1=[1]:=wQ (by decide) (by decide);unfold UZ Km;rw[Du hF hB2 hn hd,<- e1,mE _ 1 ⟨by omega,by omega⟩ ⟨by rw[e1]; simp; omega,by rw[e1]; simp⟩];by_cases hc:Nat.gcd n d=1
 ·have:(iP (Nat.gcd n d) 1 != 0)=false:=by rw[hc]; rfl
  rw[this,aFA,hj n d hn hd,OE _ _ _ k];rw[hc,aHn]at hnum hden;unfold kq;rw[hnum,hden]
 ·have:(iP (Nat.gcd n d) 1 != 0)=true:=by unfold iP; rw[if_neg (by omega),if_neg hc]; rfl
  rw[this,aFB,oQ hF.big hg0 (by omega) (by omega),oQ hF.big hg0 (by omega) (by omega),hj _ _ (eE hn) (eE hd),OE _ _ _ k,<- hnum,<- hden];rfl
theorem Ri {N:Nat} (hF:Fuel N) (k:Kx5):gw N 0 k=kq 0 k:=by
 have:=hF.lt;unfold gw pM aej ZJ;have n0:=λkk=>zx (N:=N) (by omega) 0 (by decide) kk
 have n1:=λkk=>zx (N:=N) (by omega) 1 (by decide) kk
 rw[show((0:Nat):Int)=0 from rfl]at n0;rw[show((1:Nat):Int)=1 from rfl]at n1;unfold Pr ahc;rw[n0,n1,Fz hF (B:=10) (by decide) _ (by unfold bv; decide) (by unfold bv; decide) (by decide)];rfl
theorem qO {N:Nat} (x:Rat) (k:Kz0):bJ N (decide (x.num<0)) (ai x.num.natAbs) false (ai x.den) k=k (DL x.num):=by
 unfold bJ jH aee Zz aed Zy DL;by_cases h:x.num<0
 ·rw[aFy h,aFB,if_neg (by omega),if_pos h]
 ·rw[aFz h,aFA,if_neg h];by_cases h0:x.num=0
  ·rw[h0,if_pos rfl];have:ai (0:Int).natAbs=[]:=bW;rw[this]; rfl
  ·have:((((ai x.num.natAbs).length:Nat):Int)==0)=false:=by rw[eB (by omega)]; simp; omega
   rw[this,aFA,if_neg h0]
end Go.Proofs.YteifemaagdeomaaGreatDoor
end
