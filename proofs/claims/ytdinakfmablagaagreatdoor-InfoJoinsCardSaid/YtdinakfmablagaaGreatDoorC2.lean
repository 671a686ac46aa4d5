/- Laws in plain Lean. Conditions: none. -/
import Derived.Test.YtdinakfmablagaaGreatDoorC1
set_option linter.defProp false
set_option linter.unusedVariables false
section
namespace Go.Proofs.YtdinakfmablagaaGreatDoor
open Go Go.Mach
def yj (N:Nat) {x:Nat} (hx:x<18446744073709551616) (k:Kz0):NP N (x:Int) k=k (bl x:Int):=by
 have key:∀(z:Int) (m:Nat),z=(m:Int)->m<256 -> ∀ c:Nat,c<=56->((inR z 256)&&((ai .i64 (List.getD av (Int.toNat z) 0))&&((ai .i64 ((c:Int)+(List.getD av (Int.toNat z) 0)))&&k ((c:Int)+List.getD av (Int.toNat z) 0))))=k ((c+bl m:Nat):Int):=by intro z m hz hm c hc;subst hz;have:=Cd hm;rw[Zb,Md hm,aa Y4,aa Y3,aa Y3];rfl
 have j1:∀(y z c:Nat),z<65536->c<=48->FY N (y:Int) (z:Int) (c:Int) k=k ((c+bl z:Nat):Int):=by
  intro y z c hz hc;unfold FY;simp only[Oi,OL];by_cases h8:256<=z
  ·have e8:=ku (n:=z) 8 (by simpa using h8);rw[show(2:Nat) ^ 8=256 by decide]at e8;have h:=key ((z:Int) / 256%256) (z / 256) (by omega) (by omega) (c+8) (by omega);rw[show((c+8:Nat):Int)=(c:Int)+8 by omega]at h;rw[Y5 (by omega:(z:Int)>=256),Y8,aa Y3,h];congr 1; omega
  ·rw[Y6 (by omega:¬(z:Int)>=256),Y7,key ((z:Int)%256) z (by omega) (by omega) c (by omega)]
 have j0:∀(y z c:Nat),z<4294967296->c<=32->FX N (y:Int) (z:Int) (c:Int) k=k ((c+bl z:Nat):Int):=by
  intro y z c hz hc;unfold FX;simp only[Kk];by_cases h16:65536<=z
  ·have e16:=ku (n:=z) 16 (by simpa using h16);rw[show(2:Nat) ^ 16=65536 by decide]at e16;have h:=j1 y (z / 65536) (c+16) (by omega) (by omega);rw[show((c+16:Nat):Int)=(c:Int)+16 by omega,show((z / 65536:Nat):Int)=(z:Int) / 65536 by omega]at h;rw[Y5 (by omega:(z:Int)>=65536),Y8,aa Y3,h];congr 1; omega
  ·rw[Y6 (by omega:¬(z:Int)>=65536),Y7,j1 y z c (by omega) (by omega)]
 (unfold NP; rw[af]; unfold Pp)
 simp only[jj];by_cases h32:4294967296<=x
 ·have e32:=ku (n:=x) 32 (by rw[show(2:Nat) ^ 32=4294967296 by decide]; exact h32);rw[show(2:Nat) ^ 32=4294967296 by decide]at e32;have h:=j0 x (x / 4294967296) 32 (by omega) (by omega);rw[show((x / 4294967296:Nat):Int)=(x:Int) / 4294967296 by omega,show((32:Nat):Int)=32 from rfl]at h;rw[Y5 (by omega:(x:Int)>=4294967296),Y8,h];congr 1; omega
 ·have h:=j0 x x 0 (by omega) (by omega);rw[show((0:Nat):Int)=0 from rfl]at h;rw[Y6 (by omega:¬(x:Int)>=4294967296),Y7,h];congr 1; omega
def tH {n j:Nat} (h:n<2 ^ j):bl n<=j:=by
 unfold bl;split
 ·omega
 ·rename_i h0;have:=(Nat.log2_lt h0).2 h;omega
def vG (n:Nat):n<2 ^ bl n:=by
 unfold bl;split
 ·rename_i h; subst h; decide
 ·exact Nat.lt_log2_self
def JP {n:Nat} (h:n ≠ 0):0<bl n/\2 ^ (bl n - 1)<=n:=by unfold bl;rw[if_neg h];exact⟨by omega,by rw[abz]; exact Nat.log2_self_le h⟩
def mm:(2:Nat) ^ 64=18446744073709551616:=by decide
def C9 (N:Nat) {x:Nat} (hx:x<18446744073709551616) (k:Kz0):NE N (x:Int) k=k ((64 - bl x:Nat):Int):=by unfold NE RK;have:=tH (n:=x) (j:=64) (by rw[mm]; exact hx);rw[yj N hx,aa Y3];congr 1; omega
def GS {y:Nat} (h0:y ≠ 0) (hy:y<18446744073709551616):64 - bl y<64/\9223372036854775808<=y*2 ^ (64 - bl y)/\y*2 ^ (64 - bl y)<18446744073709551616:=by
 have h1:=tH (n:=y) (j:=64) (by rw[mm]; exact hy);obtain⟨h2,h3⟩:=JP h0;have h4:=vG y;have hp:0<2 ^ (64 - bl y):=Zj _;refine⟨by omega,?_,?_⟩
 ·have:=Y9 (2 ^ (64 - bl y)) h3;rw[<- Zk,show bl y - 1+(64 - bl y)=63 by omega]at this;exact this
 ·have:=ZS h4 hp;rw[<- Zk,show bl y+(64 - bl y)=64 by omega]at this;exact this
def xZ {a c u u1 p r:Nat} (hc:c<4294967296) (hp:p<=4294967296) (hu:(p+1)*a+r=u) (hb:4294967296<=r+a):p*(a*4294967296+c)<=u*4294967296+u1:=by
 have e1:u*4294967296+u1=p*a*4294967296+(r+a)*4294967296+u1:=by rw[<- hu,aaE,Zw,Zw,Zw]; omega
 have e2:p*(a*4294967296+c)=p*a*4294967296+p*c:=by rw[Zn,Zf]
 have:=ZZ hp (Nat.le_of_lt_succ hc:c<=4294967295);rw[e1,e2]; omega
def wW {a c u u1:Nat} (hu1:u1<4294967296) (hD:u<a*4294967296+c):(u*4294967296+u1) / (a*4294967296+c)<4294967296:=by rw[Ze (by omega)]; omega
def EP {N:Nat} {y s un0:Int} {a c u u1:Nat} (ha2:a<4294967296) (hc:c<4294967296) (hu1:u1<4294967296) (hD:u<a*4294967296+c) {d:Nat} (hd:∀ p,p<=d↔p*(a*4294967296+c)<=u*4294967296+u1) (hlt:d<4294967296) (e0:Int->Bool) :
  ∀ q r M,q<M->q<=4294967297->q*a+r=u->r<4294967296->d<=q ->
   am M (vk N y s (a:Int) (c:Int) (u:Int) (u1:Int) un0 e0) ((q:Int),(r:Int))=e0 (d:Int):=by
 intro q;induction q using Nat.strongRecOn with
 | ind q ih=>
 intro r M hM hqb hu hr hle;obtain⟨M,rfl⟩:∃ m,M=m+1:=⟨M - 1,by omega⟩
 show vk N y s a c u u1 un0 e0 ((q:Int),(r:Int)) (am M _)=_;have hY:0<a*4294967296+c:=by omega
 have hdec:d<q->cond (decide ((IntKind.wrap .u64 ((r:Int)+(a:Int)))>=4294967296)) (e0 (IntKind.wrap .u64 ((q:Int) - 1))) (am M (vk N y s (a:Int) (c:Int) (u:Int) (u1:Int) un0 e0) ((IntKind.wrap .u64 ((q:Int) - 1)),(IntKind.wrap .u64 ((r:Int)+(a:Int)))))=e0 (d:Int):=by
  intro hlq;obtain⟨p,rfl⟩:∃ p,q=p+1:=⟨q - 1,by omega⟩
  have w1:IntKind.wrap .u64 (((p+1:Nat):Int) - 1)=(p:Int):=by rw[aq]; omega
  have w2:IntKind.wrap .u64 ((r:Int)+(a:Int))=((r+a:Nat):Int):=by rw[aq]; omega
  rw[w1,w2];by_cases hb:4294967296<=r+a
  ·rw[Y5 (by omega),Y8];have h1:=xZ (u1:=u1) hc (by omega) hu hb;rw[<- hd]at h1;rw[show d=p by omega]
  ·rw[Y6 (by omega),Y7];exact ih p (by omega) (r+a) M (by omega) (by omega) (by rw[<- hu,aaE]; omega) (by omega) (by omega)
 simp only[vk];by_cases hq:4294967296<=q
 ·rw[Y5 (by omega:(q:Int)>=4294967296),show(true==false)=false from rfl,Y7];exact hdec (by omega)
 ·have e1:u*4294967296+u1=q*a*4294967296+r*4294967296+u1:=by rw[<- hu,Zw]
  have e2:q*(a*4294967296+c)=q*a*4294967296+q*c:=by rw[Zn,Zf]
  have hqc:q*c<=4294967295*4294967295:=ZZ (by omega) (by omega);have w1:IntKind.wrap .u64 ((q:Int)*(c:Int))=((q*c:Nat):Int):=by rw[<- Zp,aq]; omega
  have w2:IntKind.wrap .u64 ((IntKind.wrap .u64 (4294967296*(r:Int)))+(u1:Int))=((r*4294967296+u1:Nat):Int):=by rw[aq,aq]; omega
  rw[Y6 (by omega:¬(q:Int)>=4294967296),show(false==false)=true from rfl,Y8,w1,w2];by_cases ht:r*4294967296+u1<q*c
  ·rw[Y5 (by omega),Y8];refine hdec ?_;rw[<- Nat.not_le,hd]; omega
  ·rw[Y6 (by omega),Y7];have h1:q*(a*4294967296+c)<=u*4294967296+u1:=by omega
   rw[<- hd]at h1;rw[show d=q by omega]
def EQ {N:Nat} {y s q1:Int} {x21:Int} {a c u u1:Nat} (ha2:a<4294967296) (hc:c<4294967296) (hu1:u1<4294967296) (hD:u<a*4294967296+c) {d:Nat} (hd:∀ p,p<=d↔p*(a*4294967296+c)<=u*4294967296+u1) (hlt:d<4294967296) (e0:Int->Bool) :
  ∀ q r M,q<M->q<=4294967297->q*a+r=u->r<4294967296->d<=q ->
   am M (vm N y s (a:Int) (c:Int) (u1:Int) q1 x21 e0) ((r:Int),(q:Int))=e0 (d:Int):=by
 intro q;induction q using Nat.strongRecOn with
 | ind q ih=>
 intro r M hM hqb hu hr hle;obtain⟨M,rfl⟩:∃ m,M=m+1:=⟨M - 1,by omega⟩
 show vm N y s a c u1 q1 x21 e0 ((r:Int),(q:Int)) (am M _)=_;have hY:0<a*4294967296+c:=by omega
 have hdec:d<q->cond (decide ((IntKind.wrap .u64 ((r:Int)+(a:Int)))>=4294967296)) (e0 (IntKind.wrap .u64 ((q:Int) - 1))) (am M (vm N y s (a:Int) (c:Int) (u1:Int) q1 x21 e0) ((IntKind.wrap .u64 ((r:Int)+(a:Int))),(IntKind.wrap .u64 ((q:Int) - 1))))=e0 (d:Int):=by
  intro hlq;obtain⟨p,rfl⟩:∃ p,q=p+1:=⟨q - 1,by omega⟩
  have w1:IntKind.wrap .u64 (((p+1:Nat):Int) - 1)=(p:Int):=by rw[aq]; omega
  have w2:IntKind.wrap .u64 ((r:Int)+(a:Int))=((r+a:Nat):Int):=by rw[aq]; omega
  rw[w1,w2];by_cases hb:4294967296<=r+a
  ·rw[Y5 (by omega),Y8];have h1:=xZ (u1:=u1) hc (by omega) hu hb;rw[<- hd]at h1;rw[show d=p by omega]
  ·rw[Y6 (by omega),Y7];exact ih p (by omega) (r+a) M (by omega) (by omega) (by rw[<- hu,aaE]; omega) (by omega) (by omega)
 simp only[vm];by_cases hq:4294967296<=q
 ·rw[Y5 (by omega:(q:Int)>=4294967296),show(true==false)=false from rfl,Y7];exact hdec (by omega)
 ·have e1:u*4294967296+u1=q*a*4294967296+r*4294967296+u1:=by rw[<- hu,Zw]
  have e2:q*(a*4294967296+c)=q*a*4294967296+q*c:=by rw[Zn,Zf]
  have hqc:q*c<=4294967295*4294967295:=ZZ (by omega) (by omega);have w1:IntKind.wrap .u64 ((q:Int)*(c:Int))=((q*c:Nat):Int):=by rw[<- Zp,aq]; omega
  have w2:IntKind.wrap .u64 ((IntKind.wrap .u64 (4294967296*(r:Int)))+(u1:Int))=((r*4294967296+u1:Nat):Int):=by rw[aq,aq]; omega
  rw[Y6 (by omega:¬(q:Int)>=4294967296),show(false==false)=true from rfl,Y8,w1,w2];by_cases ht:r*4294967296+u1<q*c
  ·rw[Y5 (by omega),Y8];refine hdec ?_;rw[<- Nat.not_le,hd]; omega
  ·rw[Y6 (by omega),Y7];have h1:q*(a*4294967296+c)<=u*4294967296+u1:=by omega
   rw[<- hd]at h1;rw[show d=q by omega]
def x_ {a c u u1:Nat} (ha:2147483648<=a) (ha2:a<4294967296) (hc:c<4294967296) (hD:u<a*4294967296+c) (hu1:u1<4294967296) :
  u / a<=4294967297/\u / a*a+u%a=u/\u%a<4294967296/\(u*4294967296+u1) / (a*4294967296+c)<=u / a:=by
 have h0:0<a:=by omega
 refine⟨?_,Z3 u a,aaL (Zm _ h0) ha2,?_⟩
 ·have:u / a<4294967298:=by rw[Ze h0]; omega
  omega
 ·have h1:(u*4294967296+u1) / (a*4294967296)=u / a:=by rw[Y_ a,<- Zd];congr 1; omega
  rw[<- h1];exact Nat.div_le_div_left (aaX _ _) (by omega)
def Hj {m p y s:Nat} (u L b D1 q1 R1 u1 u0 q0 R0 Y:Nat) (hb:b=4294967296) (hT:m*2 ^ s=u*18446744073709551616+L) (hL:L=u1*b+u0) (hY:Y=y*2 ^ s) (hY0:0<Y)
  (h1:D1=u*b+u1) (hq1:q1=D1 / Y) (hR1:R1=D1%Y) (hq0:q0=(R1*b+u0) / Y) (hR0:R0=(R1*b+u0)%Y):m / y=q1*b+q0/\m%y=R0 / 2 ^ s:=by
 have hs:0<2 ^ s:=Zj s;have e1:=ZW D1 Y;have e0:=ZW (R1*b+u0) Y;rw[<- hq1,<- hR1]at e1;rw[<- hq0,<- hR0]at e0;have hlt:R0<Y:=by rw[hR0]; exact Zm _ hY0
 have hm:m*2 ^ s=Y*(q1*b+q0)+R0:=by
  rw[hT,hL];have e2:u*18446744073709551616+(u1*b+u0)=(u*b+u1)*b+u0:=by subst hb; omega
  rw[e2,<- h1,<- e1,Zn,Zw,ZK,<- e0,Zf,ZK]
 have d1:m / y=(m*2 ^ s) / Y:=by rw[hY,abN _ _ hs]
 have d2:(m%y)*2 ^ s=(m*2 ^ s)%Y:=by rw[hY,abO]
 constructor
 ·rw[d1,hm,ab_ hY0,ZA hlt,ZD]
 ·have:(m%y)*2 ^ s=R0:=by rw[d2,hm,abi,Zg hlt]
  rw[<- this,aaS _ hs]
def Ai {N:Nat} (hN:8589934592<=N) {hi lo y:Nat} (hy:y<18446744073709551616) (hlo:lo<18446744073709551616) (hhi:hi<y) (k:Ky2) :
  DG N (hi:Int) (lo:Int) (y:Int) k=k (((hi*18446744073709551616+lo) / y:Nat):Int) (((hi*18446744073709551616+lo)%y:Nat):Int):=by
 (unfold DG; rw[af]; unfold I3)
 have y0:((y:Int)==0)=false:=by simp; omega
 have y1:(!decide ((y:Int)=0))=true:=by simp; omega
 rw[y0,Y7,Y6 (by omega:¬(y:Int)<=hi),Y7];by_cases h0:hi=0
 ·subst h0;rw[show(((0:Nat):Int)==0)=true from rfl,Y8,aa y1,aa y1,aaq,Zx];have e1:Int.tdiv (lo:Int) (y:Int)=((lo / y:Nat):Int):=rfl;have e2:Int.tmod (lo:Int) (y:Int)=((lo%y:Nat):Int):=rfl;have:=aaH lo y;rw[e1,e2];generalize lo / y=d at *;rw[aq];congr 1; omega
 ·have hne:((hi:Int)==0)=false:=by simp; omega
  obtain⟨hs64,hYlo,hYhi⟩:=GS (y:=y) (by omega) hy;rw[hne,Y7,C9 N hy];generalize hs:64 - bl y=s at *;have hs0:0<2 ^ s:=Zj s;have hs1:2 ^ s*2 ^ (64 - s)=18446744073709551616:=by rw[<- Zk,show s+(64 - s)=64 by omega]
  have cp:((2:Int) ^ s)=((2 ^ s:Nat):Int):=by rw[aab]; rfl
  have cp2:((2:Int) ^ (64 - s))=((2 ^ (64 - s):Nat):Int):=by rw[aab]; rfl
  have ew:IntKind.wrap .u64 ((s:Nat):Int)=(s:Int):=by rw[aq]; omega
  have ew2:IntKind.wrap .u64 (64 - ((s:Nat):Int))=((64 - s:Nat):Int):=by rw[aq]; omega
  have em:min s 64=s:=by omega
  have em2:min (64 - s) 64=64 - s:=by omega
  simp only[ew,ew2,Zb,em,em2];rw[cp,cp2];have eY:IntKind.wrap .u64 ((y:Int)*((2 ^ s:Nat):Int))=((y*2 ^ s:Nat):Int):=by rw[<- Zp,aq]; omega
  have hm:hi*2 ^ s<y*2 ^ s:=ZS hhi hs0;have eH:IntKind.wrap .u64 ((hi:Int)*((2 ^ s:Nat):Int))=((2 ^ s*hi:Nat):Int):=by rw[<- Zp,Y_ hi,aq]; rw[Y_ hi]at hm; generalize 2 ^ s*hi=H at *; generalize y*2 ^ s=Y at *; omega
  have hlo2:lo / 2 ^ (64 - s)<2 ^ s:=by rw[Ze (Zj _),hs1]; exact hlo
  have hlo3:=ZW lo (2 ^ (64 - s));have eT:(hi*18446744073709551616+lo)*2 ^ s=(2 ^ s*hi+lo / 2 ^ (64 - s))*18446744073709551616+lo*2 ^ s%18446744073709551616:=by
   have e1:lo*2 ^ s / 18446744073709551616=lo / 2 ^ (64 - s):=by rw[<- hs1,Y_ lo,Nat.mul_div_mul_left _ _ hs0]
   have e2:=ZW (lo*2 ^ s) 18446744073709551616;rw[e1]at e2;rw[Zw,<- e2,Zw,acg,Y_ hi];omega
  have hD:2 ^ s*hi+lo / 2 ^ (64 - s)<y*2 ^ s:=by have:2 ^ s*(hi+1)<=2 ^ s*y:=Zc _ hhi;rw[Zn,Y_ _ y]at this;omega
  have eU:aA .or .u64 ((2 ^ s*hi:Nat):Int) (Int.fdiv (lo:Int) ((2 ^ (64 - s):Nat):Int))=((2 ^ s*hi+lo / 2 ^ (64 - s):Nat):Int):=by rw[js,rY,cB _ _ s hlo2 (by omega)]
  have eL:IntKind.wrap .u64 ((lo:Int)*((2 ^ s:Nat):Int))=((lo*2 ^ s%18446744073709551616:Nat):Int):=by rw[<- Zp,aq]; omega
  simp only[eY,eH,eU,eL,Cb,jj];have hLlt:lo*2 ^ s%18446744073709551616<18446744073709551616:=Zm _ (by decide);obtain⟨d1,d2⟩:=Hj (m:=hi*18446744073709551616+lo) (p:=0) (y:=y) (s:=s) (2 ^ s*hi+lo / 2 ^ (64 - s)) (lo*2 ^ s%18446744073709551616) 4294967296 _ _ _ (lo*2 ^ s%18446744073709551616 / 4294967296) (lo*2 ^ s%18446744073709551616%4294967296) _ _ (y*2 ^ s) rfl eT (by omega) rfl (by omega) rfl rfl rfl rfl rfl;rw[d1,d2];generalize y*2 ^ s=Y at *;generalize 2 ^ s*hi+lo / 2 ^ (64 - s)=u at *;generalize lo*2 ^ s%18446744073709551616=L at *;have hu1:L / 4294967296<4294967296:=by omega
  have hu0:L%4294967296<4294967296:=by omega
  have eL1:((L:Int) / 4294967296)=((L / 4294967296:Nat):Int):=by omega
  have ea:((Y:Int) / 4294967296)=((Y / 4294967296:Nat):Int):=by omega
  have eY2:Y=Y / 4294967296*4294967296+Y%4294967296:=by omega
  rw[eL1,ea];generalize hu1':L / 4294967296=u1 at *;generalize hu0':L%4294967296=u0 at *;have ha1:2147483648<=Y / 4294967296:=by omega
  have ha2:Y / 4294967296<4294967296:=by omega
  have hc:Y%4294967296<4294967296:=by omega
  generalize Y / 4294967296=a at *;generalize Y%4294967296=c at *;have a0:(!decide ((a:Int)=0))=true:=by simp; omega
  have hD':u<a*4294967296+c:=by omega
  have hY0':0<a*4294967296+c:=by omega
  rw[aa (Y5 (by omega)),aa (Y5 (by omega)),aa (Y5 (by omega)),aa (Y5 (by omega)),aa a0];have start:∀ v:Nat,v<18446744073709551616->IntKind.wrap .u64 (Int.tdiv (v:Int) (a:Int))=((v / a:Nat):Int)/\IntKind.wrap .u64 ((v:Int) - (IntKind.wrap .u64 (((v / a:Nat):Int)*(a:Int))))=((v%a:Nat):Int):=by
   intro v hv;have e1:Int.tdiv (v:Int) (a:Int)=((v / a:Nat):Int):=rfl;have h1:=aaH v a;have h2:=Z3 v a;rw[e1,<- Zp];generalize v / a*a=P at *;generalize v / a=Q at *;generalize v%a=Z at *;constructor
   ·rw[aq]; omega
   ·rw[aq,aq]; omega
  obtain⟨g1,g2,g3,g4⟩:=x_ ha1 ha2 hc hD' hu1;obtain⟨s1,s2⟩:=start u (by omega);rw[s1,s2,EP ha2 hc hu1 hD' (λp=>aaF hY0') (wW hu1 hD') _ (u / a) (u%a) N (by omega) g1 g2 g3 g4];rw[aa a0];rw[<- eY2];have hY0:0<Y:=by omega
  have hR1:=Zm (u*4294967296+u1) hY0;have hE1:=Z3 (u*4294967296+u1) Y;have e21:IntKind.wrap .u64 ((IntKind.wrap .u64 ((IntKind.wrap .u64 ((u:Int)*4294967296))+(u1:Int))) - (IntKind.wrap .u64 ((((u*4294967296+u1) / Y:Nat):Int)*(Y:Int))))=(((u*4294967296+u1)%Y:Nat):Int):=by rw[<- Zp];generalize (u*4294967296+u1) / Y*Y=P at *;rw[aq,aq,aq,aq]; omega
  simp only[e21];have hq1:(u*4294967296+u1) / Y<4294967296:=by rw[eY2]; exact wW hu1 hD'
  obtain⟨q1,hq1e⟩:∃ q,q=(u*4294967296+u1) / Y:=⟨_,rfl⟩
  obtain⟨R1,hR1e⟩:∃ q,q=(u*4294967296+u1)%Y:=⟨_,rfl⟩
  rw[<- hq1e,<- hR1e];rw[<- hq1e]at hq1;rw[<- hR1e]at hR1;have hD2:R1<a*4294967296+c:=by omega
  obtain⟨g1,g2,g3,g4⟩:=x_ ha1 ha2 hc hD2 hu0;obtain⟨s1,s2⟩:=start R1 (by omega);rw[s1,s2,EQ ha2 hc hu0 hD2 (λp=>aaF hY0') (wW hu0 hD2) _ (R1 / a) (R1%a) N (by omega) g1 g2 g3 g4,<- eY2];rw[aa (Y5 (by omega))];have hR0:=Zm (R1*4294967296+u0) hY0;have hE0:=Z3 (R1*4294967296+u0) Y;have hq0:(R1*4294967296+u0) / Y<4294967296:=by rw[eY2]; exact wW hu0 hD2
  have e20:IntKind.wrap .u64 ((IntKind.wrap .u64 ((IntKind.wrap .u64 ((R1:Int)*4294967296))+(u0:Int))) - (IntKind.wrap .u64 ((((R1*4294967296+u0) / Y:Nat):Int)*(Y:Int))))=(((R1*4294967296+u0)%Y:Nat):Int):=by
   rw[<- Zp];obtain⟨P,hP⟩:∃ q,q=(R1*4294967296+u0) / Y*Y:=⟨_,rfl⟩
   obtain⟨Z,hZ⟩:∃ q,q=(R1*4294967296+u0)%Y:=⟨_,rfl⟩
   rw[<- hP,<- hZ]at hE0;rw[<- hZ]at hR0;rw[<- hP,<- hZ];rw[aq,aq,aq,aq]; omega
  rw[e20,js];obtain⟨q0,hq0e⟩:∃ q,q=(R1*4294967296+u0) / Y:=⟨_,rfl⟩
  rw[<- hq0e]at hq0;rw[<- hq0e];congr 1;rw[aq,aq]; omega
def GB (Q n m:Nat) (h:m<n):(List.replicate (m+1) (0:Int)++(dlq Q n).drop (m+1)).set m ((Q / 18446744073709551616 ^ m%18446744073709551616:Nat):Int)=List.replicate m 0++(dlq Q n).drop m:=by rw[aaJ,Zo,List.singleton_append,bf _ _ _ _ _ (by simp),cV (n:=m) (by rw[ak]; exact h),qb Q h]
def AL {A d:Nat} (hd:0<d):(A / 18446744073709551616%d*18446744073709551616+A%18446744073709551616)%d=A%d/\(A / 18446744073709551616%d*18446744073709551616+A%18446744073709551616) / d=A / d%18446744073709551616:=by
 have h1:=ZW A 18446744073709551616;have h2:=ZW (A / 18446744073709551616) d;have h3:=Zm (A / 18446744073709551616) hd;have h4:A%18446744073709551616<18446744073709551616:=Zm _ (by decide);obtain⟨a,ha⟩:∃ a,a=A / 18446744073709551616:=⟨_,rfl⟩
 obtain⟨e,he⟩:∃ e,e=A%18446744073709551616:=⟨_,rfl⟩
 rw[<- ha]at h1 h2 h3 ⊢;rw[<- he]at h1 h4 ⊢;obtain⟨c,hc⟩:∃ c,c=a / d:=⟨_,rfl⟩
 obtain⟨r,hr⟩:∃ r,r=a%d:=⟨_,rfl⟩
 rw[<- hc,<- hr]at h2;rw[<- hr]at h3 ⊢;have h5:A=d*(c*18446744073709551616)+(r*18446744073709551616+e):=by rw[<- h1,<- h2,<- Zf,Zn,Y_ 18446744073709551616,Y_ 18446744073709551616]; omega
 constructor
 ·rw[h5,abi]
 ·rw[h5,ab_ hd,Y_ c,abi];refine(Zg ?_).symm;rw[Ze hd];have:=Y9 18446744073709551616 h3;rw[aaE]at this;rw[Y_ _ d,Y_ d];rw[Y_ d]at this;omega
def iK (x:Nat):x<18446744073709551616 ^ (ae x).length:=by have:=gO (aW x); rwa [aC]at this
def H6 {N:Nat} (hN:8589934592<=N) {x d:Nat} (hd0:0<d) (hd:d<18446744073709551616) (hs:jW N (ae x)) (k:List Int->Int->Bool):mY N (ae x) (d:Int) k=k (ae (x / d)) ((x%d:Nat):Int):=by
 (unfold mY; rw[af]; unfold pI)
 obtain⟨s1,s2⟩:=hs;have hx:=iK x;generalize hn:(ae x).length=n at *;rw[aa (bQ (by omega) (by omega) (by omega) (by omega)),aa Y3,Zb];refine aF (λi=>(((x / 18446744073709551616 ^ (n - i)%d:Nat):Int),((n:Int) - 1 - (i:Int)),List.replicate (n - i) (0:Int)++(dlq (x / d) n).drop (n - i))) n ?_ (by omega) (λi hi K=>?_) (λK=>?_)
 ·rw[abd,ZA hx,Nat.zero_mod,ZR (by rw[ak]; omega),ZG];simp
 ·obtain⟨m,hm⟩:∃ m,n - i=m+1:=⟨n - i - 1,by omega⟩
  have hm2:n - (i+1)=m:=by omega
  have ei:(n:Int) - 1 - (i:Int)=(m:Int):=by omega
  have ei2:(n:Int) - 1 - ((i+1:Nat):Int)=(m:Int) - 1:=by omega
  have hp:x / 18446744073709551616 ^ (m+1)=x / 18446744073709551616 ^ m / 18446744073709551616:=by rw[Zh,Zd]
  have hdg:x / d / 18446744073709551616 ^ m%18446744073709551616=x / 18446744073709551616 ^ m / d%18446744073709551616:=by rw[Zd,Zd,Y_ d]
  obtain⟨n1,n2⟩:=AL (A:=x / 18446744073709551616 ^ m) hd0;rw[hm,hm2,ei,ei2,hp];simp only[jF,Zb];have hl:(List.replicate (m+1) (0:Int)++(dlq (x / d) n).drop (m+1)).length=n:=by simp[ak]; omega
  rw[Y5 (by omega:(m:Int)>=0),Y8,hn,aa Y4,lR,Ai hN hd (Zm _ (by decide)) (Zm _ hd0),n1,n2,<- hdg,hl,aa Y4,aa (Y5 (by omega)),aa Y3,GB _ _ _ (by omega)]
 ·simp only[jF];have e0:(n:Int) - 1 - (n:Int) = -1:=by omega
  rw[e0,Y6 (by omega),Y7,ZF,aaR,aaU];rw[ZJ,ZX,aaB];have hq:x / d<18446744073709551616 ^ n:=aaG (aaH _ _) hx;rw[jp _ (fQ _ _) (by rw[ak]; omega) (by rw[ak]; omega) (λz=>k z ((x%d:Nat):Int)),kw hq]
def Bh {P A B U3 V2 U V g:Nat} (hA:A<P) (hU:U=A+P*U3) (hV:V=B+P*V2) (hV0:0<V) (h:U3<g*V2):U / V<g:=by rw[Ze hV0,hU,hV,Zn,ZB g P V2];have:=Zc P h;rw[acs]at this;omega
def Gg {W P A B U V u0 u1 u2 v0 v1:Nat} (hA:A<P) (hU:U=A+P*(u0+W*(u2*W+u1))) (hV:V=B+P*(v0+W*v1)) (hV0:0<V) (hv1:0<v1) (hu0:u0<W):U / V<=(u2*W+u1) / v1:=by
 refine Nat.le_of_lt_succ (Bh hA hU hV hV0 ?_);have h1:=abx (u2*W+u1) hv1;rw[Y_ v1]at h1;have h2:=Zc W h1;rw[acs]at h2;have e:((u2*W+u1) / v1).succ*(v0+W*v1)=((u2*W+u1) / v1).succ*v0+W*(((u2*W+u1) / v1+1)*v1):=by rw[Zn,ZB]
 rw[e];omega
def EO {N:Nat} {o n u0 v0 v1 T d:Nat} {b c:List Int} (hn:2<=n) (hc1:c.getD (n - 2) 0=(v0:Int)) (hc2:c.getD (n - 1) 0=(v1:Int)) (hb:b.getD (o+(n - 2)) 0=(u0:Int)) (hcl:n<=c.length) (hbl:o+n+1<=b.length) (hbs:b.length<=1099511627780)
  (hv0:v0<18446744073709551616) (hv1:v1<18446744073709551616) (hu0:u0<18446744073709551616) (hd:∀ g,u0+18446744073709551616*T<g*(v0+18446744073709551616*v1)->d<g) :
  ∀ q r M,q<M->q<18446744073709551616->q*v1+r=T->r<18446744073709551616->d<=q ->
   ∃ g,d<=g/\g<18446744073709551616 /\ ∀ e0,am M (qV N o (n+1) 0 n (n:Int) b c e0) ((q:Int),(r:Int))=e0 (g:Int):=by
 intro q;induction q using Nat.strongRecOn with
 | ind q ih=>
 intro r M hM hq hT hr hdq;obtain⟨M,rfl⟩:∃ m,M=m+1:=⟨M - 1,by omega⟩
 have i2:0+Int.toNat ((n:Int) - 2)=n - 2:=by omega
 have i1:0+Int.toNat ((n:Int) - 1)=n - 1:=by omega
 have j2:o+Int.toNat ((n:Int) - 2)=o+(n - 2):=by omega
 have hqv:=ZW (q*v0) 18446744073709551616;have hlo:q*v0%18446744073709551616<18446744073709551616:=Zm _ (by decide);by_cases hex:q*v0<=r*18446744073709551616+u0
 ·refine⟨q,hdq,hq,λe0=>?_⟩;show qV N o (n+1) 0 n (n:Int) b c e0 ((q:Int),(r:Int)) (am M _)=_;simp only[qV,i2,i1,j2,hc1,hc2,hb];rw[aa Y3,aa Y4,aa (Y5 (by omega)),uS N hq hv0];generalize q*v0%18446744073709551616=lo at *;generalize q*v0 / 18446744073709551616=hi at *;rcases abI hi r with h | h | h
  ·rw[Y5 (by omega:(hi:Int)<r),show(true==false)=false from rfl,Y7]
  ·subst h;rw[Y6 (by omega:¬(hi:Int)<hi),show(false==false)=true from rfl,Y8,show((hi:Int)==hi)=true by simp,show(true==true)=true from rfl,Y8,aa Y3,aa Y4,aa (Y5 (by omega)),Y5 (by omega:(lo:Int)<=u0),Y8]
  ·exfalso; omega
 ·have hgt:=hd q (by rw[Zn,ZB,<- hT]; rw[Zn]; omega);obtain⟨p,rfl⟩:∃ p,q=p+1:=⟨q - 1,by omega⟩
  have w1:IntKind.wrap .u64 (((p+1:Nat):Int) - 1)=(p:Int):=by rw[aq]; omega
  have step:∀ e0:Int->Bool,am (M+1) (qV N o (n+1) 0 n (n:Int) b c e0) (((p+1:Nat):Int),(r:Int))
    = cond (decide (18446744073709551616<=r+v1)) (e0 (p:Int)) (am M (qV N o (n+1) 0 n (n:Int) b c e0) ((p:Int),((r+v1:Nat):Int))):=by
   intro e0;show qV N o (n+1) 0 n (n:Int) b c e0 (((p+1:Nat):Int),(r:Int)) (am M _)=_;simp only[qV,i2,i1,j2,hc1,hc2,hb];have tail:(ai .i64 ((n:Int) - 1)&&((inR ((n:Int) - 1) n)&&((decide (n - 1<c.length))&&(sQ6 N (r:Int) (v1:Int) 0 (λ(UA:Int) (n5:Int)=>(cond (n5 != 0) (e0 (IntKind.wrap .u64 (((p+1:Nat):Int) - 1))) (am M (qV N o (n+1) 0 n (n:Int) b c e0) ((IntKind.wrap .u64 (((p+1:Nat):Int) - 1)),UA))))))))
     = cond (decide (18446744073709551616<=r+v1)) (e0 (p:Int)) (am M (qV N o (n+1) 0 n (n:Int) b c e0) ((p:Int),((r+v1:Nat):Int))):=by
    rw[aa Y3,aa Y4,aa (Y5 (by omega)),lG N (c:=0) (a:=r) (b:=v1) (d:=0) rfl rfl rfl (by omega),w1];by_cases hb2:18446744073709551616<=r+v1
    ·have:(((r+v1+0) / 18446744073709551616:Nat):Int)=1:=by omega
     rw[this,Y5 hb2]; rfl
    ·have:(((r+v1+0) / 18446744073709551616:Nat):Int)=0:=by omega
     have e2:(r+v1+0)%18446744073709551616=r+v1:=by omega
     rw[this,e2,Y6 hb2]; rfl
   rw[aa Y3,aa Y4,aa (Y5 (by omega)),uS N hq hv0];generalize (p+1)*v0%18446744073709551616=lo at *;generalize (p+1)*v0 / 18446744073709551616=hi at *;rcases abI hi r with h | h | h
   ·exfalso; omega
   ·subst h;rw[Y6 (by omega:¬(hi:Int)<hi),show(false==false)=true from rfl,Y8,show((hi:Int)==hi)=true by simp,show(true==true)=true from rfl,Y8,aa Y3,aa Y4,aa (Y5 (by omega)),Y6 (by omega:¬(lo:Int)<=u0),Y7];exact tail
   ·rw[Y6 (by omega:¬(hi:Int)<r),show(false==false)=true from rfl,Y8,show((hi:Int)==r)=false by simp; omega,show(false==true)=false from rfl,Y7];exact tail
  by_cases hb2:18446744073709551616<=r+v1
  ·exact⟨p,by omega,by omega,λe0=>by rw[step,Y5 hb2,Y8]⟩
  ·obtain⟨g,g1,g2,g3⟩:=ih p (by omega) (r+v1) M (by omega) (by omega) (by rw[<- hT,aaE]; omega) (by omega) (by omega);exact⟨g,g1,g2,λe0=>by rw[step,Y6 hb2,Y7]; exact g3 e0⟩
def i7 {b:List Int} (o i:Nat):(b.drop o).getD i 0=b.getD (o+i) 0:=by rw[List.getD_eq_getElem?_getD,List.getD_eq_getElem?_getD,List.getElem?_drop]
def T4 (c:List Int) (m:Nat):au (c.take (m+3))=au (c.take m)+18446744073709551616 ^ m*((c.getD m 0).toNat+18446744073709551616*((c.getD (m+2) 0).toNat*18446744073709551616+(c.getD (m+1) 0).toNat)):=by rw[show m+3=m+2+1 by omega,aJ,show m+2=m+1+1 by omega,aJ,aJ];simp only[Zh];generalize 18446744073709551616 ^ m=P;grind
def T3 (c:List Int) (m:Nat):au (c.take (m+2))=au (c.take m)+18446744073709551616 ^ m*((c.getD m 0).toNat+18446744073709551616*(c.getD (m+1) 0).toNat):=by rw[show m+2=m+1+1 by omega,aJ,aJ];simp only[Zh];generalize 18446744073709551616 ^ m=P;grind
def HU {N:Nat} (hN:1180591620717411303424<=N) {o n:Nat} {b c:List Int} (hn:2<=n) (hb:InWq b) (hc:InWq c) (hcl:n<=c.length) (hbl:o+n+1<=b.length) (hbs:b.length<=1099511627780)
  (htop:0<(c.getD (n - 1) 0).toNat) (hU:au ((b.drop o).take (n+1))<au (c.take n)*18446744073709551616) :
  ∃ g:Nat,au ((b.drop o).take (n+1)) / au (c.take n)<=g/\g<18446744073709551616 /\ ∀ k,NQ N o (n+1) 0 n b c k=k (g:Int):=by
 obtain⟨m,rfl⟩:∃ m,n=m+2:=⟨n - 2,by omega⟩
 have hU3:=T4 (b.drop o) m;have hV2:=T3 c m;rw[i7,i7,i7]at hU3;have a0:=hb.at (i:=o+m);have a1:=hb.at (i:=o+(m+1));have a2:=hb.at (i:=o+(m+2));have c0:=hc.at (i:=m);have c1:=hc.at (i:=m+1);have hA:=aQ (hb.drop o) m;have hB:=aQ hc m;rw[show m+2 - 1=m+1 by omega]at htop;obtain⟨u0,hu0⟩:∃ u,u=(b.getD (o+m) 0).toNat:=⟨_,rfl⟩
 obtain⟨u1,hu1⟩:∃ u,u=(b.getD (o+(m+1)) 0).toNat:=⟨_,rfl⟩
 obtain⟨u2,hu2⟩:∃ u,u=(b.getD (o+(m+2)) 0).toNat:=⟨_,rfl⟩
 obtain⟨v0,hv0⟩:∃ u,u=(c.getD m 0).toNat:=⟨_,rfl⟩
 obtain⟨v1,hv1⟩:∃ u,u=(c.getD (m+1) 0).toNat:=⟨_,rfl⟩
 have g0:b.getD (o+m) 0=(u0:Int):=by omega
 have g1:b.getD (o+(m+1)) 0=(u1:Int):=by omega
 have g2:b.getD (o+(m+2)) 0=(u2:Int):=by omega
 have k0:c.getD m 0=(v0:Int):=by omega
 have k1:c.getD (m+1) 0=(v1:Int):=by omega
 rw[<- hu0,<- hu1,<- hu2]at hU3;rw[<- hv0,<- hv1]at hV2;rw[<- hv1]at htop;rw[show m+2+1=m+3 by omega];rw[show m+2+1=m+3 by omega]at hU;generalize au ((b.drop o).take (m+3))=U at *;generalize au (c.take (m+2))=V at *;have hV0:0<V:=by
  rcases aat V with h | h
  ·rw[h,aaq]at hU; omega
  ·exact h
 have hq:U / V<18446744073709551616:=by rw[Ze hV0,Y_]; exact hU
 have i2:o+Int.toNat (((m+2:Nat):Int))=o+(m+2):=by omega
 have i1:o+Int.toNat (((m+2:Nat):Int) - 1)=o+(m+1):=by omega
 have j1:0+Int.toNat (((m+2:Nat):Int) - 1)=m+1:=by omega
 by_cases h0:v1<=u2
 ·refine⟨18446744073709551615,by omega,by omega,λk=>?_⟩
  (unfold NQ; rw[af]; unfold Ms)
  simp only[i2,i1,j1,g2,g1,k1];rw[aa Y4,aa (Y5 (by omega)),aa Y3,aa Y4,aa (Y5 (by omega)),Y5 (by omega:(u2:Int)>=v1),Y8];rfl
 ·have hT:(u2*18446744073709551616+u1) / v1<18446744073709551616:=by rw[Ze htop];have:=Zc 18446744073709551616 (Nat.lt_of_not_le h0);rw[acs]at this;omega
  obtain⟨g,e1,e2,e3⟩:=EO (N:=N) (o:=o) (n:=m+2) (T:=u2*18446744073709551616+u1) (d:=U / V) (u0:=u0) (v0:=v0) (v1:=v1) (by omega) (by rw[show m+2 - 2=m by omega]; exact k0) (by rw[show m+2 - 1=m+1 by omega]; exact k1) (by rw[show m+2 - 2=m by omega]; exact g0) hcl hbl hbs (by omega) (by omega) (by omega)
   (λg hg=>Bh hA hU3 hV2 hV0 hg)
   ((u2*18446744073709551616+u1) / v1) ((u2*18446744073709551616+u1)%v1) N (by omega) hT (Z3 _ _) (aaL (Zm _ htop) (by omega)) (Gg hA hU3 hV2 hV0 htop (by omega))
  refine⟨g,e1,e2,λk=>?_⟩
  (unfold NQ; rw[af]; unfold Ms)
  simp only[i2,i1,j1,g2,g1,k1];rw[aa Y4,aa (Y5 (by omega)),aa Y3,aa Y4,aa (Y5 (by omega)),Y6 (by omega:¬(u2:Int)>=v1),Y7];rw[aa Y4,aa (Y5 (by omega)),aa Y3,aa Y4,aa (Y5 (by omega)),aa Y3,aa Y4,aa (Y5 (by omega))];rw[Ai (by omega) (by omega) (by omega) (by omega),e3]
def GZ {b:List Int} {o i:Nat} (D:Nat) (h:o+i<=b.length):(b.take o++(dlq D i++b.drop (o+i))).length=b.length:=by simp[ak]; omega
def GY {b:List Int} {o i:Nat} (D:Nat) (h:o+i<b.length):(b.take o++(dlq D i++b.drop (o+i))).getD (o+i) 0=b.getD (o+i) 0:=by rw[<- Zo,cV h,bZ (by simp[ak]; omega)]
def G0 {b:List Int} {o i:Nat} (D:Nat) (h:o+i<b.length):(b.take o++(dlq D i++b.drop (o+i))).set (o+i) ((D / 18446744073709551616 ^ i%18446744073709551616:Nat):Int)=b.take o++(dlq D (i+1)++b.drop (o+(i+1))):=by rw[<- Zo,cV h,bf _ _ _ _ _ (by simp[ak]; omega),dlq];simp[ZK]
def GW {b:List Int} {o i n:Nat} (D E:Nat) (hi:i<=n) (h:o+n<=b.length):(b.take o++(dlq E i++((dlq D n).drop i++b.drop (o+n)))).length=b.length:=by simp[ak]; omega
def GV {b:List Int} {o i n:Nat} (D E:Nat) (hi:i<n) (h:o+n<=b.length):(b.take o++(dlq E i++((dlq D n).drop i++b.drop (o+n)))).getD (o+i) 0=((D / 18446744073709551616 ^ i%18446744073709551616:Nat):Int):=by rw[<- Zo,cV (n:=i) (by rw[ak]; exact hi),aaW,bZ (by simp[ak]; omega),qb D hi]
def GX {b:List Int} {o i n:Nat} (D E:Nat) (hi:i<n) (h:o+n<=b.length):(b.take o++(dlq E i++((dlq D n).drop i++b.drop (o+n)))).set (o+i) ((E / 18446744073709551616 ^ i%18446744073709551616:Nat):Int)=b.take o++(dlq E (i+1)++((dlq D n).drop (i+1)++b.drop (o+n))):=by rw[<- Zo,cV (n:=i) (by rw[ak]; exact hi),aaW,bf _ _ _ _ _ (by simp[ak]; omega),dlq];simp
def F8 {m:Nat} (S X:Nat):∀ n,n<=m->dlq (S+18446744073709551616 ^ m*X) n=dlq S n
 | 0,_=>rfl
 | n+1,h=>by rw[dlq,dlq,F8 S X n (by omega)];congr 3;refine gW (R:=18446744073709551616 ^ (m - (n+1))*X) ?_;rw[<- Zf,<- Zk,show n+1+(m - (n+1))=m by omega]
def AM {w:List Int} {n i U Q:Nat} (hw:InWq w) (hl:w.length=n+1) (hU:U=au w) (hi:i<=n) (hQ:Q<18446744073709551616 ^ (n+1)) :
  (((w.getD i 0).toNat+18446744073709551616 - Q / 18446744073709551616 ^ i%18446744073709551616 - (if au (w.take i)<Q%18446744073709551616 ^ i then 1 else 0))%18446744073709551616=(U+18446744073709551616 ^ (n+1) - Q) / 18446744073709551616 ^ i%18446744073709551616)
  /\ (if (w.getD i 0).toNat<Q / 18446744073709551616 ^ i%18446744073709551616+(if au (w.take i)<Q%18446744073709551616 ^ i then 1 else 0)then 1 else 0)=(if au (w.take (i+1))<Q%18446744073709551616 ^ (i+1)then 1 else(0:Nat)):=by
 have hx:=hw.at (i:=i);have hA:=aJ (m:=w) i;have hAl:=aQ hw i;have hp:=aZ i;have hBl:=Zm Q hp;have hPs:18446744073709551616 ^ (i+1)=18446744073709551616 ^ i*18446744073709551616:=Zh ..;have hmm:Q%18446744073709551616 ^ (i+1)=Q%18446744073709551616 ^ i+18446744073709551616 ^ i*(Q / 18446744073709551616 ^ i%18446744073709551616):=by rw[hPs,ab4]
 have hyl:Q / 18446744073709551616 ^ i%18446744073709551616<18446744073709551616:=Zm _ (by decide);constructor
 ·obtain⟨R1,h1⟩:=bI w (i+1);have hW:18446744073709551616 ^ (n+1)=18446744073709551616 ^ i*18446744073709551616*18446744073709551616 ^ (n - i):=by rw[<- hPs,<- Zk,show i+1+(n - i)=n+1 by omega]
  have hq:=zY (D:=U+18446744073709551616 ^ (n+1) - Q) (a:=U+18446744073709551616 ^ (n+1)) (b:=Q) (x:=(w.getD i 0).toNat) (y:=Q / 18446744073709551616 ^ i%18446744073709551616) (R1:=R1+18446744073709551616 ^ (n - i)) (R2:=Q / (18446744073709551616 ^ i*18446744073709551616)) hAl hBl rfl
   (by rw[hU,h1,hA,hW,hPs,Zn]; omega)
   (by rw[<- hmm,hPs]; exact(abh _ _).symm)
   (by omega)
  generalize (U+18446744073709551616 ^ (n+1) - Q) / 18446744073709551616 ^ i=Z at *;generalize Q / 18446744073709551616 ^ i%18446744073709551616=y at *;generalize (w.getD i 0).toNat=x at *;generalize ((R1+18446744073709551616 ^ (n - i):Nat):Int) - ((Q / (18446744073709551616 ^ i*18446744073709551616):Nat):Int)=RR at *;split at hq <;> rename_i hh <;> simp only[hh,aaD,ZE] <;> omega
 ·rw[hA,hmm];exact(mG _ _ _ _ _ hAl hBl).symm
def jt (i:Nat):(i:Int)+1=((i+1:Nat):Int):=rfl
def Cl (p:Prop) [Decidable p]:(if p then(1:Int)else 0)=((if p then 1 else 0:Nat):Int):=by split <;> rfl
def Eb (p:Nat) (h:p<18446744073709551616):IntKind.wrap .u64 (((p+1:Nat):Int) - 1)=(p:Int):=by rw[aq]; omega
def zQ {D V c v i:Nat} (hc:c=(D%18446744073709551616 ^ i+V) / 18446744073709551616 ^ i) :
  (D%18446744073709551616 ^ (i+1)+(V+18446744073709551616 ^ i*v)) / 18446744073709551616 ^ (i+1)=(D / 18446744073709551616 ^ i%18446744073709551616+v+c) / 18446744073709551616 /\
  ∀ R,(D+(V+18446744073709551616 ^ i*v+18446744073709551616 ^ (i+1)*R)) / 18446744073709551616 ^ i%18446744073709551616=(D / 18446744073709551616 ^ i%18446744073709551616+v+c)%18446744073709551616:=by
 have hp:=aZ i;have hPs:18446744073709551616 ^ (i+1)=18446744073709551616 ^ i*18446744073709551616:=Zh ..;have hmm:D%18446744073709551616 ^ (i+1)=D%18446744073709551616 ^ i+18446744073709551616 ^ i*(D / 18446744073709551616 ^ i%18446744073709551616):=by rw[hPs,ab4]
 have e:D%18446744073709551616 ^ (i+1)+(V+18446744073709551616 ^ i*v)=(D%18446744073709551616 ^ i+V)+18446744073709551616 ^ i*(D / 18446744073709551616 ^ i%18446744073709551616+v):=by rw[hmm,Zn]; omega
 have e2:(D%18446744073709551616 ^ (i+1)+(V+18446744073709551616 ^ i*v)) / 18446744073709551616 ^ i=D / 18446744073709551616 ^ i%18446744073709551616+v+c:=by rw[e,cJ,<- hc]; omega
 constructor
 ·rw[hPs,<- Zd,<- hPs,e2]
 ·intro R;have e3:D+(V+18446744073709551616 ^ i*v+18446744073709551616 ^ (i+1)*R)=(D%18446744073709551616 ^ (i+1)+(V+18446744073709551616 ^ i*v))+18446744073709551616 ^ (i+1)*(D / 18446744073709551616 ^ (i+1)+R):=by have:=abh D (18446744073709551616 ^ (i+1));rw[Zn]; omega
  rw[gW e3,e2]
def Ek {D V c i:Nat} (hc:c=(D%18446744073709551616 ^ i+V) / 18446744073709551616 ^ i) :
  (D%18446744073709551616 ^ (i+1)+V) / 18446744073709551616 ^ (i+1)=(D / 18446744073709551616 ^ i%18446744073709551616+0+c) / 18446744073709551616 /\
  (D+V) / 18446744073709551616 ^ i%18446744073709551616=(D / 18446744073709551616 ^ i%18446744073709551616+0+c)%18446744073709551616:=by
 obtain⟨a1,a2⟩:=zQ (v:=0) hc;have a3:=a2 0;rw[aar,ZD V]at a1;rw[aar,aar,ZD V]at a3;exact⟨a1,a3⟩
def G_ {N:Nat} (hN:1180591620717411303424<=N) {o n U V d:Nat} {b c:List Int} (hn:1<=n) (hc:InWq c) (hcl:n<=c.length) (hbl:o+(n+1)<=b.length) (hbs:b.length<=1099511627780) (hV:V=au (c.take n)) (hUW:U<18446744073709551616 ^ (n+1)) (hd:∀ g,g<=d↔g*V<=U) (e0:Int->List Int->Bool) :
  ∀ g M,g<M->g<18446744073709551616->d<=g->g*V<18446744073709551616 ^ (n+1) ->
   am M (qT N o (n+1) 0 n (n:Int) c e0) ((g:Int),((if U<g*V then 1 else 0:Nat):Int),b.take o++(dlq (U+18446744073709551616 ^ (n+1) - g*V) (n+1)++b.drop (o+(n+1))))=e0 (d:Int) (b.take o++(dlq (U+18446744073709551616 ^ (n+1) - d*V) (n+1)++b.drop (o+(n+1)))):=by
 intro g;induction g with
 | zero=>
  intro M hM _ hdg _;obtain⟨M,rfl⟩:∃ m,M=m+1:=⟨M - 1,by omega⟩
  have:d=0:=by omega
  subst this;show qT N o (n+1) 0 n (n:Int) c e0 (_,_,_) (am M _)=_;simp only[qT,aaq];rw[if_neg (by omega:¬ U<0),show(((0:Nat):Int) != 0)=false from rfl,Y7]
 | succ p ih=>
  intro M hM hg hdg hgW;obtain⟨M,rfl⟩:∃ m,M=m+1:=⟨M - 1,by omega⟩
  show qT N o (n+1) 0 n (n:Int) c e0 (_,_,_) (am M _)=_;have hps:(p+1)*V=p*V+V:=aaE _ _;by_cases hlt:U<(p+1)*V
  ·have hdp:d<=p:=by
    rcases Z6 p d with h | h
    ·have:=(hd (p+1)).1 h; omega
    ·exact h
   simp only[qT];rw[if_pos hlt,show(((1:Nat):Int) != 0)=true from rfl,Y8];obtain⟨D,hD⟩:∃ D,D=U+18446744073709551616 ^ (n+1) - (p+1)*V:=⟨_,rfl⟩
   obtain⟨E,hE⟩:∃ E,E=U+18446744073709551616 ^ (n+1) - p*V:=⟨_,rfl⟩
   have hDE:E=D+V:=by omega
   have hDl:D<18446744073709551616 ^ (n+1):=by omega
   rw[<- hD];refine aF (λi=>((((D%18446744073709551616 ^ i+au (c.take i)) / 18446744073709551616 ^ i:Nat):Int),(i:Int),b.take o++(dlq E i++((dlq D (n+1)).drop i++b.drop (o+(n+1)))))) n ?_ (by omega) (λi hi K=>?_) (λK=>?_)
   ·simp[dlq,au,abH]
   ·have hx:=hc.at (i:=i);have hcv:=aJ (m:=c) i;have hVl:=aQ hc i;have hp:=aZ i;have hml:=Zm D hp;obtain⟨cy,hcy⟩:∃ cy,cy=(D%18446744073709551616 ^ i+au (c.take i)) / 18446744073709551616 ^ i:=⟨_,rfl⟩
    have hcl1:cy<=1:=by
     have:cy<2:=by rw[hcy,Ze hp]; omega
     omega
    obtain⟨a1,a2⟩:=zQ (D:=D) (V:=au (c.take i)) (v:=(c.getD i 0).toNat) hcy;obtain⟨R,hR⟩:=bI (c.take n) (i+1);rw[aci,aal (by omega),<- hV,hcv]at hR;have a3:=a2 R;rw[<- hR,<- hDE]at a3;have hdl:D / 18446744073709551616 ^ i%18446744073709551616<18446744073709551616:=Zm _ (by decide);simp only[gi,Zb,Zx];rw[GW D E (by omega) (by omega),GV D E (by omega) (by omega)];rw[Y5 (by omega:(i:Int)<n),Y8,aa Y4,aa (Y5 (by omega)),aa Y4,aa (Y5 (by omega)),<- hcy,
     lG N (a:=D / 18446744073709551616 ^ i%18446744073709551616) (b:=(c.getD i 0).toNat) (d:=cy) rfl (by omega) rfl hcl1,aa Y4,aa (Y5 (by omega)),aa Y3,<- a3,GX D E (by omega) (by omega),<- a1,hcv,jt]
   ·have hp:=aZ n;have hml:=Zm D hp;have hVl:V<18446744073709551616 ^ n:=by rw[hV]; exact aQ hc n
    obtain⟨cy,hcy⟩:∃ cy,cy=(D%18446744073709551616 ^ n+V) / 18446744073709551616 ^ n:=⟨_,rfl⟩
    have hcl1:cy<=1:=by
     have:cy<2:=by rw[hcy,Ze hp]; omega
     omega
    obtain⟨a1,a3⟩:=Ek (D:=D) (V:=V) (i:=n) hcy;rw[Zg hDl,<- hDE]at a1;rw[<- hDE]at a3;simp only[gi,Zb];rw[Y6 (by omega:¬(n:Int)<n),Y7,GW D E (by omega) (by omega),GV D E (by omega) (by omega),<- hV,<- hcy,aa Y4,aa (Y5 (by omega)),
     lG N (y:=0) (c:=((cy:Nat):Int)) (a:=D / 18446744073709551616 ^ n%18446744073709551616) (b:=0) (d:=cy) rfl rfl rfl hcl1,aa Y4,aa (Y5 (by omega)),<- a3,<- a1,GX D E (by omega) (by omega),Eb p (by omega)]
    rw[ZR (by rw[ak]; omega),ZX];have eb:IntKind.wrap .u64 (((1:Nat):Int) - ((E / 18446744073709551616 ^ (n+1):Nat):Int))=((if U<p*V then 1 else 0:Nat):Int):=by
     have hp1:=aZ (n+1);by_cases h:U<p*V
     ·rw[if_pos h,ZA (by omega),aq]; omega
     ·rw[if_neg h];have:E / 18446744073709551616 ^ (n+1)=1:=by refine Nat.div_eq_of_lt_le ?_ ?_ <;> omega
      rw[this,aq]; omega
    rw[eb,hE];exact ih M (by omega) (by omega) hdp (by omega)
  ·have:d=p+1:=by have:=(hd (p+1)).2 (by omega);omega
   subst this;simp only[qT];rw[if_neg hlt,show(((0:Nat):Int) != 0)=false from rfl,Y7]
def KW {N:Nat} (hN:1180591620717411303424<=N) {o n:Nat} {b c:List Int} (hn:2<=n) (hb:InWq b) (hc:InWq c) (hcl:n<=c.length) (hbl:o+(n+1)<=b.length) (hbs:b.length<=1099511627780)
  (htop:0<(c.getD (n - 1) 0).toNat) (hU:au ((b.drop o).take (n+1))<au (c.take n)*18446744073709551616) (k:Ky6) :
  Ls N o (n+1) 0 n b c k=k ((au ((b.drop o).take (n+1)) / au (c.take n):Nat):Int) (b.take o++(dlq (au ((b.drop o).take (n+1))%au (c.take n)) (n+1)++b.drop (o+(n+1)))):=by
 obtain⟨g,g1,g2,g3⟩:=HU hN hn hb hc hcl (by omega) hbs htop hU
 (unfold Ls; rw[af]; unfold Jj)
 rw[g3];have hw:InWq ((b.drop o).take (n+1)):=(hb.drop o).take _;have hwl:((b.drop o).take (n+1)).length=n+1:=by rw[ZM,aaK]; omega
 have hwg:∀ i,i<=n->((b.drop o).take (n+1)).getD i 0=b.getD (o+i) 0:=λi hi=>by rw[rz (by omega),i7]
 generalize (b.drop o).take (n+1)=w at *;obtain⟨U,hUe⟩:∃ U,U=au w:=⟨_,rfl⟩
 obtain⟨V,hVe⟩:∃ V,V=au (c.take n):=⟨_,rfl⟩
 rw[<- hUe,<- hVe]at hU g1 ⊢;have hV0:0<V:=by
  rcases aat V with h | h
  ·rw[h,aaq]at hU; omega
  ·exact h
 have hVl:V<18446744073709551616 ^ n:=by rw[hVe]; exact aQ hc n
 have hUW:U<18446744073709551616 ^ (n+1):=by rw[hUe]; have:=gO hw; rwa [hwl]at this
 have hgV:g*V<18446744073709551616 ^ (n+1):=by rw[Zh,Y_];exact aaa hVl g2
 have hres:b.take o++(dlq (U%V) (n+1)++b.drop (o+(n+1)))=b.take o++(dlq (U+18446744073709551616 ^ (n+1) - (U / V)*V) (n+1)++b.drop (o+(n+1))):=by
  have e:U+18446744073709551616 ^ (n+1) - (U / V)*V=U%V+18446744073709551616 ^ (n+1)*1:=by have:=Z3 U V;omega
  rw[e,F8 _ _ _ (Zi _)]
 rw[hres];obtain⟨D,hD⟩:∃ D,D=U+18446744073709551616 ^ (n+1) - g*V:=⟨_,rfl⟩
 obtain⟨Q,hQ⟩:∃ Q,Q=g*V:=⟨_,rfl⟩
 have hQW:Q<18446744073709551616 ^ (n+1):=by rw[hQ]; exact hgV
 refine aF (λi=>(((g*au (c.take i) / 18446744073709551616 ^ i:Nat):Int),((if au (w.take i)<Q%18446744073709551616 ^ i then 1 else 0:Nat):Int),(i:Int),b.take o++(dlq D i++b.drop (o+i)))) n ?_ (by omega) (λi hi K=>?_) (λK=>?_)
 ·simp[dlq,au,abH]
 ·have hx:=hb.at (i:=o+i);have hy:=hc.at (i:=i);have hcv:=aJ (m:=c) i;have hp:=aZ i;have hVi:=aQ hc i;obtain⟨s1,s2⟩:=AM hw hwl hUe (by omega:i<=n) (by rw[hQ]; exact hgV:Q<_);rw[hwg i (by omega)]at s1 s2;rw[hQ,<- hD,<- hQ]at s1;obtain⟨cy,hcy⟩:∃ cy,cy=g*au (c.take i) / 18446744073709551616 ^ i:=⟨_,rfl⟩
  have hcyl:cy<18446744073709551616:=by rw[hcy,Ze hp];exact aaa g2 hVi
  have e1:g*au (c.take (i+1))=g*au (c.take i)+18446744073709551616 ^ i*(g*(c.getD i 0).toNat):=by rw[hcv,Zn,ZB g]
  have ecy:g*au (c.take (i+1)) / 18446744073709551616 ^ (i+1)=(g*(c.getD i 0).toNat+0+cy) / 18446744073709551616:=by rw[Zh,<- Zd,e1,cJ,<- hcy];congr 1; omega
  obtain⟨R,hR⟩:=bI (c.take n) (i+1);rw[aci,aal (by omega),<- hVe]at hR;have elo:Q / 18446744073709551616 ^ i%18446744073709551616=(g*(c.getD i 0).toNat+0+cy)%18446744073709551616:=by
   have:Q=g*au (c.take (i+1))+18446744073709551616 ^ (i+1)*(g*R):=by rw[hQ,hR,Zn,ZB g]
   rw[gW this,e1,cJ,<- hcy];congr 1; omega
  simp only[gf,Zb,Zx];rw[GZ D (by omega),GY D (by omega),Y5 (by omega:(i:Int)<n),Y8,aa Y4,aa (Y5 (by omega)),<- hcy,
   yo N (c:=0) (a:=g) (b:=(c.getD i 0).toNat) (e:=0) (f:=cy) rfl (by omega) rfl rfl g2 (by omega) (by omega) hcyl,aa Y4,aa (Y5 (by omega)),<- elo,<- ecy,
   uU N (a:=(b.getD (o+i) 0).toNat) (b:=Q / 18446744073709551616 ^ i%18446744073709551616) (d:=if au (w.take i)<Q%18446744073709551616 ^ i then 1 else 0) (by omega) rfl rfl (by split <;> omega),aa Y4,aa (Y5 (by omega)),aa Y3,s1,G0 D (by omega)]
  have s3:(if (b.getD (o+i) 0).toNat<Q / 18446744073709551616 ^ i%18446744073709551616+(if au (w.take i)<Q%18446744073709551616 ^ i then 1 else 0)then(1:Int)else 0)=((if au (w.take (i+1))<Q%18446744073709551616 ^ (i+1)then 1 else 0:Nat):Int):=by rw[Cl,s2]
  rw[s3];rfl
 ·have hx:=hb.at (i:=o+n);obtain⟨s1,s2⟩:=AM hw hwl hUe (Zi n) (by rw[hQ]; exact hgV:Q<_);rw[hwg n (by omega)]at s1 s2;rw[hQ,<- hD,<- hQ]at s1;have hql:Q / 18446744073709551616 ^ n<18446744073709551616:=by rw[Ze (aZ n),Y_,<- Zh,hQ]; exact hgV
  rw[Zg hql]at s1 s2;have hwt:w.take (n+1)=w:=Zt (by omega);rw[hwt,<- hUe,Zg hQW]at s2;simp only[gf,Zb];rw[Y6 (by omega:¬(n:Int)<n),Y7,<- hVe,<- hQ,GZ D (by omega),GY D (by omega),aa Y4,aa (Y5 (by omega)),
   uU N (a:=(b.getD (o+n) 0).toNat) (b:=Q / 18446744073709551616 ^ n) (d:=if au (w.take n)<Q%18446744073709551616 ^ n then 1 else 0) (by omega) rfl rfl (by split <;> omega),aa Y4,aa (Y5 (by omega)),s1,G0 D (by omega)]
  have s3:(if (b.getD (o+n) 0).toNat<Q / 18446744073709551616 ^ n+(if au (w.take n)<Q%18446744073709551616 ^ n then 1 else 0)then(1:Int)else 0)=((if U<g*V then 1 else 0:Nat):Int):=by rw[<- hQ,Cl,s2]
  rw[s3,hD];exact G_ hN (by omega) hc hcl hbl hbs hVe hUW (λp=>aaF hV0) _ g N (by omega) g2 g1 hgV
def E9 {N:Nat} (b:List Int) (m:Nat) (hm:m<=b.length) (hN:m<N) (hs:m<9223372036854775807) (k:Kz1):oV N 0 m b k=k (bS b m):=by
 (unfold oV; rw[af]; unfold nZ)
 have key:∀ n,n<=m -> ∀ M,n<M->am M (tv N 0 m b λUn=>((decide (0<=Un/\Un<=((m:Nat):Int)))&&(k ((Int.toNat Un) - 0)))) (n:Int)=k (bS b n):=by
  intro n;induction n with
  | zero=>
   intro _ M hM;obtain⟨M,rfl⟩:∃ m,M=m+1:=⟨M - 1,by omega⟩
   show tv N 0 m b _ ((0:Nat):Int) _=_;simp only[tv,bS];rw[Y6 (by omega:¬((0:Nat):Int)>0),show(false==true)=false from rfl,Y7,Y5 (by omega),aac];rfl
  | succ n ih=>
   intro hn M hM;obtain⟨M,rfl⟩:∃ m,M=m+1:=⟨M - 1,by omega⟩
   show tv N 0 m b _ ((n+1:Nat):Int) (am M _)=_;have e:0+Int.toNat (((n+1:Nat):Int) - 1)=n:=by omega
   have e2:((n+1:Nat):Int) - 1=(n:Int):=by omega
   simp only[tv,e];rw[Y5 (by omega:((n+1:Nat):Int)>0),show(true==true)=true from rfl,Y8,aa Y3,aa Y4,aa (Y5 (by omega)),aa Y3,e2,ih (by omega) M (by omega),mJ];by_cases h0:b.getD n 0=0
   ·have:(b.getD n 0==0)=true:=by simpa using h0
    rw[this,if_pos h0]; rfl
   ·have:(b.getD n 0==0)=false:=by simpa using h0
    rw[this,if_neg h0,Y7,Y5 (by omega),aac];rfl
 exact key m (Zi _) N hN
def vX (N:Nat) (b:List Int) (m i:Nat) (hm:m<=b.length) (hi:i<9223372036854775807) (k:Kz0):GL N 0 m (i:Int) b k=k ((b.take m).getD i 0):=by
 unfold GL N7;by_cases h:i<m
 ·rw[Y5 (by omega),Y8,aa Y4,aa (Y5 (by omega)),rz h];simp
 ·rw[Y6 (by omega),Y7,dJ (by rw[ZM]; omega)]
def Dm {N:Nat} (b:List Int) (hb:InWq b) (m s:Nat) (hm:m<=b.length) (hs:s<64) (hN:m+3<N) (hms:m<=1099511627780):∃ lost:Bool,∀ k,GK N 0 m (s:Int) b k=k (ae (au (b.take m) / 2 ^ s)) lost:=by
 have ew:IntKind.wrap .u64 (Int.tdiv (s:Int) 64)=0:=by rw[aq,Z_ (by omega)]; omega
 have es:Int.tmod (s:Int) 64=(s:Int):=by rw[Z1 (by omega)]; omega
 have eml:IntKind.wrap .u64 ((m:Nat):Int)=(m:Int):=by rw[aq]; omega
 have hs0:0<2 ^ s:=Zj _;by_cases h0:m=0
 ·subst h0;refine⟨false,λk=>?_⟩
  (unfold GK; rw[af]; unfold FR)
  rw[ew,abp,show au []=0 from rfl,Nat.zero_div,bA];rfl
 ·refine⟨aA .and .u64 (b.getD 0 0) (IntKind.wrap .u64 ((IntKind.wrap .u64 ((1:Int)*2 ^ s)) - 1)) != 0,λk=>?_⟩
  (unfold GK; rw[af]; unfold FR)
  have emin:min s 64=s:=by omega
  have e64:min (Int.toNat (IntKind.wrap .u64 (64 - (s:Int)))) 64=64 - s:=by rw[aq]; omega
  have z0:0+Int.toNat (0:Int)=0:=rfl;have z1:Int.toNat (0:Int) - 0=0:=rfl;rw[ew,es,eml,Y6 (by omega:¬(0:Int)>=(m:Int)),Y7,aa Y3,aa Y4,z0,z1,aa (Y5 (by omega)),aa (Y5 (by omega)),aa (Y5 (by omega)),Zb,emin];refine aF (λi=>(aA .and .u64 (b.getD 0 0) (IntKind.wrap .u64 ((IntKind.wrap .u64 ((1:Int)*2 ^ s)) - 1)),(i:Int))) 0 rfl (by omega) (λi hi K=>by omega) (λK=>?_);simp only[ke];rw[Y6 (by omega:¬((0:Nat):Int)<((0:Nat):Int)),Y7];generalize aA .and .u64 (b.getD 0 0) (IntKind.wrap .u64 ((IntKind.wrap .u64 ((1:Int)*2 ^ s)) - 1))=lo;have hw:InWq (b.take m):=hb.take m;have hwl:(b.take m).length=m:=by rw[ZM]; omega
  obtain⟨X,hX⟩:∃ X,X=au (b.take m) / 2 ^ s:=⟨_,rfl⟩
  have elen:Int.toNat ((m:Int) - 0)=m:=by omega
  have elen2:(m:Int) - 0=(m:Int):=by omega
  rw[elen2,aa Y3,aa (bQ (by omega) (by omega) (by omega) (by omega)),aau,Zb,<- hX];refine aF (λi=>((i:Int),dlq X i++List.replicate (m - i) 0)) m (by simp[dlq]) (by omega) (λi hi K=>?_) (λK=>?_)
  ·have hx:=hw.at (i:=i);have hy:=hw.at (i:=i+1);have hset:=rq X i m (by omega);have hl:(dlq X i++List.replicate (m - i) (0:Int)).length=m:=by simp[ak]; omega
   obtain⟨R,hR⟩:=xH hw i;have hdig:X / 18446744073709551616 ^ i%18446744073709551616=(((b.take m).getD i 0).toNat+18446744073709551616*((b.take m).getD (i+1) 0).toNat) / 2 ^ s%18446744073709551616:=by
    rw[hX,Zd,Y_ (2 ^ s),<- Zd,hR];have e2:18446744073709551616*18446744073709551616*R=2 ^ s*(18446744073709551616*(2 ^ (64 - s)*R)):=by
     have hs1:2 ^ s*2 ^ (64 - s)=18446744073709551616:=by rw[<- Zk,show s+(64 - s)=64 by omega]
     rw[ZB (2 ^ s),<- Zf (2 ^ s),hs1,Zf]
    rw[e2,Z2 _ _ hs0,aao]
   have ea:(0:Int)+(i:Int)=(i:Int):=by omega
   have eb:(i:Int)+1=((i+1:Nat):Int):=by omega
   simp only[h_,Zb,ea,eb,emin,e64,hl];rw[Y5 (by omega:(i:Int)<(m:Int)),Y8,aa Y3,vX N b m i hm (by omega),aa (Y5 (by omega)),aa Y3,aa Y3,vX N b m (i+1) hm (by omega),aa (Y5 (by rw[aq]; omega)),aa Y4,aa (Y5 (by omega)),aa Y3];have ex:(b.take m).getD i 0=((((b.take m).getD i 0).toNat:Nat):Int):=by omega
   have ey:(b.take m).getD (i+1) 0=((((b.take m).getD (i+1) 0).toNat:Nat):Int):=by omega
   rw[ex,ey,AN (by omega) (by omega) (by omega),<- hdig,hset]
  ·simp only[h_];rw[Y6 (by omega:¬(m:Int)<(m:Int)),Y7,ZF,ZJ,ZG];have hXl:X<18446744073709551616 ^ m:=by have h1:=gO hw;rw[hwl]at h1;rw[hX];exact aaG (aaH _ _) h1
   have:=jp (N:=N) _ (fQ X m) (by rw[ak]; omega) (by rw[ak]; omega) (λl=>k l (lo != 0));rw[this,kw hXl]
def H9 {N:Nat} (m:List Int) (hm:InWq m) (n:Nat) (hn:n<4294967296) (hN:m.length+n / 64+4<N) (hs:m.length<=1099511627776) (e0:List Int->Bool) :
  am N (dT N ((n / 64:Nat):Int) ((n%64:Nat):Int) m ((m.length:Nat):Int) e0) (0,List.replicate (n / 64+m.length+1) (0:Int))=e0 (dlq (au m*2 ^ n) (n / 64+m.length+1)):=by
 have hw6:n / 64<67108864:=by omega
 generalize hw:n / 64=w at *;generalize hsh:n%64=s at *;have hs32:s<64:=by omega
 have hp2:2 ^ n=18446744073709551616 ^ w*2 ^ s:=by rw[BC,hw,hsh]
 have hs0:0<2 ^ s:=Zj s;have hs1:2 ^ s*2 ^ (64 - s)=18446744073709551616:=by rw[<- Zk,show s+(64 - s)=64 by omega]
 let V:=au m*2 ^ n
 let X:=au m*2 ^ s
 have hVX:V=18446744073709551616 ^ w*X:=by simp only[V,X]; rw[hp2,ZB]
 let T:=λi=>au (m.take i)*2 ^ s
 let c:=λi=>T i / 18446744073709551616 ^ i
 have hcl:∀ i,c i<2 ^ s:=by intro i;simp only[c,T];rw[Ze (aZ i),Y_];exact aag (aQ hm i) hs0
 refine aF (N:=N) (λi=>((i:Int),dlq V (w+i)++((c i:Nat):Int)::List.replicate (m.length - i) 0)) m.length ?_ (by omega) (λi hi K=>?_) (λK=>?_)
 ·congr 1;show List.replicate (w+m.length+1) (0:Int)=dlq V w++((c 0:Nat):Int)::List.replicate m.length 0;rw[hVX,qe];have hc0:c 0=0:=by simp[c,T,au]
  rw[hc0];have:w+m.length+1=w+(m.length+1):=by omega
  rw[this,<- aaN,ZQ]; rfl
 ·have hx:=hm.at (i:=i);have hT:T (i+1)=T i+18446744073709551616 ^ i*((m.getD i 0).toNat*2 ^ s):=by simp only[T,aJ,Zw,Zf]
  have hq:T (i+1) / 18446744073709551616 ^ i=c i+(m.getD i 0).toNat*2 ^ s:=by rw[hT,cJ]
  have hci:c i<2 ^ s:=hcl i;have hc1:c (i+1)=(c i+(m.getD i 0).toNat*2 ^ s) / 18446744073709551616:=by rw[<- hq]; simp only[c]; rw[Zh,Zd]
  have hdig:V / 18446744073709551616 ^ (w+i)%18446744073709551616=(c i+(m.getD i 0).toNat*2 ^ s)%18446744073709551616:=by rw[<- hq,hVX,Zk,<- Zd,ZH _ (aZ w)];obtain⟨R,hR⟩:=bI m (i+1);refine gW (R:=R*2 ^ s) ?_;simp only[X,T];rw[hR,Zw,Zf]
  have hrep:List.replicate (m.length - i) (0:Int)=0::List.replicate (m.length - (i+1)) 0:=by rw[show m.length - i=(m.length - (i+1))+1 by omega,ZQ]
  have hdl:=ak V (w+i);have ei:Int.toNat ((w:Int)+(i:Int))=w+i:=by omega
  have ei1:Int.toNat ((w:Int)+(i:Int)+1)=w+i+1:=by omega
  have emin:min s 64=s:=by omega
  have e64:min (Int.toNat (IntKind.wrap .u64 (64 - (s:Int)))) 64=64 - s:=by rw[aq]; omega
  simp only[dT,Zb,ei,ei1,emin,e64];rw[hrep,bZ hdl.symm,bf _ _ _ _ _ hdl.symm];have hmx:m.getD i 0=(((m.getD i 0).toNat:Nat):Int):=by omega
  rw[hmx];generalize hxx:(m.getD i 0).toNat=x at *;have hx32:x<18446744073709551616:=by omega
  have hlow:x*2 ^ s%18446744073709551616=2 ^ s*(x%2 ^ (64 - s)):=by
   have e:x*2 ^ s%(2 ^ s*2 ^ (64 - s))=2 ^ s*(x%2 ^ (64 - s)):=by rw[Y_ x]; exact aaY _ _ _
   rwa [hs1]at e
  have hsum:2 ^ s*(x%2 ^ (64 - s))+c i<18446744073709551616:=by have h1:x%2 ^ (64 - s)+1<=2 ^ (64 - s):=Zm _ (Zj _);have h2:=Zc (2 ^ s) h1;rw[hs1,Zn]at h2;omega
  have epw:(x:Int)*2 ^ s=((x*2 ^ s:Nat):Int):=by rw[Zp,aab]; rfl
  have eor:aA .or .u64 ((c i:Nat):Int) (IntKind.wrap .u64 ((x:Int)*2 ^ s))=((V / 18446744073709551616 ^ (w+i)%18446744073709551616:Nat):Int):=by
   have e1:IntKind.wrap .u64 ((x*2 ^ s:Nat):Int)=((2 ^ s*(x%2 ^ (64 - s)):Nat):Int):=by rw[<- hlow,aq]; omega
   rw[epw,e1,cB _ _ s hci hsum,hdig];omega
  have ehi:Int.fdiv (x:Int) (2 ^ (64 - s))=((c (i+1):Nat):Int):=by
   have e2:(2:Int) ^ (64 - s)=((2 ^ (64 - s):Nat):Int):=by rw[aab]; rfl
   rw[e2,js,hc1];have:(c i+x*2 ^ s) / 18446744073709551616=x / 2 ^ (64 - s):=by rw[<- hs1,<- Zd,Y_ x,Z2 _ _ hs0,ZA hci,Zx]
   rw[this]
  rw[eor,ehi];have hl1:∀(a b:Int) (ys:List Int),(dlq V (w+i)++a::b::ys).length=w+i+2+ys.length:=by intro a b ys; simp[hdl]; omega
  have hset2:(dlq V (w+i)++((V / 18446744073709551616 ^ (w+i)%18446744073709551616:Nat):Int)::0::List.replicate (m.length - (i+1)) 0).set (w+i+1) ((c (i+1):Nat):Int)=dlq V (w+(i+1))++((c (i+1):Nat):Int)::List.replicate (m.length - (i+1)) 0:=by
   have:dlq V (w+i)++((V / 18446744073709551616 ^ (w+i)%18446744073709551616:Nat):Int)::0::List.replicate (m.length - (i+1)) 0=dlq V (w+(i+1))++0::List.replicate (m.length - (i+1)) 0:=by rw[<- ZK,dlq]; simp
   rw[this];exact bf _ _ _ _ _ (by rw[ak]; omega)
  rw[hset2,hl1,hl1];simp only[aau];rw[Y5 (by omega:(i:Int)<((m.length:Nat):Int)),Y8,aa Y4,aa Y3,aa Y4,aa (Y5 (by omega)),aa (Y5 (by omega)),aa Y4,aa (Y5 (by omega)),aa Y3,aa Y3,aa (Y5 (by rw[aq]; omega)),aa Y4,aa (Y5 (by omega)),aa Y3];rfl
 ·simp only[dT];rw[Y6 (by omega:¬(m.length:Int)<m.length),Y7,ZF,ZJ];have hV:V<18446744073709551616 ^ (w+m.length+1):=by
   have h1:=gO hm;simp only[V];rw[hp2,Zh,Zk,ZB,Zf];refine aag ?_ (aZ w);have hs2:2 ^ s<=18446744073709551616:=by rw[<- hs1]; exact Z4 _ (Zj _)
   exact ZP h1 hs2 (by decide)
  have hT:T m.length=X:=by simp only[T,X]; rw[ZO]
  have hend:dlq V (w+m.length)++[((c m.length:Nat):Int)]=dlq V (w+m.length+1):=by
   rw[dlq];have:c m.length=V / 18446744073709551616 ^ (w+m.length)%18446744073709551616:=by
    have hX:V / 18446744073709551616 ^ (w+m.length)=X / 18446744073709551616 ^ m.length:=by rw[hVX,Zk,<- Zd,ZH _ (aZ w)]
    have h2:=hcl m.length;have hs2:2 ^ s<=18446744073709551616:=by rw[<- hs1]; exact Z4 _ (Zj _)
    rw[hX,<- hT];exact(Zg (by show c m.length<_; omega)).symm
   rw[this]
  rw[hend]
def CC (n:Nat):dlq n (ae n).length=ae n:=by refine List.ext_getElem (ak n _) (λi h1 h2=>?_);have e1:=qb n h2;have e2:=lR i n;rw[List.getD_eq_getElem?_getD,List.getElem?_eq_getElem h1,ZT]at e1;rw[List.getD_eq_getElem?_getD,List.getElem?_eq_getElem h2,ZT]at e2;rw[e1,e2]
def A5 {X L:Nat} (hX:X<18446744073709551616 ^ L):∀ k,dlq X (L+k)=dlq X L++List.replicate k 0
 | 0=>by simp
 | k+1=>by rw[<- ZK,dlq,A5 hX k,ZA (Zq hX (Zl (by decide) (aaX _ _))),aaJ,Zo];rfl
def qf (S:Nat):∀{m n:Nat},n<=m->(dlq S m).take n=dlq S n
 | 0,n,h=>by
  have:n=0:=by omega
  subst this; rfl
 | m+1,n,h=>by
  by_cases e:n=m+1
  ·subst e; rw[Zt (by rw[ak]; omega)]
  ·rw[dlq,Z9 (by rw[ak]; omega),qf S (by omega)]
def z7 (S a:Nat):∀ c,dlq S (a+c)=dlq S a++dlq (S / 18446744073709551616 ^ a) c
 | 0=>by simp[dlq]
 | c+1=>by rw[<- ZK,dlq,z7 S a c,dlq,Zd,<- Zk,Zo]
def Ey {V m:Nat} (h:V<18446744073709551616 ^ m):bS (dlq V m) m=(ae V).length:=by have h1:=ur (fQ V m);rw[ak,nK,Zg h]at h1;rw[<- h1,ZM,ak];have:=i6 (dlq V m) m;omega
def QX {V m:Nat} (h1:18446744073709551616 ^ m<=V) (h2:V<18446744073709551616 ^ (m+1)):(ae V).length=m+1:=by have a:=fa (m+1) V h2;have b:=QW (V:=V) (w:=m) (by have:=abv h1 (aZ m); omega);omega
def sj {N:Nat} {m s:Nat} (hm:m ≠ 0) (hs:s<64) (hN:(ae m).length+4<N) (hl:(ae m).length<=1099511627776) (k0:Bool) (k1:Nat->List Int->Bool) :
  LC N (ae m) (s:Int) k0 k1=k1 (ae (m*2 ^ s)).length (dlq (m*2 ^ s) ((ae m).length+1)):=by
 have hlp:(ae m).length ≠ 0:=by rw[bT hm]; simp
 have hV:m*2 ^ s<18446744073709551616 ^ ((ae m).length+1):=by
  rw[Zh];have h2:2 ^ s<18446744073709551616:=by rw[<- mm]; exact Nat.pow_lt_pow_right (by decide) hs
  exact aaa (iK m) h2
 (unfold LC; rw[af]; unfold PE)
 have e0:((((ae m).length:Nat):Int)==0)=false:=by simp; intro h; rw[h]at hlp; simp at hlp
 have ew:IntKind.wrap .u64 (Int.tdiv (s:Int) 64)=((s / 64:Nat):Int):=by rw[aq,Z_ (by omega)]; omega
 have es:Int.tmod (s:Int) 64=((s%64:Nat):Int):=by rw[Z1 (by omega)]; rfl
 have elen:Int.toNat (((s / 64:Nat):Int)+(((ae m).length:Nat):Int)+1)=s / 64+(ae m).length+1:=by omega
 rw[e0,Y7,ew,es,aa Y3,aa Y3,aa Y3,aa (bQ (by omega) (by omega) (by omega) (by omega)),elen];have:=H9 (N:=N) (ae m) (aW m) s (by omega) (by omega) hl (λUY=>uh N UY λmr=>k1 mr UY);rw[aC,show s / 64=0 by omega,Zx]at this;rw[show s / 64=0 by omega,Zx];refine Eq.trans this ?_;rw[yp _ (by rw[ak]; omega) (by rw[ak]; omega),ak,Ey hV]
def Ic (xs:List Int) (k:Nat):au (xs++List.replicate k 0)=au xs:=by rw[lw,wN]; simp
def tW {N:Nat} (hN:1180591620717411303424<=N) {x y:Nat} (hxy:y<=x) (hy2:2<=(ae y).length) (hxl:(ae x).length<=1099511627000) (k:Ky8) :
  yM N (ae x) (ae y) k=k (ae (x / y)) (ae (x%y)):=by
 have hy0:y ≠ 0:=by intro h; rw[h,bA]at hy2; simp at hy2
 have hyx:=cZ hxy;have hylt:=iK y;have hxlt:=iK x;have hylo:18446744073709551616 ^ ((ae y).length - 1)<=y:=by
  rcases Z6 y (18446744073709551616 ^ ((ae y).length - 1))with h | h
  ·have:=fa _ _ h; omega
  ·exact h
 (unfold yM; rw[af]; unfold Ju)
 rw[gY x y ⟨by omega,by omega⟩ ⟨by omega,by omega⟩];have hc:decide (dr x y<0)=false:=by unfold dr; rw[if_neg (by omega)]; split <;> rfl
 obtain⟨n,hn⟩:∃ n,(ae y).length=n+2:=⟨(ae y).length - 2,by omega⟩
 obtain⟨lx,hlx⟩:∃ lx,(ae x).length=lx:=⟨_,rfl⟩
 have htd:(ae y).getD (n+1) 0=((y / 18446744073709551616 ^ (n+1):Nat):Int):=by rw[lR,Zg];rw[Ze (aZ _),Y_,<- Zh];rw[hn]at hylt; exact hylt
 rw[hn]at hylt hylo;rw[hlx]at hxlt;rw[show n+2 - 1=n+1 by omega]at hylo;obtain⟨t,ht⟩:∃ t,t=y / 18446744073709551616 ^ (n+1):=⟨_,rfl⟩
 rw[<- ht]at htd;have htl:t<18446744073709551616:=by rw[ht,Ze (aZ _),Y_,<- Zh]; exact hylt
 have ht0:t ≠ 0:=by have:=abv hylo (aZ (n+1)); omega
 obtain⟨g1,g2,g3⟩:=GS ht0 htl;have ein:Int.toNat (((n+2:Nat):Int) - 1)=n+1:=by omega
 have e1':(((n+2:Nat):Int)==1)=false:=by simp; omega
 rw[hc,Y7,hn,hlx,e1',Y7,aa Y3,aa Y4,ein,htd,C9 N htl];obtain⟨s,hs⟩:∃ s,s=64 - bl t:=⟨_,rfl⟩
 rw[<- hs]at g1 g2 g3 ⊢;have hs0:0<2 ^ s:=Zj s;have ews:IntKind.wrap .u64 ((s:Nat):Int)=(s:Int):=by rw[aq]; omega
 rw[ews];obtain⟨V,hV⟩:∃ V,V=y*2 ^ s:=⟨_,rfl⟩
 obtain⟨X,hX⟩:∃ X,X=x*2 ^ s:=⟨_,rfl⟩
 have hVlt:V<18446744073709551616 ^ (n+2):=by
  have h1:=abx y (aZ (n+1));rw[<- ht]at h1;have h2:y*2 ^ s<18446744073709551616 ^ (n+1)*(t+1)*2 ^ s:=ZS h1 hs0;have h3:(t+1)*2 ^ s<=18446744073709551616:=by
   have hd:2 ^ s*2 ^ (64 - s)=18446744073709551616:=by rw[<- Zk,show s+(64 - s)=64 by omega]
   have h4:t<2 ^ (64 - s):=by rw[Y_]at g3;rw[<- hd]at g3;exact abq g3
   rw[<- hd,Y_];exact Zc _ h4
  have h5:=Zc (18446744073709551616 ^ (n+1)) h3;rw[hV,show n+2=n+1+1 by omega,Zh];rw[Zf]at h2;omega
 have hVge:18446744073709551616 ^ (n+1)<=V:=by rw[hV]; exact Zs hylo (Z4 _ hs0)
 have hVlen:(ae V).length=n+2:=QX hVge hVlt;have hV0:0<V:=Zq (aZ _) hVge;have hx0:x ≠ 0:=by omega
 rw[sj hy0 g1 (by omega) (by omega),hn,<- hV,hVlen,sj hx0 g1 (by omega) (by omega),hlx,<- hX];have hs2:2 ^ s<=18446744073709551616:=by rw[<- mm]; exact Zl (by decide) (by omega)
 have hXlt:X<18446744073709551616 ^ (lx+1):=by rw[hX,Zh]; exact ZP hxlt hs2 (by decide)
 have hXlen1:(ae X).length<=lx+1:=fa _ _ hXlt;have hXlen2:lx<=(ae X).length:=by rw[<- hlx,hX]; exact cZ (Z4 _ hs0)
 have etk:(dlq X (lx+1)).take (ae X).length=ae X:=by rw[qf X hXlen1,CC]
 have ebl:(ae X++[0,0]).length=(ae X).length+2:=by simp
 obtain⟨M,hM⟩:∃ M,lx+1=M+(n+2):=⟨lx+1 - (n+2),by omega⟩
 have eu1:Int.toNat ((lx:Int)+1) - 0=lx+1:=by omega
 have eM:(((lx+1:Nat):Int) - ((n+2:Nat):Int))=(M:Int):=by omega
 rw[aaB,etk,ebl,eu1,eM];rw[aa (Y5 (by rw[ak]; omega)),aa (Y5 (by omega)),aa Y3,aa (Y5 (by omega)),aa Y3,aa (bQ (by omega) (by omega) (by omega) (by omega)),aa Y3,aa Y3,Zb];obtain⟨tail,htail⟩:∃ tail,tail=(ae X++[(0:Int),0]).drop (lx+1):=⟨_,rfl⟩
 have htw:InWq tail:=by
  rw[htail];refine InWq.drop (λz hz=>?_) _;rcases List.mem_append.1 hz with h | h
  ·exact aW X z h
  ·simp only[aav,aa_,or_false,or_self]at h; subst h; omega
 have htlen:tail.length<=2:=by rw[htail,aaK,ebl]; omega
 have hstart:ae X++[(0:Int),0]=dlq X M++(dlq (X / 18446744073709551616 ^ M%V) (n+2)++(List.replicate 0 0++tail)):=by
  have hXM:X / 18446744073709551616 ^ M<V:=by
   rw[Ze (aZ M),hX,hV];have h1:x*2 ^ s<18446744073709551616 ^ lx*2 ^ s:=ZS hxlt hs0;have h2:18446744073709551616 ^ lx=18446744073709551616 ^ (n+1)*18446744073709551616 ^ M:=by rw[<- Zk]; congr 1; omega
   have h3:=Y9 (18446744073709551616 ^ M*2 ^ s) hylo;rw[h2,Zf]at h1;have e:y*2 ^ s*18446744073709551616 ^ M=y*(18446744073709551616 ^ M*2 ^ s):=by rw[Zf,Y_ (2 ^ s)]
   rw[e]; omega
  rw[Zg hXM,ZJ,ZX,<- Zo,<- z7,<- hM];rw[htail];have hpad:(ae X++[(0:Int),0]).take (lx+1)=dlq X (lx+1):=by
   have:ae X++[(0:Int),0]=dlq X ((ae X).length+2):=by rw[A5 (iK X) 2,CC]; rfl
   rw[this,qf X (by omega)]
  rw[<- hpad,abM]
 rw[hstart];have hQlt:X / V<18446744073709551616 ^ M:=by
  rw[Ze hV0];have h1:x*2 ^ s<18446744073709551616 ^ lx*2 ^ s:=ZS hxlt hs0;have h2:18446744073709551616 ^ lx=18446744073709551616 ^ M*18446744073709551616 ^ (n+1):=by rw[<- Zk]; congr 1; omega
  have h3:=Zc (18446744073709551616 ^ M) (Y9 (2 ^ s) hylo);rw[hX,hV];rw[h2,Zf]at h1;omega
 have hmk:M<=1099511627001:=by omega
 refine aF (λi=>((M:Int) - 1 - (i:Int),dlq X (M - i)++(dlq (X / 18446744073709551616 ^ (M - i)%V) (n+2)++(List.replicate i 0++tail)),List.replicate (M - i) (0:Int)++(dlq (X / V) M).drop (M - i))) M ?_ (by omega) (λi hi K=>?_) (λK=>?_)
 ·rw[abd,ZR (by rw[ak]; omega),ZG];congr 1;omega
 ·obtain⟨j,hj⟩:∃ j,M - i=j+1:=⟨M - i - 1,by omega⟩
  have hj2:M - (i+1)=j:=by omega
  have ei:(M:Int) - 1 - (i:Int)=(j:Int):=by omega
  have ei2:(M:Int) - 1 - ((i+1:Nat):Int)=(j:Int) - 1:=by omega
  rw[hj,hj2,ei,ei2];obtain⟨A,hA⟩:∃ A,A=X / 18446744073709551616 ^ j:=⟨_,rfl⟩
  have hA1:X / 18446744073709551616 ^ (j+1)=A / 18446744073709551616:=by rw[hA,Zh,Zd]
  obtain⟨n1,n2⟩:=AL (A:=A) hV0;obtain⟨R,hR⟩:∃ R,R=A / 18446744073709551616%V:=⟨_,rfl⟩
  have hRV:R<V:=by rw[hR]; exact Zm _ hV0
  rw[hA1,<- hR];rw[<- hR]at n1 n2;obtain⟨b,hb⟩:∃ b,b=dlq X (j+1)++(dlq R (n+2)++(List.replicate i 0++tail)):=⟨_,rfl⟩
  have hblen:b.length=j+1+(n+2)+i+tail.length:=by rw[hb]; simp[ak]; omega
  have hbw:InWq b:=by
   rw[hb];intro z hz;rcases List.mem_append.1 hz with h | h
   ·exact fQ _ _ z h
   ·rcases List.mem_append.1 h with h | h
    ·exact fQ _ _ z h
    ·rcases List.mem_append.1 h with h | h
     ·have:=(List.mem_replicate.1 h).2; subst this; omega
     ·exact htw z h
  have hbt:b.take j=dlq X j:=by rw[hb,Z9 (by rw[ak]; omega),qf X (by omega)]
  have hbd:b.drop j=((A%18446744073709551616:Nat):Int)::(dlq R (n+2)++(List.replicate i 0++tail)):=by rw[hb,dlq,Zo,Z8 (by rw[ak]; omega),ZR (by rw[ak]; omega),ZX,hA];rfl
  have hwv:au ((b.drop j).take (n+2+1))=R*18446744073709551616+A%18446744073709551616:=by rw[hbd,ab0,Z9 (by rw[ak]; omega),Zt (by rw[ak]; omega),au,nK,Zg (aaL hRV hVlt),Zb];omega
  have hbd2:b.drop (j+(n+2+1))=List.replicate i 0++tail:=by rw[<- List.drop_drop,hbd,List.drop_succ_cons,Z8 (by rw[ak]; omega),ZR (by rw[ak]; omega),ZX]
  have hcv:au ((dlq V (n+2+1)).take (n+2))=V:=by rw[qf V (by omega),nK,Zg hVlt]
  have hctop:0<((dlq V (n+2+1)).getD (n+2 - 1) 0).toNat:=by
   rw[qb V (by omega),Zb,show n+2 - 1=n+1 by omega,Zg]
   ·exact abv hVge (aZ _)
   ·rw[Ze (aZ _),Y_,<- Zh]; exact hVlt
  have hAm:A%18446744073709551616<18446744073709551616:=Zm _ (by decide);have hstep:=λkk=>KW hN (o:=j) (n:=n+2) (b:=b) (c:=dlq V (n+2+1)) (by omega) hbw (fQ _ _) (by rw[ak]; omega) (by omega) (by omega) hctop (by rw[hwv,hcv];have:=Y9 18446744073709551616 hRV;rw[aaE]at this;omega) kk
  rw[hwv,hcv,n1,n2,hbt,hbd2]at hstep;have hnext:dlq X j++(dlq (A%V) (n+2+1)++(List.replicate i 0++tail))=dlq X j++(dlq (A%V) (n+2)++(List.replicate (i+1) 0++tail)):=by rw[A5 (aaL (Zm A hV0) hVlt) 1,Zo,ZQ];rfl
  have hdg:X / V / 18446744073709551616 ^ j%18446744073709551616=A / V%18446744073709551616:=by rw[hA,Zd,Zd,Y_ V]
  have ej:0+Int.toNat (j:Int)=j:=by omega
  have ej2:Int.toNat ((j:Int)+((n+2:Nat):Int)+1) - Int.toNat (j:Int)=n+2+1:=by omega
  rw[<- hb];simp only[yW,ej,ej2];rw[Y5 (by omega:(j:Int)>=0),Y8,aa Y3,aa Y3,aa (Y5 (by omega))];rw[hstep];have hql:(List.replicate (j+1) (0:Int)++(dlq (X / V) M).drop (j+1)).length=M:=by simp[ak]; omega
  rw[hql,aa Y4,aa (Y5 (by omega)),aa Y3,Zb,<- hdg,GB _ _ _ (by omega),hnext,<- hA]
 ·simp only[yW];have e0:(M:Int) - 1 - (M:Int) = -1:=by omega
  rw[e0,Y6 (by omega),Y7,ZF,aaR,aaU,ZJ,ZX,aaB];obtain⟨L,hL⟩:∃ L,L=dlq X 0++(dlq (X%V) (n+2)++(List.replicate M 0++tail)):=⟨_,rfl⟩
  have hRlt:X%V<18446744073709551616 ^ (n+2):=aaL (Zm _ hV0) hVlt;have hLt:L.take (lx+1)=dlq (X%V) (n+2)++List.replicate M 0:=by rw[hL,hM,show dlq X 0=[] from rfl,ZX,<- Zo,Z9 (by simp[ak]; omega),Zt (by simp[ak]; omega)]
  have hLw:InWq L:=by
   rw[hL];intro z hz;rcases List.mem_append.1 hz with h | h
   ·cases h
   ·rcases List.mem_append.1 h with h | h
    ·exact fQ _ _ z h
    ·rcases List.mem_append.1 h with h | h
     ·have:=(List.mem_replicate.1 h).2; subst this; omega
     ·exact htw z h
  have hLlen:lx+1<=L.length:=by rw[hL]; simp[ak]; omega
  rw[<- hL];unfold Jy;rw[E9 L (lx+1) hLlen (by omega) (by omega)];have hcl:=i6 L (lx+1);obtain⟨lost,hlost⟩:=Dm (N:=N) L hLw (bS L (lx+1)) s (by omega) g1 (by omega) (by omega);rw[hlost,ol,hLt,Ic,nK,Zg hRlt];have:=jp (N:=N) (dlq (X / V) M) (fQ _ _) (by rw[ak]; omega) (by rw[ak]; omega) (λz=>k z (ae (X%V / 2 ^ s)));rw[this,kw hQlt,hX,hV,abN _ _ hs0,abO,aaS _ hs0]
def jq {N:Nat} (hN:1180591620717411303424<=N) {x y:Nat} (hy:0<y) (hxl:(ae x).length<=1099511627000) (hyl:(ae y).length<=1099511627000) (k:Ky8) :
  yM N (ae x) (ae y) k=k (ae (x / y)) (ae (x%y)):=by
 by_cases hxy:y<=x
 ·by_cases h2:2<=(ae y).length
  ·exact tW hN hxy h2 hxl k
  ·have hylt:=iK y;have hl1:(ae y).length=1:=by rw[bT (by omega)]at h2 ⊢; simp at h2 ⊢; exact h2
   rw[hl1,aca]at hylt;have hd:=ot (by omega:y ≠ 0) hylt;have hc:decide (dr x y<0)=false:=by unfold dr; rw[if_neg (by omega)]; split <;> rfl
   (unfold yM; rw[af]; unfold Ju)
   rw[gY x y ⟨by omega,by omega⟩ ⟨by omega,by omega⟩,hc,Y7,hd];show cond (((1:Nat):Int)==1) _ _=_;rw[show(((1:Nat):Int)==1)=true from rfl,Y8,aa (aj (by omega) (by simp))];show mY N (ae x) (y:Int) _=_;have hm:x%y<18446744073709551616:=aaL (Zm _ hy) hylt;rw[H6 (by omega) hy hylt ⟨by omega,by omega⟩,rF (by omega) _ hm]
 ·have hc:decide (dr x y<0)=true:=by unfold dr; rw[if_pos (by omega)]; rfl
  (unfold yM; rw[af]; unfold Ju)
  rw[gY x y ⟨by omega,by omega⟩ ⟨by omega,by omega⟩,hc,Y8,uV _ (by omega),ZA (by omega),Zg (by omega),bA]
def wE:∀ n,n ≠ 0->bl n=64*((ae n).length - 1)+bl ((ae n).getD ((ae n).length - 1) 0).toNat/\0<(ae n).length:=by
 intro n;induction n using Nat.strongRecOn with
 | ind n ih=>
  intro h;rw[bT h];by_cases h1:n / 18446744073709551616=0
  ·rw[h1,bA];have:n%18446744073709551616=n:=Zg (by omega);simp[this]
  ·obtain⟨i1,i2⟩:=ih (n / 18446744073709551616) (by omega) h1;have e:=ku (n:=n) 64 (by rw[mm]; omega);rw[mm]at e;refine⟨?_,by simp⟩;have e2:(((n%18446744073709551616:Nat):Int)::ae (n / 18446744073709551616)).getD ((((n%18446744073709551616:Nat):Int)::ae (n / 18446744073709551616)).length - 1) 0=(ae (n / 18446744073709551616)).getD ((ae (n / 18446744073709551616)).length - 1) 0:=by
    simp only[ZI,abz];generalize ae (n / 18446744073709551616)=l at i2 ⊢;cases l with
    | nil=>simp at i2
    | cons y l=>simp
   rw[e2,e,i1];simp only[ZI];omega
def Dc {N:Nat} {n:Nat} (hs:(ae n).length<=1099511627776) (k:Kz0):oU N (ae n) k=k (bl n:Int):=by
 (unfold oU; rw[af]; unfold nY)
 by_cases h:n=0
 ·subst h; rw[bA]; rfl
 ·obtain⟨e1,e2⟩:=wE n h;have e0:(((ae n).length:Int)==0)=false:=by simp; intro h'; rw[h']at e2; simp at e2
  have e3:Int.toNat (((ae n).length:Int) - 1)=(ae n).length - 1:=by omega
  have hw:=(aW n).at (i:=(ae n).length - 1);have e4:(ae n).getD ((ae n).length - 1) 0=((((ae n).getD ((ae n).length - 1) 0).toNat:Nat):Int):=by omega
  have hb:=tH (n:=((ae n).getD ((ae n).length - 1) 0).toNat) (j:=64) (by rw[mm]; omega);rw[e0,Y7,aa Y3,aa Y3,aa Y3,aa Y4,e3,e4,yj N (by omega),aa Y3,e1];congr 1;omega
def Gn {N:Nat} {x f:Nat} (hf:f<140737488355328) (k:Kz0):rR N (ae x) (f:Int) k=k ((x / 2 ^ f%18446744073709551616:Nat):Int):=by
 (unfold rR; rw[af]; unfold uz)
 have e1:Int.tdiv (f:Int) 64=((f / 64:Nat):Int):=by rw[Z_ (by omega)]; rfl
 have e2:IntKind.wrap .u64 (Int.tmod (f:Int) 64)=((f%64:Nat):Int):=by rw[aq,Z1 (by omega)]; omega
 have e3:min (f%64) 64=f%64:=by omega
 have e4:min (Int.toNat (IntKind.wrap .u64 (64 - ((f%64:Nat):Int)))) 64=64 - f%64:=by rw[aq]; omega
 have e5:((f / 64:Nat):Int)+1=((f / 64+1:Nat):Int):=by omega
 have hx:=(aW x).at (i:=f / 64);have hy:=(aW x).at (i:=f / 64+1);have ex:(ae x).getD (f / 64) 0=((((ae x).getD (f / 64) 0).toNat:Nat):Int):=by omega
 have ey:(ae x).getD (f / 64+1) 0=((((ae x).getD (f / 64+1) 0).toNat:Nat):Int):=by omega
 rw[e1,e2,e5,aa Y3,lI N _ (f / 64) (by omega),aa (Y5 (by omega)),aa Y3,lI N _ (f / 64+1) (by omega),aa (Y5 (by rw[aq]; omega)),Zb,e3,e4,ex,ey,AN (by omega) (by omega) (by omega)];obtain⟨R,hR⟩:=xH (aW x) (f / 64);rw[aC]at hR;have hp:2 ^ f=18446744073709551616 ^ (f / 64)*2 ^ (f%64):=BC f;have hs0:0<2 ^ (f%64):=Zj _;rw[hp,<- Zd,hR];have e6:18446744073709551616*18446744073709551616*R=2 ^ (f%64)*(18446744073709551616*(2 ^ (64 - f%64)*R)):=by
  have hs1:2 ^ (f%64)*2 ^ (64 - f%64)=18446744073709551616:=by rw[<- Zk,show f%64+(64 - f%64)=64 by omega]
  rw[ZB (2 ^ (f%64)),<- Zf (2 ^ (f%64)),hs1,Zf]
 rw[e6,Z2 _ _ hs0,aao]
def Di {N:Nat} {x d e:Nat} (hd:d<18446744073709551616) (he:e<18446744073709551616) (hs:jW N (ae x)) (k:Kz3):sm N (ae x) (d:Int) (e:Int) k=k (ae (x*d+e)):=by
 (unfold sm; rw[af]; unfold Jh)
 obtain⟨s1,s2⟩:=hs;obtain⟨L,hL⟩:∃ L,(ae x).length=L:=⟨_,rfl⟩
 have hx:=iK x;rw[hL]at hx;have eL:Int.toNat ((L:Int)+1)=L+1:=by omega
 rw[hL,aa Y3,aa (bQ (by omega) (by omega) (by omega) (by omega)),eL];obtain⟨m,hm⟩:∃ m,m=ae x:=⟨_,rfl⟩
 have hmw:InWq m:=by rw[hm]; exact aW x
 have hmv:au m=x:=by rw[hm]; exact aC x
 have hml:m.length=L:=by rw[hm]; exact hL
 rw[<- hm];obtain⟨S,hS⟩:∃ S,S=x*d+e:=⟨_,rfl⟩
 rw[<- hS];refine aF (λi=>((((au (m.take i)*d+e) / 18446744073709551616 ^ i:Nat):Int),(i:Int),dlq S i++List.replicate (L+1 - i) 0)) L (by simp[au,dlq]) (by omega) (λi hi K=>?_) (λK=>?_)
 ·have hz:=hmw.at (i:=i);have hp:=aZ i;have hXi:=aQ hmw i;have hcv:=aJ (m:=m) i;obtain⟨cy,hcy⟩:∃ cy,cy=(au (m.take i)*d+e) / 18446744073709551616 ^ i:=⟨_,rfl⟩
  have e1:au (m.take (i+1))*d+e=(au (m.take i)*d+e)+18446744073709551616 ^ i*((m.getD i 0).toNat*d):=by rw[hcv,Zw,Zf]; omega
  have hcyl:cy<18446744073709551616:=by
   rw[hcy,Ze hp];have:=ZZ (abn hXi) (abn hd);have h1:1<=18446744073709551616 ^ i:=hp;have h2:(18446744073709551616 ^ i - 1)*(18446744073709551616 - 1)+18446744073709551615=18446744073709551616 ^ i*18446744073709551615:=by
    obtain⟨P,hP⟩:∃ P,18446744073709551616 ^ i=P+1:=⟨18446744073709551616 ^ i - 1,by omega⟩
    rw[hP]; omega
   omega
  have ecy:(au (m.take (i+1))*d+e) / 18446744073709551616 ^ (i+1)=((m.getD i 0).toNat*d+0+cy) / 18446744073709551616:=by rw[Zh,<- Zd,e1,cJ,<- hcy];congr 1; omega
  obtain⟨R,hR⟩:=bI m (i+1);have elo:S / 18446744073709551616 ^ i%18446744073709551616=((m.getD i 0).toNat*d+0+cy)%18446744073709551616:=by
   have:S=(au (m.take (i+1))*d+e)+18446744073709551616 ^ (i+1)*(R*d):=by rw[hS,<- hmv,hR,Zw,Zf]; omega
   rw[gW this,e1,cJ,<- hcy];congr 1; omega
  have hset:=rq S i (L+1) (by omega);have hl:(dlq S i++List.replicate (L+1 - i) (0:Int)).length=L+1:=by simp[ak]; omega
  simp only[km,Zb];rw[Y5 (by omega:(i:Int)<(L:Int)),Y8,hml,aa Y4,<- hcy,yo N (c:=0) (a:=(m.getD i 0).toNat) (b:=d) (e:=0) (f:=cy) (by omega) rfl rfl rfl (by omega) hd (by omega) hcyl,hl,aa Y4,aa (Y5 (by omega)),aa Y3,<- elo,<- ecy,hset,jt]
 ·simp only[km];have hl:(dlq S L++List.replicate (L+1 - L) (0:Int)).length=L+1:=by simp[ak]
  have hSl:S<18446744073709551616 ^ (L+1):=by
   rw[hS,Zh];have h1:=ZZ (abn hx) (abn hd);obtain⟨P,hP⟩:∃ P,18446744073709551616 ^ L=P+1:=⟨18446744073709551616 ^ L - 1,by have:=aZ L; omega⟩
   rw[hP]at h1 ⊢;omega
  have ee:(au (m.take L)*d+e) / 18446744073709551616 ^ L=S / 18446744073709551616 ^ L%18446744073709551616:=by rw[Zt (by omega),hmv,<- hS,Zg];rw[Ze (aZ L),Y_,<- Zh]; exact hSl
  rw[Y6 (by omega:¬(L:Int)<(L:Int)),Y7,hl,ee,Zb,rq S L (L+1) (by omega),aa Y4,aa (Y5 (by omega)),ZF,ZJ,ZG,jp _ (fQ _ _) (by rw[ak]; omega) (by rw[ak]; omega),kw hSl]
def xo (x0 y0 a b c d:Nat) (odd:Bool):Prop:=
 ∃ p q,x0=d*p+b*q/\y0=c*p+a*q/\(cond odd (b*c=a*d+1) (a*d=b*c+1))/\a<=b/\c<=d/\d<=q/\q+b+d<=p/\1<=b/\1<=c/\b<18446744073709551616/\d<18446744073709551616
def FK {N:Nat} {x0 y0:Nat} (hx0:x0<18446744073709551616) (hy0:y0<18446744073709551616) (t1 t2 t3 t4:Int) (t5:Bool) :
  ∀ y x u v a b c d odd M,y<M->y<=x->x0=v*x+d*y->y0=u*x+c*y->(cond odd (c*v=d*u+1) (d*u=c*v+1))->1<=v ->
   ((d=0/\u=0/\b=0/\c=1/\v=1)\/(1<=u/\c<=d/\u<=v/\(b=0\/xo x0 y0 a b c d odd))) ->
   ∃ a' b' c' d':Nat,∃ odd',(b'=0\/xo x0 y0 a' b' c' d' odd') /\ ∀ e0,am M (mv N t1 t2 t3 t4 t5 e0) ((x:Int),(y:Int),(u:Int),(v:Int),(a:Int),(b:Int),(c:Int),(d:Int),odd)=e0 (a':Int) (b':Int) (c':Int) (d':Int) odd':=by
 intro y;induction y using Nat.strongRecOn with
 | ind y ih=>
 intro x u v a b c d odd M hM hyx h1 h2 hdet hv hor;obtain⟨M,rfl⟩:∃ m,M=m+1:=⟨M - 1,by omega⟩
 have hend:b=0\/xo x0 y0 a b c d odd:=by
  rcases hor with h | h
  ·exact .inl h.2.2.1
  ·exact h.2.2.2
 by_cases c1:v<=y
 ·have hy1:1<=y:=by omega
  have b1:v*1<=v*x:=Zc _ (by omega);have b2:d*1<=d*y:=Zc _ hy1;have w1:IntKind.wrap .u64 ((x:Int) - (y:Int))=((x - y:Nat):Int):=by have:1*x<=v*x:=Y9 _ hv;rw[aq]; omega
  have w2:IntKind.wrap .u64 ((d:Int)+(v:Int))=((d+v:Nat):Int):=by rw[aq]; omega
  by_cases c2:d+v<=x - y
  ·-- one step more
   obtain⟨q,hq⟩:∃ q,q=x / y:=⟨_,rfl⟩
   obtain⟨r,hr⟩:∃ r,r=x%y:=⟨_,rfl⟩
   have hxq:x=q*y+r:=by rw[hq,hr]; exact(Z3 x y).symm
   have hry:r<y:=by rw[hr]; exact Zm _ hy1
   have hq1:1<=q:=by rw[hq]; exact abv hyx hy1
   have n1:x0=(d+q*v)*y+v*r:=by rw[h1,hxq]; grind
   have n2:y0=(c+q*u)*y+u*r:=by rw[h2,hxq]; grind
   have m1:(d+q*v)*1<=(d+q*v)*y:=Zc _ hy1;have m2:(c+q*u)*1<=(c+q*u)*y:=Zc _ hy1;have hvq:v<=d+q*v:=by have:=Y9 v hq1;omega
   have hg:∀(e0:Int->Int->Int->Int->Bool->Bool),am (M+1) (mv N t1 t2 t3 t4 t5 e0) ((x:Int),(y:Int),(u:Int),(v:Int),(a:Int),(b:Int),(c:Int),(d:Int),odd)=am M (mv N t1 t2 t3 t4 t5 e0) ((y:Int),(r:Int),((c+q*u:Nat):Int),((d+q*v:Nat):Int),(c:Int),(d:Int),(u:Int),(v:Int),!odd):=by
    intro e0;show mv N t1 t2 t3 t4 t5 e0 _ (am M _)=_;simp only[mv];have y1:(!decide ((y:Int)=0))=true:=by simp; omega
    have ediv:Int.tdiv (x:Int) (y:Int)=(q:Int):=by rw[hq]; rfl
    have emod:Int.tmod (x:Int) (y:Int)=(r:Int):=by rw[hr]; rfl
    have wq:IntKind.wrap .u64 (q:Int)=(q:Int):=by have:q*1<=q*v:=Zc _ hv;rw[aq]; omega
    have wu:IntKind.wrap .u64 ((c:Int)+IntKind.wrap .u64 ((q:Int)*(u:Int)))=((c+q*u:Nat):Int):=by rw[<- Zp,aq,aq]; omega
    have wv:IntKind.wrap .u64 ((d:Int)+IntKind.wrap .u64 ((q:Int)*(v:Int)))=((d+q*v:Nat):Int):=by rw[<- Zp,aq,aq]; omega
    rw[Y5 (by omega:(y:Int)>=v),show(true==true)=true from rfl,Y8,w1,w2,Y5 (by omega),Y8,aa y1,aa y1,ediv,emod,wq,wu,wv]
   have hstep:=ih r hry y (c+q*u) (d+q*v) c d u v (!odd) M (by omega) (by omega) n1 n2 (by
    cases odd with
    | true=>
     simp only[Y8,Z0,Y7]at hdet ⊢;have:v*(c+q*u)=v*c+q*u*v:=by grind
     have:u*(d+q*v)=u*d+q*u*v:=by grind
     have:c*v=v*c:=Y_ _ _;have:d*u=u*d:=Y_ _ _;omega
    | false=>
     simp only[Y8,ZN,Y7]at hdet ⊢;have:u*(d+q*v)=u*d+q*u*v:=by grind
     have:v*(c+q*u)=v*c+q*u*v:=by grind
     have:c*v=v*c:=Y_ _ _;have:d*u=u*d:=Y_ _ _;omega) (by omega) (by
    refine .inr ?_;rcases hor with⟨k1,k2,k3,k4,k5⟩ | ⟨k1,k2,k3,k4⟩
    ·subst k1 k2 k4 k5;exact⟨by omega,by omega,by omega,.inl rfl⟩
    ·have hu1:u<=c+q*u:=by have:=Y9 u hq1;omega
     refine⟨by omega,k3,?_,?_⟩
     ·have:=Zc q k3;omega
     ·rcases aat d with hd0 | hd0
      ·exact .inl hd0
      ·refine .inr ⟨x,y,h1,h2,?_,k2,k3,c1,by omega,hd0,k1,by omega,by omega⟩;cases odd with
       | true=>simp only[Z0,Y7,Y8]at hdet ⊢; exact hdet
       | false=>simp only[ZN,Y8,Y7]at hdet ⊢; exact hdet)
   obtain⟨a',b',c',d',odd',g1,g2⟩:=hstep;exact⟨a',b',c',d',odd',g1,λe0=>by rw[hg,g2]⟩
  ·refine⟨a,b,c,d,odd,hend,λe0=>?_⟩;show mv N t1 t2 t3 t4 t5 e0 _ (am M _)=_;simp only[mv];rw[Y5 (by omega:(y:Int)>=v),show(true==true)=true from rfl,Y8,w1,w2,Y6 (by omega),Y7]
 ·refine⟨a,b,c,d,odd,hend,λe0=>?_⟩;show mv N t1 t2 t3 t4 t5 e0 _ (am M _)=_;simp only[mv];rw[Y6 (by omega:¬(y:Int)>=v),show(false==true)=false from rfl,Y7]
def H7 {N:Nat} (hN:1180591620717411303424<=N) {x0 y0:Nat} (hx0:x0<18446744073709551616) (hyx:y0<=x0):∃ a b c d:Nat,∃ odd,(b=0\/xo x0 y0 a b c d odd) /\ ∀ k,qF N (x0:Int) (y0:Int) k=k (a:Int) (b:Int) (c:Int) (d:Int) odd:=by obtain⟨a,b,c,d,odd,h1,h2⟩:=FK (N:=N) (x0:=x0) (y0:=y0) hx0 (by omega) 0 0 0 0 false y0 x0 0 1 0 0 1 0 true N (by omega) hyx (by omega) (by omega) rfl (Zi _) (.inl ⟨rfl,rfl,rfl,rfl,rfl⟩);exact⟨a,b,c,d,odd,h1,λk=>by unfold qF; rw[af]; exact h2 _⟩
def G7 {x0 y0 a b c d F rx ry X Y:Nat} (h:xo x0 y0 a b c d true) (hrx:rx<F) (hry:ry<F) (hX:X=x0*F+rx) (hY:Y=y0*F+ry) :
  a*X<=b*Y/\d*Y<=c*X/\c*X - d*Y<=b*Y - a*X/\X=d*(b*Y - a*X)+b*(c*X - d*Y)/\Y=c*(b*Y - a*X)+a*(c*X - d*Y):=by
 obtain⟨p,q,h1,h2,hdet,hab,hcd,hdq,hpq,hb1,hc1,hbl,hdl⟩:=h;simp only[Y8]at hdet;have e1:b*Y+a*rx=a*X+(p*F+b*ry):=by
  subst h1 h2 hX hY;have:b*(c*p*F)=(a*d+1)*(p*F):=by rw[<- hdet]; grind
  grind
 have e2:c*X+d*ry=d*Y+(q*F+c*rx):=by
  subst h1 h2 hX hY;have:b*c*(q*F)=(a*d+1)*(q*F):=by rw[<- hdet]
  grind
 have m1:a*rx<=a*F:=Zc _ (by omega);have m2:a*F<=b*F:=Y9 _ hab;have m3:d*ry<=d*F:=Zc _ (by omega);have m4:d*F<=q*F:=Y9 _ hdq;have m5:(q+b+d)*F<=p*F:=Y9 _ hpq;rw[Zw,Zw]at m5;have m6:c*rx<=c*F:=Zc _ (by omega);have m7:c*F<=d*F:=Y9 _ hcd;have g1:a*X<=b*Y:=by omega
 have g2:d*Y<=c*X:=by omega
 refine⟨g1,g2,by omega,?_,?_⟩
 ·obtain⟨U,hU⟩:=aaO g1;obtain⟨V,hV⟩:=aaO g2;rw[<- hU,<- hV,ZL,ZL];have t1:d*(b*Y)=d*(a*X)+d*U:=by rw[<- hU,Zn]
  have t2:b*(c*X)=b*(d*Y)+b*V:=by rw[<- hV,Zn]
  have t3:b*(c*X)=(a*d+1)*X:=by rw[<- hdet,Zf]
  have t4:(a*d+1)*X=d*(a*X)+X:=by grind
  have t5:d*(b*Y)=b*(d*Y):=by grind
  omega
 ·obtain⟨U,hU⟩:=aaO g1;obtain⟨V,hV⟩:=aaO g2;rw[<- hU,<- hV,ZL,ZL];have t1:c*(b*Y)=c*(a*X)+c*U:=by rw[<- hU,Zn]
  have t2:a*(c*X)=a*(d*Y)+a*V:=by rw[<- hV,Zn]
  have t3:c*(b*Y)=(a*d+1)*Y:=by rw[<- hdet]; grind
  have t4:(a*d+1)*Y=a*(d*Y)+Y:=by grind
  have t5:c*(a*X)=a*(c*X):=by grind
  omega
def Em {x0 y0 a b c d F rx ry X Y:Nat} (h:xo x0 y0 a b c d false) (hrx:rx<F) (hry:ry<F) (hX:X=x0*F+rx) (hY:Y=y0*F+ry) :
  b*Y<=a*X/\c*X<=d*Y/\d*Y - c*X<=a*X - b*Y/\X=d*(a*X - b*Y)+b*(d*Y - c*X)/\Y=c*(a*X - b*Y)+a*(d*Y - c*X):=by
 obtain⟨p,q,h1,h2,hdet,hab,hcd,hdq,hpq,hb1,hc1,hbl,hdl⟩:=h;simp only[Y7]at hdet;have e1:a*X+b*ry=b*Y+(p*F+a*rx):=by
  subst h1 h2 hX hY;have:a*d*(p*F)=(b*c+1)*(p*F):=by rw[<- hdet]
  grind
 have e2:d*Y+c*rx=c*X+(q*F+d*ry):=by
  subst h1 h2 hX hY;have:a*d*(q*F)=(b*c+1)*(q*F):=by rw[<- hdet]
  grind
 have m1:b*ry<=b*F:=Zc _ (by omega);have m3:c*rx<=c*F:=Zc _ (by omega);have m4:d*F<=q*F:=Y9 _ hdq;have m5:(q+b+d)*F<=p*F:=Y9 _ hpq;rw[Zw,Zw]at m5;have m6:d*ry<=d*F:=Zc _ (by omega);have m7:c*F<=d*F:=Y9 _ hcd;have g1:b*Y<=a*X:=by omega
 have g2:c*X<=d*Y:=by omega
 refine⟨g1,g2,by omega,?_,?_⟩
 ·obtain⟨U,hU⟩:=aaO g1;obtain⟨V,hV⟩:=aaO g2;rw[<- hU,<- hV,ZL,ZL];have t1:d*(a*X)=d*(b*Y)+d*U:=by rw[<- hU,Zn]
  have t2:b*(d*Y)=b*(c*X)+b*V:=by rw[<- hV,Zn]
  have t3:d*(a*X)=(b*c+1)*X:=by rw[<- hdet]; grind
  have t4:(b*c+1)*X=b*(c*X)+X:=by grind
  have t5:d*(b*Y)=b*(d*Y):=by grind
  omega
 ·obtain⟨U,hU⟩:=aaO g1;obtain⟨V,hV⟩:=aaO g2;rw[<- hU,<- hV,ZL,ZL];have t1:c*(a*X)=c*(b*Y)+c*U:=by rw[<- hU,Zn]
  have t2:a*(d*Y)=a*(c*X)+a*V:=by rw[<- hV,Zn]
  have t3:a*(d*Y)=(b*c+1)*Y:=by rw[<- hdet]; grind
  have t4:(b*c+1)*Y=c*(b*Y)+Y:=by grind
  have t5:c*(a*X)=a*(c*X):=by grind
  omega
def tN {X Y U V a b c d:Nat} (h1:X=d*U+b*V) (h2:Y=c*U+a*V) (hU:Nat.gcd X Y∣U) (hV:Nat.gcd X Y∣V):Nat.gcd U V=Nat.gcd X Y:=by
 refine Nat.dvd_antisymm (Nat.dvd_gcd ?_ ?_) (Nat.dvd_gcd hU hV)
 ·rw[h1];exact Nat.dvd_add (Zv (ZY _ _) _) (Zv (aaj _ _) _)
 ·rw[h2];exact Nat.dvd_add (Zv (ZY _ _) _) (Zv (aaj _ _) _)
def HQ {N:Nat} {x0 y0 a b c d F rx ry X Y:Nat} {odd:Bool} (h:xo x0 y0 a b c d odd) (hrx:rx<F) (hry:ry<F) (hX:X=x0*F+rx) (hY:Y=y0*F+ry) (hY0:0<Y) (sX:(ae X).length+10<N/\(ae X).length<=1099511627000) (sY:(ae Y).length+10<N/\(ae Y).length<=1099511627000) :
  ∃ U V,V<=U/\U+V<X+Y/\U<=X/\Nat.gcd U V=Nat.gcd X Y /\ ∀ k,dO N (a:Int) (b:Int) (c:Int) (d:Int) odd (ae X) (ae Y) k=k (ae U) (ae V):=by
 have hb:=h;obtain⟨p,q,h1,h2,hdet,hab,hcd,hdq,hpq,hb1,hc1,hbl,hdl⟩:=hb;have len1:∀ z e:Nat,(ae z).length+10<N/\(ae z).length<=1099511627000->e<18446744073709551616->jW N (ae (z*e+0)):=by
  intro z e hz he;have:=fa ((ae z).length+1) (z*e+0) (by rw[ZD,Zh]; exact aaa (iK z) he)
  exact⟨by omega,by omega⟩
 have fin:∀ U V:Nat,X=d*U+b*V->Y=c*U+a*V->V<=U->U+V<X+Y/\U<=X:=by
  intro U V hx hy hvu;have k1:1*U<=d*U:=Y9 _ (by omega);have k2:1*V<=b*V:=Y9 _ hb1;have k3:1*U<=c*U:=Y9 _ hc1;have hU0:0<U:=by
   rcases aat U with hu | hu
   ·exfalso;have hv:V=0:=by omega
    rw[hu,hv,aar,aar]at hy;omega
   ·exact hu
  exact⟨by omega,by omega⟩
 cases odd with
 | true=>
  obtain⟨g1,g2,g3,g4,g5⟩:=G7 h hrx hry hX hY;obtain⟨f1,f2⟩:=fin _ _ g4 g5 g3;refine⟨b*Y - a*X,c*X - d*Y,g3,f1,f2,tN g4 g5 ?_ ?_,λk=>?_⟩
  ·exact aby (Zv (aaj _ _) _) (Zv (ZY _ _) _)
  ·exact aby (Zv (ZY _ _) _) (Zv (aaj _ _) _)
  ·(unfold dO; rw[af]; unfold dG)
   have m:=λ(z e:Nat) (he:e<18446744073709551616) (hz:jW N (ae z)) (kk:List Int->Bool)=>Di (N:=N) (e:=0) he (by decide) hz kk
   rw[show((0:Nat):Int)=0 from rfl]at m;rw[Y8,m Y b hbl ⟨by omega,by omega⟩,m X a (by omega) ⟨by omega,by omega⟩,lH _ _ (aW _) (aW _) (by rw[aC,aC,ZD,ZD,Y_ X,Y_ Y]; exact g1) (len1 Y b sY hbl),m X c (by omega) ⟨by omega,by omega⟩,m Y d hdl ⟨by omega,by omega⟩,lH _ _ (aW _) (aW _) (by rw[aC,aC,ZD,ZD,Y_ X,Y_ Y]; exact g2) (len1 X c sX (by omega)),aC,aC,aC,aC,ZD,ZD,ZD,ZD,Y_ Y b,Y_ X a,Y_ X c,Y_ Y d]
 | false=>
  obtain⟨g1,g2,g3,g4,g5⟩:=Em h hrx hry hX hY;obtain⟨f1,f2⟩:=fin _ _ g4 g5 g3;refine⟨a*X - b*Y,d*Y - c*X,g3,f1,f2,tN g4 g5 ?_ ?_,λk=>?_⟩
  ·exact aby (Zv (ZY _ _) _) (Zv (aaj _ _) _)
  ·exact aby (Zv (aaj _ _) _) (Zv (ZY _ _) _)
  ·(unfold dO; rw[af]; unfold dG)
   have m:=λ(z e:Nat) (he:e<18446744073709551616) (hz:jW N (ae z)) (kk:List Int->Bool)=>Di (N:=N) (e:=0) he (by decide) hz kk
   rw[show((0:Nat):Int)=0 from rfl]at m;rw[Y7,m X a (by omega) ⟨by omega,by omega⟩,m Y b hbl ⟨by omega,by omega⟩,lH _ _ (aW _) (aW _) (by rw[aC,aC,ZD,ZD,Y_ X,Y_ Y]; exact g1) (len1 X a sX (by omega)),m Y d hdl ⟨by omega,by omega⟩,m X c (by omega) ⟨by omega,by omega⟩,lH _ _ (aW _) (aW _) (by rw[aC,aC,ZD,ZD,Y_ X,Y_ Y]; exact g2) (len1 Y d sY hdl),aC,aC,aC,aC,ZD,ZD,ZD,ZD,Y_ Y b,Y_ X a,Y_ X c,Y_ Y d]
def Gl (N x:Nat) (k:Kz0):rQ N (ae x) k=k ((x%18446744073709551616:Nat):Int):=by unfold rQ zN;have:=lI N (ae x) 0 (by omega) k;rw[show((0:Nat):Int)=0 from rfl]at this;rw[this,lR,aaR,aaU]
def CI {N:Nat} (e0:Int->Bool):∀(b a M:Nat),b<M->am M (eI N e0) ((a:Int),(b:Int))=e0 ((Nat.gcd a b:Nat):Int):=by
 intro b;induction b using Nat.strongRecOn with
 | ind b ih=>
 intro a M hM;obtain⟨M,rfl⟩:∃ m,M=m+1:=⟨M - 1,by omega⟩
 show eI N e0 ((a:Int),(b:Int)) (am M _)=_;simp only[eI];by_cases h:b=0
 ·subst h;rw[Y6 (by omega),Y7,abD]
 ·have y1:(!decide ((b:Int)=0))=true:=by simp; omega
  have emod:Int.tmod (a:Int) (b:Int)=((a%b:Nat):Int):=rfl;rw[Y5 (by omega),Y8,aa y1,emod,ih (a%b) (Zm _ (by omega)) b M (by have:=Zm a (by omega:b>0); omega),aan b,<- acb,aan]
def sW {y:Nat} (h:(ae y).length<=1):y<18446744073709551616:=by have:=iK y;have h2:18446744073709551616 ^ (ae y).length<=18446744073709551616 ^ 1:=Zl (by decide) h;rw[aca]at h2;omega
def xG {N:Nat} (hN:1180591620717411303424<=N) {u v:List Int} {x y:Nat} (hy:(ae y).length<=1) (hx:y=0\/(ae x).length<=1) (k:Kz3) :
  vA N u v (ae x) (ae y) k=k (ae (Nat.gcd x y)):=by
 unfold vA;have hyl:=sW hy;by_cases h:y=0
 ·subst h;rw[bA,abD]; rfl
 ·have e0:((((ae y).length:Nat):Int)==0)=false:=by rw[bT h]; simp; omega
  have hxl:=sW (hx.resolve_left h);rw[e0,Y7,Gl,Gl,Zg hxl,Zg hyl,CI _ y x N (by omega)];refine rF (by omega) _ ?_ k;have:=aba x (abE h);omega
def CB {N:Nat} (hN:1180591620717411303424<=N) {u v:List Int} (k:Kz3) :
  ∀ s x y,x+y=s->s<N->y<=x->(ae x).length<=1099511626000 ->
   Mt N u v (ae x) (ae y) k=k (ae (Nat.gcd x y)):=by
 intro s x y hs hsN hyx hxl;unfold Mt;have main:∀ s x y M,x+y=s->s<M->M<=N->y<=x->(ae x).length<=1099511626000 ->
   am M (D0 N (λ(UH:List Int) (U7:List Int)=>(cond ((decide ((((List.length U7):Nat):Int)>0))==true) (cond (decide ((((List.length UH):Nat):Int)>1)) (yM N UH U7 (λ(Uk:List Int) (Ul:List Int)=>(vA N u v U7 Ul k))) (vA N u v UH U7 k)) (vA N u v UH U7 k)))) (ae x,ae y)=k (ae (Nat.gcd x y)):=by
  intro s;induction s using Nat.strongRecOn with
  | ind s ih=>
  intro x y M hs hsM hMN hyx hxl;obtain⟨M,rfl⟩:∃ m,M=m+1:=⟨M - 1,by omega⟩
  have hyl:=cZ hyx;show D0 N _ (ae x,ae y) (am M _)=_;simp only[D0];by_cases h2:2<=(ae y).length
  ·have hyge:18446744073709551616<=y:=by
    rcases Z6 y 18446744073709551616 with h | h
    ·have:=fa 1 y (by rw[aca]; exact h); omega
    ·exact h
   have hblx:64<bl x:=by
    rcases Z6 64 (bl x)with h | h
    ·exact h
    ·have h1:=vG x;have h3:2 ^ bl x<=2 ^ 64:=Zl (by decide) h;rw[mm]at h3;omega
   have hblu:bl x<=64*(ae x).length:=by refine tH ?_;rw[ab6,mm]; exact iK x
   obtain⟨f,hf⟩:∃ f,bl x=f+64:=⟨bl x - 64,by omega⟩
   have ef:(bl x:Int) - 64=(f:Int):=by omega
   have hF0:0<2 ^ f:=Zj f;have hx0l:x / 2 ^ f<18446744073709551616:=by rw[Ze hF0,<- mm,<- Zk,aa4,<- hf]; exact vG x
   have hy0l:y / 2 ^ f<=x / 2 ^ f:=abm hyx;rw[Y5 (by omega),Y8,Dc (by omega),ef,aa Y3,Gn (by omega),Gn (by omega),Zg hx0l,Zg (by omega)];obtain⟨a,b,c,d,odd,g1,g2⟩:=H7 hN hx0l hy0l;rw[g2];by_cases hb:b=0
   ·subst hb;rw[show(((0:Nat):Int) != 0)=false from rfl,Y7,jq hN (by omega) (by omega) (by omega)];have hm:=Zm x (by omega:y>0);rw[ih (y+x%y) (by omega) y (x%y) M rfl (by omega) (by omega) (by omega) (by omega),aan y,<- acb,aan]
   ·have hbn:((b:Int) != 0)=true:=by simp; omega
    rw[hbn,Y8];obtain⟨U,V,k1,k2,k3,k4,k5⟩:=HQ (N:=N) (g1.resolve_left hb) (Zm x hF0) (Zm y hF0) (Z3 x (2 ^ f)).symm (Z3 y (2 ^ f)).symm (by omega) ⟨by omega,by omega⟩ ⟨by omega,by omega⟩;have hUl:=cZ k3;rw[k5,ih (U+V) (by omega) U V M rfl (by omega) (by omega) k1 (by omega),k4]
  ·rw[Y6 (by omega),Y7];by_cases h0:y=0
   ·have:(((ae y).length:Nat):Int)=0:=by rw[h0,bA]; rfl
    rw[this,Y6 (by omega),show(false==true)=false from rfl,Y7,xG hN (by omega) (.inl h0)]
   ·have hpos:0<(ae y).length:=by rw[bT h0]; simp
    rw[Y5 (by omega),show(true==true)=true from rfl,Y8];by_cases h1:1<(ae x).length
    ·have hm:=Zm x (abE h0);have hml:=cZ (Nat.le_of_lt hm);rw[Y5 (by omega),Y8,jq hN (abE h0) (by omega) (by omega),xG hN (by omega) (.inr (by omega)),aan y,<- acb,aan]
    ·rw[Y6 (by omega),Y7,xG hN (by omega) (.inr (by omega))]
 exact main s x y N hs hsN (Zi _) hyx hxl
def Dd {N:Nat} (hN:1180591620717411303424<=N) {x y:Nat} (hf:x+y<N) (hxl:(ae x).length<=1099511626000) (hyl:(ae y).length<=1099511626000) (k:Kz3):zH N (ae x) (ae y) k=k (ae (Nat.gcd x y)):=by
 (unfold zH; rw[af]; unfold Pe)
 rw[gY x y ⟨by omega,by omega⟩ ⟨by omega,by omega⟩];by_cases h:x<y
 ·have hc:decide (dr x y<0)=true:=by unfold dr; rw[if_pos h]; rfl
  rw[hc,Y8,CB hN _ (y+x) y x rfl (by omega) (by omega) hyl,aan]
 ·have hc:decide (dr x y<0)=false:=by unfold dr; rw[if_neg h]; split <;> rfl
  rw[hc,Y7,CB hN _ (x+y) x y rfl hf (by omega) hxl]
def Fuel (N:Nat):Prop:=∃ E,4398046511104<=E/\2 ^ E<=N
def Fuel.lt {N:Nat} (h:Fuel N):4398046511104<N:=by obtain⟨E,h1,h2⟩:=h;have:E<2 ^ E:=Nat.lt_two_pow_self;omega
def Fuel.sum {N C x y:Nat} (h:Fuel N) (hC:C<=4398046511000) (hx:aK C x) (hy:aK C y):x+y<N:=by obtain⟨E,h1,h2⟩:=h;have h3:2 ^ (C+1)<=2 ^ E:=Zl (by decide) (by omega);rw[Zh]at h3;unfold aK at hx hy;omega
def Fuel.big {N:Nat} (h:Fuel N):1180591620717411303424<=N:=by
 obtain⟨E,h1,h2⟩:=h;have h3:2 ^ 70<=2 ^ E:=Zl (by decide) (by omega);have e:(2:Nat) ^ 70=1180591620717411303424:=by decide
 rw[e]at h3;exact Zs h3 h2
def wL {B n:Nat} (hB:B<=2000000000100) (h:aK B n):(ae n).length<=31250000003:=by have:=Ha h; omega
def kr (z:Int) (d:Nat) (k:Kx5):Bool:=k (decide (z<0)) (ae z.natAbs) false (ae d)
def kq (x:Rat) (k:Kx5):Bool:=kr x.num x.den k
def C3 (g:Bool) (n d:Nat) (k:Kx5):k (sg g n) (ae n) false (ae d)=kr (aT g n) d k:=DC g n (λa b=>k a b false (ae d))
def Bm {N:Nat} (g:Bool) (n:Nat) (l:List Int) (b1 b2:Bool) (k:Ky1):Iw N g (ae n) l b1 b2 k=k (sg g n) false:=by
 (unfold Iw; rw[af]; unfold O6 Iu Mq NJ Pd)
 cases g
 ·rfl
 ·simp only[nx,sg,aac]; rfl
def HX {N:Nat} (g b:Bool) (n:Nat) (k:Ky9):BG N g (ae n) b k=k (sg g n):=by
 unfold BG RH;cases g
 ·rfl
 ·simp only[nx,sg,aac]; rfl
def MY (g:Bool) (n:Nat):aT (sg g n) n=aT g n:=by
 unfold aT sg;cases g
 ·rfl
 ·by_cases h:n=0
  ·subst h; rfl
  ·rw[Y5 h]; rfl
def HZ {N:Nat} (g1:Bool) (n1:Nat) (g2:Bool) (n2:Nat) (h1:jW N (ae n1)) (h2:jW N (ae n2)) (k:Ky3) :
  NF N g2 (ae n2) g1 (ae n1) k=qi (aT g1 n1+aT g2 n2) k:=by
 (unfold NF; rw[af]; unfold O9)
 rw[KN _ _ (aW _) (aW _) h1 h2,gY _ _ h1 h2,aC,aC,ma g2 _ _ (n1+n2) k,<- FM];congr 1;by_cases h:n2<=n1
 ·rw[lH _ _ (aW _) (aW _) (by rw[aC,aC]; exact h) h1,aC,aC,ma g1 _ _ (n1 - n2) k,rk,Y5 h];rfl
 ·rw[lH _ _ (aW n2) (aW n1) (by rw[aC,aC]; omega) h2,aC,aC,ma g2 _ _ (n2 - n1) k,rk,Y6 h];rfl
def KR {N:Nat} (hF:Fuel N) {x y:Nat} (hy:0<y) (hxl:(ae x).length<=1099511627000) (hyl:(ae y).length<=1099511627000) (k:Kz3):mp N (ae x) (ae y) k=k (ae (x / y)):=by
 have hj:li N (ae x) (ae y) k=k (ae (x / y)):=by unfold li;rw[jq hF.big hy hxl hyl]
 (unfold mp; rw[af]; unfold IV)
 by_cases h1:(ae y).length=1
 ·have e:((((ae y).length:Nat):Int)==1)=true:=by rw[h1]; rfl
  rw[e,show(true==true)=true from rfl,Y8,aa Y4];have hyw:=ot (by omega:y ≠ 0) (sW (by omega));by_cases h2:y=1
  ·have:((ae y).getD 0 0==1)=true:=by rw[hyw,h2]; rfl
   rw[this,Y8,h2,aaU]
  ·have:((ae y).getD 0 0==1)=false:=by rw[hyw]; simp; omega
   rw[this,Y7,hj]
 ·have e:((((ae y).length:Nat):Int)==1)=false:=by simp; omega
  rw[e,show(false==true)=false from rfl,Y7,hj]
def fG {N:Nat} (a:Bool) (l:List Int) (b:Bool) {d:Nat} (hd:d ≠ 0) (k:Kz3):zG N a l b (ae d) k=k (ae d):=by
 unfold zG RM;have:((((ae d).length:Nat):Int)==0)=false:=by rw[bT hd]; simp; omega
 rw[this]; rfl
def Dn {N:Nat} (a:Bool) (l:List Int) (b:Bool) {d:Nat} (hd:d ≠ 0) (k:Kz3):Ri N a l b (ae d) k=k (ae d):=by
 unfold Ri RW;have:((((ae d).length:Nat):Int)==0)=false:=by rw[bT hd]; simp; omega
 rw[this]; rfl
def rJ {N B:Nat} (hF:Fuel N) (hB:B<=2000000000100) {a b:Nat} (ha:aK B a) (hb:aK B b) (k:Kz3):wP N (ae a) (ae b) k=k (ae (a*b)):=by have h1:=wL hB ha;have h2:=wL hB hb;have:=hF.lt;rw[E3 _ _ (aW _) (aW _) (by omega) (by omega),aC,aC]
def tT {N B:Nat} (hF:Fuel N) (hB:B<=2000000000100) {a b:Nat} (ha:aK B a) (hb:aK B b) (k:Kz3):zH N (ae a) (ae b) k=k (ae (Nat.gcd a b)):=by have h1:=wL hB ha;have h2:=wL hB hb;rw[Dd hF.big (hF.sum (by omega) ha hb) (by omega) (by omega)]
def mW {N B:Nat} (hF:Fuel N) (hB:B<=2000000000100) {a b:Nat} (h0:0<b) (ha:aK B a) (hb:aK B b) (k:Kz3):mp N (ae a) (ae b) k=k (ae (a / b)):=by have h1:=wL hB ha;have h2:=wL hB hb;rw[KR hF h0 (by omega) (by omega)]
def oC {N B:Nat} (hB:B<=2000000000100) {a:Nat} (ha:aK B a) (k:Kz3):pz N (ae a) k=k (ae a):=by have h1:=wL hB ha;rw[uV _ (by omega)]
def bW {B a b:Nat} (h:aK B a):aK B (a / b):=jh h (aaH _ _)
def LM {N B n:Nat} (hF:Fuel N) (hB:B<=2000000000100) (h:aK B n):jW N (ae n):=by have h1:=wL hB h;have:=hF.lt;exact⟨by omega,by omega⟩
def Bq (B:Nat) (x:Rat):Prop:=aK B x.num.natAbs/\aK B x.den
def Bq.mono {A B:Nat} {x:Rat} (h:Bq A x) (hAB:A<=B):Bq B x:=⟨bJ h.1 hAB,bJ h.2 hAB⟩
def qj (z:Int) (f:Nat):aT (decide (z<0)) (z.natAbs*f)=z*f:=by
 unfold aT;by_cases h:z<0
 ·rw[Y5 h,if_pos rfl];have:(z.natAbs:Int) = -z:=by omega
  rw[Zp,this,abw,Int.neg_neg]
 ·rw[Y6 h,if_neg (by decide)];have:(z.natAbs:Int)=z:=by omega
  rw[Zp,this]
def ye {z:Int} {h:Nat} (h0:0<h) (hd:h∣z.natAbs):aT (decide (z<0)) (z.natAbs / h)=z / (h:Int):=by
 obtain⟨q,hq⟩:=hd;rw[hq,ZH _ h0];unfold aT;have hh:(h:Int) ≠ 0:=by omega
 by_cases hz:z<0
 ·rw[Y5 hz,if_pos rfl];have:z=(h:Int)*(-(q:Int)):=by
   have e:(z.natAbs:Int)=(h:Int)*q:=by rw[hq,Zp]
   rw[ab7,<- e]; omega
  rw[this,aa8 _ hh]
 ·rw[Y6 hz,if_neg (by decide)];have:z=(h:Int)*(q:Int):=by
   have e:(z.natAbs:Int)=(h:Int)*q:=by rw[hq,Zp]
   rw[<- e]; omega
  rw[this,aa8 _ hh]
def JK (x y:Rat):(x+y).num=(x.num*((y.den / Nat.gcd x.den y.den:Nat):Int)+y.num*((x.den / Nat.gcd x.den y.den:Nat):Int)) / ((Nat.gcd (x.num*((y.den / Nat.gcd x.den y.den:Nat):Int)+y.num*((x.den / Nat.gcd x.den y.den:Nat):Int)).natAbs (Nat.gcd x.den y.den):Nat):Int)
  /\ (x+y).den=x.den / Nat.gcd x.den y.den*(y.den / Nat.gcd (x.num*((y.den / Nat.gcd x.den y.den:Nat):Int)+y.num*((x.den / Nat.gcd x.den y.den:Nat):Int)).natAbs (Nat.gcd x.den y.den)):=by
 have aux:=Rat.add.aux x y (g:=Nat.gcd x.den y.den) rfl rfl rfl;simp only at aux;have hx:=x.den_pos;have hy:=y.den_pos;obtain⟨g,hg⟩:∃ g,g=Nat.gcd x.den y.den:=⟨_,rfl⟩
 rw[<- hg]at aux ⊢;have hg0:0<g:=by rw[hg]; exact Nat.gcd_pos_of_pos_left _ hx
 have hgx:g∣x.den:=by rw[hg]; exact ZY _ _
 have hgy:g∣y.den:=by rw[hg]; exact aaj _ _
 obtain⟨e,he⟩:∃ e,e=x.den / g:=⟨_,rfl⟩
 obtain⟨f,hf⟩:∃ f,f=y.den / g:=⟨_,rfl⟩
 rw[<- he,<- hf]at aux ⊢;have ex:x.den=e*g:=by rw[he,Nat.div_mul_cancel hgx]
 have ey:y.den=f*g:=by rw[hf,Nat.div_mul_cancel hgy]
 obtain⟨n,hn⟩:∃ n,n=x.num*(f:Int)+y.num*(e:Int):=⟨_,rfl⟩
 rw[<- hn]at aux ⊢;have hsum:x+y=mkRat n (e*y.den):=by
  rw[Rat.add_def'];have e1:x.num*(y.den:Int)+y.num*(x.den:Int)=n*(g:Int):=by rw[ex,ey,hn]; simp only[Zp]; grind
  have e2:x.den*y.den=e*y.den*g:=by rw[ex]; grind
  rw[e1,e2,Rat.mkRat_mul_right (by omega)]
 have he0:0<e:=by
  rcases aat e with h | h
  ·rw[h,aaq]at ex; omega
  ·exact h
 have hd0:e*y.den ≠ 0:=by have:=aa9 he0 hy; omega
 have hhy:Nat.gcd n.natAbs g∣y.den:=Nat.dvd_trans (aaj _ _) hgy;constructor
 ·rw[hsum,acm,if_neg hd0,aan,<- aux]
 ·rw[hsum,acn,if_neg hd0,aan,<- aux,Nat.mul_div_assoc _ hhy]
def zR {A:Nat} {z w:Int} (hz:aK A z.natAbs) (hw:aK A w.natAbs):aK (A+1) (z+w).natAbs:=jh (pW hz hw) (by omega)
def rj {A B:Nat} {z:Int} {n:Nat} (hz:aK A z.natAbs) (hn:aK B n):aK (A+B) (z*(n:Int)).natAbs:=by rw[aaP,ZV]; exact dd hz hn
def yl {N B:Nat} (hF:Fuel N) (hB:B<=1000000000000) {x y:Rat} (hx:Bq B x) (hy:Bq B y) (b1 b2:Bool) (k:Kx5) :
  NH N (decide (x.num<0)) (ae x.num.natAbs) false (ae x.den) (decide (y.num<0)) (ae y.num.natAbs) false (ae y.den) b1 b2 k=kq (x+y) k:=by
 (unfold NH; rw[af]; unfold Mr)
 obtain⟨m1,m2⟩:=JK x y;have hB2:B<=2000000000100:=by omega
 have hxd:=x.den_pos;have hyd:=y.den_pos;rw[fG _ _ _ x.den_nz,fG _ _ _ y.den_nz,tT hF hB2 hx.2 hy.2];obtain⟨g,hg⟩:∃ g,g=Nat.gcd x.den y.den:=⟨_,rfl⟩
 rw[<- hg]at m1 m2 ⊢;have hg0:0<g:=by rw[hg]; exact Nat.gcd_pos_of_pos_left _ hxd
 have hgb:aK B g:=by rw[hg]; exact jh hx.2 (Nat.gcd_le_left _ hxd)
 have hgy:g∣y.den:=by rw[hg]; exact aaj _ _
 rw[mW hF hB2 hg0 hx.2 hgb,mW hF hB2 hg0 hy.2 hgb,rJ hF hB2 hx.1 (bW hy.2),HX,rJ hF hB2 hy.1 (bW hx.2)];have hb1:=dd hx.1 (bW (b:=g) hy.2);have hb2:=dd hy.1 (bW (b:=g) hx.2);rw[HZ _ _ _ _ (LM hF (by omega) hb1) (LM hF (by omega) hb2),MY,qj,qj];have hnb:aK (B+B+1) (x.num*((y.den / g:Nat):Int)+y.num*((x.den / g:Nat):Int)).natAbs:=zR (rj hx.1 (bW hy.2)) (rj hy.1 (bW hx.2));obtain⟨n,hn⟩:∃ n,n=x.num*((y.den / g:Nat):Int)+y.num*((x.den / g:Nat):Int):=⟨_,rfl⟩
 rw[<- hn]at m1 m2 hnb ⊢;have hB3:B+B+1<=2000000000100:=by omega
 unfold qi;dsimp only;rw[tT hF hB3 hnb (bJ hgb (by omega))];obtain⟨h,hh⟩:∃ h,h=Nat.gcd n.natAbs g:=⟨_,rfl⟩
 rw[<- hh]at m1 m2 ⊢;have hh0:0<h:=by rw[hh]; exact aad _ hg0
 have hhb:aK B h:=by rw[hh]; exact jh hgb (aba _ hg0)
 rw[mW hF hB3 hh0 hnb (bJ hhb (by omega)),oC hB3 (bW hnb),mW hF hB2 hh0 hy.2 hhb,rJ hF hB2 (bW hx.2) (bW hy.2),Bm,C3 _ _ _ k,ye hh0 (by rw[hh]; exact ZY _ _),<- m1,<- m2];rfl
def C_ {N B:Nat} (hF:Fuel N) (hB:B<=1000000000000) {x y:Rat} (hx:Bq B x) (hy:Bq B y) (b1 b2:Bool) (k:Kx5) :
  Ra N (decide (x.num<0)) (ae x.num.natAbs) false (ae x.den) b1 b2 (decide (y.num<0)) (ae y.num.natAbs) false (ae y.den) k=kq (x+y) k:=by
 rw[<- yl hF hB hx hy b1 b2 k]
 (unfold Ra; rw[af]; unfold O7; unfold NH; rw[af]; unfold Mr)
 rw[fG _ _ _ x.den_nz,Dn _ _ _ y.den_nz,fG _ _ _ x.den_nz,fG _ _ _ y.den_nz]
def Kz (g:Bool) (n:Nat):aT (!g) n = -(aT g n):=by unfold aT; cases g <;> simp
def gX (z:Int):aT (decide (z<0)) z.natAbs=z:=l7 z
def EZ {N B:Nat} (hB:B<=2000000000100) {y:Rat} (hy:Bq B y) (b1 b2:Bool) (k:Kx5) :
  Rl N (decide (y.num<0)) (ae y.num.natAbs) false (ae y.den) b1 b2 k=kq (-y) k:=by
 (unfold Rl; rw[af]; unfold Px)
 rw[oC hB hy.1,fG _ _ _ y.den_nz,oC hB hy.2,Bm,C3 _ _ _ k,Kz,gX];rfl
def Dg {N B:Nat} (hF:Fuel N) (hB:B<=1000000000000) {x y:Rat} (hx:Bq B x) (hy:Bq B y) (k:Kx5) :
  cK N (decide (x.num<0)) (ae x.num.natAbs) false (ae x.den) (decide (y.num<0)) (ae y.num.natAbs) false (ae y.den) k=kq (x - y) k:=by
 (unfold cK iy; unfold OC; rw[af]; unfold I2)
 rw[EZ (by omega) hy];unfold kq kr;dsimp only;have hny:Bq B (-y):=⟨by rw[Rat.neg_num,abo]; exact hy.1,hy.2⟩
 rw[C_ hF hB hx hny,Rat.sub_eq_add_neg];rfl
def M5 {N B:Nat} (hF:Fuel N) (hB:B<=1000000000000) {x y:Rat} (hx:Bq B x) (hy:Bq B y) (k:Kx5) :
  dS N (decide (x.num<0)) (ae x.num.natAbs) false (ae x.den) (decide (y.num<0)) (ae y.num.natAbs) false (ae y.den) k=kq (x+y) k:=by
 unfold dS iA;rw[yl hF hB hx hy]
def K6 (x w:Rat):(x*w).num=aT (decide (x.num<0)) (x.num.natAbs / Nat.gcd x.num.natAbs w.den)*aT (decide (w.num<0)) (w.num.natAbs / Nat.gcd w.num.natAbs x.den)
  /\ (x*w).den=x.den / Nat.gcd w.num.natAbs x.den*(w.den / Nat.gcd x.num.natAbs w.den):=by
 have H1:0<x.num.natAbs.gcd w.den:=aad _ w.den_pos;have H2:0<w.num.natAbs.gcd x.den:=aad _ x.den_pos;have d1:Nat.gcd x.num.natAbs w.den∣x.num.natAbs:=ZY _ _;have d2:Nat.gcd w.num.natAbs x.den∣w.num.natAbs:=ZY _ _;rw[ye H1 d1,ye H2 d2];have e1:(x*w).num=x.num.tdiv (Nat.gcd x.num.natAbs w.den:Nat)*w.num.tdiv (Nat.gcd w.num.natAbs x.den:Nat):=by
  show(Rat.mul x w).num=_
  delta Rat.mul
  simp only[Int.divExact_eq_tdiv]
 have e2:(x*w).den=x.den / Nat.gcd w.num.natAbs x.den*(w.den / Nat.gcd x.num.natAbs w.den):=by
  show(Rat.mul x w).den=_
  delta Rat.mul
  simp only[Nat.divExact_eq_div]
 refine⟨?_,e2⟩;rw[e1,Int.tdiv_eq_ediv_of_dvd (Int.ofNat_dvd_left.2 d1),Int.tdiv_eq_ediv_of_dvd (Int.ofNat_dvd_left.2 d2)]
def Dl {N B:Nat} (hF:Fuel N) (hB:B<=1000000000000) {x w:Rat} (hx:Bq B x) (hw:Bq B w) (b1 b2:Bool) (k:Kx5) :
  NC N (decide (x.num<0) != decide (w.num<0)) (ae x.num.natAbs) (ae x.den) (ae w.num.natAbs) (ae w.den) b1 b2 k=kq (x*w) k:=by
 (unfold NC; rw[af]; unfold O4)
 have hB2:B<=2000000000100:=by omega
 obtain⟨m1,m2⟩:=K6 x w;have H1:0<x.num.natAbs.gcd w.den:=aad _ w.den_pos;have H2:0<w.num.natAbs.gcd x.den:=aad _ x.den_pos;have L1:aK B (x.num.natAbs.gcd w.den):=jh hw.2 (aba _ w.den_pos);have L2:aK B (w.num.natAbs.gcd x.den):=jh hx.2 (aba _ x.den_pos);rw[tT hF hB2 hx.1 hw.2,tT hF hB2 hw.1 hx.2,mW hF hB2 H1 hx.1 L1,mW hF hB2 H2 hw.1 L2,rJ hF hB2 (bW hx.1) (bW hw.1),mW hF hB2 H2 hx.2 L2,mW hF hB2 H1 hw.2 L1,rJ hF hB2 (bW hx.2) (bW hw.2),Bm,C3 _ _ _ k,tQ,<- m1,<- m2];rfl
def M6 {N B:Nat} (hF:Fuel N) (hB:B<=1000000000000) {x y:Rat} (hx:Bq B x) (hy:Bq B y) (k:Kx5) :
  dF N (decide (x.num<0)) (ae x.num.natAbs) false (ae x.den) (decide (y.num<0)) (ae y.num.natAbs) false (ae y.den) k=kq (x*y) k:=by
 (unfold dF ic; unfold OA; rw[af]; unfold I0)
 rw[fG _ _ _ x.den_nz,fG _ _ _ y.den_nz,Dl hF hB hx hy]
def yb {y:Rat} (h:y.num ≠ 0):(y⁻¹).num.natAbs=y.den/\(y⁻¹).den=y.num.natAbs/\decide ((y⁻¹).num<0)=decide (y.num<0):=by
 have hd:=y.den_pos;refine⟨?_,?_,?_⟩
 ·rw[Rat.num_inv,aaP,ZV,Int.natAbs_sign,if_neg h,aaC]
 ·rw[Rat.den_inv,if_neg h]
 ·rw[Rat.num_inv];rcases Int.lt_trichotomy y.num 0 with h1 | h1 | h1
  ·rw[Int.sign_eq_neg_one_of_neg h1,Y5 h1,Y5 (by omega)]
  ·exact absurd h1 h
  ·rw[Int.sign_eq_one_of_pos h1,Y6 (by omega),Y6 (by omega)]
def M_ {N B:Nat} (hF:Fuel N) (hB:B<=1000000000000) {x y:Rat} (hx:Bq B x) (hy:Bq B y) (h0:y.num ≠ 0) (k:Kx5) :
  dR N (decide (x.num<0)) (ae x.num.natAbs) false (ae x.den) (decide (y.num<0)) (ae y.num.natAbs) false (ae y.den) k=kq (x / y) k:=by
 obtain⟨i1,i2,i3⟩:=yb h0
 (unfold dR iz; unfold OB; rw[af]; unfold I1)
 have hw:Bq B (y⁻¹):=⟨by rw[i1]; exact hy.2,by rw[i2]; exact hy.1⟩
 have hp:=λkk=>Dl (b1:=false) (b2:=false) hF hB hx hw kk
 rw[i1,i2,i3]at hp;rw[fG _ _ _ x.den_nz,fG _ _ _ y.den_nz,hp,Rat.div_def]
def vW {N B:Nat} (hF:Fuel N) (hB:B<=2000000000000) (g:Bool) {n d:Nat} (hn:aK B n) (hd:aK B d) (h0:0<d) (b1 b2:Bool) (k:Kx5) :
  Rf N g (ae n) (ae d) b1 b2 k=kq (mkRat (aT g n) d) k:=by
 have hB2:B<=2000000000100:=by omega
 have hl:=hF.lt;have hnum:(mkRat (aT g n) d).num=aT g (n / Nat.gcd n d):=by
  rw[acm,if_neg (by omega)];have e:(aT g n).natAbs=n:=by unfold aT; cases g <;> simp
  have hg:0<Nat.gcd n d:=aad _ h0;rw[e,aan];obtain⟨q,hq⟩:=ZY n d;have hh:((Nat.gcd n d:Nat):Int) ≠ 0:=by omega
  have e2:aT g n=((Nat.gcd n d:Nat):Int)*aT g (n / Nat.gcd n d):=by
   have hnn:n=Nat.gcd n d*(n / Nat.gcd n d):=(Nat.mul_div_cancel' (ZY n d)).symm;have hc:(n:Int)=((Nat.gcd n d:Nat):Int)*((n / Nat.gcd n d:Nat):Int):=by rw[<- Zp,<- hnn]
   unfold aT;cases g
   ·simpa using hc
   ·simp only[aaD]; rw[hc,ab7]
  rw[e2,aa8 _ hh]
 have hden:(mkRat (aT g n) d).den=d / Nat.gcd n d:=by
  rw[acn,if_neg (by omega)];have e:(aT g n).natAbs=n:=by unfold aT; cases g <;> simp
  rw[e,aan]
 have hj:∀ m e:Nat,aK B m->aK B e->FV N g (ae n) (ae d) b1 b2 (ae m) (ae e) k=k (sg g m) (ae m) false (ae e):=by
  intro m e hm he;unfold FV;rw[oC hB2 hm];unfold Iu Mq;dsimp only;rw[oC hB2 he,oC hB2 he];unfold NJ Pd;cases g
  ·rfl
  ·simp only[nx,sg,aac]; rfl
 have hg0:0<Nat.gcd n d:=aad _ h0;have hgb:aK B (Nat.gcd n d):=jh hd (aba _ h0);have h1:=wL hB2 hn;have h2:=wL hB2 hd;have h3:=wL hB2 hgb;have e1:ae 1=[1]:=ot (by decide) (by decide)
 (unfold Rf; rw[af]; unfold Pm)
 rw[tT hF hB2 hn hd,<- e1,gY _ 1 ⟨by omega,by omega⟩ ⟨by rw[e1]; simp; omega,by rw[e1]; simp⟩];by_cases hc:Nat.gcd n d=1
 ·have:(dr (Nat.gcd n d) 1 != 0)=false:=by rw[hc]; rfl
  rw[this,Y7,hj n d hn hd,C3 _ _ _ k];rw[hc,aaU]at hnum hden;unfold kq;rw[hnum,hden]
 ·have:(dr (Nat.gcd n d) 1 != 0)=true:=by unfold dr; rw[if_neg (by omega),if_neg hc]; rfl
  rw[this,Y8,jq hF.big hg0 (by omega) (by omega),jq hF.big hg0 (by omega) (by omega),hj _ _ (bW hn) (bW hd),C3 _ _ _ k,<- hnum,<- hden];rfl
def Fe {N:Nat} (hF:Fuel N) (k:Kx5):kb N 0 k=kq 0 k:=by
 have:=hF.lt
 (unfold kb np; unfold ui; rw[af]; unfold nX)
 have n0:=λkk=>qk (N:=N) (by omega) 0 (by decide) kk
 have n1:=λkk=>qk (N:=N) (by omega) 1 (by decide) kk
 rw[show((0:Nat):Int)=0 from rfl]at n0;rw[show((1:Nat):Int)=1 from rfl]at n1;unfold NA OV;rw[n0,n1,vW hF (B:=10) (by decide) _ (by unfold aK; decide) (by unfold aK; decide) (by decide)];rfl
def kC {N:Nat} (x:Rat) (k:Kz0):bD N (decide (x.num<0)) (ae x.num.natAbs) false (ae x.den) k=k (nS x.num):=by
 (unfold bD iB qE pH; unfold OH; rw[af]; unfold Jr nS)
 by_cases h:x.num<0
 ·rw[Y5 h,Y8,if_neg (by omega),if_pos h]
 ·rw[Y6 h,Y7,if_neg h];by_cases h0:x.num=0
  ·rw[h0,if_pos rfl];have:ae (0:Int).natAbs=[]:=bA;rw[this]; rfl
  ·have:((((ae x.num.natAbs).length:Nat):Int)==0)=false:=by rw[bT (by omega)]; simp; omega
   rw[this,Y7,if_neg h0]
end Go.Proofs.YtdinakfmablagaaGreatDoor
end
