/-
  PURE: laws of the seat's functions, taken over from another seat of mine.
  Conditions: none.
-/
import Derived.Test.YtldenpmpmifnlaaGreatDoorC1
set_option linter.unusedVariables false
section
namespace Go.Proofs.YtldenpmpmifnlaaGreatDoor
open Go Go.Mach
theorem E5 (N:Nat) {x:Nat} (hx:x<18446744073709551616) (k:Ky8):W3 N (x:Int) k=k (bl x:Int):=by
 have key:∀(z:Int) (m:Nat),z=(m:Int)->m<256 -> ∀ c:Nat,c<=56->((inR z 256)&&((au .i64 (List.getD di (Int.toNat z) 0))&&((au .i64 ((c:Int)+(List.getD di (Int.toNat z) 0)))&&k ((c:Int)+List.getD di (Int.toNat z) 0))))=k ((c+bl m:Nat):Int):=by intro z m hz hm c hc;subst hz;have:=Uo hm;rw[awS,ag1 hm,ae awL,ae awK,ae awK];rfl
 have j1:∀(y z c:Nat),z<65536->c<=48->Jd N (y:Int) (z:Int) (c:Int) k=k ((c+bl z:Nat):Int):=by
  intro y z c hz hc;unfold Jd;simp only[aiy,ajM];by_cases h8:256<=z
  ·have e8:=vV (n:=z) 8 (by simpa using h8);rw[show(2:Nat) ^ 8=256 by decide]at e8;have h:=key ((z:Int) / 256%256) (z / 256) (by omega) (by omega) (c+8) (by omega);rw[show((c+8:Nat):Int)=(c:Int)+8 by omega]at h;rw[awM (by omega:(z:Int)>=256),awP,ae awK,h];congr 1; omega
  ·rw[awN (by omega:¬(z:Int)>=256),awO,key ((z:Int)%256) z (by omega) (by omega) c (by omega)]
 have j0:∀(y z c:Nat),z<4294967296->c<=32->Jc N (y:Int) (z:Int) (c:Int) k=k ((c+bl z:Nat):Int):=by
  intro y z c hz hc;unfold Jc;simp only[afV];by_cases h16:65536<=z
  ·have e16:=vV (n:=z) 16 (by simpa using h16);rw[show(2:Nat) ^ 16=65536 by decide]at e16;have h:=j1 y (z / 65536) (c+16) (by omega) (by omega);rw[show((c+16:Nat):Int)=(c:Int)+16 by omega,show((z / 65536:Nat):Int)=(z:Int) / 65536 by omega]at h;rw[awM (by omega:(z:Int)>=65536),awP,ae awK,h];congr 1; omega
  ·rw[awN (by omega:¬(z:Int)>=65536),awO,j1 y z c (by omega) (by omega)]
 unfold W3 RL;simp only[rg];by_cases h32:4294967296<=x
 ·have e32:=vV (n:=x) 32 (by rw[show(2:Nat) ^ 32=4294967296 by decide]; exact h32);rw[show(2:Nat) ^ 32=4294967296 by decide]at e32;have h:=j0 x (x / 4294967296) 32 (by omega) (by omega);rw[show((x / 4294967296:Nat):Int)=(x:Int) / 4294967296 by omega,show((32:Nat):Int)=32 from rfl]at h;rw[awM (by omega:(x:Int)>=4294967296),awP,h];congr 1; omega
 ·have h:=j0 x x 0 (by omega) (by omega);rw[show((0:Nat):Int)=0 from rfl]at h;rw[awN (by omega:¬(x:Int)>=4294967296),awO,h];congr 1; omega
theorem PH {n j:Nat} (h:n<2 ^ j):bl n<=j:=by
 unfold bl;split
 ·omega
 ·rename_i h0;have:=(Nat.log2_lt h0).2 h;omega
theorem Un (n:Nat):n<2 ^ bl n:=by
 unfold bl;split
 ·rename_i h; subst h; decide
 ·exact Nat.lt_log2_self
theorem aii {n:Nat} (h:n ≠ 0):0<bl n/\2 ^ (bl n - 1)<=n:=by unfold bl;rw[if_neg h];exact⟨by omega,by rw[ay3]; exact Nat.log2_self_le h⟩
theorem ta:(2:Nat) ^ 64=18446744073709551616:=by decide
theorem Kt (N:Nat) {x:Nat} (hx:x<18446744073709551616) (k:Ky8):sQ3 N (x:Int) k=k ((64 - bl x:Nat):Int):=by unfold sQ3 GQ3;have:=PH (n:=x) (j:=64) (by rw[ta]; exact hx);rw[E5 N hx,ae awK];congr 1; omega
theorem Rk {y:Nat} (h0:y ≠ 0) (hy:y<18446744073709551616):64 - bl y<64/\9223372036854775808<=y*2 ^ (64 - bl y)/\y*2 ^ (64 - bl y)<18446744073709551616:=by
 have h1:=PH (n:=y) (j:=64) (by rw[ta]; exact hy);obtain⟨h2,h3⟩:=aii h0;have h4:=Un y;have hp:0<2 ^ (64 - bl y):=aw0 _;refine⟨by omega,?_,?_⟩
 ·have:=awU (2 ^ (64 - bl y)) h3;rw[<- aw2,show bl y - 1+(64 - bl y)=63 by omega]at this;exact this
 ·have:=axE h4 hp;rw[<- aw2,show bl y+(64 - bl y)=64 by omega]at this;exact this
theorem Kl {a c u u1 p r:Nat} (hc:c<4294967296) (hp:p<=4294967296) (hu:(p+1)*a+r=u) (hb:4294967296<=r+a):p*(a*4294967296+c)<=u*4294967296+u1:=by
 have e1:u*4294967296+u1=p*a*4294967296+(r+a)*4294967296+u1:=by rw[<- hu,ayJ,axh,axh,axh]; omega
 have e2:p*(a*4294967296+c)=p*a*4294967296+p*c:=by rw[axa,awW]
 have:=axK hp (Nat.le_of_lt_succ hc:c<=4294967295);rw[e1,e2]; omega
theorem Du {a c u u1:Nat} (hu1:u1<4294967296) (hD:u<a*4294967296+c):(u*4294967296+u1) / (a*4294967296+c)<4294967296:=by rw[awY (by omega)]; omega
theorem Mx {N:Nat} {Sz:zU} {y s un0:Int} {a c u u1:Nat} (ha2:a<4294967296) (hc:c<4294967296) (hu1:u1<4294967296) (hD:u<a*4294967296+c) {d:Nat} (hd:∀ p,p<=d↔p*(a*4294967296+c)<=u*4294967296+u1) (hlt:d<4294967296) (e0:Int->Bool) :
  ∀ q r M,q<M->q<=4294967297->q*a+r=u->r<4294967296->d<=q ->
   al M (Cj N Sz y s (a:Int) (c:Int) (u:Int) (u1:Int) un0 e0) ((q:Int),(r:Int))=e0 (d:Int):=by
 intro q;induction q using Nat.strongRecOn with
 | ind q ih=>
 intro r M hM hqb hu hr hle;obtain⟨M,rfl⟩:∃ m,M=m+1:=⟨M - 1,by omega⟩
 show Cj N Sz y s a c u u1 un0 e0 ((q:Int),(r:Int)) (al M _)=_;have hY:0<a*4294967296+c:=by omega
 have hdec:d<q->cond (decide ((IntKind.wrap .u64 ((r:Int)+(a:Int)))>=4294967296)) (e0 (IntKind.wrap .u64 ((q:Int) - 1))) (al M (Cj N Sz y s (a:Int) (c:Int) (u:Int) (u1:Int) un0 e0) ((IntKind.wrap .u64 ((q:Int) - 1)),(IntKind.wrap .u64 ((r:Int)+(a:Int)))))=e0 (d:Int):=by
  intro hlq;obtain⟨p,rfl⟩:∃ p,q=p+1:=⟨q - 1,by omega⟩
  have w1:IntKind.wrap .u64 (((p+1:Nat):Int) - 1)=(p:Int):=by rw[aD]; omega
  have w2:IntKind.wrap .u64 ((r:Int)+(a:Int))=((r+a:Nat):Int):=by rw[aD]; omega
  rw[w1,w2];by_cases hb:4294967296<=r+a
  ·rw[awM (by omega),awP];have h1:=Kl (u1:=u1) hc (by omega) hu hb;rw[<- hd]at h1;rw[show d=p by omega]
  ·rw[awN (by omega),awO];exact ih p (by omega) (r+a) M (by omega) (by omega) (by rw[<- hu,ayJ]; omega) (by omega) (by omega)
 simp only[Cj];by_cases hq:4294967296<=q
 ·rw[awM (by omega:(q:Int)>=4294967296),show(true==false)=false from rfl,awO];exact hdec (by omega)
 ·have e1:u*4294967296+u1=q*a*4294967296+r*4294967296+u1:=by rw[<- hu,axh]
  have e2:q*(a*4294967296+c)=q*a*4294967296+q*c:=by rw[axa,awW]
  have hqc:q*c<=4294967295*4294967295:=axK (by omega) (by omega);have w1:IntKind.wrap .u64 ((q:Int)*(c:Int))=((q*c:Nat):Int):=by rw[<- aw4,aD]; omega
  have w2:IntKind.wrap .u64 ((IntKind.wrap .u64 (4294967296*(r:Int)))+(u1:Int))=((r*4294967296+u1:Nat):Int):=by rw[aD,aD]; omega
  rw[awN (by omega:¬(q:Int)>=4294967296),show(false==false)=true from rfl,awP,w1,w2];by_cases ht:r*4294967296+u1<q*c
  ·rw[awM (by omega),awP];refine hdec ?_;rw[<- Nat.not_le,hd]; omega
  ·rw[awN (by omega),awO];have h1:q*(a*4294967296+c)<=u*4294967296+u1:=by omega
   rw[<- hd]at h1;rw[show d=q by omega]
theorem My {N:Nat} {Sz:zU} {y s q1:Int} {x21:Int} {a c u u1:Nat} (ha2:a<4294967296) (hc:c<4294967296) (hu1:u1<4294967296) (hD:u<a*4294967296+c) {d:Nat} (hd:∀ p,p<=d↔p*(a*4294967296+c)<=u*4294967296+u1) (hlt:d<4294967296) (e0:Int->Bool) :
  ∀ q r M,q<M->q<=4294967297->q*a+r=u->r<4294967296->d<=q ->
   al M (Ck N Sz y s (a:Int) (c:Int) (u1:Int) q1 x21 e0) ((r:Int),(q:Int))=e0 (d:Int):=by
 intro q;induction q using Nat.strongRecOn with
 | ind q ih=>
 intro r M hM hqb hu hr hle;obtain⟨M,rfl⟩:∃ m,M=m+1:=⟨M - 1,by omega⟩
 show Ck N Sz y s a c u1 q1 x21 e0 ((r:Int),(q:Int)) (al M _)=_;have hY:0<a*4294967296+c:=by omega
 have hdec:d<q->cond (decide ((IntKind.wrap .u64 ((r:Int)+(a:Int)))>=4294967296)) (e0 (IntKind.wrap .u64 ((q:Int) - 1))) (al M (Ck N Sz y s (a:Int) (c:Int) (u1:Int) q1 x21 e0) ((IntKind.wrap .u64 ((r:Int)+(a:Int))),(IntKind.wrap .u64 ((q:Int) - 1))))=e0 (d:Int):=by
  intro hlq;obtain⟨p,rfl⟩:∃ p,q=p+1:=⟨q - 1,by omega⟩
  have w1:IntKind.wrap .u64 (((p+1:Nat):Int) - 1)=(p:Int):=by rw[aD]; omega
  have w2:IntKind.wrap .u64 ((r:Int)+(a:Int))=((r+a:Nat):Int):=by rw[aD]; omega
  rw[w1,w2];by_cases hb:4294967296<=r+a
  ·rw[awM (by omega),awP];have h1:=Kl (u1:=u1) hc (by omega) hu hb;rw[<- hd]at h1;rw[show d=p by omega]
  ·rw[awN (by omega),awO];exact ih p (by omega) (r+a) M (by omega) (by omega) (by rw[<- hu,ayJ]; omega) (by omega) (by omega)
 simp only[Ck];by_cases hq:4294967296<=q
 ·rw[awM (by omega:(q:Int)>=4294967296),show(true==false)=false from rfl,awO];exact hdec (by omega)
 ·have e1:u*4294967296+u1=q*a*4294967296+r*4294967296+u1:=by rw[<- hu,axh]
  have e2:q*(a*4294967296+c)=q*a*4294967296+q*c:=by rw[axa,awW]
  have hqc:q*c<=4294967295*4294967295:=axK (by omega) (by omega);have w1:IntKind.wrap .u64 ((q:Int)*(c:Int))=((q*c:Nat):Int):=by rw[<- aw4,aD]; omega
  have w2:IntKind.wrap .u64 ((IntKind.wrap .u64 (4294967296*(r:Int)))+(u1:Int))=((r*4294967296+u1:Nat):Int):=by rw[aD,aD]; omega
  rw[awN (by omega:¬(q:Int)>=4294967296),show(false==false)=true from rfl,awP,w1,w2];by_cases ht:r*4294967296+u1<q*c
  ·rw[awM (by omega),awP];refine hdec ?_;rw[<- Nat.not_le,hd]; omega
  ·rw[awN (by omega),awO];have h1:q*(a*4294967296+c)<=u*4294967296+u1:=by omega
   rw[<- hd]at h1;rw[show d=q by omega]
theorem EM {a c u u1:Nat} (ha:2147483648<=a) (ha2:a<4294967296) (hc:c<4294967296) (hD:u<a*4294967296+c) (hu1:u1<4294967296) :
  u / a<=4294967297/\u / a*a+u%a=u/\u%a<4294967296/\(u*4294967296+u1) / (a*4294967296+c)<=u / a:=by
 have h0:0<a:=by omega
 refine⟨?_,ax9 u a,ayP (axf _ h0) ha2,?_⟩
 ·have:u / a<4294967298:=by rw[awY h0]; omega
  omega
 ·have h1:(u*4294967296+u1) / (a*4294967296)=u / a:=by rw[awR a,<- awZ];congr 1; omega
  rw[<- h1];exact Nat.div_le_div_left (ayD _ _) (by omega)
theorem R5 {m p y s:Nat} (u L b D1 q1 R1 u1 u0 q0 R0 Y:Nat) (hb:b=4294967296) (hT:m*2 ^ s=u*18446744073709551616+L) (hL:L=u1*b+u0) (hY:Y=y*2 ^ s) (hY0:0<Y)
  (h1:D1=u*b+u1) (hq1:q1=D1 / Y) (hR1:R1=D1%Y) (hq0:q0=(R1*b+u0) / Y) (hR0:R0=(R1*b+u0)%Y):m / y=q1*b+q0/\m%y=R0 / 2 ^ s:=by
 have hs:0<2 ^ s:=aw0 s;have e1:=axz D1 Y;have e0:=axz (R1*b+u0) Y;rw[<- hq1,<- hR1]at e1;rw[<- hq0,<- hR0]at e0;have hlt:R0<Y:=by rw[hR0]; exact axf _ hY0
 have hm:m*2 ^ s=Y*(q1*b+q0)+R0:=by
  rw[hT,hL];have e2:u*18446744073709551616+(u1*b+u0)=(u*b+u1)*b+u0:=by subst hb; omega
  rw[e2,<- h1,<- e1,axa,axh,axo,<- e0,awW,axo]
 have d1:m / y=(m*2 ^ s) / Y:=by rw[hY,Nat.mul_div_mul_right _ _ hs]
 have d2:(m%y)*2 ^ s=(m*2 ^ s)%Y:=by rw[hY,Nat.mul_mod_mul_right]
 constructor
 ·rw[d1,hm,azI hY0,axl hlt,axb]
 ·have:(m%y)*2 ^ s=R0:=by rw[d2,hm,azr,awV hlt]
  rw[<- this,ayv _ hs]
theorem Hj {N:Nat} (hN:8589934592<=N) {hi lo y:Nat} (hy:y<18446744073709551616) (hlo:lo<18446744073709551616) (hhi:hi<y) (k:Ky2) :
  Ft N (hi:Int) (lo:Int) (y:Int) k=k (((hi*18446744073709551616+lo) / y:Nat):Int) (((hi*18446744073709551616+lo)%y:Nat):Int):=by
 unfold Ft aaK;have y0:((y:Int)==0)=false:=by simp; omega
 have y1:(!decide ((y:Int)=0))=true:=by simp; omega
 rw[y0,awO,awN (by omega:¬(y:Int)<=hi),awO];by_cases h0:hi=0
 ·subst h0;rw[show(((0:Nat):Int)==0)=true from rfl,awP,ae y1,ae y1,axF,axe];have e1:Int.tdiv (lo:Int) (y:Int)=((lo / y:Nat):Int):=rfl;have e2:Int.tmod (lo:Int) (y:Int)=((lo%y:Nat):Int):=rfl;have:=ay7 lo y;rw[e1,e2];generalize lo / y=d at *;rw[aD];congr 1; omega
 ·have hne:((hi:Int)==0)=false:=by simp; omega
  obtain⟨hs64,hYlo,hYhi⟩:=Rk (y:=y) (by omega) hy;rw[hne,awO,Kt N hy];generalize hs:64 - bl y=s at *;have hs0:0<2 ^ s:=aw0 s;have hs1:2 ^ s*2 ^ (64 - s)=18446744073709551616:=by rw[<- aw2,show s+(64 - s)=64 by omega]
  have cp:((2:Int) ^ s)=((2 ^ s:Nat):Int):=by rw[axA]; rfl
  have cp2:((2:Int) ^ (64 - s))=((2 ^ (64 - s):Nat):Int):=by rw[axA]; rfl
  have ew:IntKind.wrap .u64 ((s:Nat):Int)=(s:Int):=by rw[aD]; omega
  have ew2:IntKind.wrap .u64 (64 - ((s:Nat):Int))=((64 - s:Nat):Int):=by rw[aD]; omega
  have em:min s 64=s:=by omega
  have em2:min (64 - s) 64=64 - s:=by omega
  simp only[ew,ew2,awS,em,em2];rw[cp,cp2];have eY:IntKind.wrap .u64 ((y:Int)*((2 ^ s:Nat):Int))=((y*2 ^ s:Nat):Int):=by rw[<- aw4,aD]; omega
  have hm:hi*2 ^ s<y*2 ^ s:=axE hhi hs0;have eH:IntKind.wrap .u64 ((hi:Int)*((2 ^ s:Nat):Int))=((2 ^ s*hi:Nat):Int):=by rw[<- aw4,awR hi,aD]; rw[awR hi]at hm; generalize 2 ^ s*hi=H at *; generalize y*2 ^ s=Y at *; omega
  have hlo2:lo / 2 ^ (64 - s)<2 ^ s:=by rw[awY (aw0 _),hs1]; exact hlo
  have hlo3:=axz lo (2 ^ (64 - s));have eT:(hi*18446744073709551616+lo)*2 ^ s=(2 ^ s*hi+lo / 2 ^ (64 - s))*18446744073709551616+lo*2 ^ s%18446744073709551616:=by
   have e1:lo*2 ^ s / 18446744073709551616=lo / 2 ^ (64 - s):=by rw[<- hs1,awR lo,Nat.mul_div_mul_left _ _ hs0]
   have e2:=axz (lo*2 ^ s) 18446744073709551616;rw[e1]at e2;rw[axh,<- e2,axh,Nat.mul_right_comm,awR hi];omega
  have hD:2 ^ s*hi+lo / 2 ^ (64 - s)<y*2 ^ s:=by have:2 ^ s*(hi+1)<=2 ^ s*y:=aw1 _ hhi;rw[axa,awR _ y]at this;omega
  have eU:az .or .u64 ((2 ^ s*hi:Nat):Int) (Int.fdiv (lo:Int) ((2 ^ (64 - s):Nat):Int))=((2 ^ s*hi+lo / 2 ^ (64 - s):Nat):Int):=by rw[mQ,yx,dE _ _ s hlo2 (by omega)]
  have eL:IntKind.wrap .u64 ((lo:Int)*((2 ^ s:Nat):Int))=((lo*2 ^ s%18446744073709551616:Nat):Int):=by rw[<- aw4,aD]; omega
  simp only[eY,eH,eU,eL,PF,rg];have hLlt:lo*2 ^ s%18446744073709551616<18446744073709551616:=axf _ (by decide);obtain⟨d1,d2⟩:=R5 (m:=hi*18446744073709551616+lo) (p:=0) (y:=y) (s:=s) (2 ^ s*hi+lo / 2 ^ (64 - s)) (lo*2 ^ s%18446744073709551616) 4294967296 _ _ _ (lo*2 ^ s%18446744073709551616 / 4294967296) (lo*2 ^ s%18446744073709551616%4294967296) _ _ (y*2 ^ s) rfl eT (by omega) rfl (by omega) rfl rfl rfl rfl rfl;rw[d1,d2];generalize y*2 ^ s=Y at *;generalize 2 ^ s*hi+lo / 2 ^ (64 - s)=u at *;generalize lo*2 ^ s%18446744073709551616=L at *;have hu1:L / 4294967296<4294967296:=by omega
  have hu0:L%4294967296<4294967296:=by omega
  have eL1:((L:Int) / 4294967296)=((L / 4294967296:Nat):Int):=by omega
  have ea:((Y:Int) / 4294967296)=((Y / 4294967296:Nat):Int):=by omega
  have eY2:Y=Y / 4294967296*4294967296+Y%4294967296:=by omega
  rw[eL1,ea];generalize hu1':L / 4294967296=u1 at *;generalize hu0':L%4294967296=u0 at *;have ha1:2147483648<=Y / 4294967296:=by omega
  have ha2:Y / 4294967296<4294967296:=by omega
  have hc:Y%4294967296<4294967296:=by omega
  generalize Y / 4294967296=a at *;generalize Y%4294967296=c at *;have a0:(!decide ((a:Int)=0))=true:=by simp; omega
  have hD':u<a*4294967296+c:=by omega
  have hY0':0<a*4294967296+c:=by omega
  rw[ae (awM (by omega)),ae (awM (by omega)),ae (awM (by omega)),ae (awM (by omega)),ae a0];have start:∀ v:Nat,v<18446744073709551616->IntKind.wrap .u64 (Int.tdiv (v:Int) (a:Int))=((v / a:Nat):Int)/\IntKind.wrap .u64 ((v:Int) - (IntKind.wrap .u64 (((v / a:Nat):Int)*(a:Int))))=((v%a:Nat):Int):=by
   intro v hv;have e1:Int.tdiv (v:Int) (a:Int)=((v / a:Nat):Int):=rfl;have h1:=ay7 v a;have h2:=ax9 v a;rw[e1,<- aw4];generalize v / a*a=P at *;generalize v / a=Q at *;generalize v%a=Z at *;constructor
   ·rw[aD]; omega
   ·rw[aD,aD]; omega
  obtain⟨g1,g2,g3,g4⟩:=EM ha1 ha2 hc hD' hu1;obtain⟨s1,s2⟩:=start u (by omega);rw[s1,s2,Mx ha2 hc hu1 hD' (λp=>ayf hY0') (Du hu1 hD') _ (u / a) (u%a) N (by omega) g1 g2 g3 g4];rw[ae a0];rw[<- eY2];have hY0:0<Y:=by omega
  have hR1:=axf (u*4294967296+u1) hY0;have hE1:=ax9 (u*4294967296+u1) Y;have e21:IntKind.wrap .u64 ((IntKind.wrap .u64 ((IntKind.wrap .u64 ((u:Int)*4294967296))+(u1:Int))) - (IntKind.wrap .u64 ((((u*4294967296+u1) / Y:Nat):Int)*(Y:Int))))=(((u*4294967296+u1)%Y:Nat):Int):=by rw[<- aw4];generalize (u*4294967296+u1) / Y*Y=P at *;rw[aD,aD,aD,aD]; omega
  simp only[e21];have hq1:(u*4294967296+u1) / Y<4294967296:=by rw[eY2]; exact Du hu1 hD'
  obtain⟨q1,hq1e⟩:∃ q,q=(u*4294967296+u1) / Y:=⟨_,rfl⟩
  obtain⟨R1,hR1e⟩:∃ q,q=(u*4294967296+u1)%Y:=⟨_,rfl⟩
  rw[<- hq1e,<- hR1e];rw[<- hq1e]at hq1;rw[<- hR1e]at hR1;have hD2:R1<a*4294967296+c:=by omega
  obtain⟨g1,g2,g3,g4⟩:=EM ha1 ha2 hc hD2 hu0;obtain⟨s1,s2⟩:=start R1 (by omega);rw[s1,s2,My ha2 hc hu0 hD2 (λp=>ayf hY0') (Du hu0 hD2) _ (R1 / a) (R1%a) N (by omega) g1 g2 g3 g4,<- eY2];rw[ae (awM (by omega))];have hR0:=axf (R1*4294967296+u0) hY0;have hE0:=ax9 (R1*4294967296+u0) Y;have hq0:(R1*4294967296+u0) / Y<4294967296:=by rw[eY2]; exact Du hu0 hD2
  have e20:IntKind.wrap .u64 ((IntKind.wrap .u64 ((IntKind.wrap .u64 ((R1:Int)*4294967296))+(u0:Int))) - (IntKind.wrap .u64 ((((R1*4294967296+u0) / Y:Nat):Int)*(Y:Int))))=(((R1*4294967296+u0)%Y:Nat):Int):=by
   rw[<- aw4];obtain⟨P,hP⟩:∃ q,q=(R1*4294967296+u0) / Y*Y:=⟨_,rfl⟩
   obtain⟨Z,hZ⟩:∃ q,q=(R1*4294967296+u0)%Y:=⟨_,rfl⟩
   rw[<- hP,<- hZ]at hE0;rw[<- hZ]at hR0;rw[<- hP,<- hZ];rw[aD,aD,aD,aD]; omega
  rw[e20,mQ];obtain⟨q0,hq0e⟩:∃ q,q=(R1*4294967296+u0) / Y:=⟨_,rfl⟩
  rw[<- hq0e]at hq0;rw[<- hq0e];congr 1;rw[aD,aD]; omega
theorem Qb (Q n m:Nat) (h:m<n):(List.replicate (m+1) (0:Int)++(dlq Q n).drop (m+1)).set m ((Q / 18446744073709551616 ^ m%18446744073709551616:Nat):Int)=List.replicate m 0++(dlq Q n).drop m:=by rw[ayT,aw8,List.singleton_append,dY _ _ _ _ _ (by simp),lU (n:=m) (by rw[ak]; exact h),wh Q h]
theorem HL {A d:Nat} (hd:0<d):(A / 18446744073709551616%d*18446744073709551616+A%18446744073709551616)%d=A%d/\(A / 18446744073709551616%d*18446744073709551616+A%18446744073709551616) / d=A / d%18446744073709551616:=by
 have h1:=axz A 18446744073709551616;have h2:=axz (A / 18446744073709551616) d;have h3:=axf (A / 18446744073709551616) hd;have h4:A%18446744073709551616<18446744073709551616:=axf _ (by decide);obtain⟨a,ha⟩:∃ a,a=A / 18446744073709551616:=⟨_,rfl⟩
 obtain⟨e,he⟩:∃ e,e=A%18446744073709551616:=⟨_,rfl⟩
 rw[<- ha]at h1 h2 h3 ⊢;rw[<- he]at h1 h4 ⊢;obtain⟨c,hc⟩:∃ c,c=a / d:=⟨_,rfl⟩
 obtain⟨r,hr⟩:∃ r,r=a%d:=⟨_,rfl⟩
 rw[<- hc,<- hr]at h2;rw[<- hr]at h3 ⊢;have h5:A=d*(c*18446744073709551616)+(r*18446744073709551616+e):=by rw[<- h1,<- h2,<- awW,axa,awR 18446744073709551616,awR 18446744073709551616]; omega
 constructor
 ·rw[h5,azr]
 ·rw[h5,azI hd,awR c,azr];refine(awV ?_).symm;rw[awY hd];have:=awU 18446744073709551616 h3;rw[ayJ]at this;rw[awR _ d,awR d];rw[awR d]at this;omega
theorem mW (x:Nat):x<18446744073709551616 ^ (af x).length:=by have:=lB (bA x); rwa [aK]at this
theorem SI {N:Nat} (hN:8589934592<=N) {x d:Nat} (hd0:0<d) (hd:d<18446744073709551616) (hs:oI N (af x)) (k:List Int->Int->Bool):W2 N (af x) (d:Int) k=k (af (x / d)) ((x%d:Nat):Int):=by
 unfold W2 abp;obtain⟨s1,s2⟩:=hs;have hx:=mW x;generalize hn:(af x).length=n at *;rw[ae (kV (by omega) (by omega) (by omega) (by omega)),ae awK,awS];refine cz (λi=>(((x / 18446744073709551616 ^ (n - i)%d:Nat):Int),((n:Int) - 1 - (i:Int)),List.replicate (n - i) (0:Int)++(dlq (x / d) n).drop (n - i))) n ?_ (by omega) (λi hi K=>?_) (λK=>?_)
 ·rw[azt,axl hx,Nat.zero_mod,axL (by rw[ak]; omega),axn];simp
 ·obtain⟨m,hm⟩:∃ m,n - i=m+1:=⟨n - i - 1,by omega⟩
  have hm2:n - (i+1)=m:=by omega
  have ei:(n:Int) - 1 - (i:Int)=(m:Int):=by omega
  have ei2:(n:Int) - 1 - ((i+1:Nat):Int)=(m:Int) - 1:=by omega
  have hp:x / 18446744073709551616 ^ (m+1)=x / 18446744073709551616 ^ m / 18446744073709551616:=by rw[awX,awZ]
  have hdg:x / d / 18446744073709551616 ^ m%18446744073709551616=x / 18446744073709551616 ^ m / d%18446744073709551616:=by rw[awZ,awZ,awR d]
  obtain⟨n1,n2⟩:=HL (A:=x / 18446744073709551616 ^ m) hd0;rw[hm,hm2,ei,ei2,hp];simp only[og,awS];have hl:(List.replicate (m+1) (0:Int)++(dlq (x / d) n).drop (m+1)).length=n:=by simp[ak]; omega
  rw[awM (by omega:(m:Int)>=0),awP,hn,ae awL,rf,Hj hN hd (axf _ (by decide)) (axf _ hd0),n1,n2,<- hdg,hl,ae awL,ae (awM (by omega)),ae awK,Qb _ _ _ (by omega)]
 ·simp only[og];have e0:(n:Int) - 1 - (n:Int) = -1:=by omega
  rw[e0,awN (by omega),awO,axu,ayO,ayX];rw[axD,ax3,ayc];have hq:x / d<18446744073709551616 ^ n:=ayF (ay7 _ _) hx;rw[nP _ (kN _ _) (by rw[ak]; omega) (by rw[ak]; omega) (λz=>k z ((x%d:Nat):Int)),pp hq]
theorem PV {P A B U3 V2 U V g:Nat} (hA:A<P) (hU:U=A+P*U3) (hV:V=B+P*V2) (hV0:0<V) (h:U3<g*V2):U / V<g:=by rw[awY hV0,hU,hV,axa,axm g P V2];have:=aw1 P h;rw[Nat.mul_succ]at this;omega
theorem adD {W P A B U V u0 u1 u2 v0 v1:Nat} (hA:A<P) (hU:U=A+P*(u0+W*(u2*W+u1))) (hV:V=B+P*(v0+W*v1)) (hV0:0<V) (hv1:0<v1) (hu0:u0<W):U / V<=(u2*W+u1) / v1:=by
 refine Nat.le_of_lt_succ (PV hA hU hV hV0 ?_);have h1:=Nat.lt_mul_div_succ (u2*W+u1) hv1;rw[awR v1]at h1;have h2:=aw1 W h1;rw[Nat.mul_succ]at h2;have e:((u2*W+u1) / v1).succ*(v0+W*v1)=((u2*W+u1) / v1).succ*v0+W*(((u2*W+u1) / v1+1)*v1):=by rw[axa,axm]
 rw[e];omega
theorem Mw {N:Nat} {o n u0 v0 v1 T d:Nat} {b c:List Int} (hn:2<=n) (hc1:c.getD (n - 2) 0=(v0:Int)) (hc2:c.getD (n - 1) 0=(v1:Int)) (hb:b.getD (o+(n - 2)) 0=(u0:Int)) (hcl:n<=c.length) (hbl:o+n+1<=b.length) (hbs:b.length<=1099511627780)
  (hv0:v0<18446744073709551616) (hv1:v1<18446744073709551616) (hu0:u0<18446744073709551616) (hd:∀ g,u0+18446744073709551616*T<g*(v0+18446744073709551616*v1)->d<g) :
  ∀ q r M,q<M->q<18446744073709551616->q*v1+r=T->r<18446744073709551616->d<=q ->
   ∃ g,d<=g/\g<18446744073709551616 /\ ∀ e0,al M (rM N (Ft N) (Fu N) (sQ5 N) o (n+1) 0 n (n:Int) b c e0) ((q:Int),(r:Int))=e0 (g:Int):=by
 intro q;induction q using Nat.strongRecOn with
 | ind q ih=>
 intro r M hM hq hT hr hdq;obtain⟨M,rfl⟩:∃ m,M=m+1:=⟨M - 1,by omega⟩
 have i2:0+Int.toNat ((n:Int) - 2)=n - 2:=by omega
 have i1:0+Int.toNat ((n:Int) - 1)=n - 1:=by omega
 have j2:o+Int.toNat ((n:Int) - 2)=o+(n - 2):=by omega
 have hqv:=axz (q*v0) 18446744073709551616;have hlo:q*v0%18446744073709551616<18446744073709551616:=axf _ (by decide);by_cases hex:q*v0<=r*18446744073709551616+u0
 ·refine⟨q,hdq,hq,λe0=>?_⟩;show rM N _ _ _ o (n+1) 0 n (n:Int) b c e0 ((q:Int),(r:Int)) (al M _)=_;simp only[rM,i2,i1,j2,hc1,hc2,hb];rw[ae awK,ae awL,ae (awM (by omega)),B5 N hq hv0];generalize q*v0%18446744073709551616=lo at *;generalize q*v0 / 18446744073709551616=hi at *;rcases ay_ hi r with h | h | h
  ·rw[awM (by omega:(hi:Int)<r),show(true==false)=false from rfl,awO]
  ·subst h;rw[awN (by omega:¬(hi:Int)<hi),show(false==false)=true from rfl,awP,show((hi:Int)==hi)=true by simp,show(true==true)=true from rfl,awP,ae awK,ae awL,ae (awM (by omega)),awM (by omega:(lo:Int)<=u0),awP]
  ·exfalso; omega
 ·have hgt:=hd q (by rw[axa,axm,<- hT]; rw[axa]; omega);obtain⟨p,rfl⟩:∃ p,q=p+1:=⟨q - 1,by omega⟩
  have w1:IntKind.wrap .u64 (((p+1:Nat):Int) - 1)=(p:Int):=by rw[aD]; omega
  have step:∀ e0:Int->Bool,al (M+1) (rM N (Ft N) (Fu N) (sQ5 N) o (n+1) 0 n (n:Int) b c e0) (((p+1:Nat):Int),(r:Int))
    = cond (decide (18446744073709551616<=r+v1)) (e0 (p:Int)) (al M (rM N (Ft N) (Fu N) (sQ5 N) o (n+1) 0 n (n:Int) b c e0) ((p:Int),((r+v1:Nat):Int))):=by
   intro e0;show rM N _ _ _ o (n+1) 0 n (n:Int) b c e0 (((p+1:Nat):Int),(r:Int)) (al M _)=_;simp only[rM,i2,i1,j2,hc1,hc2,hb];have tail:(au .i64 ((n:Int) - 1)&&((inR ((n:Int) - 1) n)&&((decide (n - 1<c.length))&&(sQ5 N (r:Int) (v1:Int) 0 (λ(anB:Int) (n5:Int)=>(cond (n5 != 0) (e0 (IntKind.wrap .u64 (((p+1:Nat):Int) - 1))) (al M (rM N (Ft N) (Fu N) (sQ5 N) o (n+1) 0 n (n:Int) b c e0) ((IntKind.wrap .u64 (((p+1:Nat):Int) - 1)),anB))))))))
     = cond (decide (18446744073709551616<=r+v1)) (e0 (p:Int)) (al M (rM N (Ft N) (Fu N) (sQ5 N) o (n+1) 0 n (n:Int) b c e0) ((p:Int),((r+v1:Nat):Int))):=by
    rw[ae awK,ae awL,ae (awM (by omega)),qP N (c:=0) (a:=r) (b:=v1) (d:=0) rfl rfl rfl (by omega),w1];by_cases hb2:18446744073709551616<=r+v1
    ·have:(((r+v1+0) / 18446744073709551616:Nat):Int)=1:=by omega
     rw[this,awM hb2]; rfl
    ·have:(((r+v1+0) / 18446744073709551616:Nat):Int)=0:=by omega
     have e2:(r+v1+0)%18446744073709551616=r+v1:=by omega
     rw[this,e2,awN hb2]; rfl
   rw[ae awK,ae awL,ae (awM (by omega)),B5 N hq hv0];generalize (p+1)*v0%18446744073709551616=lo at *;generalize (p+1)*v0 / 18446744073709551616=hi at *;rcases ay_ hi r with h | h | h
   ·exfalso; omega
   ·subst h;rw[awN (by omega:¬(hi:Int)<hi),show(false==false)=true from rfl,awP,show((hi:Int)==hi)=true by simp,show(true==true)=true from rfl,awP,ae awK,ae awL,ae (awM (by omega)),awN (by omega:¬(lo:Int)<=u0),awO];exact tail
   ·rw[awN (by omega:¬(hi:Int)<r),show(false==false)=true from rfl,awP,show((hi:Int)==r)=false by simp; omega,show(false==true)=false from rfl,awO];exact tail
  by_cases hb2:18446744073709551616<=r+v1
  ·exact⟨p,by omega,by omega,λe0=>by rw[step,awM hb2,awP]⟩
  ·obtain⟨g,g1,g2,g3⟩:=ih p (by omega) (r+v1) M (by omega) (by omega) (by rw[<- hT,ayJ]; omega) (by omega) (by omega);exact⟨g,g1,g2,λe0=>by rw[step,awN hb2,awO]; exact g3 e0⟩
theorem xB {b:List Int} (o i:Nat):(b.drop o).getD i 0=b.getD (o+i) 0:=by rw[List.getD_eq_getElem?_getD,List.getD_eq_getElem?_getD,List.getElem?_drop]
theorem ak6 (c:List Int) (m:Nat):ar (c.take (m+3))=ar (c.take m)+18446744073709551616 ^ m*((c.getD m 0).toNat+18446744073709551616*((c.getD (m+2) 0).toNat*18446744073709551616+(c.getD (m+1) 0).toNat)):=by rw[show m+3=m+2+1 by omega,aY,show m+2=m+1+1 by omega,aY,aY];simp only[awX];generalize 18446744073709551616 ^ m=P;grind
theorem ak5 (c:List Int) (m:Nat):ar (c.take (m+2))=ar (c.take m)+18446744073709551616 ^ m*((c.getD m 0).toNat+18446744073709551616*(c.getD (m+1) 0).toNat):=by rw[show m+2=m+1+1 by omega,aY,aY];simp only[awX];generalize 18446744073709551616 ^ m=P;grind
theorem SE {N:Nat} (hN:1180591620717411303424<=N) {o n:Nat} {b c:List Int} (hn:2<=n) (hb:InWq b) (hc:InWq c) (hcl:n<=c.length) (hbl:o+n+1<=b.length) (hbs:b.length<=1099511627780)
  (htop:0<(c.getD (n - 1) 0).toNat) (hU:ar ((b.drop o).take (n+1))<ar (c.take n)*18446744073709551616) :
  ∃ g:Nat,ar ((b.drop o).take (n+1)) / ar (c.take n)<=g/\g<18446744073709551616 /\ ∀ k,WS N o (n+1) 0 n b c k=k (g:Int):=by
 obtain⟨m,rfl⟩:∃ m,n=m+2:=⟨n - 2,by omega⟩
 have hU3:=ak6 (b.drop o) m;have hV2:=ak5 c m;rw[xB,xB,xB]at hU3;have a0:=hb.at (i:=o+m);have a1:=hb.at (i:=o+(m+1));have a2:=hb.at (i:=o+(m+2));have c0:=hc.at (i:=m);have c1:=hc.at (i:=m+1);have hA:=be (hb.drop o) m;have hB:=be hc m;rw[show m+2 - 1=m+1 by omega]at htop;obtain⟨u0,hu0⟩:∃ u,u=(b.getD (o+m) 0).toNat:=⟨_,rfl⟩
 obtain⟨u1,hu1⟩:∃ u,u=(b.getD (o+(m+1)) 0).toNat:=⟨_,rfl⟩
 obtain⟨u2,hu2⟩:∃ u,u=(b.getD (o+(m+2)) 0).toNat:=⟨_,rfl⟩
 obtain⟨v0,hv0⟩:∃ u,u=(c.getD m 0).toNat:=⟨_,rfl⟩
 obtain⟨v1,hv1⟩:∃ u,u=(c.getD (m+1) 0).toNat:=⟨_,rfl⟩
 have g0:b.getD (o+m) 0=(u0:Int):=by omega
 have g1:b.getD (o+(m+1)) 0=(u1:Int):=by omega
 have g2:b.getD (o+(m+2)) 0=(u2:Int):=by omega
 have k0:c.getD m 0=(v0:Int):=by omega
 have k1:c.getD (m+1) 0=(v1:Int):=by omega
 rw[<- hu0,<- hu1,<- hu2]at hU3;rw[<- hv0,<- hv1]at hV2;rw[<- hv1]at htop;rw[show m+2+1=m+3 by omega];rw[show m+2+1=m+3 by omega]at hU;generalize ar ((b.drop o).take (m+3))=U at *;generalize ar (c.take (m+2))=V at *;have hV0:0<V:=by
  rcases ayh V with h | h
  ·rw[h,axF]at hU; omega
  ·exact h
 have hq:U / V<18446744073709551616:=by rw[awY hV0,awR]; exact hU
 have i2:o+Int.toNat (((m+2:Nat):Int))=o+(m+2):=by omega
 have i1:o+Int.toNat (((m+2:Nat):Int) - 1)=o+(m+1):=by omega
 have j1:0+Int.toNat (((m+2:Nat):Int) - 1)=m+1:=by omega
 by_cases h0:v1<=u2
 ·refine⟨18446744073709551615,by omega,by omega,λk=>?_⟩;unfold WS TT;simp only[i2,i1,j1,g2,g1,k1];rw[ae awL,ae (awM (by omega)),ae awK,ae awL,ae (awM (by omega)),awM (by omega:(u2:Int)>=v1),awP];rfl
 ·have hT:(u2*18446744073709551616+u1) / v1<18446744073709551616:=by rw[awY htop];have:=aw1 18446744073709551616 (Nat.lt_of_not_le h0);rw[Nat.mul_succ]at this;omega
  obtain⟨g,e1,e2,e3⟩:=Mw (N:=N) (o:=o) (n:=m+2) (T:=u2*18446744073709551616+u1) (d:=U / V) (u0:=u0) (v0:=v0) (v1:=v1) (by omega) (by rw[show m+2 - 2=m by omega]; exact k0) (by rw[show m+2 - 1=m+1 by omega]; exact k1) (by rw[show m+2 - 2=m by omega]; exact g0) hcl hbl hbs (by omega) (by omega) (by omega)
   (λg hg=>PV hA hU3 hV2 hV0 hg)
   ((u2*18446744073709551616+u1) / v1) ((u2*18446744073709551616+u1)%v1) N (by omega) hT (ax9 _ _) (ayP (axf _ htop) (by omega)) (adD hA hU3 hV2 hV0 htop (by omega))
  refine⟨g,e1,e2,λk=>?_⟩;unfold WS TT;simp only[i2,i1,j1,g2,g1,k1];rw[ae awL,ae (awM (by omega)),ae awK,ae awL,ae (awM (by omega)),awN (by omega:¬(u2:Int)>=v1),awO];rw[ae awL,ae (awM (by omega)),ae awK,ae awL,ae (awM (by omega)),ae awK,ae awL,ae (awM (by omega))];rw[Hj (by omega) (by omega) (by omega) (by omega),e3]
theorem Rq {b:List Int} {o i:Nat} (D:Nat) (h:o+i<=b.length):(b.take o++(dlq D i++b.drop (o+i))).length=b.length:=by simp[ak]; omega
theorem Rp {b:List Int} {o i:Nat} (D:Nat) (h:o+i<b.length):(b.take o++(dlq D i++b.drop (o+i))).getD (o+i) 0=b.getD (o+i) 0:=by rw[<- aw8,lU h,iB (by simp[ak]; omega)]
theorem Rr {b:List Int} {o i:Nat} (D:Nat) (h:o+i<b.length):(b.take o++(dlq D i++b.drop (o+i))).set (o+i) ((D / 18446744073709551616 ^ i%18446744073709551616:Nat):Int)=b.take o++(dlq D (i+1)++b.drop (o+(i+1))):=by rw[<- aw8,lU h,dY _ _ _ _ _ (by simp[ak]; omega),dlq];simp[axo]
theorem Rn {b:List Int} {o i n:Nat} (D E:Nat) (hi:i<=n) (h:o+n<=b.length):(b.take o++(dlq E i++((dlq D n).drop i++b.drop (o+n)))).length=b.length:=by simp[ak]; omega
theorem Rm {b:List Int} {o i n:Nat} (D E:Nat) (hi:i<n) (h:o+n<=b.length):(b.take o++(dlq E i++((dlq D n).drop i++b.drop (o+n)))).getD (o+i) 0=((D / 18446744073709551616 ^ i%18446744073709551616:Nat):Int):=by rw[<- aw8,lU (n:=i) (by rw[ak]; exact hi),ayC,iB (by simp[ak]; omega),wh D hi]
theorem Ro {b:List Int} {o i n:Nat} (D E:Nat) (hi:i<n) (h:o+n<=b.length):(b.take o++(dlq E i++((dlq D n).drop i++b.drop (o+n)))).set (o+i) ((E / 18446744073709551616 ^ i%18446744073709551616:Nat):Int)=b.take o++(dlq E (i+1)++((dlq D n).drop (i+1)++b.drop (o+n))):=by rw[<- aw8,lU (n:=i) (by rw[ak]; exact hi),ayC,dY _ _ _ _ _ (by simp[ak]; omega),dlq];simp
theorem PP {m:Nat} (S X:Nat):∀ n,n<=m->dlq (S+18446744073709551616 ^ m*X) n=dlq S n
 | 0,_=>rfl
 | n+1,h=>by rw[dlq,dlq,PP S X n (by omega)];congr 3;refine lT (R:=18446744073709551616 ^ (m - (n+1))*X) ?_;rw[<- awW,<- aw2,show n+1+(m - (n+1))=m by omega]
theorem HM {w:List Int} {n i U Q:Nat} (hw:InWq w) (hl:w.length=n+1) (hU:U=ar w) (hi:i<=n) (hQ:Q<18446744073709551616 ^ (n+1)) :
  (((w.getD i 0).toNat+18446744073709551616 - Q / 18446744073709551616 ^ i%18446744073709551616 - (if ar (w.take i)<Q%18446744073709551616 ^ i then 1 else 0))%18446744073709551616=(U+18446744073709551616 ^ (n+1) - Q) / 18446744073709551616 ^ i%18446744073709551616)
  /\ (if (w.getD i 0).toNat<Q / 18446744073709551616 ^ i%18446744073709551616+(if ar (w.take i)<Q%18446744073709551616 ^ i then 1 else 0)then 1 else 0)=(if ar (w.take (i+1))<Q%18446744073709551616 ^ (i+1)then 1 else(0:Nat)):=by
 have hx:=hw.at (i:=i);have hA:=aY (m:=w) i;have hAl:=be hw i;have hp:=bI i;have hBl:=axf Q hp;have hPs:18446744073709551616 ^ (i+1)=18446744073709551616 ^ i*18446744073709551616:=awX ..;have hmm:Q%18446744073709551616 ^ (i+1)=Q%18446744073709551616 ^ i+18446744073709551616 ^ i*(Q / 18446744073709551616 ^ i%18446744073709551616):=by rw[hPs,azL]
 have hyl:Q / 18446744073709551616 ^ i%18446744073709551616<18446744073709551616:=axf _ (by decide);constructor
 ·obtain⟨R1,h1⟩:=dg w (i+1);have hW:18446744073709551616 ^ (n+1)=18446744073709551616 ^ i*18446744073709551616*18446744073709551616 ^ (n - i):=by rw[<- hPs,<- aw2,show i+1+(n - i)=n+1 by omega]
  have hq:=G6 (D:=U+18446744073709551616 ^ (n+1) - Q) (a:=U+18446744073709551616 ^ (n+1)) (b:=Q) (x:=(w.getD i 0).toNat) (y:=Q / 18446744073709551616 ^ i%18446744073709551616) (R1:=R1+18446744073709551616 ^ (n - i)) (R2:=Q / (18446744073709551616 ^ i*18446744073709551616)) hAl hBl rfl
   (by rw[hU,h1,hA,hW,hPs,axa]; omega)
   (by rw[<- hmm,hPs]; exact(azH _ _).symm)
   (by omega)
  generalize (U+18446744073709551616 ^ (n+1) - Q) / 18446744073709551616 ^ i=Z at *;generalize Q / 18446744073709551616 ^ i%18446744073709551616=y at *;generalize (w.getD i 0).toNat=x at *;generalize ((R1+18446744073709551616 ^ (n - i):Nat):Int) - ((Q / (18446744073709551616 ^ i*18446744073709551616):Nat):Int)=RR at *;split at hq <;> rename_i hh <;> simp only[hh,ax5,axc] <;> omega
 ·rw[hA,hmm];exact(vX _ _ _ _ _ hAl hBl).symm
theorem KL (i:Nat):(i:Int)+1=((i+1:Nat):Int):=rfl
theorem JC (p:Prop) [Decidable p]:(if p then(1:Int)else 0)=((if p then 1 else 0:Nat):Int):=by split <;> rfl
theorem ZR (p:Nat) (h:p<18446744073709551616):IntKind.wrap .u64 (((p+1:Nat):Int) - 1)=(p:Int):=by rw[aD]; omega
theorem GX {D V c v i:Nat} (hc:c=(D%18446744073709551616 ^ i+V) / 18446744073709551616 ^ i) :
  (D%18446744073709551616 ^ (i+1)+(V+18446744073709551616 ^ i*v)) / 18446744073709551616 ^ (i+1)=(D / 18446744073709551616 ^ i%18446744073709551616+v+c) / 18446744073709551616 /\
  ∀ R,(D+(V+18446744073709551616 ^ i*v+18446744073709551616 ^ (i+1)*R)) / 18446744073709551616 ^ i%18446744073709551616=(D / 18446744073709551616 ^ i%18446744073709551616+v+c)%18446744073709551616:=by
 have hp:=bI i;have hPs:18446744073709551616 ^ (i+1)=18446744073709551616 ^ i*18446744073709551616:=awX ..;have hmm:D%18446744073709551616 ^ (i+1)=D%18446744073709551616 ^ i+18446744073709551616 ^ i*(D / 18446744073709551616 ^ i%18446744073709551616):=by rw[hPs,azL]
 have e:D%18446744073709551616 ^ (i+1)+(V+18446744073709551616 ^ i*v)=(D%18446744073709551616 ^ i+V)+18446744073709551616 ^ i*(D / 18446744073709551616 ^ i%18446744073709551616+v):=by rw[hmm,axa]; omega
 have e2:(D%18446744073709551616 ^ (i+1)+(V+18446744073709551616 ^ i*v)) / 18446744073709551616 ^ i=D / 18446744073709551616 ^ i%18446744073709551616+v+c:=by rw[e,ge,<- hc]; omega
 constructor
 ·rw[hPs,<- awZ,<- hPs,e2]
 ·intro R;have e3:D+(V+18446744073709551616 ^ i*v+18446744073709551616 ^ (i+1)*R)=(D%18446744073709551616 ^ (i+1)+(V+18446744073709551616 ^ i*v))+18446744073709551616 ^ (i+1)*(D / 18446744073709551616 ^ (i+1)+R):=by have:=azH D (18446744073709551616 ^ (i+1));rw[axa]; omega
  rw[lT e3,e2]
theorem LM {D V c i:Nat} (hc:c=(D%18446744073709551616 ^ i+V) / 18446744073709551616 ^ i) :
  (D%18446744073709551616 ^ (i+1)+V) / 18446744073709551616 ^ (i+1)=(D / 18446744073709551616 ^ i%18446744073709551616+0+c) / 18446744073709551616 /\
  (D+V) / 18446744073709551616 ^ i%18446744073709551616=(D / 18446744073709551616 ^ i%18446744073709551616+0+c)%18446744073709551616:=by
 obtain⟨a1,a2⟩:=GX (v:=0) hc;have a3:=a2 0;rw[ax8,axb V]at a1;rw[ax8,ax8,axb V]at a3;exact⟨a1,a3⟩
theorem RS {N:Nat} (hN:1180591620717411303424<=N) {o n U V d:Nat} {b c:List Int} (hn:1<=n) (hc:InWq c) (hcl:n<=c.length) (hbl:o+(n+1)<=b.length) (hbs:b.length<=1099511627780) (hV:V=ar (c.take n)) (hUW:U<18446744073709551616 ^ (n+1)) (hd:∀ g,g<=d↔g*V<=U) {Sg:Cr} {Sf:oD} {Ss:yQ} (e0:Int->List Int->Bool) :
  ∀ g M,g<M->g<18446744073709551616->d<=g->g*V<18446744073709551616 ^ (n+1) ->
   al M (w9 N Sg Sf Ss (sQ5 N) o (n+1) 0 n (n:Int) c e0) ((g:Int),((if U<g*V then 1 else 0:Nat):Int),b.take o++(dlq (U+18446744073709551616 ^ (n+1) - g*V) (n+1)++b.drop (o+(n+1))))=e0 (d:Int) (b.take o++(dlq (U+18446744073709551616 ^ (n+1) - d*V) (n+1)++b.drop (o+(n+1)))):=by
 intro g;induction g with
 | zero=>
  intro M hM _ hdg _;obtain⟨M,rfl⟩:∃ m,M=m+1:=⟨M - 1,by omega⟩
  have:d=0:=by omega
  subst this;show w9 N Sg Sf Ss _ o (n+1) 0 n (n:Int) c e0 (_,_,_) (al M _)=_;simp only[w9,axF];rw[if_neg (by omega:¬ U<0),show(((0:Nat):Int) != 0)=false from rfl,awO]
 | succ p ih=>
  intro M hM hg hdg hgW;obtain⟨M,rfl⟩:∃ m,M=m+1:=⟨M - 1,by omega⟩
  show w9 N Sg Sf Ss _ o (n+1) 0 n (n:Int) c e0 (_,_,_) (al M _)=_;have hps:(p+1)*V=p*V+V:=ayJ _ _;by_cases hlt:U<(p+1)*V
  ·have hdp:d<=p:=by
    rcases axY p d with h | h
    ·have:=(hd (p+1)).1 h; omega
    ·exact h
   simp only[w9];rw[if_pos hlt,show(((1:Nat):Int) != 0)=true from rfl,awP];obtain⟨D,hD⟩:∃ D,D=U+18446744073709551616 ^ (n+1) - (p+1)*V:=⟨_,rfl⟩
   obtain⟨E,hE⟩:∃ E,E=U+18446744073709551616 ^ (n+1) - p*V:=⟨_,rfl⟩
   have hDE:E=D+V:=by omega
   have hDl:D<18446744073709551616 ^ (n+1):=by omega
   rw[<- hD];refine cz (λi=>((((D%18446744073709551616 ^ i+ar (c.take i)) / 18446744073709551616 ^ i:Nat):Int),(i:Int),b.take o++(dlq E i++((dlq D (n+1)).drop i++b.drop (o+(n+1)))))) n ?_ (by omega) (λi hi K=>?_) (λK=>?_)
   ·simp[dlq,ar,azA]
   ·have hx:=hc.at (i:=i);have hcv:=aY (m:=c) i;have hVl:=be hc i;have hp:=bI i;have hml:=axf D hp;obtain⟨cy,hcy⟩:∃ cy,cy=(D%18446744073709551616 ^ i+ar (c.take i)) / 18446744073709551616 ^ i:=⟨_,rfl⟩
    have hcl1:cy<=1:=by
     have:cy<2:=by rw[hcy,awY hp]; omega
     omega
    obtain⟨a1,a2⟩:=GX (D:=D) (V:=ar (c.take i)) (v:=(c.getD i 0).toNat) hcy;obtain⟨R,hR⟩:=dg (c.take n) (i+1);rw[List.take_take,axU (by omega),<- hV,hcv]at hR;have a3:=a2 R;rw[<- hR,<- hDE]at a3;have hdl:D / 18446744073709551616 ^ i%18446744073709551616<18446744073709551616:=axf _ (by decide);simp only[IV,awS,axe];rw[Rn D E (by omega) (by omega),Rm D E (by omega) (by omega)];rw[awM (by omega:(i:Int)<n),awP,ae awL,ae (awM (by omega)),ae awL,ae (awM (by omega)),<- hcy,
     qP N (a:=D / 18446744073709551616 ^ i%18446744073709551616) (b:=(c.getD i 0).toNat) (d:=cy) rfl (by omega) rfl hcl1,ae awL,ae (awM (by omega)),ae awK,<- a3,Ro D E (by omega) (by omega),<- a1,hcv,KL]
   ·have hp:=bI n;have hml:=axf D hp;have hVl:V<18446744073709551616 ^ n:=by rw[hV]; exact be hc n
    obtain⟨cy,hcy⟩:∃ cy,cy=(D%18446744073709551616 ^ n+V) / 18446744073709551616 ^ n:=⟨_,rfl⟩
    have hcl1:cy<=1:=by
     have:cy<2:=by rw[hcy,awY hp]; omega
     omega
    obtain⟨a1,a3⟩:=LM (D:=D) (V:=V) (i:=n) hcy;rw[awV hDl,<- hDE]at a1;rw[<- hDE]at a3;simp only[IV,awS];rw[awN (by omega:¬(n:Int)<n),awO,Rn D E (by omega) (by omega),Rm D E (by omega) (by omega),<- hV,<- hcy,ae awL,ae (awM (by omega)),
     qP N (y:=0) (c:=((cy:Nat):Int)) (a:=D / 18446744073709551616 ^ n%18446744073709551616) (b:=0) (d:=cy) rfl rfl rfl hcl1,ae awL,ae (awM (by omega)),<- a3,<- a1,Ro D E (by omega) (by omega),ZR p (by omega)]
    rw[axL (by rw[ak]; omega),ax3];have eb:IntKind.wrap .u64 (((1:Nat):Int) - ((E / 18446744073709551616 ^ (n+1):Nat):Int))=((if U<p*V then 1 else 0:Nat):Int):=by
     have hp1:=bI (n+1);by_cases h:U<p*V
     ·rw[if_pos h,axl (by omega),aD]; omega
     ·rw[if_neg h];have:E / 18446744073709551616 ^ (n+1)=1:=by refine Nat.div_eq_of_lt_le ?_ ?_ <;> omega
      rw[this,aD]; omega
    rw[eb,hE];exact ih M (by omega) (by omega) hdp (by omega)
  ·have:d=p+1:=by have:=(hd (p+1)).2 (by omega);omega
   subst this;simp only[w9];rw[if_neg hlt,show(((0:Nat):Int) != 0)=false from rfl,awO]
theorem Wl {N:Nat} (hN:1180591620717411303424<=N) {o n:Nat} {b c:List Int} (hn:2<=n) (hb:InWq b) (hc:InWq c) (hcl:n<=c.length) (hbl:o+(n+1)<=b.length) (hbs:b.length<=1099511627780)
  (htop:0<(c.getD (n - 1) 0).toNat) (hU:ar ((b.drop o).take (n+1))<ar (c.take n)*18446744073709551616) (k:Ky5) :
  aec N o (n+1) 0 n b c k=k ((ar ((b.drop o).take (n+1)) / ar (c.take n):Nat):Int) (b.take o++(dlq (ar ((b.drop o).take (n+1))%ar (c.take n)) (n+1)++b.drop (o+(n+1)))):=by
 obtain⟨g,g1,g2,g3⟩:=SE hN hn hb hc hcl (by omega) hbs htop hU;unfold aec aa2;rw[g3];have hw:InWq ((b.drop o).take (n+1)):=(hb.drop o).take _;have hwl:((b.drop o).take (n+1)).length=n+1:=by rw[axv,ayk]; omega
 have hwg:∀ i,i<=n->((b.drop o).take (n+1)).getD i 0=b.getD (o+i) 0:=λi hi=>by rw[He (by omega),xB]
 generalize (b.drop o).take (n+1)=w at *;obtain⟨U,hUe⟩:∃ U,U=ar w:=⟨_,rfl⟩
 obtain⟨V,hVe⟩:∃ V,V=ar (c.take n):=⟨_,rfl⟩
 rw[<- hUe,<- hVe]at hU g1 ⊢;have hV0:0<V:=by
  rcases ayh V with h | h
  ·rw[h,axF]at hU; omega
  ·exact h
 have hVl:V<18446744073709551616 ^ n:=by rw[hVe]; exact be hc n
 have hUW:U<18446744073709551616 ^ (n+1):=by rw[hUe]; have:=lB hw; rwa [hwl]at this
 have hgV:g*V<18446744073709551616 ^ (n+1):=by rw[awX,awR];exact ays hVl g2
 have hres:b.take o++(dlq (U%V) (n+1)++b.drop (o+(n+1)))=b.take o++(dlq (U+18446744073709551616 ^ (n+1) - (U / V)*V) (n+1)++b.drop (o+(n+1))):=by
  have e:U+18446744073709551616 ^ (n+1) - (U / V)*V=U%V+18446744073709551616 ^ (n+1)*1:=by have:=ax9 U V;omega
  rw[e,PP _ _ _ (awT _)]
 rw[hres];obtain⟨D,hD⟩:∃ D,D=U+18446744073709551616 ^ (n+1) - g*V:=⟨_,rfl⟩
 obtain⟨Q,hQ⟩:∃ Q,Q=g*V:=⟨_,rfl⟩
 have hQW:Q<18446744073709551616 ^ (n+1):=by rw[hQ]; exact hgV
 refine cz (λi=>(((g*ar (c.take i) / 18446744073709551616 ^ i:Nat):Int),((if ar (w.take i)<Q%18446744073709551616 ^ i then 1 else 0:Nat):Int),(i:Int),b.take o++(dlq D i++b.drop (o+i)))) n ?_ (by omega) (λi hi K=>?_) (λK=>?_)
 ·simp[dlq,ar,azA]
 ·have hx:=hb.at (i:=o+i);have hy:=hc.at (i:=i);have hcv:=aY (m:=c) i;have hp:=bI i;have hVi:=be hc i;obtain⟨s1,s2⟩:=HM hw hwl hUe (by omega:i<=n) (by rw[hQ]; exact hgV:Q<_);rw[hwg i (by omega)]at s1 s2;rw[hQ,<- hD,<- hQ]at s1;obtain⟨cy,hcy⟩:∃ cy,cy=g*ar (c.take i) / 18446744073709551616 ^ i:=⟨_,rfl⟩
  have hcyl:cy<18446744073709551616:=by rw[hcy,awY hp];exact ays g2 hVi
  have e1:g*ar (c.take (i+1))=g*ar (c.take i)+18446744073709551616 ^ i*(g*(c.getD i 0).toNat):=by rw[hcv,axa,axm g]
  have ecy:g*ar (c.take (i+1)) / 18446744073709551616 ^ (i+1)=(g*(c.getD i 0).toNat+0+cy) / 18446744073709551616:=by rw[awX,<- awZ,e1,ge,<- hcy];congr 1; omega
  obtain⟨R,hR⟩:=dg (c.take n) (i+1);rw[List.take_take,axU (by omega),<- hVe]at hR;have elo:Q / 18446744073709551616 ^ i%18446744073709551616=(g*(c.getD i 0).toNat+0+cy)%18446744073709551616:=by
   have:Q=g*ar (c.take (i+1))+18446744073709551616 ^ (i+1)*(g*R):=by rw[hQ,hR,axa,axm g]
   rw[lT this,e1,ge,<- hcy];congr 1; omega
  simp only[IU,awS,axe];rw[Rq D (by omega),Rp D (by omega),awM (by omega:(i:Int)<n),awP,ae awL,ae (awM (by omega)),<- hcy,
   E8 N (c:=0) (a:=g) (b:=(c.getD i 0).toNat) (e:=0) (f:=cy) rfl (by omega) rfl rfl g2 (by omega) (by omega) hcyl,ae awL,ae (awM (by omega)),<- elo,<- ecy,
   B6 N (a:=(b.getD (o+i) 0).toNat) (b:=Q / 18446744073709551616 ^ i%18446744073709551616) (d:=if ar (w.take i)<Q%18446744073709551616 ^ i then 1 else 0) (by omega) rfl rfl (by split <;> omega),ae awL,ae (awM (by omega)),ae awK,s1,Rr D (by omega)]
  have s3:(if (b.getD (o+i) 0).toNat<Q / 18446744073709551616 ^ i%18446744073709551616+(if ar (w.take i)<Q%18446744073709551616 ^ i then 1 else 0)then(1:Int)else 0)=((if ar (w.take (i+1))<Q%18446744073709551616 ^ (i+1)then 1 else 0:Nat):Int):=by rw[JC,s2]
  rw[s3];rfl
 ·have hx:=hb.at (i:=o+n);obtain⟨s1,s2⟩:=HM hw hwl hUe (awT n) (by rw[hQ]; exact hgV:Q<_);rw[hwg n (by omega)]at s1 s2;rw[hQ,<- hD,<- hQ]at s1;have hql:Q / 18446744073709551616 ^ n<18446744073709551616:=by rw[awY (bI n),awR,<- awX,hQ]; exact hgV
  rw[awV hql]at s1 s2;have hwt:w.take (n+1)=w:=axd (by omega);rw[hwt,<- hUe,awV hQW]at s2;simp only[IU,awS];rw[awN (by omega:¬(n:Int)<n),awO,<- hVe,<- hQ,Rq D (by omega),Rp D (by omega),ae awL,ae (awM (by omega)),
   B6 N (a:=(b.getD (o+n) 0).toNat) (b:=Q / 18446744073709551616 ^ n) (d:=if ar (w.take n)<Q%18446744073709551616 ^ n then 1 else 0) (by omega) rfl rfl (by split <;> omega),ae awL,ae (awM (by omega)),s1,Rr D (by omega)]
  have s3:(if (b.getD (o+n) 0).toNat<Q / 18446744073709551616 ^ n+(if ar (w.take n)<Q%18446744073709551616 ^ n then 1 else 0)then(1:Int)else 0)=((if U<g*V then 1 else 0:Nat):Int):=by rw[<- hQ,JC,s2]
  rw[s3,hD];exact RS hN (by omega) hc hcl hbl hbs hVe hUW (λp=>ayf hV0) _ g N (by omega) g2 g1 hgV
theorem MM {N:Nat} (b:List Int) (m:Nat) (hm:m<=b.length) (hN:m<N) (hs:m<9223372036854775807) (k:Ky9):aeg N 0 m b k=k (fM b m):=by
 unfold aeg abc;have key:∀ n,n<=m -> ∀ M,n<M->al M (zC N 0 m b λn_1=>((decide (0<=n_1/\n_1<=((m:Nat):Int)))&&(k ((Int.toNat n_1) - 0)))) (n:Int)=k (fM b n):=by
  intro n;induction n with
  | zero=>
   intro _ M hM;obtain⟨M,rfl⟩:∃ m,M=m+1:=⟨M - 1,by omega⟩
   show zC N 0 m b _ ((0:Nat):Int) _=_;simp only[zC,fM];rw[awN (by omega:¬((0:Nat):Int)>0),show(false==true)=false from rfl,awO,awM (by omega),axB];rfl
  | succ n ih=>
   intro hn M hM;obtain⟨M,rfl⟩:∃ m,M=m+1:=⟨M - 1,by omega⟩
   show zC N 0 m b _ ((n+1:Nat):Int) (al M _)=_;have e:0+Int.toNat (((n+1:Nat):Int) - 1)=n:=by omega
   have e2:((n+1:Nat):Int) - 1=(n:Int):=by omega
   simp only[zC,e];rw[awM (by omega:((n+1:Nat):Int)>0),show(true==true)=true from rfl,awP,ae awK,ae awL,ae (awM (by omega)),ae awK,e2,ih (by omega) M (by omega),wc];by_cases h0:b.getD n 0=0
   ·have:(b.getD n 0==0)=true:=by simpa using h0
    rw[this,if_pos h0]; rfl
   ·have:(b.getD n 0==0)=false:=by simpa using h0
    rw[this,if_neg h0,awO,awM (by omega),axB];rfl
 exact key m (awT _) N hN
theorem CO (N:Nat) (b:List Int) (m i:Nat) (hm:m<=b.length) (hi:i<9223372036854775807) (k:Ky8):aek N 0 m (i:Int) b k=k ((b.take m).getD i 0):=by
 unfold aek abk;by_cases h:i<m
 ·rw[awM (by omega),awP,ae awL,ae (awM (by omega)),He h];simp
 ·rw[awN (by omega),awO,lX (by rw[axv]; omega)]
theorem KE {N:Nat} (b:List Int) (hb:InWq b) (m s:Nat) (hm:m<=b.length) (hs:s<64) (hN:m+3<N) (hms:m<=1099511627780):∃ lost:Bool,∀ k,WY N 0 m (s:Int) b k=k (af (ar (b.take m) / 2 ^ s)) lost:=by
 have ew:IntKind.wrap .u64 (Int.tdiv (s:Int) 64)=0:=by rw[aD,ax0 (by omega)]; omega
 have es:Int.tmod (s:Int) 64=(s:Int):=by rw[axS (by omega)]; omega
 have eml:IntKind.wrap .u64 ((m:Nat):Int)=(m:Int):=by rw[aD]; omega
 have hs0:0<2 ^ s:=aw0 _;by_cases h0:m=0
 ·subst h0;refine⟨false,λk=>?_⟩;unfold WY TU;rw[ew,azd,show ar []=0 from rfl,Nat.zero_div,bT];rfl
 ·refine⟨az .and .u64 (b.getD 0 0) (IntKind.wrap .u64 ((IntKind.wrap .u64 ((1:Int)*2 ^ s)) - 1)) != 0,λk=>?_⟩;unfold WY TU;have emin:min s 64=s:=by omega
  have e64:min (Int.toNat (IntKind.wrap .u64 (64 - (s:Int)))) 64=64 - s:=by rw[aD]; omega
  have z0:0+Int.toNat (0:Int)=0:=rfl;have z1:Int.toNat (0:Int) - 0=0:=rfl;rw[ew,es,eml,awN (by omega:¬(0:Int)>=(m:Int)),awO,ae awK,ae awL,z0,z1,ae (awM (by omega)),ae (awM (by omega)),ae (awM (by omega)),awS,emin];refine cz (λi=>(az .and .u64 (b.getD 0 0) (IntKind.wrap .u64 ((IntKind.wrap .u64 ((1:Int)*2 ^ s)) - 1)),(i:Int))) 0 rfl (by omega) (λi hi K=>by omega) (λK=>?_);simp only[o6];rw[awN (by omega:¬((0:Nat):Int)<((0:Nat):Int)),awO];generalize az .and .u64 (b.getD 0 0) (IntKind.wrap .u64 ((IntKind.wrap .u64 ((1:Int)*2 ^ s)) - 1))=lo;have hw:InWq (b.take m):=hb.take m;have hwl:(b.take m).length=m:=by rw[axv]; omega
  obtain⟨X,hX⟩:∃ X,X=ar (b.take m) / 2 ^ s:=⟨_,rfl⟩
  have elen:Int.toNat ((m:Int) - 0)=m:=by omega
  have elen2:(m:Int) - 0=(m:Int):=by omega
  rw[elen2,ae awK,ae (kV (by omega) (by omega) (by omega) (by omega)),ayw,awS,<- hX];refine cz (λi=>((i:Int),dlq X i++List.replicate (m - i) 0)) m (by simp[dlq]) (by omega) (λi hi K=>?_) (λK=>?_)
  ·have hx:=hw.at (i:=i);have hy:=hw.at (i:=i+1);have hset:=xz X i m (by omega);have hl:(dlq X i++List.replicate (m - i) (0:Int)).length=m:=by simp[ak]; omega
   obtain⟨R,hR⟩:=Ev hw i;have hdig:X / 18446744073709551616 ^ i%18446744073709551616=(((b.take m).getD i 0).toNat+18446744073709551616*((b.take m).getD (i+1) 0).toNat) / 2 ^ s%18446744073709551616:=by
    rw[hX,awZ,awR (2 ^ s),<- awZ,hR];have e2:18446744073709551616*18446744073709551616*R=2 ^ s*(18446744073709551616*(2 ^ (64 - s)*R)):=by
     have hs1:2 ^ s*2 ^ (64 - s)=18446744073709551616:=by rw[<- aw2,show s+(64 - s)=64 by omega]
     rw[axm (2 ^ s),<- awW (2 ^ s),hs1,awW]
    rw[e2,axG _ _ hs0,ayd]
   have ea:(0:Int)+(i:Int)=(i:Int):=by omega
   have eb:(i:Int)+1=((i+1:Nat):Int):=by omega
   simp only[me,awS,ea,eb,emin,e64,hl];rw[awM (by omega:(i:Int)<(m:Int)),awP,ae awK,CO N b m i hm (by omega),ae (awM (by omega)),ae awK,ae awK,CO N b m (i+1) hm (by omega),ae (awM (by rw[aD]; omega)),ae awL,ae (awM (by omega)),ae awK];have ex:(b.take m).getD i 0=((((b.take m).getD i 0).toNat:Nat):Int):=by omega
   have ey:(b.take m).getD (i+1) 0=((((b.take m).getD (i+1) 0).toNat:Nat):Int):=by omega
   rw[ex,ey,HN (by omega) (by omega) (by omega),<- hdig,hset]
  ·simp only[me];rw[awN (by omega:¬(m:Int)<(m:Int)),awO,axu,axD,axn];have hXl:X<18446744073709551616 ^ m:=by have h1:=lB hw;rw[hwl]at h1;rw[hX];exact ayF (ay7 _ _) h1
   have:=nP (N:=N) _ (kN X m) (by rw[ak]; omega) (by rw[ak]; omega) (λl=>k l (lo != 0));rw[this,pp hXl]
theorem SM {N:Nat} (m:List Int) (hm:InWq m) (n:Nat) (hn:n<4294967296) (hN:m.length+n / 64+4<N) (hs:m.length<=1099511627776) {Sw:kH} (e0:List Int->Bool) :
  al N (zF N Sw ((n / 64:Nat):Int) ((n%64:Nat):Int) m ((m.length:Nat):Int) e0) (0,List.replicate (n / 64+m.length+1) (0:Int))=e0 (dlq (ar m*2 ^ n) (n / 64+m.length+1)):=by
 have hw6:n / 64<67108864:=by omega
 generalize hw:n / 64=w at *;generalize hsh:n%64=s at *;have hs32:s<64:=by omega
 have hp2:2 ^ n=18446744073709551616 ^ w*2 ^ s:=by rw[Iy,hw,hsh]
 have hs0:0<2 ^ s:=aw0 s;have hs1:2 ^ s*2 ^ (64 - s)=18446744073709551616:=by rw[<- aw2,show s+(64 - s)=64 by omega]
 let V:=ar m*2 ^ n
 let X:=ar m*2 ^ s
 have hVX:V=18446744073709551616 ^ w*X:=by simp only[V,X]; rw[hp2,axm]
 let T:=λi=>ar (m.take i)*2 ^ s
 let c:=λi=>T i / 18446744073709551616 ^ i
 have hcl:∀ i,c i<2 ^ s:=by intro i;simp only[c,T];rw[awY (bI i),awR];exact ax1 (be hm i) hs0
 refine cz (N:=N) (λi=>((i:Int),dlq V (w+i)++((c i:Nat):Int)::List.replicate (m.length - i) 0)) m.length ?_ (by omega) (λi hi K=>?_) (λK=>?_)
 ·congr 1;show List.replicate (w+m.length+1) (0:Int)=dlq V w++((c 0:Nat):Int)::List.replicate m.length 0;rw[hVX,wi];have hc0:c 0=0:=by simp[c,T,ar]
  rw[hc0];have:w+m.length+1=w+(m.length+1):=by omega
  rw[this,<- ayz,axy]; rfl
 ·have hx:=hm.at (i:=i);have hT:T (i+1)=T i+18446744073709551616 ^ i*((m.getD i 0).toNat*2 ^ s):=by simp only[T,aY,axh,awW]
  have hq:T (i+1) / 18446744073709551616 ^ i=c i+(m.getD i 0).toNat*2 ^ s:=by rw[hT,ge]
  have hci:c i<2 ^ s:=hcl i;have hc1:c (i+1)=(c i+(m.getD i 0).toNat*2 ^ s) / 18446744073709551616:=by rw[<- hq]; simp only[c]; rw[awX,awZ]
  have hdig:V / 18446744073709551616 ^ (w+i)%18446744073709551616=(c i+(m.getD i 0).toNat*2 ^ s)%18446744073709551616:=by rw[<- hq,hVX,aw2,<- awZ,axx _ (bI w)];obtain⟨R,hR⟩:=dg m (i+1);refine lT (R:=R*2 ^ s) ?_;simp only[X,T];rw[hR,axh,awW]
  have hrep:List.replicate (m.length - i) (0:Int)=0::List.replicate (m.length - (i+1)) 0:=by rw[show m.length - i=(m.length - (i+1))+1 by omega,axy]
  have hdl:=ak V (w+i);have ei:Int.toNat ((w:Int)+(i:Int))=w+i:=by omega
  have ei1:Int.toNat ((w:Int)+(i:Int)+1)=w+i+1:=by omega
  have emin:min s 64=s:=by omega
  have e64:min (Int.toNat (IntKind.wrap .u64 (64 - (s:Int)))) 64=64 - s:=by rw[aD]; omega
  simp only[zF,awS,ei,ei1,emin,e64];rw[hrep,iB hdl.symm,dY _ _ _ _ _ hdl.symm];have hmx:m.getD i 0=(((m.getD i 0).toNat:Nat):Int):=by omega
  rw[hmx];generalize hxx:(m.getD i 0).toNat=x at *;have hx32:x<18446744073709551616:=by omega
  have hlow:x*2 ^ s%18446744073709551616=2 ^ s*(x%2 ^ (64 - s)):=by
   have e:x*2 ^ s%(2 ^ s*2 ^ (64 - s))=2 ^ s*(x%2 ^ (64 - s)):=by rw[awR x]; exact ayy _ _ _
   rwa [hs1]at e
  have hsum:2 ^ s*(x%2 ^ (64 - s))+c i<18446744073709551616:=by have h1:x%2 ^ (64 - s)+1<=2 ^ (64 - s):=axf _ (aw0 _);have h2:=aw1 (2 ^ s) h1;rw[hs1,axa]at h2;omega
  have epw:(x:Int)*2 ^ s=((x*2 ^ s:Nat):Int):=by rw[aw4,axA]; rfl
  have eor:az .or .u64 ((c i:Nat):Int) (IntKind.wrap .u64 ((x:Int)*2 ^ s))=((V / 18446744073709551616 ^ (w+i)%18446744073709551616:Nat):Int):=by
   have e1:IntKind.wrap .u64 ((x*2 ^ s:Nat):Int)=((2 ^ s*(x%2 ^ (64 - s)):Nat):Int):=by rw[<- hlow,aD]; omega
   rw[epw,e1,dE _ _ s hci hsum,hdig];omega
  have ehi:Int.fdiv (x:Int) (2 ^ (64 - s))=((c (i+1):Nat):Int):=by
   have e2:(2:Int) ^ (64 - s)=((2 ^ (64 - s):Nat):Int):=by rw[axA]; rfl
   rw[e2,mQ,hc1];have:(c i+x*2 ^ s) / 18446744073709551616=x / 2 ^ (64 - s):=by rw[<- hs1,<- awZ,awR x,axG _ _ hs0,axl hci,axe]
   rw[this]
  rw[eor,ehi];have hl1:∀(a b:Int) (ys:List Int),(dlq V (w+i)++a::b::ys).length=w+i+2+ys.length:=by intro a b ys; simp[hdl]; omega
  have hset2:(dlq V (w+i)++((V / 18446744073709551616 ^ (w+i)%18446744073709551616:Nat):Int)::0::List.replicate (m.length - (i+1)) 0).set (w+i+1) ((c (i+1):Nat):Int)=dlq V (w+(i+1))++((c (i+1):Nat):Int)::List.replicate (m.length - (i+1)) 0:=by
   have:dlq V (w+i)++((V / 18446744073709551616 ^ (w+i)%18446744073709551616:Nat):Int)::0::List.replicate (m.length - (i+1)) 0=dlq V (w+(i+1))++0::List.replicate (m.length - (i+1)) 0:=by rw[<- axo,dlq]; simp
   rw[this];exact dY _ _ _ _ _ (by rw[ak]; omega)
  rw[hset2,hl1,hl1];simp only[ayw];rw[awM (by omega:(i:Int)<((m.length:Nat):Int)),awP,ae awL,ae awK,ae awL,ae (awM (by omega)),ae (awM (by omega)),ae awL,ae (awM (by omega)),ae awK,ae awK,ae (awM (by rw[aD]; omega)),ae awL,ae (awM (by omega)),ae awK];rfl
 ·simp only[zF];rw[awN (by omega:¬(m.length:Int)<m.length),awO,axu,axD];have hV:V<18446744073709551616 ^ (w+m.length+1):=by
   have h1:=lB hm;simp only[V];rw[hp2,awX,aw2,axm,awW];refine ax1 ?_ (bI w);have hs2:2 ^ s<=18446744073709551616:=by rw[<- hs1]; exact axr _ (aw0 _)
   exact axT h1 hs2 (by decide)
  have hT:T m.length=X:=by simp only[T,X]; rw[axp]
  have hend:dlq V (w+m.length)++[((c m.length:Nat):Int)]=dlq V (w+m.length+1):=by
   rw[dlq];have:c m.length=V / 18446744073709551616 ^ (w+m.length)%18446744073709551616:=by
    have hX:V / 18446744073709551616 ^ (w+m.length)=X / 18446744073709551616 ^ m.length:=by rw[hVX,aw2,<- awZ,axx _ (bI w)]
    have h2:=hcl m.length;have hs2:2 ^ s<=18446744073709551616:=by rw[<- hs1]; exact axr _ (aw0 _)
    rw[hX,<- hT];exact(awV (by show c m.length<_; omega)).symm
   rw[this]
  rw[hend]
theorem J5 (n:Nat):dlq n (af n).length=af n:=by refine List.ext_getElem (ak n _) (λi h1 h2=>?_);have e1:=wh n h2;have e2:=rf i n;rw[List.getD_eq_getElem?_getD,List.getElem?_eq_getElem h1,axk]at e1;rw[List.getD_eq_getElem?_getD,List.getElem?_eq_getElem h2,axk]at e2;rw[e1,e2]
theorem H4 {X L:Nat} (hX:X<18446744073709551616 ^ L):∀ k,dlq X (L+k)=dlq X L++List.replicate k 0
 | 0=>by simp
 | k+1=>by rw[<- axo,dlq,H4 hX k,axl (aw6 hX (aw5 (by decide) (ayD _ _))),ayT,aw8];rfl
theorem wj (S:Nat):∀{m n:Nat},n<=m->(dlq S m).take n=dlq S n
 | 0,n,h=>by
  have:n=0:=by omega
  subst this; rfl
 | m+1,n,h=>by
  by_cases e:n=m+1
  ·subst e; rw[axd (by rw[ak]; omega)]
  ·rw[dlq,aym (by rw[ak]; omega),wj S (by omega)]
theorem G7 (S a:Nat):∀ c,dlq S (a+c)=dlq S a++dlq (S / 18446744073709551616 ^ a) c
 | 0=>by simp[dlq]
 | c+1=>by rw[<- axo,dlq,G7 S a c,dlq,awZ,<- aw2,aw8]
theorem L8 {V m:Nat} (h:V<18446744073709551616 ^ m):fM (dlq V m) m=(af V).length:=by have h1:=A3 (kN V m);rw[ak,tO,awV h]at h1;rw[<- h1,axv,ak];have:=qO (dlq V m) m;omega
theorem agD {V m:Nat} (h1:18446744073709551616 ^ m<=V) (h2:V<18446744073709551616 ^ (m+1)):(af V).length=m+1:=by have a:=j8 (m+1) V h2;have b:=agC (V:=V) (w:=m) (by have:=azB h1 (bI m); omega);omega
theorem yE {N:Nat} {m s:Nat} (hm:m ≠ 0) (hs:s<64) (hN:(af m).length+4<N) (hl:(af m).length<=1099511627776) (k0:Bool) (k1:Nat->List Int->Bool) :
  aeb N (af m) (s:Int) k0 k1=k1 (af (m*2 ^ s)).length (dlq (m*2 ^ s) ((af m).length+1)):=by
 have hlp:(af m).length ≠ 0:=by rw[dV hm]; simp
 have hV:m*2 ^ s<18446744073709551616 ^ ((af m).length+1):=by
  rw[awX];have h2:2 ^ s<18446744073709551616:=by rw[<- ta]; exact Nat.pow_lt_pow_right (by decide) hs
  exact ays (mW m) h2
 unfold aeb aaV;have e0:((((af m).length:Nat):Int)==0)=false:=by simp; intro h; rw[h]at hlp; simp at hlp
 have ew:IntKind.wrap .u64 (Int.tdiv (s:Int) 64)=((s / 64:Nat):Int):=by rw[aD,ax0 (by omega)]; omega
 have es:Int.tmod (s:Int) 64=((s%64:Nat):Int):=by rw[axS (by omega)]; rfl
 have elen:Int.toNat (((s / 64:Nat):Int)+(((af m).length:Nat):Int)+1)=s / 64+(af m).length+1:=by omega
 rw[e0,awO,ew,es,ae awK,ae awK,ae awK,ae (kV (by omega) (by omega) (by omega) (by omega)),elen];have:=SM (N:=N) (af m) (bA m) s (by omega) (by omega) hl (Sw:=sQ2 N) (λz_1=>sQ2 N z_1 λmr=>k1 mr z_1);rw[aK,show s / 64=0 by omega,axe]at this;rw[show s / 64=0 by omega,axe];refine Eq.trans this ?_;rw[E9 _ (by rw[ak]; omega) (by rw[ak]; omega),ak,L8 hV]
theorem SR (xs:List Int) (k:Nat):ar (xs++List.replicate k 0)=ar xs:=by rw[qG,Di]; simp
theorem AD {N:Nat} (hN:1180591620717411303424<=N) {x y:Nat} (hxy:y<=x) (hy2:2<=(af y).length) (hxl:(af x).length<=1099511627000) (k:Ky6) :
  sQ8 N (af x) (af y) k=k (af (x / y)) (af (x%y)):=by
 have hy0:y ≠ 0:=by intro h; rw[h,bT]at hy2; simp at hy2
 have hyx:=g8 hxy;have hylt:=mW y;have hxlt:=mW x;have hylo:18446744073709551616 ^ ((af y).length - 1)<=y:=by
  rcases axY y (18446744073709551616 ^ ((af y).length - 1))with h | h
  ·have:=j8 _ _ h; omega
  ·exact h
 unfold sQ8 GQ8;rw[l7 x y ⟨by omega,by omega⟩ ⟨by omega,by omega⟩];have hc:decide (lR x y<0)=false:=by unfold lR; rw[if_neg (by omega)]; split <;> rfl
 obtain⟨n,hn⟩:∃ n,(af y).length=n+2:=⟨(af y).length - 2,by omega⟩
 obtain⟨lx,hlx⟩:∃ lx,(af x).length=lx:=⟨_,rfl⟩
 have htd:(af y).getD (n+1) 0=((y / 18446744073709551616 ^ (n+1):Nat):Int):=by rw[rf,awV];rw[awY (bI _),awR,<- awX];rw[hn]at hylt; exact hylt
 rw[hn]at hylt hylo;rw[hlx]at hxlt;rw[show n+2 - 1=n+1 by omega]at hylo;obtain⟨t,ht⟩:∃ t,t=y / 18446744073709551616 ^ (n+1):=⟨_,rfl⟩
 rw[<- ht]at htd;have htl:t<18446744073709551616:=by rw[ht,awY (bI _),awR,<- awX]; exact hylt
 have ht0:t ≠ 0:=by have:=azB hylo (bI (n+1)); omega
 obtain⟨g1,g2,g3⟩:=Rk ht0 htl;have ein:Int.toNat (((n+2:Nat):Int) - 1)=n+1:=by omega
 have e1':(((n+2:Nat):Int)==1)=false:=by simp; omega
 rw[hc,awO,hn,hlx,e1',awO,ae awK,ae awL,ein,htd,Kt N htl];obtain⟨s,hs⟩:∃ s,s=64 - bl t:=⟨_,rfl⟩
 rw[<- hs]at g1 g2 g3 ⊢;have hs0:0<2 ^ s:=aw0 s;have ews:IntKind.wrap .u64 ((s:Nat):Int)=(s:Int):=by rw[aD]; omega
 rw[ews];obtain⟨V,hV⟩:∃ V,V=y*2 ^ s:=⟨_,rfl⟩
 obtain⟨X,hX⟩:∃ X,X=x*2 ^ s:=⟨_,rfl⟩
 have hVlt:V<18446744073709551616 ^ (n+2):=by
  have h1:=Nat.lt_mul_div_succ y (bI (n+1));rw[<- ht]at h1;have h2:y*2 ^ s<18446744073709551616 ^ (n+1)*(t+1)*2 ^ s:=axE h1 hs0;have h3:(t+1)*2 ^ s<=18446744073709551616:=by
   have hd:2 ^ s*2 ^ (64 - s)=18446744073709551616:=by rw[<- aw2,show s+(64 - s)=64 by omega]
   have h4:t<2 ^ (64 - s):=by rw[awR]at g3;rw[<- hd]at g3;exact Nat.lt_of_mul_lt_mul_left g3
   rw[<- hd,awR];exact aw1 _ h4
  have h5:=aw1 (18446744073709551616 ^ (n+1)) h3;rw[hV,show n+2=n+1+1 by omega,awX];rw[awW]at h2;omega
 have hVge:18446744073709551616 ^ (n+1)<=V:=by rw[hV]; exact aw_ hylo (axr _ hs0)
 have hVlen:(af V).length=n+2:=agD hVge hVlt;have hV0:0<V:=aw6 (bI _) hVge;have hx0:x ≠ 0:=by omega
 rw[yE hy0 g1 (by omega) (by omega),hn,<- hV,hVlen,yE hx0 g1 (by omega) (by omega),hlx,<- hX];have hs2:2 ^ s<=18446744073709551616:=by rw[<- ta]; exact aw5 (by decide) (by omega)
 have hXlt:X<18446744073709551616 ^ (lx+1):=by rw[hX,awX]; exact axT hxlt hs2 (by decide)
 have hXlen1:(af X).length<=lx+1:=j8 _ _ hXlt;have hXlen2:lx<=(af X).length:=by rw[<- hlx,hX]; exact g8 (axr _ hs0)
 have etk:(dlq X (lx+1)).take (af X).length=af X:=by rw[wj X hXlen1,J5]
 have ebl:(af X++[0,0]).length=(af X).length+2:=by simp
 obtain⟨M,hM⟩:∃ M,lx+1=M+(n+2):=⟨lx+1 - (n+2),by omega⟩
 have eu1:Int.toNat ((lx:Int)+1) - 0=lx+1:=by omega
 have eM:(((lx+1:Nat):Int) - ((n+2:Nat):Int))=(M:Int):=by omega
 rw[ayc,etk,ebl,eu1,eM];rw[ae (awM (by rw[ak]; omega)),ae (awM (by omega)),ae awK,ae (awM (by omega)),ae awK,ae (kV (by omega) (by omega) (by omega) (by omega)),ae awK,ae awK,awS];obtain⟨tail,htail⟩:∃ tail,tail=(af X++[(0:Int),0]).drop (lx+1):=⟨_,rfl⟩
 have htw:InWq tail:=by
  rw[htail];refine InWq.drop (λz hz=>?_) _;rcases List.mem_append.1 hz with h | h
  ·exact bA X z h
  ·simp only[axZ,ayV,or_false,or_self]at h; subst h; omega
 have htlen:tail.length<=2:=by rw[htail,ayk,ebl]; omega
 have hstart:af X++[(0:Int),0]=dlq X M++(dlq (X / 18446744073709551616 ^ M%V) (n+2)++(List.replicate 0 0++tail)):=by
  have hXM:X / 18446744073709551616 ^ M<V:=by
   rw[awY (bI M),hX,hV];have h1:x*2 ^ s<18446744073709551616 ^ lx*2 ^ s:=axE hxlt hs0;have h2:18446744073709551616 ^ lx=18446744073709551616 ^ (n+1)*18446744073709551616 ^ M:=by rw[<- aw2]; congr 1; omega
   have h3:=awU (18446744073709551616 ^ M*2 ^ s) hylo;rw[h2,awW]at h1;have e:y*2 ^ s*18446744073709551616 ^ M=y*(18446744073709551616 ^ M*2 ^ s):=by rw[awW,awR (2 ^ s)]
   rw[e]; omega
  rw[awV hXM,axD,ax3,<- aw8,<- G7,<- hM];rw[htail];have hpad:(af X++[(0:Int),0]).take (lx+1)=dlq X (lx+1):=by
   have:af X++[(0:Int),0]=dlq X ((af X).length+2):=by rw[H4 (mW X) 2,J5]; rfl
   rw[this,wj X (by omega)]
  rw[<- hpad,ayM]
 rw[hstart];have hQlt:X / V<18446744073709551616 ^ M:=by
  rw[awY hV0];have h1:x*2 ^ s<18446744073709551616 ^ lx*2 ^ s:=axE hxlt hs0;have h2:18446744073709551616 ^ lx=18446744073709551616 ^ M*18446744073709551616 ^ (n+1):=by rw[<- aw2]; congr 1; omega
  have h3:=aw1 (18446744073709551616 ^ M) (awU (2 ^ s) hylo);rw[hX,hV];rw[h2,awW]at h1;omega
 have hmk:M<=1099511627001:=by omega
 refine cz (λi=>((M:Int) - 1 - (i:Int),dlq X (M - i)++(dlq (X / 18446744073709551616 ^ (M - i)%V) (n+2)++(List.replicate i 0++tail)),List.replicate (M - i) (0:Int)++(dlq (X / V) M).drop (M - i))) M ?_ (by omega) (λi hi K=>?_) (λK=>?_)
 ·rw[azt,axL (by rw[ak]; omega),axn];congr 1;omega
 ·obtain⟨j,hj⟩:∃ j,M - i=j+1:=⟨M - i - 1,by omega⟩
  have hj2:M - (i+1)=j:=by omega
  have ei:(M:Int) - 1 - (i:Int)=(j:Int):=by omega
  have ei2:(M:Int) - 1 - ((i+1:Nat):Int)=(j:Int) - 1:=by omega
  rw[hj,hj2,ei,ei2];obtain⟨A,hA⟩:∃ A,A=X / 18446744073709551616 ^ j:=⟨_,rfl⟩
  have hA1:X / 18446744073709551616 ^ (j+1)=A / 18446744073709551616:=by rw[hA,awX,awZ]
  obtain⟨n1,n2⟩:=HL (A:=A) hV0;obtain⟨R,hR⟩:∃ R,R=A / 18446744073709551616%V:=⟨_,rfl⟩
  have hRV:R<V:=by rw[hR]; exact axf _ hV0
  rw[hA1,<- hR];rw[<- hR]at n1 n2;obtain⟨b,hb⟩:∃ b,b=dlq X (j+1)++(dlq R (n+2)++(List.replicate i 0++tail)):=⟨_,rfl⟩
  have hblen:b.length=j+1+(n+2)+i+tail.length:=by rw[hb]; simp[ak]; omega
  have hbw:InWq b:=by
   rw[hb];intro z hz;rcases List.mem_append.1 hz with h | h
   ·exact kN _ _ z h
   ·rcases List.mem_append.1 h with h | h
    ·exact kN _ _ z h
    ·rcases List.mem_append.1 h with h | h
     ·have:=(List.mem_replicate.1 h).2; subst this; omega
     ·exact htw z h
  have hbt:b.take j=dlq X j:=by rw[hb,aym (by rw[ak]; omega),wj X (by omega)]
  have hbd:b.drop j=((A%18446744073709551616:Nat):Int)::(dlq R (n+2)++(List.replicate i 0++tail)):=by rw[hb,dlq,aw8,axV (by rw[ak]; omega),axL (by rw[ak]; omega),ax3,hA];rfl
  have hwv:ar ((b.drop j).take (n+2+1))=R*18446744073709551616+A%18446744073709551616:=by rw[hbd,List.take_succ_cons,aym (by rw[ak]; omega),axd (by rw[ak]; omega),ar,tO,awV (ayP hRV hVlt),awS];omega
  have hbd2:b.drop (j+(n+2+1))=List.replicate i 0++tail:=by rw[<- List.drop_drop,hbd,List.drop_succ_cons,axV (by rw[ak]; omega),axL (by rw[ak]; omega),ax3]
  have hcv:ar ((dlq V (n+2+1)).take (n+2))=V:=by rw[wj V (by omega),tO,awV hVlt]
  have hctop:0<((dlq V (n+2+1)).getD (n+2 - 1) 0).toNat:=by
   rw[wh V (by omega),awS,show n+2 - 1=n+1 by omega,awV]
   ·exact azB hVge (bI _)
   ·rw[awY (bI _),awR,<- awX]; exact hVlt
  have hAm:A%18446744073709551616<18446744073709551616:=axf _ (by decide);have hstep:=λkk=>Wl hN (o:=j) (n:=n+2) (b:=b) (c:=dlq V (n+2+1)) (by omega) hbw (kN _ _) (by rw[ak]; omega) (by omega) (by omega) hctop (by rw[hwv,hcv];have:=awU 18446744073709551616 hRV;rw[ayJ]at this;omega) kk
  rw[hwv,hcv,n1,n2,hbt,hbd2]at hstep;have hnext:dlq X j++(dlq (A%V) (n+2+1)++(List.replicate i 0++tail))=dlq X j++(dlq (A%V) (n+2)++(List.replicate (i+1) 0++tail)):=by rw[H4 (ayP (axf A hV0) hVlt) 1,aw8,axy];rfl
  have hdg:X / V / 18446744073709551616 ^ j%18446744073709551616=A / V%18446744073709551616:=by rw[hA,awZ,awZ,awR V]
  have ej:0+Int.toNat (j:Int)=j:=by omega
  have ej2:Int.toNat ((j:Int)+((n+2:Nat):Int)+1) - Int.toNat (j:Int)=n+2+1:=by omega
  rw[<- hb];simp only[zy,ej,ej2];rw[awM (by omega:(j:Int)>=0),awP,ae awK,ae awK,ae (awM (by omega))];rw[hstep];have hql:(List.replicate (j+1) (0:Int)++(dlq (X / V) M).drop (j+1)).length=M:=by simp[ak]; omega
  rw[hql,ae awL,ae (awM (by omega)),ae awK,awS,<- hdg,Qb _ _ _ (by omega),hnext,<- hA]
 ·simp only[zy];have e0:(M:Int) - 1 - (M:Int) = -1:=by omega
  rw[e0,awN (by omega),awO,axu,ayO,ayX,axD,ax3,ayc];obtain⟨L,hL⟩:∃ L,L=dlq X 0++(dlq (X%V) (n+2)++(List.replicate M 0++tail)):=⟨_,rfl⟩
  have hRlt:X%V<18446744073709551616 ^ (n+2):=ayP (axf _ hV0) hVlt;have hLt:L.take (lx+1)=dlq (X%V) (n+2)++List.replicate M 0:=by rw[hL,hM,show dlq X 0=[] from rfl,ax3,<- aw8,aym (by simp[ak]; omega),axd (by simp[ak]; omega)]
  have hLw:InWq L:=by
   rw[hL];intro z hz;rcases List.mem_append.1 hz with h | h
   ·cases h
   ·rcases List.mem_append.1 h with h | h
    ·exact kN _ _ z h
    ·rcases List.mem_append.1 h with h | h
     ·have:=(List.mem_replicate.1 h).2; subst this; omega
     ·exact htw z h
  have hLlen:lx+1<=L.length:=by rw[hL]; simp[ak]; omega
  rw[<- hL];unfold Gv;rw[MM L (lx+1) hLlen (by omega) (by omega)];have hcl:=qO L (lx+1);obtain⟨lost,hlost⟩:=KE (N:=N) L hLw (fM L (lx+1)) s (by omega) g1 (by omega) (by omega);rw[hlost,um,hLt,SR,tO,awV hRlt];have:=nP (N:=N) (dlq (X / V) M) (kN _ _) (by rw[ak]; omega) (by rw[ak]; omega) (λz=>k z (af (X%V / 2 ^ s)));rw[this,pp hQlt,hX,hV,Nat.mul_div_mul_right _ _ hs0,Nat.mul_mod_mul_right,ayv _ hs0]
theorem nQ {N:Nat} (hN:1180591620717411303424<=N) {x y:Nat} (hy:0<y) (hxl:(af x).length<=1099511627000) (hyl:(af y).length<=1099511627000) (k:Ky6) :
  sQ8 N (af x) (af y) k=k (af (x / y)) (af (x%y)):=by
 by_cases hxy:y<=x
 ·by_cases h2:2<=(af y).length
  ·exact AD hN hxy h2 hxl k
  ·have hylt:=mW y;have hl1:(af y).length=1:=by rw[dV (by omega)]at h2 ⊢; simp at h2 ⊢; exact h2
   rw[hl1,Nat.pow_one]at hylt;have hd:=uo (by omega:y ≠ 0) hylt;have hc:decide (lR x y<0)=false:=by unfold lR; rw[if_neg (by omega)]; split <;> rfl
   unfold sQ8 GQ8;rw[l7 x y ⟨by omega,by omega⟩ ⟨by omega,by omega⟩,hc,awO,hd];show cond (((1:Nat):Int)==1) _ _=_;rw[show(((1:Nat):Int)==1)=true from rfl,awP,ae (aB (by omega) (by simp))];show W2 N (af x) (y:Int) _=_;have hm:x%y<18446744073709551616:=ayP (axf _ hy) hylt;rw[SI (by omega) hy hylt ⟨by omega,by omega⟩,xI (by omega) _ hm]
 ·have hc:decide (lR x y<0)=true:=by unfold lR; rw[if_pos (by omega)]; rfl
  unfold sQ8 GQ8;rw[l7 x y ⟨by omega,by omega⟩ ⟨by omega,by omega⟩,hc,awP,B7 _ (by omega),axl (by omega),awV (by omega),bT]
theorem C6:∀ n,n ≠ 0->bl n=64*((af n).length - 1)+bl ((af n).getD ((af n).length - 1) 0).toNat/\0<(af n).length:=by
 intro n;induction n using Nat.strongRecOn with
 | ind n ih=>
  intro h;rw[dV h];by_cases h1:n / 18446744073709551616=0
  ·rw[h1,bT];have:n%18446744073709551616=n:=awV (by omega);simp[this]
  ·obtain⟨i1,i2⟩:=ih (n / 18446744073709551616) (by omega) h1;have e:=vV (n:=n) 64 (by rw[ta]; omega);rw[ta]at e;refine⟨?_,by simp⟩;have e2:(((n%18446744073709551616:Nat):Int)::af (n / 18446744073709551616)).getD ((((n%18446744073709551616:Nat):Int)::af (n / 18446744073709551616)).length - 1) 0=(af (n / 18446744073709551616)).getD ((af (n / 18446744073709551616)).length - 1) 0:=by
    simp only[axj,ay3];generalize af (n / 18446744073709551616)=l at i2 ⊢;cases l with
    | nil=>simp at i2
    | cons y l=>simp
   rw[e2,e,i1];simp only[axj];omega
theorem Kx {N:Nat} {n:Nat} (hs:(af n).length<=1099511627776) (k:Ky8):Gi N (af n) k=k (bl n:Int):=by
 unfold Gi aba;by_cases h:n=0
 ·subst h; rw[bT]; rfl
 ·obtain⟨e1,e2⟩:=C6 n h;have e0:(((af n).length:Int)==0)=false:=by simp; intro h'; rw[h']at e2; simp at e2
  have e3:Int.toNat (((af n).length:Int) - 1)=(af n).length - 1:=by omega
  have hw:=(bA n).at (i:=(af n).length - 1);have e4:(af n).getD ((af n).length - 1) 0=((((af n).getD ((af n).length - 1) 0).toNat:Nat):Int):=by omega
  have hb:=PH (n:=((af n).getD ((af n).length - 1) 0).toNat) (j:=64) (by rw[ta]; omega);rw[e0,awO,ae awK,ae awK,ae awK,ae awL,e3,e4,E5 N (by omega),ae awK,e1];congr 1;omega
theorem P3 {N:Nat} {x f:Nat} (hf:f<140737488355328) (k:Ky8):Gk N (af x) (f:Int) k=k ((x / 2 ^ f%18446744073709551616:Nat):Int):=by
 unfold Gk abE;have e1:Int.tdiv (f:Int) 64=((f / 64:Nat):Int):=by rw[ax0 (by omega)]; rfl
 have e2:IntKind.wrap .u64 (Int.tmod (f:Int) 64)=((f%64:Nat):Int):=by rw[aD,axS (by omega)]; omega
 have e3:min (f%64) 64=f%64:=by omega
 have e4:min (Int.toNat (IntKind.wrap .u64 (64 - ((f%64:Nat):Int)))) 64=64 - f%64:=by rw[aD]; omega
 have e5:((f / 64:Nat):Int)+1=((f / 64+1:Nat):Int):=by omega
 have hx:=(bA x).at (i:=f / 64);have hy:=(bA x).at (i:=f / 64+1);have ex:(af x).getD (f / 64) 0=((((af x).getD (f / 64) 0).toNat:Nat):Int):=by omega
 have ey:(af x).getD (f / 64+1) 0=((((af x).getD (f / 64+1) 0).toNat:Nat):Int):=by omega
 rw[e1,e2,e5,ae awK,qS N _ (f / 64) (by omega),ae (awM (by omega)),ae awK,qS N _ (f / 64+1) (by omega),ae (awM (by rw[aD]; omega)),awS,e3,e4,ex,ey,HN (by omega) (by omega) (by omega)];obtain⟨R,hR⟩:=Ev (bA x) (f / 64);rw[aK]at hR;have hp:2 ^ f=18446744073709551616 ^ (f / 64)*2 ^ (f%64):=Iy f;have hs0:0<2 ^ (f%64):=aw0 _;rw[hp,<- awZ,hR];have e6:18446744073709551616*18446744073709551616*R=2 ^ (f%64)*(18446744073709551616*(2 ^ (64 - f%64)*R)):=by
  have hs1:2 ^ (f%64)*2 ^ (64 - f%64)=18446744073709551616:=by rw[<- aw2,show f%64+(64 - f%64)=64 by omega]
  rw[axm (2 ^ (f%64)),<- awW (2 ^ (f%64)),hs1,awW]
 rw[e6,axG _ _ hs0,ayd]
theorem KC {N:Nat} {x d e:Nat} (hd:d<18446744073709551616) (he:e<18446744073709551616) (hs:oI N (af x)) (k:Kz1):Qq N (af x) (d:Int) (e:Int) k=k (af (x*d+e)):=by
 unfold Qq Po;obtain⟨s1,s2⟩:=hs;obtain⟨L,hL⟩:∃ L,(af x).length=L:=⟨_,rfl⟩
 have hx:=mW x;rw[hL]at hx;have eL:Int.toNat ((L:Int)+1)=L+1:=by omega
 rw[hL,ae awK,ae (kV (by omega) (by omega) (by omega) (by omega)),eL];obtain⟨m,hm⟩:∃ m,m=af x:=⟨_,rfl⟩
 have hmw:InWq m:=by rw[hm]; exact bA x
 have hmv:ar m=x:=by rw[hm]; exact aK x
 have hml:m.length=L:=by rw[hm]; exact hL
 rw[<- hm];obtain⟨S,hS⟩:∃ S,S=x*d+e:=⟨_,rfl⟩
 rw[<- hS];refine cz (λi=>((((ar (m.take i)*d+e) / 18446744073709551616 ^ i:Nat):Int),(i:Int),dlq S i++List.replicate (L+1 - i) 0)) L (by simp[ar,dlq]) (by omega) (λi hi K=>?_) (λK=>?_)
 ·have hz:=hmw.at (i:=i);have hp:=bI i;have hXi:=be hmw i;have hcv:=aY (m:=m) i;obtain⟨cy,hcy⟩:∃ cy,cy=(ar (m.take i)*d+e) / 18446744073709551616 ^ i:=⟨_,rfl⟩
  have e1:ar (m.take (i+1))*d+e=(ar (m.take i)*d+e)+18446744073709551616 ^ i*((m.getD i 0).toNat*d):=by rw[hcv,axh,awW]; omega
  have hcyl:cy<18446744073709551616:=by
   rw[hcy,awY hp];have:=axK (ayU hXi) (ayU hd);have h1:1<=18446744073709551616 ^ i:=hp;have h2:(18446744073709551616 ^ i - 1)*(18446744073709551616 - 1)+18446744073709551615=18446744073709551616 ^ i*18446744073709551615:=by
    obtain⟨P,hP⟩:∃ P,18446744073709551616 ^ i=P+1:=⟨18446744073709551616 ^ i - 1,by omega⟩
    rw[hP]; omega
   omega
  have ecy:(ar (m.take (i+1))*d+e) / 18446744073709551616 ^ (i+1)=((m.getD i 0).toNat*d+0+cy) / 18446744073709551616:=by rw[awX,<- awZ,e1,ge,<- hcy];congr 1; omega
  obtain⟨R,hR⟩:=dg m (i+1);have elo:S / 18446744073709551616 ^ i%18446744073709551616=((m.getD i 0).toNat*d+0+cy)%18446744073709551616:=by
   have:S=(ar (m.take (i+1))*d+e)+18446744073709551616 ^ (i+1)*(R*d):=by rw[hS,<- hmv,hR,axh,awW]; omega
   rw[lT this,e1,ge,<- hcy];congr 1; omega
  have hset:=xz S i (L+1) (by omega);have hl:(dlq S i++List.replicate (L+1 - i) (0:Int)).length=L+1:=by simp[ak]; omega
  simp only[pj,awS];rw[awM (by omega:(i:Int)<(L:Int)),awP,hml,ae awL,<- hcy,E8 N (c:=0) (a:=(m.getD i 0).toNat) (b:=d) (e:=0) (f:=cy) (by omega) rfl rfl rfl (by omega) hd (by omega) hcyl,hl,ae awL,ae (awM (by omega)),ae awK,<- elo,<- ecy,hset,KL]
 ·simp only[pj];have hl:(dlq S L++List.replicate (L+1 - L) (0:Int)).length=L+1:=by simp[ak]
  have hSl:S<18446744073709551616 ^ (L+1):=by
   rw[hS,awX];have h1:=axK (ayU hx) (ayU hd);obtain⟨P,hP⟩:∃ P,18446744073709551616 ^ L=P+1:=⟨18446744073709551616 ^ L - 1,by have:=bI L; omega⟩
   rw[hP]at h1 ⊢;omega
  have ee:(ar (m.take L)*d+e) / 18446744073709551616 ^ L=S / 18446744073709551616 ^ L%18446744073709551616:=by rw[axd (by omega),hmv,<- hS,awV];rw[awY (bI L),awR,<- awX]; exact hSl
  rw[awN (by omega:¬(L:Int)<(L:Int)),awO,hl,ee,awS,xz S L (L+1) (by omega),ae awL,ae (awM (by omega)),axu,axD,axn,nP _ (kN _ _) (by rw[ak]; omega) (by rw[ak]; omega),pp hSl]
def DH (x0 y0 a b c d:Nat) (odd:Bool):Prop:=
 ∃ p q,x0=d*p+b*q/\y0=c*p+a*q/\(cond odd (b*c=a*d+1) (a*d=b*c+1))/\a<=b/\c<=d/\d<=q/\q+b+d<=p/\1<=b/\1<=c/\b<18446744073709551616/\d<18446744073709551616
theorem Ol {N:Nat} {x0 y0:Nat} (hx0:x0<18446744073709551616) (hy0:y0<18446744073709551616) (t1 t2 t3 t4:Int) (t5:Bool) :
  ∀ y x u v a b c d odd M,y<M->y<=x->x0=v*x+d*y->y0=u*x+c*y->(cond odd (c*v=d*u+1) (d*u=c*v+1))->1<=v ->
   ((d=0/\u=0/\b=0/\c=1/\v=1)\/(1<=u/\c<=d/\u<=v/\(b=0\/DH x0 y0 a b c d odd))) ->
   ∃ a' b' c' d':Nat,∃ odd',(b'=0\/DH x0 y0 a' b' c' d' odd') /\ ∀ e0,al M (rN N t1 t2 t3 t4 t5 e0) ((x:Int),(y:Int),(u:Int),(v:Int),(a:Int),(b:Int),(c:Int),(d:Int),odd)=e0 (a':Int) (b':Int) (c':Int) (d':Int) odd':=by
 intro y;induction y using Nat.strongRecOn with
 | ind y ih=>
 intro x u v a b c d odd M hM hyx h1 h2 hdet hv hor;obtain⟨M,rfl⟩:∃ m,M=m+1:=⟨M - 1,by omega⟩
 have hend:b=0\/DH x0 y0 a b c d odd:=by
  rcases hor with h | h
  ·exact .inl h.2.2.1
  ·exact h.2.2.2
 by_cases c1:v<=y
 ·have hy1:1<=y:=by omega
  have b1:v*1<=v*x:=aw1 _ (by omega);have b2:d*1<=d*y:=aw1 _ hy1;have w1:IntKind.wrap .u64 ((x:Int) - (y:Int))=((x - y:Nat):Int):=by have:1*x<=v*x:=awU _ hv;rw[aD]; omega
  have w2:IntKind.wrap .u64 ((d:Int)+(v:Int))=((d+v:Nat):Int):=by rw[aD]; omega
  by_cases c2:d+v<=x - y
  ·-- one step more
   obtain⟨q,hq⟩:∃ q,q=x / y:=⟨_,rfl⟩
   obtain⟨r,hr⟩:∃ r,r=x%y:=⟨_,rfl⟩
   have hxq:x=q*y+r:=by rw[hq,hr]; exact(ax9 x y).symm
   have hry:r<y:=by rw[hr]; exact axf _ hy1
   have hq1:1<=q:=by rw[hq]; exact azB hyx hy1
   have n1:x0=(d+q*v)*y+v*r:=by rw[h1,hxq]; grind
   have n2:y0=(c+q*u)*y+u*r:=by rw[h2,hxq]; grind
   have m1:(d+q*v)*1<=(d+q*v)*y:=aw1 _ hy1;have m2:(c+q*u)*1<=(c+q*u)*y:=aw1 _ hy1;have hvq:v<=d+q*v:=by have:=awU v hq1;omega
   have hg:∀(e0:Int->Int->Int->Int->Bool->Bool),al (M+1) (rN N t1 t2 t3 t4 t5 e0) ((x:Int),(y:Int),(u:Int),(v:Int),(a:Int),(b:Int),(c:Int),(d:Int),odd)=al M (rN N t1 t2 t3 t4 t5 e0) ((y:Int),(r:Int),((c+q*u:Nat):Int),((d+q*v:Nat):Int),(c:Int),(d:Int),(u:Int),(v:Int),!odd):=by
    intro e0;show rN N t1 t2 t3 t4 t5 e0 _ (al M _)=_;simp only[rN];have y1:(!decide ((y:Int)=0))=true:=by simp; omega
    have ediv:Int.tdiv (x:Int) (y:Int)=(q:Int):=by rw[hq]; rfl
    have emod:Int.tmod (x:Int) (y:Int)=(r:Int):=by rw[hr]; rfl
    have wq:IntKind.wrap .u64 (q:Int)=(q:Int):=by have:q*1<=q*v:=aw1 _ hv;rw[aD]; omega
    have wu:IntKind.wrap .u64 ((c:Int)+IntKind.wrap .u64 ((q:Int)*(u:Int)))=((c+q*u:Nat):Int):=by rw[<- aw4,aD,aD]; omega
    have wv:IntKind.wrap .u64 ((d:Int)+IntKind.wrap .u64 ((q:Int)*(v:Int)))=((d+q*v:Nat):Int):=by rw[<- aw4,aD,aD]; omega
    rw[awM (by omega:(y:Int)>=v),show(true==true)=true from rfl,awP,w1,w2,awM (by omega),awP,ae y1,ae y1,ediv,emod,wq,wu,wv]
   have hstep:=ih r hry y (c+q*u) (d+q*v) c d u v (!odd) M (by omega) (by omega) n1 n2 (by
    cases odd with
    | true=>
     simp only[awP,azk,awO]at hdet ⊢;have:v*(c+q*u)=v*c+q*u*v:=by grind
     have:u*(d+q*v)=u*d+q*u*v:=by grind
     have:c*v=v*c:=awR _ _;have:d*u=u*d:=awR _ _;omega
    | false=>
     simp only[awP,azb,awO]at hdet ⊢;have:u*(d+q*v)=u*d+q*u*v:=by grind
     have:v*(c+q*u)=v*c+q*u*v:=by grind
     have:c*v=v*c:=awR _ _;have:d*u=u*d:=awR _ _;omega) (by omega) (by
    refine .inr ?_;rcases hor with⟨k1,k2,k3,k4,k5⟩ | ⟨k1,k2,k3,k4⟩
    ·subst k1 k2 k4 k5;exact⟨by omega,by omega,by omega,.inl rfl⟩
    ·have hu1:u<=c+q*u:=by have:=awU u hq1;omega
     refine⟨by omega,k3,?_,?_⟩
     ·have:=aw1 q k3;omega
     ·rcases ayh d with hd0 | hd0
      ·exact .inl hd0
      ·refine .inr ⟨x,y,h1,h2,?_,k2,k3,c1,by omega,hd0,k1,by omega,by omega⟩;cases odd with
       | true=>simp only[azk,awO,awP]at hdet ⊢; exact hdet
       | false=>simp only[azb,awP,awO]at hdet ⊢; exact hdet)
   obtain⟨a',b',c',d',odd',g1,g2⟩:=hstep;exact⟨a',b',c',d',odd',g1,λe0=>by rw[hg,g2]⟩
  ·refine⟨a,b,c,d,odd,hend,λe0=>?_⟩;show rN N t1 t2 t3 t4 t5 e0 _ (al M _)=_;simp only[rN];rw[awM (by omega:(y:Int)>=v),show(true==true)=true from rfl,awP,w1,w2,awN (by omega),awO]
 ·refine⟨a,b,c,d,odd,hend,λe0=>?_⟩;show rN N t1 t2 t3 t4 t5 e0 _ (al M _)=_;simp only[rN];rw[awN (by omega:¬(y:Int)>=v),show(false==true)=false from rfl,awO]
theorem SJ {N:Nat} (hN:1180591620717411303424<=N) {x0 y0:Nat} (hx0:x0<18446744073709551616) (hyx:y0<=x0):∃ a b c d:Nat,∃ odd,(b=0\/DH x0 y0 a b c d odd) /\ ∀ k,ID N (x0:Int) (y0:Int) k=k (a:Int) (b:Int) (c:Int) (d:Int) odd:=by obtain⟨a,b,c,d,odd,h1,h2⟩:=Ol (N:=N) (x0:=x0) (y0:=y0) hx0 (by omega) 0 0 0 0 false y0 x0 0 1 0 0 1 0 true N (by omega) hyx (by omega) (by omega) rfl (awT _) (.inl ⟨rfl,rfl,rfl,rfl,rfl⟩);exact⟨a,b,c,d,odd,h1,λk=>h2 _⟩
theorem RO {x0 y0 a b c d F rx ry X Y:Nat} (h:DH x0 y0 a b c d true) (hrx:rx<F) (hry:ry<F) (hX:X=x0*F+rx) (hY:Y=y0*F+ry) :
  a*X<=b*Y/\d*Y<=c*X/\c*X - d*Y<=b*Y - a*X/\X=d*(b*Y - a*X)+b*(c*X - d*Y)/\Y=c*(b*Y - a*X)+a*(c*X - d*Y):=by
 obtain⟨p,q,h1,h2,hdet,hab,hcd,hdq,hpq,hb1,hc1,hbl,hdl⟩:=h;simp only[awP]at hdet;have e1:b*Y+a*rx=a*X+(p*F+b*ry):=by
  subst h1 h2 hX hY;have:b*(c*p*F)=(a*d+1)*(p*F):=by rw[<- hdet]; grind
  grind
 have e2:c*X+d*ry=d*Y+(q*F+c*rx):=by
  subst h1 h2 hX hY;have:b*c*(q*F)=(a*d+1)*(q*F):=by rw[<- hdet]
  grind
 have m1:a*rx<=a*F:=aw1 _ (by omega);have m2:a*F<=b*F:=awU _ hab;have m3:d*ry<=d*F:=aw1 _ (by omega);have m4:d*F<=q*F:=awU _ hdq;have m5:(q+b+d)*F<=p*F:=awU _ hpq;rw[axh,axh]at m5;have m6:c*rx<=c*F:=aw1 _ (by omega);have m7:c*F<=d*F:=awU _ hcd;have g1:a*X<=b*Y:=by omega
 have g2:d*Y<=c*X:=by omega
 refine⟨g1,g2,by omega,?_,?_⟩
 ·obtain⟨U,hU⟩:=ayB g1;obtain⟨V,hV⟩:=ayB g2;rw[<- hU,<- hV,axw,axw];have t1:d*(b*Y)=d*(a*X)+d*U:=by rw[<- hU,axa]
  have t2:b*(c*X)=b*(d*Y)+b*V:=by rw[<- hV,axa]
  have t3:b*(c*X)=(a*d+1)*X:=by rw[<- hdet,awW]
  have t4:(a*d+1)*X=d*(a*X)+X:=by grind
  have t5:d*(b*Y)=b*(d*Y):=by grind
  omega
 ·obtain⟨U,hU⟩:=ayB g1;obtain⟨V,hV⟩:=ayB g2;rw[<- hU,<- hV,axw,axw];have t1:c*(b*Y)=c*(a*X)+c*U:=by rw[<- hU,axa]
  have t2:a*(c*X)=a*(d*Y)+a*V:=by rw[<- hV,axa]
  have t3:c*(b*Y)=(a*d+1)*Y:=by rw[<- hdet]; grind
  have t4:(a*d+1)*Y=a*(d*Y)+Y:=by grind
  have t5:c*(a*X)=a*(c*X):=by grind
  omega
theorem LN {x0 y0 a b c d F rx ry X Y:Nat} (h:DH x0 y0 a b c d false) (hrx:rx<F) (hry:ry<F) (hX:X=x0*F+rx) (hY:Y=y0*F+ry) :
  b*Y<=a*X/\c*X<=d*Y/\d*Y - c*X<=a*X - b*Y/\X=d*(a*X - b*Y)+b*(d*Y - c*X)/\Y=c*(a*X - b*Y)+a*(d*Y - c*X):=by
 obtain⟨p,q,h1,h2,hdet,hab,hcd,hdq,hpq,hb1,hc1,hbl,hdl⟩:=h;simp only[awO]at hdet;have e1:a*X+b*ry=b*Y+(p*F+a*rx):=by
  subst h1 h2 hX hY;have:a*d*(p*F)=(b*c+1)*(p*F):=by rw[<- hdet]
  grind
 have e2:d*Y+c*rx=c*X+(q*F+d*ry):=by
  subst h1 h2 hX hY;have:a*d*(q*F)=(b*c+1)*(q*F):=by rw[<- hdet]
  grind
 have m1:b*ry<=b*F:=aw1 _ (by omega);have m3:c*rx<=c*F:=aw1 _ (by omega);have m4:d*F<=q*F:=awU _ hdq;have m5:(q+b+d)*F<=p*F:=awU _ hpq;rw[axh,axh]at m5;have m6:d*ry<=d*F:=aw1 _ (by omega);have m7:c*F<=d*F:=awU _ hcd;have g1:b*Y<=a*X:=by omega
 have g2:c*X<=d*Y:=by omega
 refine⟨g1,g2,by omega,?_,?_⟩
 ·obtain⟨U,hU⟩:=ayB g1;obtain⟨V,hV⟩:=ayB g2;rw[<- hU,<- hV,axw,axw];have t1:d*(a*X)=d*(b*Y)+d*U:=by rw[<- hU,axa]
  have t2:b*(d*Y)=b*(c*X)+b*V:=by rw[<- hV,axa]
  have t3:d*(a*X)=(b*c+1)*X:=by rw[<- hdet]; grind
  have t4:(b*c+1)*X=b*(c*X)+X:=by grind
  have t5:d*(b*Y)=b*(d*Y):=by grind
  omega
 ·obtain⟨U,hU⟩:=ayB g1;obtain⟨V,hV⟩:=ayB g2;rw[<- hU,<- hV,axw,axw];have t1:c*(a*X)=c*(b*Y)+c*U:=by rw[<- hU,axa]
  have t2:a*(d*Y)=a*(c*X)+a*V:=by rw[<- hV,axa]
  have t3:a*(d*Y)=(b*c+1)*Y:=by rw[<- hdet]; grind
  have t4:(b*c+1)*Y=c*(b*Y)+Y:=by grind
  have t5:c*(a*X)=a*(c*X):=by grind
  omega
theorem Kh {X Y U V a b c d:Nat} (h1:X=d*U+b*V) (h2:Y=c*U+a*V) (hU:Nat.gcd X Y∣U) (hV:Nat.gcd X Y∣V):Nat.gcd U V=Nat.gcd X Y:=by
 refine Nat.dvd_antisymm (Nat.dvd_gcd ?_ ?_) (Nat.dvd_gcd hU hV)
 ·rw[h1];exact Nat.dvd_add (axs (axO _ _) _) (axs (ax7 _ _) _)
 ·rw[h2];exact Nat.dvd_add (axs (axO _ _) _) (axs (ax7 _ _) _)
theorem SA {N:Nat} {x0 y0 a b c d F rx ry X Y:Nat} {odd:Bool} (h:DH x0 y0 a b c d odd) (hrx:rx<F) (hry:ry<F) (hX:X=x0*F+rx) (hY:Y=y0*F+ry) (hY0:0<Y) (sX:(af X).length+10<N/\(af X).length<=1099511627000) (sY:(af Y).length+10<N/\(af Y).length<=1099511627000) :
  ∃ U V,V<=U/\U+V<X+Y/\U<=X/\Nat.gcd U V=Nat.gcd X Y /\ ∀ k,bt N (a:Int) (b:Int) (c:Int) (d:Int) odd (af X) (af Y) k=k (af U) (af V):=by
 have hb:=h;obtain⟨p,q,h1,h2,hdet,hab,hcd,hdq,hpq,hb1,hc1,hbl,hdl⟩:=hb;have len1:∀ z e:Nat,(af z).length+10<N/\(af z).length<=1099511627000->e<18446744073709551616->oI N (af (z*e+0)):=by
  intro z e hz he;have:=j8 ((af z).length+1) (z*e+0) (by rw[axb,awX]; exact ays (mW z) he)
  exact⟨by omega,by omega⟩
 have fin:∀ U V:Nat,X=d*U+b*V->Y=c*U+a*V->V<=U->U+V<X+Y/\U<=X:=by
  intro U V hx hy hvu;have k1:1*U<=d*U:=awU _ (by omega);have k2:1*V<=b*V:=awU _ hb1;have k3:1*U<=c*U:=awU _ hc1;have hU0:0<U:=by
   rcases ayh U with hu | hu
   ·exfalso;have hv:V=0:=by omega
    rw[hu,hv,ax8,ax8]at hy;omega
   ·exact hu
  exact⟨by omega,by omega⟩
 cases odd with
 | true=>
  obtain⟨g1,g2,g3,g4,g5⟩:=RO h hrx hry hX hY;obtain⟨f1,f2⟩:=fin _ _ g4 g5 g3;refine⟨b*Y - a*X,c*X - d*Y,g3,f1,f2,Kh g4 g5 ?_ ?_,λk=>?_⟩
  ·exact azN (axs (ax7 _ _) _) (axs (axO _ _) _)
  ·exact azN (axs (axO _ _) _) (axs (ax7 _ _) _)
  ·unfold bt gu;have m:=λ(z e:Nat) (he:e<18446744073709551616) (hz:oI N (af z)) (kk:List Int->Bool)=>KC (N:=N) (e:=0) he (by decide) hz kk
   rw[show((0:Nat):Int)=0 from rfl]at m;rw[awP,m Y b hbl ⟨by omega,by omega⟩,m X a (by omega) ⟨by omega,by omega⟩,qR _ _ (bA _) (bA _) (by rw[aK,aK,axb,axb,awR X,awR Y]; exact g1) (len1 Y b sY hbl),m X c (by omega) ⟨by omega,by omega⟩,m Y d hdl ⟨by omega,by omega⟩,qR _ _ (bA _) (bA _) (by rw[aK,aK,axb,axb,awR X,awR Y]; exact g2) (len1 X c sX (by omega)),aK,aK,aK,aK,axb,axb,axb,axb,awR Y b,awR X a,awR X c,awR Y d]
 | false=>
  obtain⟨g1,g2,g3,g4,g5⟩:=LN h hrx hry hX hY;obtain⟨f1,f2⟩:=fin _ _ g4 g5 g3;refine⟨a*X - b*Y,d*Y - c*X,g3,f1,f2,Kh g4 g5 ?_ ?_,λk=>?_⟩
  ·exact azN (axs (axO _ _) _) (axs (ax7 _ _) _)
  ·exact azN (axs (ax7 _ _) _) (axs (axO _ _) _)
  ·unfold bt gu;have m:=λ(z e:Nat) (he:e<18446744073709551616) (hz:oI N (af z)) (kk:List Int->Bool)=>KC (N:=N) (e:=0) he (by decide) hz kk
   rw[show((0:Nat):Int)=0 from rfl]at m;rw[awO,m X a (by omega) ⟨by omega,by omega⟩,m Y b hbl ⟨by omega,by omega⟩,qR _ _ (bA _) (bA _) (by rw[aK,aK,axb,axb,awR X,awR Y]; exact g1) (len1 X a sX (by omega)),m Y d hdl ⟨by omega,by omega⟩,m X c (by omega) ⟨by omega,by omega⟩,qR _ _ (bA _) (bA _) (by rw[aK,aK,axb,axb,awR X,awR Y]; exact g2) (len1 Y d sY hdl),aK,aK,aK,aK,axb,axb,axb,axb,awR Y b,awR X a,awR X c,awR Y d]
theorem PZ (N x:Nat) (k:Ky8):Gj N (af x) k=k ((x%18446744073709551616:Nat):Int):=by unfold Gj abD;have:=qS N (af x) 0 (by omega) k;rw[show((0:Nat):Int)=0 from rfl]at this;rw[this,rf,ayO,ayX]
theorem J_ {N:Nat} {S1 S2 S3 S4 S5 S6 S7 S8} (e0:Int->Bool):∀(b a M:Nat),b<M->al M (FJ N S1 S2 S3 S4 S5 S6 S7 S8 e0) ((a:Int),(b:Int))=e0 ((Nat.gcd a b:Nat):Int):=by
 intro b;induction b using Nat.strongRecOn with
 | ind b ih=>
 intro a M hM;obtain⟨M,rfl⟩:∃ m,M=m+1:=⟨M - 1,by omega⟩
 show FJ N S1 S2 S3 S4 S5 S6 S7 S8 e0 ((a:Int),(b:Int)) (al M _)=_;simp only[FJ];by_cases h:b=0
 ·subst h;rw[awN (by omega),awO,Nat.gcd_zero_right]
 ·have y1:(!decide ((b:Int)=0))=true:=by simp; omega
  have emod:Int.tmod (a:Int) (b:Int)=((a%b:Nat):Int):=rfl;rw[awM (by omega),awP,ae y1,emod,ih (a%b) (axf _ (by omega)) b M (by have:=axf a (by omega:b>0); omega),ayg b,<- Nat.gcd_rec,ayg]
theorem zp {y:Nat} (h:(af y).length<=1):y<18446744073709551616:=by have:=mW y;have h2:18446744073709551616 ^ (af y).length<=18446744073709551616 ^ 1:=aw5 (by decide) h;rw[Nat.pow_one]at h2;omega
theorem Eu {N:Nat} (hN:1180591620717411303424<=N) {u v:List Int} {x y:Nat} (hy:(af y).length<=1) (hx:y=0\/(af x).length<=1) (k:Kz1) :
  zQ N (sQ6 N) (Gi N) (Gk N) (ID N) (bt N) (sQ8 N) (Gj N) (Ce N) u v (af x) (af y) k=k (af (Nat.gcd x y)):=by
 unfold zQ;have hyl:=zp hy;by_cases h:y=0
 ·subst h;rw[bT,Nat.gcd_zero_right]; rfl
 ·have e0:((((af y).length:Nat):Int)==0)=false:=by rw[dV h]; simp; omega
  have hxl:=zp (hx.resolve_left h);rw[e0,awO,PZ,PZ,awV hxl,awV hyl,J_ _ y x N (by omega)];refine xI (by omega) _ ?_ k;have:=ayW x (ax2 h);omega
theorem J3 {N:Nat} (hN:1180591620717411303424<=N) {u v:List Int} (k:Kz1) :
  ∀ s x y,x+y=s->s<N->y<=x->(af x).length<=1099511626000 ->
   Ja N (sQ6 N) (Gi N) (Gk N) (ID N) (bt N) (sQ8 N) (Gj N) (Ce N) u v (af x) (af y) k=k (af (Nat.gcd x y)):=by
 intro s x y hs hsN hyx hxl;unfold Ja;have main:∀ s x y M,x+y=s->s<M->M<=N->y<=x->(af x).length<=1099511626000 ->
   al M (Ci N (sQ6 N) (Gi N) (Gk N) (ID N) (bt N) (sQ8 N) (Gj N) (Ce N) (λ(x_3:List Int) (y_3:List Int)=>(cond ((decide ((((List.length y_3):Nat):Int)>0))==true) (cond (decide ((((List.length x_3):Nat):Int)>1)) (sQ8 N x_3 y_3 (λ(amd:List Int) (s5:List Int)=>(zQ N (sQ6 N) (Gi N) (Gk N) (ID N) (bt N) (sQ8 N) (Gj N) (Ce N) u v y_3 s5 k))) (zQ N (sQ6 N) (Gi N) (Gk N) (ID N) (bt N) (sQ8 N) (Gj N) (Ce N) u v x_3 y_3 k)) (zQ N (sQ6 N) (Gi N) (Gk N) (ID N) (bt N) (sQ8 N) (Gj N) (Ce N) u v x_3 y_3 k)))) (af x,af y)=k (af (Nat.gcd x y)):=by
  intro s;induction s using Nat.strongRecOn with
  | ind s ih=>
  intro x y M hs hsM hMN hyx hxl;obtain⟨M,rfl⟩:∃ m,M=m+1:=⟨M - 1,by omega⟩
  have hyl:=g8 hyx;show Ci N _ _ _ _ _ _ _ _ _ (af x,af y) (al M _)=_;simp only[Ci];by_cases h2:2<=(af y).length
  ·have hyge:18446744073709551616<=y:=by
    rcases axY y 18446744073709551616 with h | h
    ·have:=j8 1 y (by rw[Nat.pow_one]; exact h); omega
    ·exact h
   have hblx:64<bl x:=by
    rcases axY 64 (bl x)with h | h
    ·exact h
    ·have h1:=Un x;have h3:2 ^ bl x<=2 ^ 64:=aw5 (by decide) h;rw[ta]at h3;omega
   have hblu:bl x<=64*(af x).length:=by refine PH ?_;rw[azC,ta]; exact mW x
   obtain⟨f,hf⟩:∃ f,bl x=f+64:=⟨bl x - 64,by omega⟩
   have ef:(bl x:Int) - 64=(f:Int):=by omega
   have hF0:0<2 ^ f:=aw0 f;have hx0l:x / 2 ^ f<18446744073709551616:=by rw[awY hF0,<- ta,<- aw2,ay1,<- hf]; exact Un x
   have hy0l:y / 2 ^ f<=x / 2 ^ f:=azi hyx;rw[awM (by omega),awP,Kx (by omega),ef,ae awK,P3 (by omega),P3 (by omega),awV hx0l,awV (by omega)];obtain⟨a,b,c,d,odd,g1,g2⟩:=SJ hN hx0l hy0l;rw[g2];by_cases hb:b=0
   ·subst hb;rw[show(((0:Nat):Int) != 0)=false from rfl,awO,nQ hN (by omega) (by omega) (by omega)];have hm:=axf x (by omega:y>0);rw[ih (y+x%y) (by omega) y (x%y) M rfl (by omega) (by omega) (by omega) (by omega),ayg y,<- Nat.gcd_rec,ayg]
   ·have hbn:((b:Int) != 0)=true:=by simp; omega
    rw[hbn,awP];obtain⟨U,V,k1,k2,k3,k4,k5⟩:=SA (N:=N) (g1.resolve_left hb) (axf x hF0) (axf y hF0) (ax9 x (2 ^ f)).symm (ax9 y (2 ^ f)).symm (by omega) ⟨by omega,by omega⟩ ⟨by omega,by omega⟩;have hUl:=g8 k3;rw[k5,ih (U+V) (by omega) U V M rfl (by omega) (by omega) k1 (by omega),k4]
  ·rw[awN (by omega),awO];by_cases h0:y=0
   ·have:(((af y).length:Nat):Int)=0:=by rw[h0,bT]; rfl
    rw[this,awN (by omega),show(false==true)=false from rfl,awO,Eu hN (by omega) (.inl h0)]
   ·have hpos:0<(af y).length:=by rw[dV h0]; simp
    rw[awM (by omega),show(true==true)=true from rfl,awP];by_cases h1:1<(af x).length
    ·have hm:=axf x (ax2 h0);have hml:=g8 (Nat.le_of_lt hm);rw[awM (by omega),awP,nQ hN (ax2 h0) (by omega) (by omega),Eu hN (by omega) (.inr (by omega)),ayg y,<- Nat.gcd_rec,ayg]
    ·rw[awN (by omega),awO,Eu hN (by omega) (.inr (by omega))]
 exact main s x y N hs hsN (awT _) hyx hxl
theorem Kz {N:Nat} (hN:1180591620717411303424<=N) {x y:Nat} (hf:x+y<N) (hxl:(af x).length<=1099511626000) (hyl:(af y).length<=1099511626000) (k:Kz1):IC N (af x) (af y) k=k (af (Nat.gcd x y)):=by
 unfold IC RI;rw[l7 x y ⟨by omega,by omega⟩ ⟨by omega,by omega⟩];by_cases h:x<y
 ·have hc:decide (lR x y<0)=true:=by unfold lR; rw[if_pos h]; rfl
  rw[hc,awP,J3 hN _ (y+x) y x rfl (by omega) (by omega) hyl,ayg]
 ·have hc:decide (lR x y<0)=false:=by unfold lR; rw[if_neg h]; split <;> rfl
  rw[hc,awO,J3 hN _ (x+y) x y rfl hf (by omega) hxl]
def Fuel (N:Nat):Prop:=∃ E,4398046511104<=E/\2 ^ E<=N
theorem Fuel.lt {N:Nat} (h:Fuel N):4398046511104<N:=by obtain⟨E,h1,h2⟩:=h;have:E<2 ^ E:=Nat.lt_two_pow_self;omega
theorem Fuel.sum {N C x y:Nat} (h:Fuel N) (hC:C<=4398046511000) (hx:cP C x) (hy:cP C y):x+y<N:=by obtain⟨E,h1,h2⟩:=h;have h3:2 ^ (C+1)<=2 ^ E:=aw5 (by decide) (by omega);rw[awX]at h3;unfold cP at hx hy;omega
theorem Fuel.big {N:Nat} (h:Fuel N):1180591620717411303424<=N:=by
 obtain⟨E,h1,h2⟩:=h;have h3:2 ^ 70<=2 ^ E:=aw5 (by decide) (by omega);have e:(2:Nat) ^ 70=1180591620717411303424:=by decide
 rw[e]at h3;exact aw_ h3 h2
theorem Dh {B n:Nat} (hB:B<=2000000000100) (h:cP B n):(af n).length<=31250000003:=by have:=RU h; omega
def kr (z:Int) (d:Nat) (k:Kx5):Bool:=k (decide (z<0)) (af z.natAbs) false (af d)
def kq (x:Rat) (k:Kx5):Bool:=kr x.num x.den k
theorem Kq (g:Bool) (n d:Nat) (k:Kx5):k (sg g n) (af n) false (af d)=kr (cT g n) d k:=KU g n (λa b=>k a b false (af d))
theorem Il {N:Nat} (g:Bool) (n:Nat) (l:List Int) (b1 b2:Bool) (k:Ky0):Nj N g (af n) l b1 b2 k=k (sg g n) false:=by
 unfold Nj aaM K3 RH Ti TS;cases g
 ·rfl
 ·simp only[tv,sg,axB]; rfl
theorem SF {N:Nat} (g b:Bool) (n:Nat) (k:Ky7):IB N g (af n) b k=k (sg g n):=by
 unfold IB aaG;cases g
 ·rfl
 ·simp only[tv,sg,axB]; rfl
theorem adC (g:Bool) (n:Nat):cT (sg g n) n=cT g n:=by
 unfold cT sg;cases g
 ·rfl
 ·by_cases h:n=0
  ·subst h; rfl
  ·rw[awM h]; rfl
theorem SG {N:Nat} (g1:Bool) (n1:Nat) (g2:Bool) (n2:Nat) (h1:oI N (af n1)) (h2:oI N (af n2)) (k:Ky1) :
  WW N g2 (af n2) g1 (af n1) k=wI (cT g1 n1+cT g2 n2) k:=by
 unfold WW aa5;rw[Wf _ _ (bA _) (bA _) h1 h2,l7 _ _ h1 h2,aK,aK,rB g2 _ _ (n1+n2) k,<- On];congr 1;by_cases h:n2<=n1
 ·rw[qR _ _ (bA _) (bA _) (by rw[aK,aK]; exact h) h1,aK,aK,rB g1 _ _ (n1 - n2) k,xx,awM h];rfl
 ·rw[qR _ _ (bA n2) (bA n1) (by rw[aK,aK]; omega) h2,aK,aK,rB g2 _ _ (n2 - n1) k,xx,awN h];rfl
theorem Wi {N:Nat} (hF:Fuel N) {x y:Nat} (hy:0<y) (hxl:(af x).length<=1099511627000) (hyl:(af y).length<=1099511627000) (k:Kz1):Fo N (af x) (af y) k=k (af (x / y)):=by
 have hj:Jf N (sQ8 N) (af x) (af y) k=k (af (x / y)):=by unfold Jf;rw[nQ hF.big hy hxl hyl]
 unfold Fo Gt;by_cases h1:(af y).length=1
 ·have e:((((af y).length:Nat):Int)==1)=true:=by rw[h1]; rfl
  rw[e,show(true==true)=true from rfl,awP,ae awL];have hyw:=uo (by omega:y ≠ 0) (zp (by omega));by_cases h2:y=1
  ·have:((af y).getD 0 0==1)=true:=by rw[hyw,h2]; rfl
   rw[this,awP,h2,ayX]
  ·have:((af y).getD 0 0==1)=false:=by rw[hyw]; simp; omega
   rw[this,awO,hj]
 ·have e:((((af y).length:Nat):Int)==1)=false:=by simp; omega
  rw[e,show(false==true)=false from rfl,awO,hj]
theorem kD {N:Nat} (a:Bool) (l:List Int) (b:Bool) {d:Nat} (hd:d ≠ 0) (k:Kz1):K5 N a l b (af d) k=k (af d):=by
 unfold K5 aaQ;have:((((af d).length:Nat):Int)==0)=false:=by rw[dV hd]; simp; omega
 rw[this]; rfl
theorem KF {N:Nat} (a:Bool) (l:List Int) (b:Bool) {d:Nat} (hd:d ≠ 0) (k:Kz1):aej N a l b (af d) k=k (af d):=by
 unfold aej abj;have:((((af d).length:Nat):Int)==0)=false:=by rw[dV hd]; simp; omega
 rw[this]; rfl
theorem xK {N B:Nat} (hF:Fuel N) (hB:B<=2000000000100) {a b:Nat} (ha:cP B a) (hb:cP B b) (k:Kz1):Le N (af a) (af b) k=k (af (a*b)):=by have h1:=Dh hB ha;have h2:=Dh hB hb;have:=hF.lt;rw[MK _ _ (bA _) (bA _) (by omega) (by omega),aK,aK]
theorem AB {N B:Nat} (hF:Fuel N) (hB:B<=2000000000100) {a b:Nat} (ha:cP B a) (hb:cP B b) (k:Kz1):IC N (af a) (af b) k=k (af (Nat.gcd a b)):=by have h1:=Dh hB ha;have h2:=Dh hB hb;rw[Kz hF.big (hF.sum (by omega) ha hb) (by omega) (by omega)]
theorem sC {N B:Nat} (hF:Fuel N) (hB:B<=2000000000100) {a b:Nat} (h0:0<b) (ha:cP B a) (hb:cP B b) (k:Kz1):Fo N (af a) (af b) k=k (af (a / b)):=by have h1:=Dh hB ha;have h2:=Dh hB hb;rw[Wi hF h0 (by omega) (by omega)]
theorem uD {N B:Nat} (hB:B<=2000000000100) {a:Nat} (ha:cP B a) (k:Kz1):Dk N (af a) k=k (af a):=by have h1:=Dh hB ha;rw[B7 _ (by omega)]
theorem gw {B a b:Nat} (h:cP B a):cP B (a / b):=qr h (ay7 _ _)
theorem Yo {N B n:Nat} (hF:Fuel N) (hB:B<=2000000000100) (h:cP B n):oI N (af n):=by have h1:=Dh hB h;have:=hF.lt;exact⟨by omega,by omega⟩
def Bq (B:Nat) (x:Rat):Prop:=cP B x.num.natAbs/\cP B x.den
theorem Bq.mono {A B:Nat} {x:Rat} (h:Bq A x) (hAB:A<=B):Bq B x:=⟨gQ h.1 hAB,gQ h.2 hAB⟩
theorem EY (z:Int) (f:Nat):cT (decide (z<0)) (z.natAbs*f)=z*f:=by
 unfold cT;by_cases h:z<0
 ·rw[awM h,if_pos rfl];have:(z.natAbs:Int) = -z:=by omega
  rw[aw4,this,ayN,Int.neg_neg]
 ·rw[awN h,if_neg (by decide)];have:(z.natAbs:Int)=z:=by omega
  rw[aw4,this]
theorem EZ {z:Int} {h:Nat} (h0:0<h) (hd:h∣z.natAbs):cT (decide (z<0)) (z.natAbs / h)=z / (h:Int):=by
 obtain⟨q,hq⟩:=hd;rw[hq,axx _ h0];unfold cT;have hh:(h:Int) ≠ 0:=by omega
 by_cases hz:z<0
 ·rw[awM hz,if_pos rfl];have:z=(h:Int)*(-(q:Int)):=by
   have e:(z.natAbs:Int)=(h:Int)*q:=by rw[hq,aw4]
   rw[azM,<- e]; omega
  rw[this,ay2 _ hh]
 ·rw[awN hz,if_neg (by decide)];have:z=(h:Int)*(q:Int):=by
   have e:(z.natAbs:Int)=(h:Int)*q:=by rw[hq,aw4]
   rw[<- e]; omega
  rw[this,ay2 _ hh]
theorem T6 (x y:Rat):(x+y).num=(x.num*((y.den / Nat.gcd x.den y.den:Nat):Int)+y.num*((x.den / Nat.gcd x.den y.den:Nat):Int)) / ((Nat.gcd (x.num*((y.den / Nat.gcd x.den y.den:Nat):Int)+y.num*((x.den / Nat.gcd x.den y.den:Nat):Int)).natAbs (Nat.gcd x.den y.den):Nat):Int)
  /\ (x+y).den=x.den / Nat.gcd x.den y.den*(y.den / Nat.gcd (x.num*((y.den / Nat.gcd x.den y.den:Nat):Int)+y.num*((x.den / Nat.gcd x.den y.den:Nat):Int)).natAbs (Nat.gcd x.den y.den)):=by
 have aux:=Rat.add.aux x y (g:=Nat.gcd x.den y.den) rfl rfl rfl;simp only at aux;have hx:=x.den_pos;have hy:=y.den_pos;obtain⟨g,hg⟩:∃ g,g=Nat.gcd x.den y.den:=⟨_,rfl⟩
 rw[<- hg]at aux ⊢;have hg0:0<g:=by rw[hg]; exact Nat.gcd_pos_of_pos_left _ hx
 have hgx:g∣x.den:=by rw[hg]; exact axO _ _
 have hgy:g∣y.den:=by rw[hg]; exact ax7 _ _
 obtain⟨e,he⟩:∃ e,e=x.den / g:=⟨_,rfl⟩
 obtain⟨f,hf⟩:∃ f,f=y.den / g:=⟨_,rfl⟩
 rw[<- he,<- hf]at aux ⊢;have ex:x.den=e*g:=by rw[he,Nat.div_mul_cancel hgx]
 have ey:y.den=f*g:=by rw[hf,Nat.div_mul_cancel hgy]
 obtain⟨n,hn⟩:∃ n,n=x.num*(f:Int)+y.num*(e:Int):=⟨_,rfl⟩
 rw[<- hn]at aux ⊢;have hsum:x+y=mkRat n (e*y.den):=by
  rw[Rat.add_def'];have e1:x.num*(y.den:Int)+y.num*(x.den:Int)=n*(g:Int):=by rw[ex,ey,hn]; simp only[aw4]; grind
  have e2:x.den*y.den=e*y.den*g:=by rw[ex]; grind
  rw[e1,e2,Rat.mkRat_mul_right (by omega)]
 have he0:0<e:=by
  rcases ayh e with h | h
  ·rw[h,axF]at ex; omega
  ·exact h
 have hd0:e*y.den ≠ 0:=by have:=ayI he0 hy; omega
 have hhy:Nat.gcd n.natAbs g∣y.den:=Nat.dvd_trans (ax7 _ _) hgy;constructor
 ·rw[hsum,Rat.num_mkRat,if_neg hd0,ayg,<- aux]
 ·rw[hsum,Rat.den_mkRat,if_neg hd0,ayg,<- aux,Nat.mul_div_assoc _ hhy]
theorem GY {A:Nat} {z w:Int} (hz:cP A z.natAbs) (hw:cP A w.natAbs):cP (A+1) (z+w).natAbs:=qr (Ej hz hw) (by omega)
theorem xv {A B:Nat} {z:Int} {n:Nat} (hz:cP A z.natAbs) (hn:cP B n):cP (A+B) (z*(n:Int)).natAbs:=by rw[ayx,axI]; exact po hz hn
theorem E7 {N B:Nat} (hF:Fuel N) (hB:B<=1000000000000) {x y:Rat} (hx:Bq B x) (hy:Bq B y) (b1 b2:Bool) (k:Kx5) :
  W4 N (decide (x.num<0)) (af x.num.natAbs) false (af x.den) (decide (y.num<0)) (af y.num.natAbs) false (af y.den) b1 b2 k=kq (x+y) k:=by
 unfold W4 TV;obtain⟨m1,m2⟩:=T6 x y;have hB2:B<=2000000000100:=by omega
 have hxd:=x.den_pos;have hyd:=y.den_pos;rw[kD _ _ _ x.den_nz,kD _ _ _ y.den_nz,AB hF hB2 hx.2 hy.2];obtain⟨g,hg⟩:∃ g,g=Nat.gcd x.den y.den:=⟨_,rfl⟩
 rw[<- hg]at m1 m2 ⊢;have hg0:0<g:=by rw[hg]; exact Nat.gcd_pos_of_pos_left _ hxd
 have hgb:cP B g:=by rw[hg]; exact qr hx.2 (Nat.gcd_le_left _ hxd)
 have hgy:g∣y.den:=by rw[hg]; exact ax7 _ _
 rw[sC hF hB2 hg0 hx.2 hgb,sC hF hB2 hg0 hy.2 hgb,xK hF hB2 hx.1 (gw hy.2),SF,xK hF hB2 hy.1 (gw hx.2)];have hb1:=po hx.1 (gw (b:=g) hy.2);have hb2:=po hy.1 (gw (b:=g) hx.2);rw[SG _ _ _ _ (Yo hF (by omega) hb1) (Yo hF (by omega) hb2),adC,EY,EY];have hnb:cP (B+B+1) (x.num*((y.den / g:Nat):Int)+y.num*((x.den / g:Nat):Int)).natAbs:=GY (xv hx.1 (gw hy.2)) (xv hy.1 (gw hx.2));obtain⟨n,hn⟩:∃ n,n=x.num*((y.den / g:Nat):Int)+y.num*((x.den / g:Nat):Int):=⟨_,rfl⟩
 rw[<- hn]at m1 m2 hnb ⊢;have hB3:B+B+1<=2000000000100:=by omega
 unfold wI;dsimp only;rw[AB hF hB3 hnb (gQ hgb (by omega))];obtain⟨h,hh⟩:∃ h,h=Nat.gcd n.natAbs g:=⟨_,rfl⟩
 rw[<- hh]at m1 m2 ⊢;have hh0:0<h:=by rw[hh]; exact axX _ hg0
 have hhb:cP B h:=by rw[hh]; exact qr hgb (ayW _ hg0)
 rw[sC hF hB3 hh0 hnb (gQ hhb (by omega)),uD hB3 (gw hnb),sC hF hB2 hh0 hy.2 hhb,xK hF hB2 (gw hx.2) (gw hy.2),Il,Kq _ _ _ k,EZ hh0 (by rw[hh]; exact axO _ _),<- m1,<- m2];rfl
theorem Kv {N B:Nat} (hF:Fuel N) (hB:B<=1000000000000) {x y:Rat} (hx:Bq B x) (hy:Bq B y) (b1 b2:Bool) (k:Kx5) :
  aeh N (decide (x.num<0)) (af x.num.natAbs) false (af x.den) b1 b2 (decide (y.num<0)) (af y.num.natAbs) false (af y.den) k=kq (x+y) k:=by
 rw[<- E7 hF hB hx hy b1 b2 k];unfold aeh abd W4 TV;rw[kD _ _ _ x.den_nz,KF _ _ _ y.den_nz,kD _ _ _ x.den_nz,kD _ _ _ y.den_nz]
theorem V9 (g:Bool) (n:Nat):cT (!g) n = -(cT g n):=by unfold cT; cases g <;> simp
theorem Hh (z:Int):cT (decide (z<0)) z.natAbs=z:=rz z
theorem MJ {N B:Nat} (hB:B<=2000000000100) {y:Rat} (hy:Bq B y) (b1 b2:Bool) (k:Kx5) :
  aen N (decide (y.num<0)) (af y.num.natAbs) false (af y.den) b1 b2 k=kq (-y) k:=by
 unfold aen abr;rw[uD hB hy.1,kD _ _ _ y.den_nz,uD hB hy.2,Il,Kq _ _ _ k,V9,Hh];rfl
theorem KB {N B:Nat} (hF:Fuel N) (hB:B<=1000000000000) {x y:Rat} (hx:Bq B x) (hy:Bq B y) (k:Kx5) :
  bD N (decide (x.num<0)) (af x.num.natAbs) false (af x.den) (decide (y.num<0)) (af y.num.natAbs) false (af y.den) k=kq (x - y) k:=by
 unfold bD fZ agS aby;rw[MJ (by omega) hy];unfold kq kr;dsimp only;have hny:Bq B (-y):=⟨by rw[Rat.neg_num,azc]; exact hy.1,hy.2⟩
 rw[Kv hF hB hx hny,Rat.sub_eq_add_neg];rfl
theorem adH {N B:Nat} (hF:Fuel N) (hB:B<=1000000000000) {x y:Rat} (hx:Bq B x) (hy:Bq B y) (k:Kx5) :
  gp N (decide (x.num<0)) (af x.num.natAbs) false (af x.den) (decide (y.num<0)) (af y.num.natAbs) false (af y.den) k=kq (x+y) k:=by
 unfold gp gc;rw[E7 hF hB hx hy]
theorem Wu (x w:Rat):(x*w).num=cT (decide (x.num<0)) (x.num.natAbs / Nat.gcd x.num.natAbs w.den)*cT (decide (w.num<0)) (w.num.natAbs / Nat.gcd w.num.natAbs x.den)
  /\ (x*w).den=x.den / Nat.gcd w.num.natAbs x.den*(w.den / Nat.gcd x.num.natAbs w.den):=by
 have H1:0<x.num.natAbs.gcd w.den:=axX _ w.den_pos;have H2:0<w.num.natAbs.gcd x.den:=axX _ x.den_pos;have d1:Nat.gcd x.num.natAbs w.den∣x.num.natAbs:=axO _ _;have d2:Nat.gcd w.num.natAbs x.den∣w.num.natAbs:=axO _ _;rw[EZ H1 d1,EZ H2 d2];have e1:(x*w).num=x.num.tdiv (Nat.gcd x.num.natAbs w.den:Nat)*w.num.tdiv (Nat.gcd w.num.natAbs x.den:Nat):=by
  show(Rat.mul x w).num=_
  delta Rat.mul
  simp only[Int.divExact_eq_tdiv]
 have e2:(x*w).den=x.den / Nat.gcd w.num.natAbs x.den*(w.den / Nat.gcd x.num.natAbs w.den):=by
  show(Rat.mul x w).den=_
  delta Rat.mul
  simp only[Nat.divExact_eq_div]
 refine⟨?_,e2⟩;rw[e1,Int.tdiv_eq_ediv_of_dvd (Int.ofNat_dvd_left.2 d1),Int.tdiv_eq_ediv_of_dvd (Int.ofNat_dvd_left.2 d2)]
theorem KD {N B:Nat} (hF:Fuel N) (hB:B<=1000000000000) {x w:Rat} (hx:Bq B x) (hw:Bq B w) (b1 b2:Bool) (k:Kx5) :
  WT N (decide (x.num<0) != decide (w.num<0)) (af x.num.natAbs) (af x.den) (af w.num.natAbs) (af w.den) b1 b2 k=kq (x*w) k:=by
 unfold WT aaZ;have hB2:B<=2000000000100:=by omega
 obtain⟨m1,m2⟩:=Wu x w;have H1:0<x.num.natAbs.gcd w.den:=axX _ w.den_pos;have H2:0<w.num.natAbs.gcd x.den:=axX _ x.den_pos;have L1:cP B (x.num.natAbs.gcd w.den):=qr hw.2 (ayW _ w.den_pos);have L2:cP B (w.num.natAbs.gcd x.den):=qr hx.2 (ayW _ x.den_pos);rw[AB hF hB2 hx.1 hw.2,AB hF hB2 hw.1 hx.2,sC hF hB2 H1 hx.1 L1,sC hF hB2 H2 hw.1 L2,xK hF hB2 (gw hx.1) (gw hw.1),sC hF hB2 H2 hx.2 L2,sC hF hB2 H1 hw.2 L1,xK hF hB2 (gw hx.2) (gw hw.2),Il,Kq _ _ _ k,Kp,<- m1,<- m2];rfl
theorem adJ {N B:Nat} (hF:Fuel N) (hB:B<=1000000000000) {x y:Rat} (hx:Bq B x) (hy:Bq B y) (k:Kx5) :
  fH N (decide (x.num<0)) (af x.num.natAbs) false (af x.den) (decide (y.num<0)) (af y.num.natAbs) false (af y.den) k=kq (x*y) k:=by
 unfold fH fC agQ abw;rw[kD _ _ _ x.den_nz,kD _ _ _ y.den_nz,KD hF hB hx hy]
theorem Ko {y:Rat} (h:y.num ≠ 0):(y⁻¹).num.natAbs=y.den/\(y⁻¹).den=y.num.natAbs/\decide ((y⁻¹).num<0)=decide (y.num<0):=by
 have hd:=y.den_pos;refine⟨?_,?_,?_⟩
 ·rw[Rat.num_inv,ayx,axI,Int.natAbs_sign,if_neg h,ax4]
 ·rw[Rat.den_inv,if_neg h]
 ·rw[Rat.num_inv];rcases Int.lt_trichotomy y.num 0 with h1 | h1 | h1
  ·rw[Int.sign_eq_neg_one_of_neg h1,awM h1,awM (by omega)]
  ·exact absurd h1 h
  ·rw[Int.sign_eq_one_of_pos h1,awN (by omega),awN (by omega)]
theorem adM {N B:Nat} (hF:Fuel N) (hB:B<=1000000000000) {x y:Rat} (hx:Bq B x) (hy:Bq B y) (h0:y.num ≠ 0) (k:Kx5) :
  cl N (decide (x.num<0)) (af x.num.natAbs) false (af x.den) (decide (y.num<0)) (af y.num.natAbs) false (af y.den) k=kq (x / y) k:=by
 obtain⟨i1,i2,i3⟩:=Ko h0;unfold cl f_ agR abx;have hw:Bq B (y⁻¹):=⟨by rw[i1]; exact hy.2,by rw[i2]; exact hy.1⟩
 have hp:=λkk=>KD (b1:=false) (b2:=false) hF hB hx hw kk
 rw[i1,i2,i3]at hp;rw[kD _ _ _ x.den_nz,kD _ _ _ y.den_nz,hp,Rat.div_def]
theorem CN {N B:Nat} (hF:Fuel N) (hB:B<=2000000000000) (g:Bool) {n d:Nat} (hn:cP B n) (hd:cP B d) (h0:0<d) (b1 b2:Bool) (k:Kx5) :
  aei N g (af n) (af d) b1 b2 k=kq (mkRat (cT g n) d) k:=by
 have hB2:B<=2000000000100:=by omega
 have hl:=hF.lt;have hnum:(mkRat (cT g n) d).num=cT g (n / Nat.gcd n d):=by
  rw[Rat.num_mkRat,if_neg (by omega)];have e:(cT g n).natAbs=n:=by unfold cT; cases g <;> simp
  have hg:0<Nat.gcd n d:=axX _ h0;rw[e,ayg];obtain⟨q,hq⟩:=axO n d;have hh:((Nat.gcd n d:Nat):Int) ≠ 0:=by omega
  have e2:cT g n=((Nat.gcd n d:Nat):Int)*cT g (n / Nat.gcd n d):=by
   have hnn:n=Nat.gcd n d*(n / Nat.gcd n d):=(Nat.mul_div_cancel' (axO n d)).symm;have hc:(n:Int)=((Nat.gcd n d:Nat):Int)*((n / Nat.gcd n d:Nat):Int):=by rw[<- aw4,<- hnn]
   unfold cT;cases g
   ·simpa using hc
   ·simp only[ax5]; rw[hc,azM]
  rw[e2,ay2 _ hh]
 have hden:(mkRat (cT g n) d).den=d / Nat.gcd n d:=by
  rw[Rat.den_mkRat,if_neg (by omega)];have e:(cT g n).natAbs=n:=by unfold cT; cases g <;> simp
  rw[e,ayg]
 have hj:∀ m e:Nat,cP B m->cP B e->Jb N (IC N) (sQ6 N) (sQ8 N) (Dk N) (K3 N) (Ti N) g (af n) (af d) b1 b2 (af m) (af e) k=k (sg g m) (af m) false (af e):=by
  intro m e hm he;unfold Jb;rw[uD hB2 hm];unfold K3 RH;dsimp only;rw[uD hB2 he,uD hB2 he];unfold Ti TS;cases g
  ·rfl
  ·simp only[tv,sg,axB]; rfl
 have hg0:0<Nat.gcd n d:=axX _ h0;have hgb:cP B (Nat.gcd n d):=qr hd (ayW _ h0);have h1:=Dh hB2 hn;have h2:=Dh hB2 hd;have h3:=Dh hB2 hgb;have e1:af 1=[1]:=uo (by decide) (by decide);unfold aei RJ;rw[AB hF hB2 hn hd,<- e1,l7 _ 1 ⟨by omega,by omega⟩ ⟨by rw[e1]; simp; omega,by rw[e1]; simp⟩];by_cases hc:Nat.gcd n d=1
 ·have:(lR (Nat.gcd n d) 1 != 0)=false:=by rw[hc]; rfl
  rw[this,awO,hj n d hn hd,Kq _ _ _ k];rw[hc,ayX]at hnum hden;unfold kq;rw[hnum,hden]
 ·have:(lR (Nat.gcd n d) 1 != 0)=true:=by unfold lR; rw[if_neg (by omega),if_neg hc]; rfl
  rw[this,awP,nQ hF.big hg0 (by omega) (by omega),nQ hF.big hg0 (by omega) (by omega),hj _ _ (gw hn) (gw hd),Kq _ _ _ k,<- hnum,<- hden];rfl
theorem MN {N:Nat} (hF:Fuel N) (k:Kx5):fQ N 0 k=kq 0 k:=by
 have:=hF.lt;unfold fQ lP WP Pl;have n0:=λkk=>wR (N:=N) (by omega) 0 (by decide) kk
 have n1:=λkk=>wR (N:=N) (by omega) 1 (by decide) kk
 rw[show((0:Nat):Int)=0 from rfl]at n0;rw[show((1:Nat):Int)=1 from rfl]at n1;unfold sQ7 GQ7;rw[n0,n1,CN hF (B:=10) (by decide) _ (by unfold cP; decide) (by unfold cP; decide) (by decide)];rfl
theorem pz {N:Nat} (x:Rat) (k:Ky8):bE N (decide (x.num<0)) (af x.num.natAbs) false (af x.den) k=k (vK x.num):=by
 unfold bE gd WM Pc WL Pb vK;by_cases h:x.num<0
 ·rw[awM h,awP,if_neg (by omega),if_pos h]
 ·rw[awN h,awO,if_neg h];by_cases h0:x.num=0
  ·rw[h0,if_pos rfl];have:af (0:Int).natAbs=[]:=bT;rw[this]; rfl
  ·have:((((af x.num.natAbs).length:Nat):Int)==0)=false:=by rw[dV (by omega)]; simp; omega
   rw[this,awO,if_neg h0]
theorem R4:∀(i V:Nat),(aM V).getD i 0=((V / 4294967296 ^ i%4294967296:Nat):Int)
 | i,V=>by
  by_cases h:V=0
  ·subst h; rw[gR]; simp
  ·rw[nE h];cases i with
   | zero=>simp
   | succ i=>
    show(aM (V / 4294967296)).getD i 0=_;rw[R4 i (V / 4294967296),awX,awR,<- awZ]
theorem alb {r x:Nat} (hr:r<4294967296) (hx:x<4294967296):az .or .u64 (IntKind.wrap .u64 ((r:Int)*2 ^ 32)) (IntKind.wrap .u64 (x:Int))=((r*4294967296+x:Nat):Int):=by
 have p32:(2:Nat) ^ 32=4294967296:=by decide
 have q32:(2:Int) ^ 32=4294967296:=by decide
 have e1:IntKind.wrap .u64 ((r:Int)*2 ^ 32)=((2 ^ 32*r:Nat):Int):=by rw[q32,p32,aD]; omega
 have e2:IntKind.wrap .u64 (x:Int)=(x:Int):=by rw[aD]; omega
 rw[e1,e2,yx,dE _ _ 32 (by omega) (by omega),p32];congr 1; omega
theorem ak0 {A B r u0:Nat} (h:r*4294967296+u0<A):B+r*4294967296+u0<B+A:=by omega
theorem ak8 {V Y Z X U Q:Nat} (h1:V<Y) (h2:Y<=Z) (h3:X<=U) (h4:X=Q*4294967296) (h5:U<V*4294967296):Q<Z:=by omega
def sgn (neg:Bool) (n:Nat):Int:=cond neg (-(n:Int)) (n:Int)
theorem ajR {a b c d X Y:Nat} (hdet:b*c=a*d+1) (g1:a*X<=b*Y) (g2:d*Y<=c*X):X=d*(b*Y - a*X)+b*(c*X - d*Y)/\Y=c*(b*Y - a*X)+a*(c*X - d*Y):=by
 obtain⟨U,hU⟩:=ayB g1;obtain⟨V,hV⟩:=ayB g2;rw[<- hU,<- hV,axw,axw];constructor
 ·have t1:d*(b*Y)=d*(a*X)+d*U:=by rw[<- hU,axa]
  have t2:b*(c*X)=b*(d*Y)+b*V:=by rw[<- hV,axa]
  have t3:b*(c*X)=(a*d+1)*X:=by rw[<- hdet,awW]
  have t4:(a*d+1)*X=d*(a*X)+X:=by grind
  have t5:d*(b*Y)=b*(d*Y):=by grind
  omega
 ·have t1:c*(b*Y)=c*(a*X)+c*U:=by rw[<- hU,axa]
  have t2:a*(c*X)=a*(d*Y)+a*V:=by rw[<- hV,axa]
  have t3:c*(b*Y)=(a*d+1)*Y:=by rw[<- hdet]; grind
  have t4:(a*d+1)*Y=a*(d*Y)+Y:=by grind
  have t5:c*(a*X)=a*(c*X):=by grind
  omega
theorem TA {a b:Nat} (ha:a<4294967296) (hb:b<4294967296):az .and .u32 (a:Int) (b:Int)=((a &&& b:Nat):Int):=by
 unfold az qf;simp only[axk];have h32:(2:Nat) ^ 32=4294967296:=by decide
 have e:((BitVec.ofInt (IntKind.bits .u32) (a:Int)) &&& (BitVec.ofInt (IntKind.bits .u32) (b:Int))).toNat=a &&& b:=by show((BitVec.ofInt 32 (a:Int)) &&& (BitVec.ofInt 32 (b:Int))).toNat=_;rw[ayt,axg,axg,axi,axi,awV (by omega),awV (by omega)]
 have hl:a &&& b<4294967296:=ayF Nat.and_le_left ha;rw[e,Ly _ hl]
end Go.Proofs.YtldenpmpmifnlaaGreatDoor
end
