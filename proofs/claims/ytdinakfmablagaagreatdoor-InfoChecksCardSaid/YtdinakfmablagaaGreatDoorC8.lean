/- Laws in plain Lean. Conditions: none. -/
import Derived.Test.YtdinakfmablagaaGreatDoorD1
import Derived.Test.YtdinakfmablagaaGreatDoorFlA
set_option linter.unusedVariables false
section
namespace Go.Proofs.YtdinakfmablagaaGreatDoor
open Go Go.Mach Ieee
theorem Mw {N n j:Nat} (hN:1000<=N) (hj:j<=900) (h:n<4294967296 ^ j):fE N (aj n):=by have:=cz j n h;exact⟨by omega,by omega⟩
theorem pb {N n:Nat} (hN:1000<=N) (h:n<18446744073709551616):fE N (aj n):=Mw (j:=2) hN (by decide) (by
 have:(4294967296:Nat) ^ 2=18446744073709551616:=by decide
 omega)
theorem ZU (n:Nat):aD .and .u64 (n:Int) 2047=((n%2048:Nat):Int):=by have:=kf n 11 (by decide);simpa using this
theorem Bw (s:Bool) (m:Nat) (i:Int):∃ r,Ieee.double.nearest s m i=Ieee.double.word s r/\r<=9218868437227405312:=by
 unfold Format.nearest;split
 ·exact⟨0,rfl,by omega⟩
 ·rw[lC]; exact⟨_,rfl,aiK _ _⟩
theorem Gx (s:Bool) (m:Nat) (i:Int):W64 (Ieee.double.nearest s m i):=by obtain⟨r,h,hr⟩:=Bw s m i;rw[h]; exact Cg s (by omega)
theorem XU {N:Nat} (hN:1000<=N) {n:Nat} (h:n<=48):di N n:=⟨by omega,by omega⟩
theorem Oz (b:Nat):bD (some b)=decide (b%9223372036854775808<9218868437227405312):=by
 unfold bD Format.read;simp only[iZ,sG,lC];by_cases h1:b%9223372036854775808<4503599627370496
 ·rw[if_pos h1,afu (by omega)]; rfl
 ·rw[if_neg h1];by_cases h2:b%9223372036854775808<9218868437227405312
  ·rw[if_pos h2,afu h2]; rfl
  ·rw[if_neg h2,afv h2];split <;> rfl
def Nn (x:Fl):Prop:=∃ b,x=some b/\isNaN b=false
theorem VA {x:Fl} (h:bD x=true):Nn x:=by
 cases x with
 | none=>cases h
 | some b=>
  rw[Oz]at h;have:=afB h;refine⟨b,rfl,?_⟩;rw[ah7];intro hc;have:=(fj b).1 hc;omega
theorem Qs (s:Bool) {r:Nat} (h:r<=9218868437227405312):Nn (some (Ieee.double.word s r)):=by
 refine⟨_,rfl,?_⟩;rw[ah7];intro hc;have h1:=(fj _).1 hc;have hw:Ieee.double.word s r%9223372036854775808=r:=by unfold Format.word; rw[iZ]; cases s <;> simp <;> omega
 omega
theorem Ak (s:Bool) (m:Nat) (i:Int):Nn (some (Ieee.double.nearest s m i)):=by obtain⟨r,h,hr⟩:=Bw s m i;rw[h]; exact Qs s hr
abbrev K4:=Fl->Fl->Fl->Fl->Int->Bool
def gv:Nat->Nat->Int->Nat × Int
 | 0,m,e=>(m,e)
 | f+1,m,e=>if m%2=0 then gv f (m / 2) (e+1)else(m,e)
theorem qW:∀ f m e,m ≠ 0->m<2 ^ f->e<=(gv f m e).2/\(gv f m e).2<=e+f/\(gv f m e).1*2 ^ ((gv f m e).2 - e).toNat=m/\(gv f m e).1<=m
 | 0,m,e,h0,h=>by simp at h; omega
 | f+1,m,e,h0,h=>by
  unfold gv;split
  ·rename_i hm;obtain⟨h1,h2,h3,h4⟩:=qW f (m / 2) (e+1) (by omega) (by rw[afI]at h; omega);refine⟨by omega,by omega,?_,by omega⟩;have:((gv f (m / 2) (e+1)).2 - e).toNat=((gv f (m / 2) (e+1)).2 - (e+1)).toNat+1:=by omega
   rw[this,afI,<- afG,h3]; omega
  ·refine⟨by omega,by omega,?_,afH _⟩;rw[Int.sub_self]; simp
theorem Q9 {N:Nat} (hN:1000<=N) {m:Nat} {e:Int} (h0:m ≠ 0) (hm:m<2 ^ 64) (he1 : -2000<=e) (he2:e<=2000) (k:Ky5) :
  pZ N m e k=k ((gv 64 m e).1:Int) (gv 64 m e).2:=by
 (unfold pZ; rw[ac]; unfold uk)
 have key:∀ f:Nat,f<=64 -> ∀(m:Nat) (e:Int),m ≠ 0->m<2 ^ f->m<2 ^ 64 -> -2000<=e->e+f<=3000 -> ∀ M:Nat,f<M->ah M (kW N λa b=>k a b) ((m:Int),e)=k ((gv f m e).1:Int) (gv f m e).2:=by
  intro f;induction f with
  | zero=>intro _ m e h0 h; simp at h; omega
  | succ f ih=>
   intro hf m e h0 h h64 h1 h2 M hM;cases M with
   | zero=>omega
   | succ M=>
    show kW N _ ((m:Int),e) (ah M _)=_;have e2:Int.tmod (m:Int) 2=((m%2:Nat):Int):=by rw[ago (by omega)]; rfl
    have e3:Int.tdiv (m:Int) 2=((m / 2:Nat):Int):=by rw[agA (by omega)]; rfl
    simp only[kW,gv,e2,e3];by_cases hm:m%2=0
    ·have:(((m%2:Nat):Int)==0)=true:=by rw[hm]; rfl
     have ew:IntKind.wrap .u64 ((m / 2:Nat):Int)=((m / 2:Nat):Int):=by
      rw[am];have:(2:Nat) ^ 64=18446744073709551616:=by decide
      omega
     rw[this,afx,aa afs,if_pos hm,ew];exact ih (by omega) (m / 2) (e+1) (by omega) (by rw[afI]at h; omega) (by omega) (by omega) (by omega) M (by omega)
    ·have:(((m%2:Nat):Int)==0)=false:=by
      have:m%2=1:=by omega
      rw[this]; rfl
     rw[this,afw,if_neg hm]
 have:((m:Int)==0)=false:=by simp; omega
 rw[this,afw];exact key 64 (afH _) m e h0 hm hm (by omega) (by omega) N (by omega)
theorem Pd (N:Nat) (e:Int) (k:Ky5):pZ N 0 e k=k 0 0:=by (unfold pZ; rw[ac]; unfold uk); rfl
def ofE (x:Fl):Int × Int:=match x with
 | some b=>match Ieee.double.read b with
  | .number s m i=>if m=0 then(0,0)else((gv 64 m i).2,aY s (gv 64 m i).1)
  | _=>(0,0)
 | none=>(0,0)
theorem En {b:Nat} {s:Bool} {m:Nat} {i:Int} (h:Ieee.double.read b=.number s m i):ofE (some b)=if m=0 then(0,0)else((gv 64 m i).2,aY s (gv 64 m i).1):=by unfold ofE; simp only[h]
theorem Lo {N:Nat} (hN:1000<=N) {b:Nat} (hb:W64 b) {s:Bool} {m:Nat} {i:Int} (h:Ieee.double.read b=.number s m i) (k:Kx4) :
    tO N (some b) k=if m=0 then k s 0 0 0 else k s ((gv 64 m i).1:Int) (gv 64 m i).2 0:=by
  obtain⟨h1,h2,h3⟩:=mD h;have hpl:=pV h;have hnn:isNaN b=false:=by rw[ah7]; intro hc; have:=(fj b).1 hc; omega
  have hbits:mV (some b)=b:=by simp only[mV,cnb,hnn]; rfl
  have hsg:(Int.fdiv (b:Int) (2 ^ 63)==1)=s:=by
    have e:(2:Int) ^ 63=((9223372036854775808:Nat):Int):=by decide
    rw[e,kx,h1];have hW:b / 9223372036854775808<2:=by have:=hb; omega
    have:b / 9223372036854775808=0\/b / 9223372036854775808=1:=by omega
    rcases this with h | h <;> rw[h] <;> rfl
  have fin:∀(e:Int),i=e - 1074 -> -1100<=e->e<=2100->lS N (some b) s e (m:Int) k=if m=0 then k s 0 0 0 else k s ((gv 64 m i).1:Int) (gv 64 m i).2 0:=by
    intro e he h5 h6;unfold lS;rw[aa afs,<- he];by_cases h0:m=0
    · subst h0; rw[if_pos rfl]; exact Pd N i _
    · rw[if_neg h0,Q9 hN h0 (by have:(2:Nat) ^ 64=18446744073709551616:=(by decide); omega) (by omega) (by omega)]
  (unfold tO; rw[ac]; unfold sr)
  rw[C_,hbits];rw[hsg];have n2047:(((b / 4503599627370496%2048:Nat):Int)==2047)=false:=by simp; omega
  rw[n2047,afw];rcases h3 with⟨g1,g2,g3⟩ | ⟨g1,g2,g3⟩
  · have e0:b / 4503599627370496%2048=0:=by omega
    have e1:b%4503599627370496=m:=by omega
    rw[e0,e1,afv (by decide),afw];exact fin 0 (by omega) (by omega) (by omega)
  · have e0:0<b / 4503599627370496%2048:=by omega
    have e1:IntKind.wrap .u64 (((b%4503599627370496:Nat):Int)+4503599627370496)=(m:Int):=by rw[am]; omega
    rw[afu (by omega:((b / 4503599627370496%2048:Nat):Int)>0),afx,aa afs,e1];exact fin _ (by omega) (by omega) (by omega)
theorem VU {N:Nat} (hN:1000<=N) {x:Fl} (hx:bD x=true) (hw:FW x) (k:Int->Bool->List Int->Bool):BM N x k=exK (ofE x) k:=by
  obtain⟨b,s,m,i,rfl,h⟩:=pI hx;have hb:=hw b rfl
  (unfold BM; rw[ac]; unfold Ah)
  rw[Lo hN hb h,En h];by_cases h0:m=0
  · rw[if_pos h0,if_pos h0]
    have:∀ κ,R3 N 0 false κ=κ false (aj 0):=λκ=>vj (N:=N) 0 (by decide) false (pb hN (by decide)) (by omega) κ
    rw[this];cases s
    · rw[afw]; unfold exK; rfl
    · rw[afx,C9 _ _ (pb hN (by decide))]; unfold exK uY; rfl
  · rw[if_neg h0,if_neg h0]
    have hpl:=pV h;obtain⟨g1,g2,g3,g4⟩:=qW 64 m i h0 (by have:(2:Nat) ^ 64=18446744073709551616:=(by decide); omega);have hs:=pb (N:=N) (n:=(gv 64 m i).1) hN (by omega);rw[vj (N:=N) _ (by omega) false hs (by omega)];cases s
    · rw[afw]
      show _=k (gv 64 m i).2 (decide ((((gv 64 m i).1:Nat):Int)<0)) (aj (((gv 64 m i).1:Nat):Int).natAbs);rw[afv (by omega),agq]
    · rw[afx,C9 _ _ hs]; rfl
def EV (x:Int × Int) (v:Int) (E:Nat):Prop:=0<=x.1+E/\x.2*2 ^ (x.1+E).toNat=v
theorem EV.up {x:Int × Int} {v:Int} {E:Nat} (h:EV x v E) (F:Nat):EV x (v*2 ^ F) (E+F):=by
 obtain⟨h1,h2⟩:=h;refine⟨by omega,?_⟩;have:(x.1+((E+F:Nat):Int)).toNat=(x.1+E).toNat+F:=by omega
 rw[this,Int.pow_add,<- Int.mul_assoc,h2]
theorem EV.mul {x y:Int × Int} {v w:Int} {E F:Nat} (h:EV x v E) (g:EV y w F):EV (yY x y) (v*w) (E+F):=by
 obtain⟨h1,h2⟩:=h;obtain⟨g1,g2⟩:=g;refine⟨by simp only[yY]; omega,?_⟩;have:((yY x y).1+((E+F:Nat):Int)).toNat=(x.1+E).toNat+(y.1+F).toNat:=by simp only[yY]; omega
 rw[this,Int.pow_add,<- h2,<- g2];simp only[yY];ac_rfl
theorem EV.neg {x:Int × Int} {v:Int} {E:Nat} (h:EV x v E):EV (SC x) (-v) E:=⟨h.1,by rw[<- h.2]; exact aiF _ _⟩
theorem CX {x:Int × Int} {v:Int} {E:Nat} (h:EV x v E) {e:Int} (he:e<=x.1) (hE:0<=e+E):sZ x e*2 ^ (e+E).toNat=v:=by unfold sZ;rw[Int.mul_assoc,<- Int.pow_add,show(x.1 - e).toNat+(e+E).toNat=(x.1+E).toNat by omega];exact h.2
theorem EV.add {x y:Int × Int} {v w:Int} {E:Nat} (h:EV x v E) (g:EV y w E):EV (JA x y) (v+w) E:=by
 unfold JA;split
 ·rename_i h0;have:v=0:=by rw[<- h.2,h0,Int.zero_mul]
  rw[this,Int.zero_add]; exact g
 ·split
  ·rename_i h0;have:w=0:=by rw[<- g.2,h0,Int.zero_mul]
   rw[this,Int.add_zero]; exact h
  ·have hE:0<=min x.1 y.1+E:=by have:=h.1; have:=g.1; omega
   exact⟨hE,by rw[Int.add_mul,CX h (by omega) hE,CX g (by omega) hE]⟩
theorem EV.sgn {x:Int × Int} {v:Int} {E:Nat} (h:EV x v E):xo x.2=xo v:=by
 rw[<- h.2];have hp:=Py (x.1+E).toNat;unfold xo;rcases Int.lt_trichotomy x.2 0 with h | h | h
 ·have:=Int.mul_neg_of_neg_of_pos h hp;rw[if_neg (by omega),if_pos h,if_neg (by omega),if_pos this]
 ·rw[h,Int.zero_mul]
 ·have:=Int.mul_pos h hp;rw[if_neg (by omega),if_neg (by omega),if_neg (by omega),if_neg (by omega)]
theorem Ex.mono {E B E' B':Nat} {x:Int × Int} (h:Ex E B x) (hE:E<=E') (hB:B<=B'):Ex E' B' x:=⟨by have:=h.1; omega,by have:=h.2.1; omega,bO h.2.2 hB⟩
theorem Ex.mul {E B E' B':Nat} {x y:Int × Int} (h:Ex E B x) (g:Ex E' B' y):Ex (E+E') (B+B') (yY x y):=
 ⟨by have:=h.1; have:=g.1; simp only[yY]; omega,by have:=h.2.1; have:=g.2.1; simp only[yY]; omega,by show aU _ (x.2*y.2).natAbs;rw[ahk]; exact dy h.2.2 g.2.2⟩
theorem Ex.neg {E B:Nat} {x:Int × Int} (h:Ex E B x):Ex E B (SC x):=⟨h.1,h.2.1,by show aU _ (-x.2).natAbs; rw[ah9]; exact h.2.2⟩
theorem Bt {E B:Nat} {x:Int × Int} (h:Ex E B x) {e:Int} (he : -(E:Int)<=e):aU (B+2*E) (sZ x e).natAbs:=by unfold sZ;rw[ahk,Int.natAbs_pow];refine bO (vJ h.2.2 _) ?_;have:=h.2.1; omega
theorem Ex.add {E B:Nat} {x y:Int × Int} (h:Ex E B x) (g:Ex E B y):Ex E (B+2*E+1) (JA x y):=by
 unfold JA;split
 ·exact g.mono (afH _) (by omega)
 ·split
  ·exact h.mono (afH _) (by omega)
  ·refine⟨by have:=h.1; have:=g.1; show -(E:Int)<=min x.1 y.1; omega,by have:=h.2.1; show min x.1 y.1<=E; omega,?_⟩;have h1:=Bt h (e:=min x.1 y.1) (by have:=h.1; have:=g.1; omega);have h2:=Bt g (e:=min x.1 y.1) (by have:=h.1; have:=g.1; omega);exact lT (wL h1 h2) (Int.natAbs_add_le _ _)
theorem Q2 {N:Nat} (hN:1000<=N) {E B:Nat} {x:Int × Int} (hx:Ex E B x) {e:Int} (he : -(E:Int)<=e) (hB:B+2*E<=30000) (k0:Bool) (k1:Bool->List Int->Bool) (h0:x.1<=e->k0=uY x.2 k1) (he2:x.1<=e->e=x.1) :
  Wp N x.1 e (decide (x.2<0)) (aj x.2.natAbs) k0 k1=uY (sZ x e) k1:=by
 unfold Wp Xb;have hx1:=hx.1;have hx2:=hx.2.1;by_cases hc:x.1<=e
 ·rw[afu (by omega:e>=x.1),afx,h0 hc];have:sZ x e=x.2:=by unfold sZ;rw[he2 hc,Int.sub_self]; simp
  rw[this]
 ·rw[afv (by omega:¬ e>=x.1),afw,aa afs];have ew:IntKind.wrap .u64 (x.1 - e)=(((x.1 - e).toNat:Nat):Int):=by rw[am]; omega
  rw[ew,C8 _ _ _ _ (CM hN (by omega) hx.2.2)];congr 1;unfold sZ aY;by_cases hz:x.2<0
  ·rw[afu hz,if_pos rfl,afR,agX,<- aiF];congr 1; omega
  ·rw[afv hz,if_neg (by decide),afR,agX];congr 1; omega
theorem IM {x:Fl} (hx:bD x=true):Ex 1100 53 (ofE x):=by
  obtain⟨b,s,m,i,rfl,h⟩:=pI hx;rw[En h];have hpl:=pV h;have hpg:=GE h;by_cases h0:m=0
  · rw[if_pos h0]; exact⟨by decide,by decide,afJ _⟩
  · rw[if_neg h0]
    obtain⟨g1,g2,g3,g4⟩:=qW 64 m i h0 (by have:(2:Nat) ^ 64=18446744073709551616:=(by decide); omega);refine⟨by show -((1100:Nat):Int)<=(gv 64 m i).2; omega,by show(gv 64 m i).2<=((1100:Nat):Int); omega,?_⟩;show aU 53 (aY s (gv 64 m i).1).natAbs;have:(aY s (gv 64 m i).1).natAbs=(gv 64 m i).1:=by unfold aY; cases s <;> simp
    rw[this];show _<2 ^ 53;have:(2:Nat) ^ 53=9007199254740992:=by decide
    omega
theorem Dm:∀(f t c:Nat) (e:Int),t<f->gv f (2 ^ t*(2*c+1)) e=(2*c+1,e+t)
 | 0,t,c,e,h=>by omega
 | f+1,0,c,e,h=>by
  unfold gv;rw[ahr,ahw,if_neg (by omega)];simp
 | f+1,t+1,c,e,h=>by
  unfold gv;have e1:2 ^ (t+1)*(2*c+1)=2*(2 ^ t*(2*c+1)):=by rw[afI]; ac_rfl
  rw[e1,if_pos (by omega),af7 _ (by decide),Dm f t c (e+1) (by omega)];congr 1; omega
theorem P2 {b:Nat} (hb:W64 b):(aD .and .u64 (b:Int) 9223372036854775808 != 0)=(b / 9223372036854775808%2==1):=by
 have e1:(9223372036854775808:Int)=((2 ^ 63:Nat):Int):=by decide
 have p63:(2:Nat) ^ 63=9223372036854775808:=by decide
 rw[e1,u9 hb (by rw[p63]; omega)];have h1:b / 9223372036854775808%2=0\/b / 9223372036854775808%2=1:=by omega
 have h2:b.testBit 63=decide (b / 2 ^ 63%2=1):=Nat.testBit_eq_decide_div_mod_eq;rw[p63]at h2;rcases h1 with h | h
 ·have hz:b &&& 2 ^ 63=0:=by
   refine ahL (λj=>?_);rw[aiq,ahn,Nat.zero_testBit];by_cases hj:63=j
   ·subst hj; rw[h2,h]; rfl
   ·rw[afv hj,Bool.and_false]
  rw[hz,h]; rfl
 ·have hz:b &&& 2 ^ 63 ≠ 0:=by intro hc;have:=aiE (λn=>n.testBit 63) hc;simp only[aiq,ahn,Nat.zero_testBit,h2,h]at this;simp at this
  rw[h];generalize b &&& 2 ^ 63=z at hz ⊢;have:((z:Int) != 0)=true:=by simp; exact hz
  rw[this]; rfl
theorem Dp {N:Nat} {b m:Nat} {i:Int} {s:Bool} (hpl:i<=971/\m<9007199254740992) (hb:W64 b) (k:Kx4) (E:Int) (hEi:i=E) (h5 : -1100<=E) (h6:E<=1100) (h0:m ≠ 0):KK N (b:Int) 52 2047 1075 s (m:Int) E k=k s ((gv 64 m i).1:Int) (gv 64 m i).2 0:=by
 unfold KK;obtain⟨t,c,hm⟩:=Bz m h0;have ht0:0<2 ^ t:=afJ t;have ht:t<64:=by
  rcases agv t 64 with g | g
  ·exact g
  ·have g2:2 ^ 64<=2 ^ t:=afL (by decide) g;have g3:2 ^ t*1<=2 ^ t*(2*c+1):=afC _ (by omega);have g4:(2:Nat) ^ 64=18446744073709551616:=by decide
   omega
 rw[hm,VV N (by rw[<- hm]; omega),Dm 64 t c i ht,aa (afu (by omega)),aa afs,afz,show min t 64=t by omega];have e2:(2:Int) ^ t=((2 ^ t:Nat):Int):=by rw[agX]; rfl
 rw[e2,kx,af7 _ ht0,hEi]
theorem Ih {N:Nat} {b:Nat} (hb:W64 b) {s:Bool} {m:Nat} {i:Int} (h:Ieee.double.read b=.number s m i) (k:Kx4) :
  q9 N (some b) k=if m=0 then k s 0 0 0 else k s ((gv 64 m i).1:Int) (gv 64 m i).2 0:=by
 obtain⟨h1,h2,h3⟩:=mD h;have hpl:=pV h;have hnn:isNaN b=false:=by rw[ah7]; intro hc; have:=(fj b).1 hc; omega
 have hcnb:cnb b=b:=by simp only[cnb,hnn]; rfl
 have hcls:=DR b;rw[hcnb]at hcls;have hE:b / 4503599627370496%2048<2047:=by omega
 rw[if_neg (Nat.ne_of_lt hE)]at hcls;have hc:(b / 4503599627370496%2048=0/\b%4503599627370496=m/\cls b=(if m=0 then 3 else 4)/\i = -1074)\/(b / 4503599627370496%2048 ≠ 0/\m=4503599627370496+b%4503599627370496/\cls b=5/\i=((b / 4503599627370496%2048:Nat):Int) - 1075):=by
  rcases h3 with⟨g1,g2,g3⟩ | ⟨g1,g2,g3⟩
  ·have e0:b / 4503599627370496%2048=0:=by omega
   have e1:b%4503599627370496=m:=by omega
   rw[if_pos e0,e1]at hcls;exact .inl ⟨e0,e1,hcls,by omega⟩
  ·have e0:b / 4503599627370496%2048 ≠ 0:=by omega
   rw[if_neg e0]at hcls;exact .inr ⟨e0,by omega,hcls,by omega⟩
 generalize hx:b / 4503599627370496%2048=x at hE hc;generalize hy:b%4503599627370496=y at hc;have hylt:y<4503599627370496:=by omega
 have goal0:q9 N (some b) k=(af .i64 ((x:Int) - 1075)&&(cond ((cls b:Int)==1) (k false 0 0 4) (cond ((cls b:Int)==2) (k false 0 0 4) (cond ((cls b:Int)==3) (k s 0 0 0) (cond ((cls b:Int)==4) ((af .i64 (((x:Int) - 1075)+1))&&(KK N (b:Int) 52 2047 1075 s (y:Int) (((x:Int) - 1075)+1) k)) (mJ N 52 2047 1075 (λ(aag:Int)=>(KK N (b:Int) 52 2047 1075 s (aD .or .u64 (y:Int) aag) ((x:Int) - 1075) k)))))))):=by
  unfold q9 Ad;show Wx N (b:Int) 52 2047 1075 _=_
  (unfold Wx; rw[ac]; unfold TR)
  rw[Df,hcnb,P2 hb,<- h1,Dd,hx,hy]
 rw[goal0,aa afs];clear goal0 hcls h1 h2 h3 hcnb hnn;rcases hc with⟨c1,c2,c3,c4⟩ | ⟨c1,c2,c3,c4⟩
 ·rw[c3];by_cases h0:m=0
  ·rw[if_pos h0,if_pos h0]; rfl
  ·rw[if_neg h0,if_neg h0,c2];show(af .i64 (((x:Int) - 1075)+1)&&_)=_;rw[aa afs];exact Dp hpl hb k _ (by omega) (by omega) (by omega) h0
 ·have h0:m ≠ 0:=by omega
  rw[c3,if_neg h0];have eor:aD .or .u64 (y:Int) 4503599627370496=(m:Int):=by
   have p52:(2:Nat) ^ 52=4503599627370496:=by decide
   have:=cu y 1 52 (by omega) (by omega);rw[p52]at this;rw[show((4503599627370496*1:Nat):Int)=4503599627370496 from rfl]at this;rw[this]; omega
  rw[show((5:Int)==1)=false from rfl,afw,show((5:Int)==2)=false from rfl,afw,show((5:Int)==3)=false from rfl,afw,show((5:Int)==4)=false from rfl,afw,ku,eor];exact Dp hpl hb k _ (by omega) (by omega) (by omega) h0
theorem Mu {z:Int}:(xo z==0)=decide (z=0):=by
 unfold xo;by_cases h:z=0
 ·rw[if_pos h,afu h]; rfl
 ·rw[if_neg h,afv h];by_cases hl:z<0
  ·rw[if_pos hl]; rfl
  ·rw[if_neg hl]; rfl
def qZ (p:Int × Int):Rat:=if 0<=p.1 then mkRat (p.2*((2 ^ p.1.toNat:Nat):Int)) 1 else mkRat p.2 (2 ^ (-p.1).toNat)
theorem VR (a b:Int):imm true a b=max a b:=by
 unfold imm; simp only[afx];by_cases h:a<=b
 ·have:max a b=b:=by omega
  rw[this];by_cases h2:b>a
  ·rw[afu h2]; rfl
  ·rw[afv h2,afw]; omega
 ·have:max a b=a:=by omega
  rw[this,afv (by omega),afw]
theorem SK (n:Nat):¬((n:Nat):Int)<0:=by omega
theorem Bx (g:Bool):(g != false)=g:=by cases g <;> rfl
theorem NU {B s n:Nat} (h:aU B n):aU (B+s) (n*2 ^ s):=vJ h s
theorem Ar {s:Nat}:aU (s+1) (2 ^ s):=by unfold aU; rw[afI]; have:=afJ s; omega
theorem Jp:aU 1 1:=by unfold aU; decide
theorem xJ:ae 1=[1]:=qB (by decide) (by decide)
theorem VS {w:Int} (k:Kx5):kq (mkRat w 1) k=kr w 1 k:=by unfold kq;rw[Rat.mkRat_one,Rat.num_intCast,Rat.den_intCast]
theorem JQ {N:Nat} (hF:Fuel N) (x:Fl) (s:Bool) (M e z:Int) (he : -1100<=e) (he2:e<=1100) (hz:aU 53 z.natAbs) (k:Kx5) :
  cd N x s M e (decide (z<0)) (ae z.natAbs) k=kq (qZ (e,z)) k:=by
 have hN:=hF.lt;unfold cd;have n1:=λkk=>tf (N:=N) (by omega) 1 (by decide) kk
 rw[show((1:Nat):Int)=1 from rfl]at n1;rw[n1,aa afs,VR];obtain⟨t,ht⟩:∃ t:Nat,max e (0 - e)=(t:Int):=⟨(max e (0 - e)).toNat,by omega⟩
 have ew:IntKind.wrap .u64 (max e (0 - e))=(t:Int):=by rw[am]; omega
 have htb:t<=1100:=by omega
 rw[ew,Ll t false false 1 (by omega) (by rw[xJ]; simp; omega) (by rw[xJ]; simp)];unfold ta;have e1:aY false (1*2 ^ t)=((2 ^ t:Nat):Int):=by unfold aY; rw[ahw]; rfl
 rw[e1,afv (SK (2 ^ t)),agq];dsimp only;have hp:=afJ t;have hzb:aU 2000 z.natAbs:=bO hz (by omega);have htb2:aU 2000 (2 ^ t):=bO Ar (by omega);by_cases hc:e<0
 ·rw[afu hc,afx];unfold RK Tg;rw[Bx,za hF (B:=2000) (by decide) _ hzb htb2 hp,iV];unfold qZ;dsimp only;have:(-e).toNat=t:=by omega
  rw[if_neg (by omega),this]
 ·rw[afv hc,afw];unfold XP Xi;have hm:aU 4000 (z.natAbs*2 ^ t):=bO (dy hzb htb2) (by omega);rw[uH hF (by decide) hzb htb2,Bx];rw[nY (decide (z<0)) _ _ (z.natAbs*2 ^ t) (λa b=>Wj N false false a b (λc8 s7 c9 s8=>k c8 s7 c9 s8))];rw[tc];obtain⟨w,hw⟩:∃ w:Int,w=z*((2 ^ t:Nat):Int):=⟨_,rfl⟩
  have hwb:aU 4000 w.natAbs:=by rw[hw,ahk,agq]; exact hm
  rw[<- hw];unfold ta Wj W5;dsimp only;rw[qM (by decide) hwb];have er:qZ (e,z)=mkRat w 1:=by
   unfold qZ;dsimp only;have:e.toNat=t:=by omega
   rw[if_pos (by omega),this,hw]
  rw[er,VS]
  (unfold XM; rw[ac]; unfold TO Ml Qk SO Se kr)
  rw[xJ];by_cases hl:w<0
  ·rw[afu hl];have h2:decide (((ae w.natAbs).length:Int)>0)=true:=by rw[pF]; exact afu (by omega)
   simp only[h2];rfl
  ·rw[afv hl]; rfl
theorem qN (N:Nat) (e:Int) (k0:Bool):cX N ((0:Int)==0) e k0=k0:=rfl
theorem Ge {N:Nat} (hF:Fuel N) {x:Fl} (hx:bD x=true) (hw:FW x) (k:Kx5):j4 N x k=kq (qZ (ofE x)) k:=by
 have hN:=hF.lt;have hex:=IM hx;obtain⟨b,s,m,i,rfl,h⟩:=pI hx;have ho:=En h
 (unfold j4; rw[ac]; unfold jU)
 have fin:∀(M:Nat) (e:Int),M<18446744073709551616->ofE (some b)=(e,aY s M) ->
   cX N ((0:Int)==0) 4 (RL N (M:Int) false (λ(Z1:Bool) (nsr:List Int)=>(cond s (RV N Z1 nsr (λ(aaj:Bool) (ZZ:List Int)=>(cd N (some b) s (M:Int) e aaj ZZ k))) (cd N (some b) s (M:Int) e Z1 nsr k))))=kq (qZ (ofE (some b))) k:=by
  intro M e hM heq;rw[heq]at hex ⊢;have h1:=hex.1;have h2:=hex.2.1;have h3:=hex.2.2;dsimp only at h1 h2 h3;have hl:(ae M).length<=1099511627776:=by
   have:aU 64 M:=by unfold aU; omega
   have:=zJ (B:=64) (by decide) this; omega
  rw[qN,O0 (by omega) M hM];cases s
  ·rw[afw];have e1:aY false M=(M:Int):=rfl;rw[e1]at h3 ⊢;have:=JQ hF (some b) false (M:Int) e (M:Int) (by omega) (by omega) h3 k;rw[afv (by omega:¬(M:Int)<0),agq]at this;exact this
  ·rw[afx,Lm false M hl];have e1 : -(aY false M)=aY true M:=rfl;rw[e1];exact JQ hF (some b) true (M:Int) e (aY true M) (by omega) (by omega) h3 k
 rw[Ih (hw b rfl) h];by_cases h0:m=0
 ·rw[if_pos h0];rw[if_pos h0]at ho;refine fin 0 0 (by decide) ?_;rw[ho];cases s <;> rfl
 ·rw[if_neg h0];rw[if_neg h0]at ho;have hpl:=pV h;have hm:m<2 ^ 64:=by
   have:(2:Nat) ^ 64=18446744073709551616:=by decide
   omega
  obtain⟨g1,g2,g3,g4⟩:=qW 64 m i h0 hm;exact fin _ _ (by omega) ho
theorem Q_ (N:Nat) (k:Kz8):rU N k=k (aj 1):=by rw[Og]; rfl
theorem F8 {N:Nat} (hF:Fuel N) {z:Int} (hz:aU 30000 z.natAbs) (b1 b2:Bool) (k:Kx5) :
  RN N b1 b2 (decide (z<0)) (aj z.natAbs) k=kqR (mkRat z 1) k:=by
 unfold RN W0;rw[Q_,uE hF (B:=30000) (by decide) _ hz (bO Jp (by decide)) (by decide),iV]
theorem Lp {N:Nat} (hF:Fuel N) {x:Fl} (hx:bD x=true) (hw:FW x) (k:Kx5):tQ N x k=kqR (qZ (ofE x)) k:=by
 have hN:=hF.lt;have hex:=IM hx;unfold tQ yF;rw[VU (by omega) hx hw];obtain⟨p,hp⟩:∃ p,p=ofE x:=⟨_,rfl⟩
 rw[<- hp]at hex ⊢;obtain⟨e,z⟩:=p;have h1:=hex.1;have h2:=hex.2.1;have h3:=hex.2.2;dsimp only at h1 h2 h3
 (unfold exK; unfold XO; rw[ac]; unfold TQ)
 dsimp only;by_cases hc:e>=0
 ·rw[afu hc,afx];have hl:=λk0 k1 h0 he2=>Q2 (N:=N) (by omega) hex (e:=0) (by omega) (by decide) k0 k1 h0 he2
  dsimp only at hl;rw[hl]
  ·unfold uY;have hb:=Bt hex (e:=0) (by omega);dsimp only;rw[F8 hF (bO hb (by decide))];unfold qZ sZ;dsimp only;rw[if_pos hc,Int.sub_zero,agX];rfl
  ·intro _; rfl
  ·intro h; omega
 ·rw[afv hc,afw];have n1:=λkk=>Be (N:=N) 1 (by decide) (by have:=rO (B:=1) (n:=1) (by decide) (by unfold aU; decide);exact⟨by omega,by omega⟩) (by omega) kk
  rw[show((1:Nat):Int)=1 from rfl]at n1;rw[n1,aa afs];obtain⟨t,ht⟩:∃ t:Nat,(0 - e)=(t:Int):=⟨(0 - e).toNat,by omega⟩
  have ew:IntKind.wrap .u64 (0 - e)=(t:Int):=by rw[am]; omega
  rw[ew,C8 t false false 1 (CM (B:=1) (by omega) (by omega) (by unfold aU; decide))];unfold uY;have e1:aY false (1*2 ^ t)=((2 ^ t:Nat):Int):=by unfold aY; rw[ahw]; rfl
  rw[e1,afv (SK (2 ^ t)),agq];dsimp only;have htp:=afJ t;have hzb:aU 2000 z.natAbs:=bO h3 (by omega);have htb2:aU 2000 (2 ^ t):=bO Ar (by omega);unfold XK W4;rw[Bx,uE hF (B:=2000) (by decide) _ hzb htb2 (Nat.ne_of_gt htp),iV];unfold qZ;dsimp only;have:(-e).toNat=t:=by omega
  rw[if_neg (by omega),this]
theorem wz {B:Nat} {z:Int} {d:Nat} (hz:aU B z.natAbs) (hd:aU B d) (h0:0<d):Bq B (mkRat z d):=by
 refine⟨?_,?_⟩
 ·rw[aiG,if_neg (by omega)];have h1:((Nat.gcd z.natAbs d:Nat):Int)∣z:=Int.ofNat_dvd_left.2 (agm _ _);rw[agM,Int.natAbs_ediv_of_dvd h1,agq];exact bY hz
 ·rw[aiH,if_neg (by omega)];exact bY hd
theorem RE {x:Fl} (hx:bD x=true):Bq 1200 (qZ (ofE x)):=by
 have hex:=IM hx;obtain⟨p,hp⟩:∃ p,p=ofE x:=⟨_,rfl⟩
 rw[<- hp]at hex ⊢;obtain⟨e,z⟩:=p;have h1:=hex.1;have h2:=hex.2.1;have h3:=hex.2.2;dsimp only at h1 h2 h3;unfold qZ;dsimp only;split
 ·refine wz ?_ (bO Jp (by decide)) (by decide);rw[ahk,agq];exact bO (NU h3) (by omega)
 ·exact wz (bO h3 (by omega)) (bO Ar (by omega)) (afJ _)
theorem DH {A B:Nat} {x y:Rat} (hx:Bq A x) (hy:Bq B y):Bq (A+B) (x*y):=by rw[Rat.mul_def'];refine wz ?_ (dy hx.2 hy.2) (ahx x.den_pos y.den_pos);rw[ahk]; exact dy hx.1 hy.1
theorem Ta {B:Nat} {y:Rat} (hy:Bq B y) (h:y.num ≠ 0):Bq B (y⁻¹):=by obtain⟨i1,i2,i3⟩:=A2 h;exact⟨by rw[i1]; exact hy.2,by rw[i2]; exact hy.1⟩
theorem Ht {A B:Nat} {x y:Rat} (hx:Bq A x) (hy:Bq B y) (h:y.num ≠ 0):Bq (A+B) (x / y):=by rw[Rat.div_def]; exact DH hx (Ta hy h)
theorem Tb {B:Nat} {y:Rat} (hy:Bq B y):Bq B (-y):=⟨by rw[Rat.neg_num,ah9]; exact hy.1,hy.2⟩
theorem S9 {A B:Nat} {x y:Rat} (hx:Bq A x) (hy:Bq B y):Bq (A+B+1) (x+y):=by rw[Rat.add_def'];refine wz (CL (ur hx.1 hy.2) ?_) (bO (dy hx.2 hy.2) (by omega)) (ahx x.den_pos y.den_pos);rw[ahq]; exact ur hy.1 hx.2
theorem MK {A B:Nat} {x y:Rat} (hx:Bq A x) (hy:Bq B y):Bq (A+B+1) (x - y):=by rw[Rat.sub_eq_add_neg]; exact S9 hx (Tb hy)
theorem Jb {B:Nat}:Bq (B+1) 0:=⟨afJ _,by show 1<2 ^ (B+1); exact Nat.one_lt_two_pow (by omega)⟩
def enc (x:Rat):RY1:=((decide (x.num<0),ae x.num.natAbs),(false,ae x.den))
def dA (x:Rat):RY2:=((decide (x.num<0),aj x.num.natAbs),(false,aj x.den))
def mat {α:Type} (g:Rat->α) (n:Nat) (f:Nat->Nat->Rat):List α:=(List.range (n*n)).map (λt=>g (f (t / n) (t%n)))
theorem qT {α:Type} (g:Rat->α) (n:Nat) (f:Nat->Nat->Rat):(mat g n f).length=n*n:=by unfold mat; rw[ahu,List.length_range]
theorem gU {n i j:Nat} (hi:i<n) (hj:j<n):i*n+j<n*n:=by have h1:(i+1)*n<=n*n:=afA _ hi;rw[af0]at h1; omega
theorem zW {n i j:Nat} (hj:j<n):(i*n+j) / n=i:=by rw[afy,ais (by omega),af2 hj,af3]
theorem zX {n i j:Nat} (hj:j<n):(i*n+j)%n=j:=by rw[afy,ahH,afF hj]
theorem mz {α:Type} (g:Rat->α) (n:Nat) (f:Nat->Nat->Rat) {i j:Nat} (hi:i<n) (hj:j<n) (z:α):(mat g n f).getD (i*n+j) z=g (f i j):=by have h:=gU hi hj;unfold mat;rw[List.getD_eq_getElem?_getD,List.getElem?_map,List.getElem?_range h];simp only[ag1,agi,zW hj,zX hj]
theorem ke {α:Type} (g:Rat->α) (n:Nat) {f f':Nat->Nat->Rat} (h:∀ a b,a<n->b<n->f a b=f' a b):mat g n f=mat g n f':=by
 unfold mat;apply ahS;intro t ht;have ht:=List.mem_range.1 ht;have hn:0<n:=by
  rcases agQ n with h0 | h0
  ·rw[h0]at ht; omega
  ·exact h0
 rw[h _ _ (ahs ht) (afK _ hn)]
theorem J1 {α:Type} (g:Rat->α) (n:Nat) (f:Nat->Nat->Rat) {i j:Nat} (hi:i<n) (hj:j<n) (v:Rat):(mat g n f).set (i*n+j) (g v)=mat g n (λa b=>if a=i/\b=j then v else f a b):=by
 have h:=gU hi hj;apply List.ext_getElem?;intro t;by_cases ht:t<n*n
 ·have hn:0<n:=by omega
  rw[List.getElem?_set];unfold mat;rw[List.getElem?_map,List.getElem?_map,List.getElem?_range ht];simp only[ahu,List.length_range,ag1];by_cases he:i*n+j=t
  ·rw[if_pos he,if_pos h,<- he,zW hj,zX hj,if_pos ⟨rfl,rfl⟩]
  ·rw[if_neg he];have:¬(t / n=i/\t%n=j):=by rintro ⟨h1,h2⟩;apply he;rw[<- h1,<- h2,afy];exact agp t n
   rw[if_neg this]
 ·rw[List.getElem?_eq_none (by rw[ah0,qT]; omega),List.getElem?_eq_none (by rw[qT]; omega)]
theorem tY {n:Nat} (h:n<=1000):n*n<=1000000:=by have:n*n<=1000*1000:=agj h h;omega
theorem dj (i j n:Nat):(i:Int)*(n:Int)+(j:Int)=((i*n+j:Nat):Int):=by rw[Int.natCast_add,afR]
theorem dk {n i j:Nat} (hn:n<=1000) (hi:i<n) (hj:j<n):af .i64 ((i:Int)*(n:Int))=true/\af .i64 (((i*n+j:Nat):Int))=true:=by have h1:=tY hn;have h2:=gU hi hj;rw[<- afR];exact⟨ab (by omega) (by omega),ab (by omega) (by omega)⟩
theorem qO {N n i j:Nat} (hn:n<=1000) (hi:i<n) (hj:j<n) (f:Nat->Nat->Rat) (k:Kx5) :
  be N n n i j (mat enc n f) k=kq (f i j) k:=by
 obtain⟨h1,h2⟩:=dk hn hi hj;have h3:=gU hi hj
 (unfold be; rw[ac]; unfold eO)
 rw[dj,aa h1,aa h2,qT,afz,aa aft,aa (afu h3),mz enc n f hi hj];rfl
theorem Rh {N n i j:Nat} (hn:n<=1000) (hi:i<n) (hj:j<n) (f:Nat->Nat->Rat) (v:Rat) (k:List RY1->Bool) :
  ft N n n i j (decide (v.num<0)) (ae v.num.natAbs) false (ae v.den) (mat enc n f) k=k (mat enc n (λa b=>if a=i/\b=j then v else f a b)):=by
 obtain⟨h1,h2⟩:=dk hn hi hj;have h3:=gU hi hj;unfold ft j6;rw[dj,aa h1,aa h2,qT,afz,aa aft,aa (afu h3)];exact aiE k (J1 enc n f hi hj v)
theorem uB {N n i j:Nat} (hn:n<=1000) (hi:i<n) (hj:j<n) (f:Nat->Nat->Rat) (k:Kz5) :
  GX N n n i j (mat dA n f) k=k (i*n+j):=by
 obtain⟨h1,h2⟩:=dk hn hi hj;have h3:=gU hi hj;unfold GX W2;rw[dj,aa h1,aa h2,qT,afz,aa aft,aa (afu h3)]
theorem Ey (l:List RY2) (i:Nat):List.set l i (((List.getD l i ((false,[]),(false,[]))).1.1,(List.getD l i ((false,[]),(false,[]))).1.2),((List.getD l i ((false,[]),(false,[]))).2.1,(List.getD l i ((false,[]),(false,[]))).2.2))=l:=by
 show List.set l i (List.getD l i ((false,[]),(false,[])))=l;apply List.ext_getElem?;intro t;rw[List.getElem?_set];by_cases h:i=t
 ·subst h;rw[if_pos rfl];by_cases hl:i<l.length
  ·rw[if_pos hl,List.getD_eq_getElem?_getD,List.getElem?_eq_getElem hl]; rfl
  ·rw[if_neg hl,List.getElem?_eq_none (by omega)]
 ·rw[if_neg h]
theorem vU {σ:Type} {step:σ->(σ->Bool)->Bool} (C:Nat->σ) (m n:Nat) (hmn:m<=n) {N:Nat} (hn:n<N) {out:Bool} (hs:∀ i,m<=i->i<n -> ∀ K:σ->Bool,step (C i) K=K (C (i+1))) (hx:∀ K,step (C n) K=out):ah N step (C m)=out:=by have:=aA (step:=step) (λi=>C (m+i)) (n - m) (N:=N) (by omega) (out:=out) (λi hi K=>hs (m+i) (by omega) (by omega) K) (λK=>by show step (C (m+(n - m))) K=out; rw[show m+(n - m)=n by omega]; exact hx K);exact this
def xF (f:Nat->Nat->Rat) (i c:Nat) (x:Rat) (t:Nat):Nat->Nat->Rat:=λa b=>if a=i/\b<t then f i b+f c b*x else f a b
def fG (f:Nat->Nat->Rat) (c m:Nat):Nat->Nat->Rat:=λa b=>if c<a/\a<m then f a b - f a c / f c c*f c b else f a b
def rG (B n:Nat) (f:Nat->Nat->Rat):Prop:=∀ a b,a<n->b<n->Bq B (f a b)
theorem O2 {N B n i c:Nat} (hF:Fuel N) (hB:B<=300000000000) (hn:n<=1000) (hi:i<n) (hc:c<n) (hic:c ≠ i) {f:Nat->Nat->Rat} (hf:rG B n f) {x:Rat} (hx:Bq (2*B) x) (k:List RY1->Bool) :
  fq N n n i c (decide (x.num<0)) (ae x.num.natAbs) false (ae x.den) (mat enc n f) k=k (mat enc n (xF f i c x n)):=by
 have hN:=hF.lt
 (unfold fq; rw[ac]; unfold eK)
 have h0:mat enc n f=mat enc n (xF f i c x 0):=ke _ _ (λa b _ _=>by unfold xF; rw[if_neg (by omega)]);rw[h0];refine aA (λt:Nat=>((t:Int),mat enc n (xF f i c x t))) n (by omega) ?_ ?_
 ·intro t ht K;unfold co;dsimp only;rw[afu (by omega:(t:Int)<(n:Int)),afx,qO hn hi ht];have e1:xF f i c x t i t=f i t:=by unfold xF; rw[if_neg (by omega)]
  have e2:xF f i c x t c t=f c t:=by unfold xF; rw[if_neg (by omega)]
  unfold kq kr;dsimp only;rw[qO hn hc ht,e1,e2];unfold kq kr;dsimp only;rw[Q7 hF (B:=2*B) (by omega) ((hf c t hc ht).mono (by omega)) hx];unfold kq kr;dsimp only;rw[Q4 hF (B:=3*B) (by omega) ((hf i t hi ht).mono (by omega)) ((DH (hf c t hc ht) hx).mono (by omega))];unfold kq kr;dsimp only;rw[Rh hn hi ht,aa afs];have e3:mat enc n (λa b=>if a=i/\b=t then f i t+f c t*x else xF f i c x t a b)=mat enc n (xF f i c x (t+1)):=ke _ _ (λa b _ _=>by
   unfold xF;by_cases h:a=i/\b=t
   ·rw[if_pos h,if_pos (by omega),h.2]
   ·rw[if_neg h];by_cases h2:a=i/\b<t
    ·rw[if_pos h2,if_pos (by omega)]
    ·rw[if_neg h2,if_neg (by omega)])
  rw[e3];rfl
 ·intro K;unfold co;dsimp only;rw[afv (by omega:¬(n:Int)<(n:Int)),afw]
def oW (f:Nat->Nat->Rat) (i c:Nat) (r:Rat) (t:Nat):Nat->Nat->Rat:=λa b=>if a=i/\b<t then f i b - r*f c b else f a b
theorem Lz {N B n i c:Nat} (hF:Fuel N) (hB:B<=300000000000) (hn:n<=1000) (hi:i<n) (hc:c<n) (hic:c ≠ i) {f:Nat->Nat->Rat} (hf:rG B n f) {r:Rat} (hx:Bq (2*B) r) (k:List RY2->Bool) :
  Wi N n n i c (mat dA n f) (decide (r.num<0)) (aj r.num.natAbs) false (aj r.den) k=k (mat dA n (oW f i c r n)):=by
 have hN:=hF.lt
 (unfold Wi; rw[ac]; unfold Tt)
 have h0:mat dA n f=mat dA n (oW f i c r 0):=ke _ _ (λa b _ _=>by unfold oW; rw[if_neg (by omega)]);rw[h0];refine aA (λt:Nat=>((t:Int),mat dA n (oW f i c r t))) n (by omega) ?_ ?_
 ·intro t ht K;unfold EF;dsimp only;rw[afu (by omega:(t:Int)<(n:Int)),afx,uB hn hi ht,uB hn hi ht,uB hn hc ht,Ey];have e1:oW f i c r t i t=f i t:=by unfold oW; rw[if_neg (by omega)]
  have e2:oW f i c r t c t=f c t:=by unfold oW; rw[if_neg (by omega)]
  rw[mz dA n _ hi ht,mz dA n _ hc ht,e1,e2];unfold dA;dsimp only;rw[Pc hF (B:=2*B) (by omega) hx ((hf c t hc ht).mono (by omega))];unfold kqR krR;dsimp only;rw[aa (afu rfl),Pn hF (B:=3*B) (by omega) ((hf i t hi ht).mono (by omega)) ((DH hx (hf c t hc ht)).mono (by omega))];unfold kqR krR;dsimp only;rw[aa afs];have e4:=J1 dA n (oW f i c r t) hi ht (f i t - r*f c t);have e3:mat dA n (λa b=>if a=i/\b=t then f i t - r*f c t else oW f i c r t a b)=mat dA n (oW f i c r (t+1)):=ke _ _ (λa b _ _=>by
   unfold oW;by_cases h:a=i/\b=t
   ·rw[if_pos h,if_pos (by omega),h.2]
   ·rw[if_neg h];by_cases h2:a=i/\b<t
    ·rw[if_pos h2,if_pos (by omega)]
    ·rw[if_neg h2,if_neg (by omega)])
  rw[e3]at e4;exact aiE (λl=>K ((t:Int)+1,l)) e4
 ·intro K;unfold EF;dsimp only;rw[afv (by omega:¬(n:Int)<(n:Int)),afw]
def vI (g:Nat->Rat):Nat->Nat->Bool
 | i,0=>true
 | i,d+1=>decide (g i=0)&&vI g (i+1) d
theorem Ap {g h:Nat->Rat}:∀ d i,(∀ j,i<=j->j<i+d->g j=h j)->vI g i d=vI h i d
 | 0,i,_=>rfl
 | d+1,i,e=>by unfold vI;rw[e i (afH _) (by omega),Ap d (i+1) (λj h1 h2=>e j (by omega) (by omega))]
def xq (n:Nat):Nat->Nat->Int->(Nat->Nat->Rat)->Int
 | 0,c,s,f=>s
 | d+1,c,s,f=>if (f c c).num<0 then 1 else if f c c=0 then(if vI (λi=>f i c) (c+1) d=true then xq n d (c+1) 2 f else 1)else xq n d (c+1) s (fG f c n)
theorem G3 (z:Int):decide (xo z<0)=decide (z<0):=by
 unfold xo;by_cases h0:z=0
 ·rw[if_pos h0,h0]
 ·rw[if_neg h0];by_cases h:z<0
  ·rw[if_pos h,afu h]; rfl
  ·rw[if_neg h,afv h]; rfl
theorem tx {x:Rat}:(x.num=0)↔x=0:=Rat.num_eq_zero
theorem tX (x:Rat):(xo x.num==0)=decide (x=0):=by
 rw[Mu];by_cases h:x=0
 ·rw[afu h,afu (tx.2 h)]
 ·rw[afv h,afv (λg=>h (tx.1 g))]
theorem R6 (x:Rat):(xo x.num != 0) = !decide (x=0):=by rw[<- tX]; rfl
theorem ux {B n c m:Nat} {f:Nat->Nat->Rat} (hf:rG B n f) (hc:c<n) (h0:f c c ≠ 0):rG (4*B+1) n (fG f c m):=by
 intro a b ha hb;unfold fG;split
 ·exact(MK (hf a b ha hb) (DH (Ht (hf a c ha hc) (hf c c hc hc) (λh=>h0 (tx.1 h))) (hf c b hc hb))).mono (by omega)
 ·exact(hf a b ha hb).mono (by omega)
theorem AH (f:Nat->Nat->Rat) (c:Nat) {α:Type} (g:Rat->α) (n:Nat):mat g n (fG f c (c+1))=mat g n f:=ke _ _ (λa b _ _=>by unfold fG; rw[if_neg (by omega)])
theorem sW {f:Nat->Nat->Rat} {c i:Nat} (b:Nat):fG f c i i b=f i b:=by unfold fG; rw[if_neg (by omega)]
theorem AJ {f:Nat->Nat->Rat} {c i:Nat} (b:Nat):fG f c i c b=f c b:=by unfold fG; rw[if_neg (by omega)]
theorem xL {f:Nat->Nat->Rat} {c i a b:Nat} (h:c<i):fG f c (i+1) a b=if a=i then f i b - f i c / f c c*f c b else fG f c i a b:=by
 unfold fG;by_cases h1:a=i
 ·rw[if_pos h1,if_pos (by omega),h1]
 ·rw[if_neg h1];by_cases h2:c<a/\a<i
  ·rw[if_pos h2,if_pos (by omega)]
  ·rw[if_neg h2,if_neg (by omega)]
theorem PA (x y p q:Rat):q+y*(0 - x / p)=q - x / p*y:=by grind
theorem Pz (p q y:Rat):q - 0 / p*y=q:=by grind
theorem PB (x y p:Rat):x / p*y=y / p*x:=by grind
theorem Pj {N B n c:Nat} (hF:Fuel N) (hB:4*B+1<=300000000000) (hn:n<=1000) (hc:c<n) (s:Int) (t1 t2:Int) {f:Nat->Nat->Rat} (hf:rG B n f) (h0:f c c ≠ 0) (e0:Int->List RY1->Bool) (e1:List RY1->Bool) :
  ah N (aB N s (c:Int) t1 t2 (n:Int) (n:Int) (decide ((f c c).num<0)) (ae (f c c).num.natAbs) false (ae (f c c).den) e0 e1) (((c+1:Nat):Int),mat enc n f)=e1 (mat enc n (fG f c n)):=by
 have hN:=hF.lt;rw[<- AH f c enc n];refine vU (λi:Nat=>((i:Int),mat enc n (fG f c i))) (c+1) n (by omega) (by omega) ?_ ?_
 ·intro i hi1 hi2 K;unfold aB;dsimp only;rw[afu (by omega:(i:Int)<(n:Int)),afx,qO hn hi2 hc,sW];unfold kq kr;dsimp only;rw[my,tX];by_cases hz:f i c=0
  ·rw[afu hz,afx,aa afs];have:mat enc n (fG f c (i+1))=mat enc n (fG f c i):=ke _ _ (λa b _ _=>by
    rw[xL (by omega)];by_cases h1:a=i
    ·rw[if_pos h1,h1,sW,hz,Pz]
    ·rw[if_neg h1])
   rw[this];rfl
  ·rw[afv hz,afw,my,tX,afv h0,afw,IE hF];unfold kq kr;dsimp only;have hp:(f c c).num ≠ 0:=λh=>h0 (tx.1 h)
   have bx:=hf i c hi2 hc;have bp:=hf c c hc hc;have bq:=Ht bx bp hp;rw[Ra hF (B:=B) (by omega) bx bp hp];unfold kq kr;dsimp only;have bz:Bq (B+B+1) 0:=Jb;rw[Gi hF (B:=B+B+1) (by omega) bz (bq.mono (by omega))];unfold kq kr;dsimp only;have bs:Bq (2*(4*B+1)) (0 - f i c / f c c):=(MK (A:=1) (Jb (B:=0)) bq).mono (by omega);rw[O2 hF (B:=4*B+1) hB hn hi2 hc (by omega) (ux hf hc h0) bs,aa afs];have:mat enc n (fG f c (i+1))=mat enc n (xF (fG f c i) i c (0 - f i c / f c c) n):=ke _ _ (λa b _ hb=>by
    rw[xL (by omega)];unfold xF;by_cases h1:a=i
    ·rw[if_pos h1,if_pos ⟨h1,hb⟩,sW,AJ,PA]
    ·rw[if_neg h1,if_neg (by omega)])
   rw[this];rfl
 ·intro K;unfold aB;dsimp only;rw[afv (by omega:¬(n:Int)<(n:Int)),afw]
theorem LJ {N n c:Nat} (hF:Fuel N) (hn:n<=1000) (hc:c<n) (s:Int) (t1 t2:Int) {f:Nat->Nat->Rat} (h0:f c c=0) (e0:Int->List RY1->Bool) (e1:List RY1->Bool):∀(d i M:Nat),i+d=n->d<M ->
  ah M (aB N s (c:Int) t1 t2 (n:Int) (n:Int) (decide ((f c c).num<0)) (ae (f c c).num.natAbs) false (ae (f c c).den) e0 e1) ((i:Int),mat enc n f)=if vI (λi=>f i c) i d=true then e1 (mat enc n f)else e0 1 (mat enc n f):=by
 intro d;induction d with
 | zero=>
  intro i M hi hM;cases M with
  | zero=>omega
  | succ M=>
   show aB _ _ _ _ _ _ _ _ _ _ _ _ _ ((i:Int),mat enc n f) (ah M _)=_;unfold aB vI;dsimp only;rw[afv (by omega:¬(i:Int)<(n:Int)),afw,if_pos rfl]
 | succ d ih=>
  intro i M hi hM;cases M with
  | zero=>omega
  | succ M=>
   have hi2:i<n:=by omega
   show aB _ _ _ _ _ _ _ _ _ _ _ _ _ ((i:Int),mat enc n f) (ah M _)=_;rw[aB];rw[afu (by omega:(i:Int)<(n:Int)),afx,qO hn hi2 hc];unfold kq kr;dsimp only;rw[my,tX,vI];by_cases hz:f i c=0
   ·rw[afu hz,afx,aa afs,agC];exact ih (i+1) M (by omega) (by omega)
   ·rw[afv hz,afw,my,tX,afu h0,afx,ah8,if_neg (by decide)]
theorem Ee {N n:Nat} (hF:Fuel N) (hn:n<=1000) (k:Kz4):∀(d c B M:Nat) (s:Int) (f:Nat->Nat->Rat),c+d=n->d<M->rG B n f->(B+1)*4 ^ d<=100000000000 ->
  ah M (aO N (n:Int) (n:Int) (n:Int) (λt _=>k t) (λt _=>k t)) (s,(c:Int),mat enc n f)=k (xq n d c s f):=by
 intro d;induction d with
 | zero=>
  intro c B M s f hc hM _ _;cases M with
  | zero=>omega
  | succ M=>
   show aO _ _ _ _ _ _ (s,(c:Int),mat enc n f) (ah M _)=_;rw[aO];rw[afv (by omega:¬(c:Int)<(n:Int)),afw];rfl
 | succ d ih=>
  intro c B M s f hc hM hf hB;cases M with
  | zero=>omega
  | succ M=>
   have hN:=hF.lt;have hcn:c<n:=by omega
   have h4:(4*B+1+1)*4 ^ d<=100000000000:=by
    have h1:(4*B+1+1)*4 ^ d<=(B+1)*4*4 ^ d:=afA _ (by omega);have h2:(B+1)*4*4 ^ d=(B+1)*4 ^ (d+1):=by rw[afI,afG,afy 4 (4 ^ d)]
    omega
   have hB2:4*B+1+1<=100000000000:=by have:0<4 ^ d:=agF (by decide);have h1:(4*B+1+1)*1<=(4*B+1+1)*4 ^ d:=afC _ this;omega
   show aO _ _ _ _ _ _ (s,(c:Int),mat enc n f) (ah M _)=_;rw[aO];rw[afu (by omega:(c:Int)<(n:Int)),afx,qO hn hcn hcn];unfold kq kr;dsimp only;rw[my,G3,xq];by_cases hneg:(f c c).num<0
   ·rw[afu hneg,afx,if_pos hneg]
   ·rw[afv hneg,afw,if_neg hneg,aa afs];by_cases h0:f c c=0
    ·rw[if_pos h0];have hr:=λe0 e1=>LJ hF hn hcn s (n:Int) (c:Int) h0 e0 e1 d (c+1) N (by omega) (by omega)
     rw[afv hneg]at hr;rw[show(c:Int)+1=((c+1:Nat):Int) from rfl,hr];by_cases hz:vI (λi=>f i c) (c+1) d=true
     ·rw[if_pos hz,if_pos hz];have hs:=my (N:=N) (f c c);rw[afv hneg]at hs;rw[hs,tX,afu h0,afx,aa afs];exact ih (c+1) B M 2 f (by omega) (by omega) hf (by have:(B+1)*4 ^ d<=(4*B+1+1)*4 ^ d:=afA _ (by omega);omega)
     ·rw[if_neg hz,if_neg hz]
    ·rw[if_neg h0];have hr:=λe0 e1=>Pj hF (by omega) hn hcn s (n:Int) (c:Int) hf h0 e0 e1
     rw[afv hneg]at hr;rw[show(c:Int)+1=((c+1:Nat):Int) from rfl,hr];have hs:=my (N:=N) (f c c);rw[afv hneg]at hs;rw[hs,tX,afv h0,afw,aa afs];exact ih (c+1) (4*B+1) M s (fG f c n) (by omega) (by omega) (ux hf hcn h0) h4
theorem Po {N B n:Nat} (hF:Fuel N) (hB:B<=300000000000) (hn:n<=1000) {f:Nat->Nat->Rat} (hf:rG B n f) (hs:∀ a b,a<n->b<n->f a b=f b a) (k:Bool) :
  cS N n n (mat enc n f) k=k:=by
 have hN:=hF.lt
 (unfold cS; rw[ac]; unfold cJ)
 refine aA (λt:Nat=>(t:Int)) n (by omega) ?_ ?_
 ·intro i hi K;unfold bI;dsimp only;rw[afu (by omega:(i:Int)<(n:Int)),afx];refine aA (λt:Nat=>(t:Int)) i (by omega) ?_ ?_
  ·intro j hj K';have hj2:j<n:=by omega
   unfold bJ;dsimp only;rw[afu (by omega:(j:Int)<(i:Int)),afx,qO hn hi hj2];unfold kq kr;dsimp only;rw[qO hn hj2 hi];unfold kq kr;dsimp only;rw[Gi hF (B:=B) (by omega) (hf i j hi hj2) (hf j i hj2 hi)];unfold kq kr;dsimp only;have e:xo (f i j - f j i).num=0:=by
    have:f i j - f j i=0:=by rw[hs i j hi hj2]; grind
    rw[this]; rfl
   rw[my,e,qN,aa afs];rfl
  ·intro K';unfold bJ;dsimp only;rw[afv (by omega:¬(i:Int)<(i:Int)),afw,aa afs];rfl
 ·intro K;unfold bI;dsimp only;rw[afv (by omega:¬(n:Int)<(n:Int)),afw]
theorem Lw {N B n:Nat} (hF:Fuel N) (hn:n<=1000) {f:Nat->Nat->Rat} (hf:rG B n f) (hs:∀ a b,a<n->b<n->f a b=f b a) (hB:(B+1)*4 ^ n<=100000000000) (k:Kz4) :
  eu N n n (mat enc n f) (λt _=>k t)=k (xq n n 0 3 f):=by
 have hN:=hF.lt;have hB2:B<=300000000000:=by have:0<4 ^ n:=agF (by decide);have h1:(B+1)*1<=(B+1)*4 ^ n:=afC _ this;omega
 unfold eu jl;have e:((n:Int)==(n:Int))=((0:Int)==0):=by simp
 rw[e,qN,Po hF hB2 hn hf hs]
 (unfold gA; rw[ac]; unfold db)
 exact Ee hF hn k n 0 B N 3 f (by omega) (by omega) hf hB
theorem LM {N B n c:Nat} (hF:Fuel N) (hB:4*B+1<=300000000000) (hn:n<=1000) (hc:c<n) (s:Int) {f:Nat->Nat->Rat} (hf:rG B n f) (h0:f c c ≠ 0) (e0:List RY2->Bool) :
  ah N (BZ N s (c:Int) (c*n+c) (n:Int) (n:Int) e0) (((c+1:Nat):Int),mat dA n f)=e0 (mat dA n (fG f c n)):=by
 have hN:=hF.lt;rw[<- AH f c dA n];refine vU (λi:Nat=>((i:Int),mat dA n (fG f c i))) (c+1) n (by omega) (by omega) ?_ ?_
 ·intro i hi1 hi2 K;unfold BZ;dsimp only;have hne:¬(c*n+c=i*n+c):=by
   intro h;have:c*n=i*n:=by omega
   have:=agZ (by omega) this;omega
  rw[afu (by omega:(i:Int)<(n:Int)),afx,uB hn hi2 hc,afv hne,aa (a:=(!false&&true)) rfl,Ey,Ey,mz dA n _ hi2 hc,mz dA n _ hc hc,sW,AJ];have hp:(f c c).num ≠ 0:=λh=>h0 (tx.1 h)
  have bx:=hf i c hi2 hc;have bp:=hf c c hc hc;have bq:=Ht bx bp hp;have hq:=λkk=>Ph (N:=N) (b1:=false) (b2:=false) hF (B:=B) (by omega) bx bp hp kk
  have he:∀ x:Rat,dA x=((decide (x.num<0),aj x.num.natAbs),(false,aj x.den)):=λx=>rfl
  rw[he (f i c),he (f c c)];dsimp only;rw[hq];unfold kqR krR;dsimp only;rw[Lz hF (B:=4*B+1) hB hn hi2 hc (by omega) (ux hf hc h0) (bq.mono (by omega)),aa afs];have:mat dA n (fG f c (i+1))=mat dA n (oW (fG f c i) i c (f i c / f c c) n):=ke _ _ (λa b _ hb=>by
   rw[xL (by omega)];unfold oW;by_cases h1:a=i
   ·rw[if_pos h1,if_pos ⟨h1,hb⟩,sW,AJ]
   ·rw[if_neg h1,if_neg (by omega)])
  rw[this];rfl
 ·intro K;unfold BZ;dsimp only;rw[afv (by omega:¬(n:Int)<(n:Int)),afw]
theorem IA {N n c:Nat} (hF:Fuel N) (hn:n<=1000) (hc:c<n) {f:Nat->Nat->Rat} (e0:Int->Bool) (e1:Bool):∀(d i M:Nat),i+d=n->d<M ->
  ah M (B6 N (c:Int) (n:Int) (n:Int) (mat dA n f) e0 e1) ((i:Int))=if vI (λi=>f c i) i d=true then e1 else e0 1:=by
 intro d;induction d with
 | zero=>
  intro i M hi hM;cases M with
  | zero=>omega
  | succ M=>
   show B6 _ _ _ _ _ _ _ (i:Int) (ah M _)=_;unfold B6 vI;dsimp only;rw[afv (by omega:¬(i:Int)<(n:Int)),afw,if_pos rfl]
 | succ d ih=>
  intro i M hi hM;cases M with
  | zero=>omega
  | succ M=>
   have hi2:i<n:=by omega
   show B6 _ _ _ _ _ _ _ (i:Int) (ah M _)=_;rw[B6];have he:∀ x:Rat,dA x=((decide (x.num<0),aj x.num.natAbs),(false,aj x.den)):=λx=>rfl
   rw[afu (by omega:(i:Int)<(n:Int)),afx,uB hn hc hi2,mz dA n _ hc hi2,he (f c i)];dsimp only;rw[yh,R6,vI];by_cases hz:f c i=0
   ·rw[afu hz,agn,afw,aa afs,agC];exact ih (i+1) M (by omega) (by omega)
   ·rw[afv hz,agb,afx,ah8,if_neg (by decide)]
def VD (n c:Nat) (f:Nat->Nat->Rat):Prop:=∀ a b,c<=a->c<=b->a<n->b<n->f a b=f b a
theorem Oi {n c:Nat} {f:Nat->Nat->Rat} (h:VD n c f) (hc:c<n):VD n (c+1) (fG f c n):=by intro a b ha hb han hbn;unfold fG;rw[if_pos ⟨by omega,han⟩,if_pos ⟨by omega,hbn⟩,h a b (by omega) (by omega) han hbn,h a c (by omega) (by omega) han hc,h c b (by omega) (by omega) hc hbn,PB]
theorem Lq {N n:Nat} (hF:Fuel N) (hn:n<=1000) (k:Kz4):∀(d c B M:Nat) (s:Int) (f:Nat->Nat->Rat),c+d=n->d<M->rG B n f->VD n c f->(B+1)*4 ^ d<=100000000000 ->
  ah M (B5 N (n:Int) (n:Int) (λt=>k t) (λt=>k t)) (s,(c:Int),mat dA n f)=k (xq n d c s f):=by
 intro d;induction d with
 | zero=>
  intro c B M s f hc hM _ _ _;cases M with
  | zero=>omega
  | succ M=>
   show B5 _ _ _ _ _ (s,(c:Int),mat dA n f) (ah M _)=_;rw[B5];rw[afv (by omega:¬(c:Int)<(n:Int)),afw];rfl
 | succ d ih=>
  intro c B M s f hc hM hf hsy hB;cases M with
  | zero=>omega
  | succ M=>
   have hN:=hF.lt;have hcn:c<n:=by omega
   have h4:(4*B+1+1)*4 ^ d<=100000000000:=by
    have h1:(4*B+1+1)*4 ^ d<=(B+1)*4*4 ^ d:=afA _ (by omega);have h2:(B+1)*4*4 ^ d=(B+1)*4 ^ (d+1):=by rw[afI,afG,afy 4 (4 ^ d)]
    omega
   have hB2:4*B+1+1<=100000000000:=by have:0<4 ^ d:=agF (by decide);have h1:(4*B+1+1)*1<=(4*B+1+1)*4 ^ d:=afC _ this;omega
   have he:∀ x:Rat,dA x=((decide (x.num<0),aj x.num.natAbs),(false,aj x.den)):=λx=>rfl
   show B5 _ _ _ _ _ (s,(c:Int),mat dA n f) (ah M _)=_;rw[B5];rw[afu (by omega:(c:Int)<(n:Int)),afx,uB hn hcn hcn,mz dA n _ hcn hcn,he (f c c)];dsimp only;rw[yh,G3,xq];by_cases hneg:(f c c).num<0
   ·rw[afu hneg,afx,if_pos hneg]
   ·rw[if_neg hneg,yh,tX];rw[afv hneg,afw];by_cases h0:f c c=0
    ·rw[if_pos h0,afu h0,afx,aa afs];rw[show(c:Int)+1=((c+1:Nat):Int) from rfl,IA hF hn hcn _ _ d (c+1) N (by omega) (by omega)];have ez:vI (λi=>f c i) (c+1) d=vI (λi=>f i c) (c+1) d:=Ap _ _ (λj h1 h2=>hsy c j (by omega) (by omega) hcn (by omega));rw[ez];by_cases hz:vI (λi=>f i c) (c+1) d=true
     ·rw[if_pos hz,if_pos hz,aa afs];exact ih (c+1) B M 2 f (by omega) (by omega) hf (λa b ha hb=>hsy a b (by omega) (by omega)) (by have:(B+1)*4 ^ d<=(4*B+1+1)*4 ^ d:=afA _ (by omega);omega)
     ·rw[if_neg hz,if_neg hz]
    ·rw[if_neg h0,afv h0,afw,aa afs];rw[show(c:Int)+1=((c+1:Nat):Int) from rfl,LM hF (by omega) hn hcn s hf h0,aa afs];exact ih (c+1) (4*B+1) M s (fG f c n) (by omega) (by omega) (ux hf hcn h0) (Oi hsy hcn) h4
end Go.Proofs.YtdinakfmablagaaGreatDoor
end
