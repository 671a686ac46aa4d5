/-
  PURE: laws of the seat's functions, taken over from another seat of mine.
  Conditions: none.
-/
import Derived.Test.YteifemaagdeomaaGreatDoorD1
import Derived.Test.YteifemaagdeomaaGreatDoorFlA
import Derived.Test.YteifemaagdeomaaGreatDoorC1
import Derived.Test.YteifemaagdeomaaGreatDoorGp
set_option linter.unusedVariables false
section
namespace Go.Proofs.YteifemaagdeomaaGreatDoor
open Go Go.Mach Ieee
theorem PS {N n j:Nat} (hN:1000<=N) (hj:j<=900) (h:n<4294967296 ^ j):gl N (aj n):=by have:=cG j n h;exact⟨by omega,by omega⟩
theorem sV {N n:Nat} (hN:1000<=N) (h:n<18446744073709551616):gl N (aj n):=PS (j:=2) hN (by decide) (by
 have:(4294967296:Nat) ^ 2=18446744073709551616:=by decide
 omega)
theorem acf (n:Nat):aE .and .u64 (n:Int) 2047=((n%2048:Nat):Int):=by have:=l7 n 11 (by decide);simpa using this
theorem EI (s:Bool) (m:Nat) (i:Int):∃ r,Ieee.double.nearest s m i=Ieee.double.word s r/\r<=9218868437227405312:=by
 unfold Format.nearest;split
 ·exact⟨0,rfl,by omega⟩
 ·rw[lL]; exact⟨_,rfl,amO _ _⟩
theorem JJ (s:Bool) (m:Nat) (i:Int):W64 (Ieee.double.nearest s m i):=by obtain⟨r,h,hr⟩:=EI s m i;rw[h]; exact Fj s (by omega)
theorem aaD {N:Nat} (hN:1000<=N) {n:Nat} (h:n<=48):vH N n:=⟨by omega,by omega⟩
theorem Sg (b:Nat):aL (some b)=decide (b%9223372036854775808<9218868437227405312):=by
 unfold aL Format.read;simp only[gH,tB,lL];by_cases h1:b%9223372036854775808<4503599627370496
 ·rw[if_pos h1,ajx (by omega)]; rfl
 ·rw[if_neg h1];by_cases h2:b%9223372036854775808<9218868437227405312
  ·rw[if_pos h2,ajx h2]; rfl
  ·rw[if_neg h2,ajy h2];split <;> rfl
def Nn (x:Fl):Prop:=∃ b,x=some b/\isNaN b=false
theorem Re {x:Fl} (h:aL x=true):Nn x:=by
 cases x with
 | none=>cases h
 | some b=>
  rw[Sg]at h;have:=ajC h;refine⟨b,rfl,?_⟩;rw[amb];intro hc;have:=(gb b).1 hc;omega
theorem UF (s:Bool) {r:Nat} (h:r<=9218868437227405312):Nn (some (Ieee.double.word s r)):=by
 refine⟨_,rfl,?_⟩;rw[amb];intro hc;have h1:=(gb _).1 hc;have hw:Ieee.double.word s r%9223372036854775808=r:=by unfold Format.word; rw[gH]; cases s <;> simp <;> omega
 omega
theorem DB (s:Bool) (m:Nat) (i:Int):Nn (some (Ieee.double.nearest s m i)):=by obtain⟨r,h,hr⟩:=EI s m i;rw[h]; exact UF s hr
abbrev K4:=Fl->Fl->Fl->Fl->Int->Bool
def gW:Nat->Nat->Int->Nat × Int
 | 0,m,e=>(m,e)
 | f+1,m,e=>if m%2=0 then gW f (m / 2) (e+1)else(m,e)
theorem vm:∀ f m e,m ≠ 0->m<2 ^ f->e<=(gW f m e).2/\(gW f m e).2<=e+f/\(gW f m e).1*2 ^ ((gW f m e).2 - e).toNat=m/\(gW f m e).1<=m
 | 0,m,e,h0,h=>by simp at h; omega
 | f+1,m,e,h0,h=>by
  unfold gW;split
  ·rename_i hm;obtain⟨h1,h2,h3,h4⟩:=vm f (m / 2) (e+1) (by omega) (by rw[ajK]at h; omega);refine⟨by omega,by omega,?_,by omega⟩;have:((gW f (m / 2) (e+1)).2 - e).toNat=((gW f (m / 2) (e+1)).2 - (e+1)).toNat+1:=by omega
   rw[this,ajK,<- ajI,h3]; omega
  ·refine⟨by omega,by omega,?_,ajL _⟩;rw[Int.sub_self]; simp
theorem U6 {N:Nat} (hN:1000<=N) {m:Nat} {e:Int} (h0:m ≠ 0) (hm:m<2 ^ 64) (he1 : -2000<=e) (he2:e<=2000) (k:Ky1) :
  t_ N m e k=k ((gW 64 m e).1:Int) (gW 64 m e).2:=by
 (unfold t_; rw[af]; unfold xY)
 have key:∀ f:Nat,f<=64 -> ∀(m:Nat) (e:Int),m ≠ 0->m<2 ^ f->m<2 ^ 64 -> -2000<=e->e+f<=3000 -> ∀ M:Nat,f<M->al M (mR N λa b=>k a b) ((m:Int),e)=k ((gW f m e).1:Int) (gW f m e).2:=by
  intro f;induction f with
  | zero=>intro _ m e h0 h; simp at h; omega
  | succ f ih=>
   intro hf m e h0 h h64 h1 h2 M hM;cases M with
   | zero=>omega
   | succ M=>
    show mR N _ ((m:Int),e) (al M _)=_;have e2:Int.tmod (m:Int) 2=((m%2:Nat):Int):=by rw[akq (by omega)]; rfl
    have e3:Int.tdiv (m:Int) 2=((m / 2:Nat):Int):=by rw[aky (by omega)]; rfl
    simp only[mR,gW,e2,e3];by_cases hm:m%2=0
    ·have:(((m%2:Nat):Int)==0)=true:=by rw[hm]; rfl
     have ew:IntKind.wrap .u64 ((m / 2:Nat):Int)=((m / 2:Nat):Int):=by
      rw[aq];have:(2:Nat) ^ 64=18446744073709551616:=by decide
      omega
     rw[this,ajA,aa ajv,if_pos hm,ew];exact ih (by omega) (m / 2) (e+1) (by omega) (by rw[ajK]at h; omega) (by omega) (by omega) (by omega) M (by omega)
    ·have:(((m%2:Nat):Int)==0)=false:=by
      have:m%2=1:=by omega
      rw[this]; rfl
     rw[this,ajz,if_neg hm]
 have:((m:Int)==0)=false:=by simp; omega
 rw[this,ajz];exact key 64 (ajL _) m e h0 hm hm (by omega) (by omega) N (by omega)
theorem SL (N:Nat) (e:Int) (k:Ky1):t_ N 0 e k=k 0 0:=by (unfold t_; rw[af]; unfold xY); rfl
def ofE (x:Fl):Int × Int:=match x with
 | some b=>match Ieee.double.read b with
  | .number s m i=>if m=0 then(0,0)else((gW 64 m i).2,aZ s (gW 64 m i).1)
  | _=>(0,0)
 | none=>(0,0)
theorem A2 {b:Nat} {s:Bool} {m:Nat} {i:Int} (h:Ieee.double.read b=.number s m i):ofE (some b)=if m=0 then(0,0)else((gW 64 m i).2,aZ s (gW 64 m i).1):=by unfold ofE; simp only[h]
theorem O6 {N:Nat} (hN:1000<=N) {b:Nat} (hb:W64 b) {s:Bool} {m:Nat} {i:Int} (h:Ieee.double.read b=.number s m i) (k:Kx4) :
    Tw N (some b) k=if m=0 then k s 0 0 0 else k s ((gW 64 m i).1:Int) (gW 64 m i).2 0:=by
  obtain⟨h1,h2,h3⟩:=jv h;have hpl:=tX h;have hnn:isNaN b=false:=by rw[amb]; intro hc; have:=(gb b).1 hc; omega
  have hbits:pQ (some b)=b:=by simp only[pQ,cnb,hnn]; rfl
  have hsg:(Int.fdiv (b:Int) (2 ^ 63)==1)=s:=by
    have e:(2:Int) ^ 63=((9223372036854775808:Nat):Int):=by decide
    rw[e,mp,h1];have hW:b / 9223372036854775808<2:=by have:=hb; omega
    have:b / 9223372036854775808=0\/b / 9223372036854775808=1:=by omega
    rcases this with h | h <;> rw[h] <;> rfl
  have fin:∀(e:Int),i=e - 1074 -> -1100<=e->e<=2100->Ij N (some b) s e (m:Int) k=if m=0 then k s 0 0 0 else k s ((gW 64 m i).1:Int) (gW 64 m i).2 0:=by
    intro e he h5 h6;unfold Ij;rw[aa ajv,<- he];by_cases h0:m=0
    · subst h0; rw[if_pos rfl]; exact SL N i _
    · rw[if_neg h0,U6 hN h0 (by have:(2:Nat) ^ 64=18446744073709551616:=(by decide); omega) (by omega) (by omega)]
  (unfold Tw; rw[af]; unfold Ic)
  rw[Gg,hbits];rw[hsg];have n2047:(((b / 4503599627370496%2048:Nat):Int)==2047)=false:=by simp; omega
  rw[n2047,ajz];rcases h3 with⟨g1,g2,g3⟩ | ⟨g1,g2,g3⟩
  · have e0:b / 4503599627370496%2048=0:=by omega
    have e1:b%4503599627370496=m:=by omega
    rw[e0,e1,ajy (by decide),ajz];exact fin 0 (by omega) (by omega) (by omega)
  · have e0:0<b / 4503599627370496%2048:=by omega
    have e1:IntKind.wrap .u64 (((b%4503599627370496:Nat):Int)+4503599627370496)=(m:Int):=by rw[aq]; omega
    rw[ajx (by omega:((b / 4503599627370496%2048:Nat):Int)>0),ajA,aa ajv,e1];exact fin _ (by omega) (by omega) (by omega)
theorem YG {N:Nat} (hN:1000<=N) {x:Fl} (hx:aL x=true) (hw:FW x) (k:Int->Bool->List Int->Bool):EY N x k=exK (ofE x) k:=by
  obtain⟨b,s,m,i,rfl,h⟩:=cI hx;have hb:=hw b rfl
  (unfold EY; rw[af]; unfold Dw)
  rw[O6 hN hb h,A2 h];by_cases h0:m=0
  · rw[if_pos h0,if_pos h0]
    have:∀ κ,NZ N 0 false κ=κ false (aj 0):=λκ=>zi (N:=N) 0 (by decide) false (sV hN (by decide)) (by omega) κ
    rw[this];cases s
    · rw[ajz]; unfold exK; rfl
    · rw[ajA,Gf _ _ (sV hN (by decide))]; unfold exK yR; rfl
  · rw[if_neg h0,if_neg h0]
    have hpl:=tX h;obtain⟨g1,g2,g3,g4⟩:=vm 64 m i h0 (by have:(2:Nat) ^ 64=18446744073709551616:=(by decide); omega);have hs:=sV (N:=N) (n:=(gW 64 m i).1) hN (by omega);rw[zi (N:=N) _ (by omega) false hs (by omega)];cases s
    · rw[ajz]
      show _=k (gW 64 m i).2 (decide ((((gW 64 m i).1:Nat):Int)<0)) (aj (((gW 64 m i).1:Nat):Int).natAbs);rw[ajy (by omega),ake]
    · rw[ajA,Gf _ _ hs]; rfl
def EV (x:Int × Int) (v:Int) (E:Nat):Prop:=0<=x.1+E/\x.2*2 ^ (x.1+E).toNat=v
theorem EV.up {x:Int × Int} {v:Int} {E:Nat} (h:EV x v E) (F:Nat):EV x (v*2 ^ F) (E+F):=by
 obtain⟨h1,h2⟩:=h;refine⟨by omega,?_⟩;have:(x.1+((E+F:Nat):Int)).toNat=(x.1+E).toNat+F:=by omega
 rw[this,Int.pow_add,<- Int.mul_assoc,h2]
theorem EV.mul {x y:Int × Int} {v w:Int} {E F:Nat} (h:EV x v E) (g:EV y w F):EV (Cw x y) (v*w) (E+F):=by
 obtain⟨h1,h2⟩:=h;obtain⟨g1,g2⟩:=g;refine⟨by simp only[Cw]; omega,?_⟩;have:((Cw x y).1+((E+F:Nat):Int)).toNat=(x.1+E).toNat+(y.1+F).toNat:=by simp only[Cw]; omega
 rw[this,Int.pow_add,<- h2,<- g2];simp only[Cw];ac_rfl
theorem EV.neg {x:Int × Int} {v:Int} {E:Nat} (h:EV x v E):EV (Wq x) (-v) E:=⟨h.1,by rw[<- h.2]; exact amJ _ _⟩
theorem F7 {x:Int × Int} {v:Int} {E:Nat} (h:EV x v E) {e:Int} (he:e<=x.1) (hE:0<=e+E):wQ x e*2 ^ (e+E).toNat=v:=by unfold wQ;rw[Int.mul_assoc,<- Int.pow_add,show(x.1 - e).toNat+(e+E).toNat=(x.1+E).toNat by omega];exact h.2
theorem EV.add {x y:Int × Int} {v w:Int} {E:Nat} (h:EV x v E) (g:EV y w E):EV (Nh x y) (v+w) E:=by
 unfold Nh;split
 ·rename_i h0;have:v=0:=by rw[<- h.2,h0,Int.zero_mul]
  rw[this,Int.zero_add]; exact g
 ·split
  ·rename_i h0;have:w=0:=by rw[<- g.2,h0,Int.zero_mul]
   rw[this,Int.add_zero]; exact h
  ·have hE:0<=min x.1 y.1+E:=by have:=h.1; have:=g.1; omega
   exact⟨hE,by rw[Int.add_mul,F7 h (by omega) hE,F7 g (by omega) hE]⟩
theorem EV.sgn {x:Int × Int} {v:Int} {E:Nat} (h:EV x v E):Bd x.2=Bd v:=by
 rw[<- h.2];have hp:=Te (x.1+E).toNat;unfold Bd;rcases Int.lt_trichotomy x.2 0 with h | h | h
 ·have:=Int.mul_neg_of_neg_of_pos h hp;rw[if_neg (by omega),if_pos h,if_neg (by omega),if_pos this]
 ·rw[h,Int.zero_mul]
 ·have:=Int.mul_pos h hp;rw[if_neg (by omega),if_neg (by omega),if_neg (by omega),if_neg (by omega)]
theorem Ex.mono {E B E' B':Nat} {x:Int × Int} (h:Ex E B x) (hE:E<=E') (hB:B<=B'):Ex E' B' x:=⟨by have:=h.1; omega,by have:=h.2.1; omega,bN h.2.2 hB⟩
theorem Ex.mul {E B E' B':Nat} {x y:Int × Int} (h:Ex E B x) (g:Ex E' B' y):Ex (E+E') (B+B') (Cw x y):=
 ⟨by have:=h.1; have:=g.1; simp only[Cw]; omega,by have:=h.2.1; have:=g.2.1; simp only[Cw]; omega,by show aU _ (x.2*y.2).natAbs;rw[alj]; exact d7 h.2.2 g.2.2⟩
theorem Ex.neg {E B:Nat} {x:Int × Int} (h:Ex E B x):Ex E B (Wq x):=⟨h.1,h.2.1,by show aU _ (-x.2).natAbs; rw[alA]; exact h.2.2⟩
theorem EC {E B:Nat} {x:Int × Int} (h:Ex E B x) {e:Int} (he : -(E:Int)<=e):aU (B+2*E) (wQ x e).natAbs:=by unfold wQ;rw[alj,Int.natAbs_pow];refine bN (zE h.2.2 _) ?_;have:=h.2.1; omega
theorem Ex.add {E B:Nat} {x y:Int × Int} (h:Ex E B x) (g:Ex E B y):Ex E (B+2*E+1) (Nh x y):=by
 unfold Nh;split
 ·exact g.mono (ajL _) (by omega)
 ·split
  ·exact h.mono (ajL _) (by omega)
  ·refine⟨by have:=h.1; have:=g.1; show -(E:Int)<=min x.1 y.1; omega,by have:=h.2.1; show min x.1 y.1<=E; omega,?_⟩;have h1:=EC h (e:=min x.1 y.1) (by have:=h.1; have:=g.1; omega);have h2:=EC g (e:=min x.1 y.1) (by have:=h.1; have:=g.1; omega);exact oc (Aw h1 h2) (Int.natAbs_add_le _ _)
theorem U0 {N:Nat} (hN:1000<=N) {E B:Nat} {x:Int × Int} (hx:Ex E B x) {e:Int} (he : -(E:Int)<=e) (hB:B+2*E<=30000) (k0:Bool) (k1:Bool->List Int->Bool) (h0:x.1<=e->k0=yR x.2 k1) (he2:x.1<=e->e=x.1) :
  Tn N x.1 e (decide (x.2<0)) (aj x.2.natAbs) k0 k1=yR (wQ x e) k1:=by
 unfold Tn VP;have hx1:=hx.1;have hx2:=hx.2.1;by_cases hc:x.1<=e
 ·rw[ajx (by omega:e>=x.1),ajA,h0 hc];have:wQ x e=x.2:=by unfold wQ;rw[he2 hc,Int.sub_self]; simp
  rw[this]
 ·rw[ajy (by omega:¬ e>=x.1),ajz,aa ajv];have ew:IntKind.wrap .u64 (x.1 - e)=(((x.1 - e).toNat:Nat):Int):=by rw[aq]; omega
  rw[ew,Ge _ _ _ _ (FV hN (by omega) hx.2.2)];congr 1;unfold wQ aZ;by_cases hz:x.2<0
  ·rw[ajx hz,if_pos rfl,ajU,ak1,<- amJ];congr 1; omega
  ·rw[ajy hz,if_neg (by decide),ajU,ak1];congr 1; omega
theorem Mj {x:Fl} (hx:aL x=true):Ex 1100 53 (ofE x):=by
  obtain⟨b,s,m,i,rfl,h⟩:=cI hx;rw[A2 h];have hpl:=tX h;have hpg:=xp h;by_cases h0:m=0
  · rw[if_pos h0]; exact⟨by decide,by decide,ajM _⟩
  · rw[if_neg h0]
    obtain⟨g1,g2,g3,g4⟩:=vm 64 m i h0 (by have:(2:Nat) ^ 64=18446744073709551616:=(by decide); omega);refine⟨by show -((1100:Nat):Int)<=(gW 64 m i).2; omega,by show(gW 64 m i).2<=((1100:Nat):Int); omega,?_⟩;show aU 53 (aZ s (gW 64 m i).1).natAbs;have:(aZ s (gW 64 m i).1).natAbs=(gW 64 m i).1:=by unfold aZ; cases s <;> simp
    rw[this];show _<2 ^ 53;have:(2:Nat) ^ 53=9007199254740992:=by decide
    omega
theorem Gv:∀(f t c:Nat) (e:Int),t<f->gW f (2 ^ t*(2*c+1)) e=(2*c+1,e+t)
 | 0,t,c,e,h=>by omega
 | f+1,0,c,e,h=>by
  unfold gW;rw[alq,alC,if_neg (by omega)];simp
 | f+1,t+1,c,e,h=>by
  unfold gW;have e1:2 ^ (t+1)*(2*c+1)=2*(2 ^ t*(2*c+1)):=by rw[ajK]; ac_rfl
  rw[e1,if_pos (by omega),aj7 _ (by decide),Gv f t c (e+1) (by omega)];congr 1; omega
theorem TX {b:Nat} (hb:W64 b):(aE .and .u64 (b:Int) 9223372036854775808 != 0)=(b / 9223372036854775808%2==1):=by
 have e1:(9223372036854775808:Int)=((2 ^ 63:Nat):Int):=by decide
 have p63:(2:Nat) ^ 63=9223372036854775808:=by decide
 rw[e1,za hb (by rw[p63]; omega)];have h1:b / 9223372036854775808%2=0\/b / 9223372036854775808%2=1:=by omega
 have h2:b.testBit 63=decide (b / 2 ^ 63%2=1):=Nat.testBit_eq_decide_div_mod_eq;rw[p63]at h2;rcases h1 with h | h
 ·have hz:b &&& 2 ^ 63=0:=by
   refine alN (λj=>?_);rw[amv,alm,Nat.zero_testBit];by_cases hj:63=j
   ·subst hj; rw[h2,h]; rfl
   ·rw[ajy hj,Bool.and_false]
  rw[hz,h]; rfl
 ·have hz:b &&& 2 ^ 63 ≠ 0:=by intro hc;have:=amI (λn=>n.testBit 63) hc;simp only[amv,alm,Nat.zero_testBit,h2,h]at this;simp at this
  rw[h];generalize b &&& 2 ^ 63=z at hz ⊢;have:((z:Int) != 0)=true:=by simp; exact hz
  rw[this]; rfl
theorem Gy {N:Nat} {b m:Nat} {i:Int} {s:Bool} (hpl:i<=971/\m<9007199254740992) (hb:W64 b) (k:Kx4) (E:Int) (hEi:i=E) (h5 : -1100<=E) (h6:E<=1100) (h0:m ≠ 0):KL N (b:Int) 52 2047 1075 s (m:Int) E k=k s ((gW 64 m i).1:Int) (gW 64 m i).2 0:=by
 unfold KL;obtain⟨t,c,hm⟩:=EM m h0;have ht0:0<2 ^ t:=ajM t;have ht:t<64:=by
  rcases akv t 64 with g | g
  ·exact g
  ·have g2:2 ^ 64<=2 ^ t:=ajO (by decide) g;have g3:2 ^ t*1<=2 ^ t*(2*c+1):=ajG _ (by omega);have g4:(2:Nat) ^ 64=18446744073709551616:=by decide
   omega
 rw[hm,YH N (by rw[<- hm]; omega),Gv 64 t c i ht,aa (ajx (by omega)),aa ajv,ajD,show min t 64=t by omega];have e2:(2:Int) ^ t=((2 ^ t:Nat):Int):=by rw[ak1]; rfl
 rw[e2,mp,aj7 _ ht0,hEi]
theorem LC {N:Nat} {b:Nat} (hb:W64 b) {s:Bool} {m:Nat} {i:Int} (h:Ieee.double.read b=.number s m i) (k:Kx4) :
  rM N (some b) k=if m=0 then k s 0 0 0 else k s ((gW 64 m i).1:Int) (gW 64 m i).2 0:=by
 obtain⟨h1,h2,h3⟩:=jv h;have hpl:=tX h;have hnn:isNaN b=false:=by rw[amb]; intro hc; have:=(gb b).1 hc; omega
 have hcnb:cnb b=b:=by simp only[cnb,hnn]; rfl
 have hcls:=G8 b;rw[hcnb]at hcls;have hE:b / 4503599627370496%2048<2047:=by omega
 rw[if_neg (Nat.ne_of_lt hE)]at hcls;have hc:(b / 4503599627370496%2048=0/\b%4503599627370496=m/\cls b=(if m=0 then 3 else 4)/\i = -1074)\/(b / 4503599627370496%2048 ≠ 0/\m=4503599627370496+b%4503599627370496/\cls b=5/\i=((b / 4503599627370496%2048:Nat):Int) - 1075):=by
  rcases h3 with⟨g1,g2,g3⟩ | ⟨g1,g2,g3⟩
  ·have e0:b / 4503599627370496%2048=0:=by omega
   have e1:b%4503599627370496=m:=by omega
   rw[if_pos e0,e1]at hcls;exact .inl ⟨e0,e1,hcls,by omega⟩
  ·have e0:b / 4503599627370496%2048 ≠ 0:=by omega
   rw[if_neg e0]at hcls;exact .inr ⟨e0,by omega,hcls,by omega⟩
 generalize hx:b / 4503599627370496%2048=x at hE hc;generalize hy:b%4503599627370496=y at hc;have hylt:y<4503599627370496:=by omega
 have goal0:rM N (some b) k=(ah .i64 ((x:Int) - 1075)&&(cond ((cls b:Int)==1) (k false 0 0 4) (cond ((cls b:Int)==2) (k false 0 0 4) (cond ((cls b:Int)==3) (k s 0 0 0) (cond ((cls b:Int)==4) ((ah .i64 (((x:Int) - 1075)+1))&&(KL N (b:Int) 52 2047 1075 s (y:Int) (((x:Int) - 1075)+1) k)) (lO N 52 2047 1075 (λ(acC:Int)=>(KL N (b:Int) 52 2047 1075 s (aE .or .u64 (y:Int) acC) ((x:Int) - 1075) k)))))))):=by
  unfold rM Ds;show YW N (b:Int) 52 2047 1075 _=_
  (unfold YW; rw[af]; unfold QU)
  rw[Gm,hcnb,TX hb,<- h1,Gj,hx,hy]
 rw[goal0,aa ajv];clear goal0 hcls h1 h2 h3 hcnb hnn;rcases hc with⟨c1,c2,c3,c4⟩ | ⟨c1,c2,c3,c4⟩
 ·rw[c3];by_cases h0:m=0
  ·rw[if_pos h0,if_pos h0]; rfl
  ·rw[if_neg h0,if_neg h0,c2];show(ah .i64 (((x:Int) - 1075)+1)&&_)=_;rw[aa ajv];exact Gy hpl hb k _ (by omega) (by omega) (by omega) h0
 ·have h0:m ≠ 0:=by omega
  rw[c3,if_neg h0];have eor:aE .or .u64 (y:Int) 4503599627370496=(m:Int):=by
   have p52:(2:Nat) ^ 52=4503599627370496:=by decide
   have:=cE y 1 52 (by omega) (by omega);rw[p52]at this;rw[show((4503599627370496*1:Nat):Int)=4503599627370496 from rfl]at this;rw[this]; omega
  rw[show((5:Int)==1)=false from rfl,ajz,show((5:Int)==2)=false from rfl,ajz,show((5:Int)==3)=false from rfl,ajz,show((5:Int)==4)=false from rfl,ajz,mm,eor];exact Gy hpl hb k _ (by omega) (by omega) (by omega) h0
theorem PQ {z:Int}:(Bd z==0)=decide (z=0):=by
 unfold Bd;by_cases h:z=0
 ·rw[if_pos h,ajx h]; rfl
 ·rw[if_neg h,ajy h];by_cases hl:z<0
  ·rw[if_pos hl]; rfl
  ·rw[if_neg hl]; rfl
def rJ (p:Int × Int):Rat:=if 0<=p.1 then mkRat (p.2*((2 ^ p.1.toNat:Nat):Int)) 1 else mkRat p.2 (2 ^ (-p.1).toNat)
theorem Yw (a b:Int):imm true a b=max a b:=by
 unfold imm; simp only[ajA];by_cases h:a<=b
 ·have:max a b=b:=by omega
  rw[this];by_cases h2:b>a
  ·rw[ajx h2]; rfl
  ·rw[ajy h2,ajz]; omega
 ·have:max a b=a:=by omega
  rw[this,ajy (by omega),ajz]
theorem WC (n:Nat):¬((n:Nat):Int)<0:=by omega
theorem EJ (g:Bool):(g != false)=g:=by cases g <;> rfl
theorem RL {B s n:Nat} (h:aU B n):aU (B+s) (n*2 ^ s):=zE h s
theorem DM {s:Nat}:aU (s+1) (2 ^ s):=by unfold aU; rw[ajK]; have:=ajM s; omega
theorem M9:aU 1 1:=by unfold aU; decide
theorem BA:ae 1=[1]:=uD (by decide) (by decide)
theorem YF {w:Int} (k:Kx6):kq (mkRat w 1) k=kr w 1 k:=by unfold kq;rw[Rat.mkRat_one,Rat.num_intCast,Rat.den_intCast]
theorem Nt {N:Nat} (hF:Fuel N) (x:Fl) (s:Bool) (M e z:Int) (he : -1100<=e) (he2:e<=1100) (hz:aU 53 z.natAbs) (k:Kx6) :
  bM N x s M e (decide (z<0)) (ae z.natAbs) k=kq (rJ (e,z)) k:=by
 have hN:=hF.lt;unfold bM;have n1:=λkk=>xc (N:=N) (by omega) 1 (by decide) kk
 rw[show((1:Nat):Int)=1 from rfl]at n1;rw[n1,aa ajv,Yw];obtain⟨t,ht⟩:∃ t:Nat,max e (0 - e)=(t:Int):=⟨(max e (0 - e)).toNat,by omega⟩
 have ew:IntKind.wrap .u64 (max e (0 - e))=(t:Int):=by rw[aq]; omega
 have htb:t<=1100:=by omega
 rw[ew,O3 t false false 1 (by omega) (by rw[BA]; simp; omega) (by rw[BA]; simp)];unfold wZ;have e1:aZ false (1*2 ^ t)=((2 ^ t:Nat):Int):=by unfold aZ; rw[alC]; rfl
 rw[e1,ajy (WC (2 ^ t)),ake];dsimp only;have hp:=ajM t;have hzb:aU 2000 z.natAbs:=bN hz (by omega);have htb2:aU 2000 (2 ^ t):=bN DM (by omega);by_cases hc:e<0
 ·rw[ajx hc,ajA];unfold Vr W_;rw[EJ,CA hF (B:=2000) (by decide) _ hzb htb2 hp,jM];unfold rJ;dsimp only;have:(-e).toNat=t:=by omega
  rw[if_neg (by omega),this]
 ·rw[ajy hc,ajz];unfold WK VS;have hm:aU 4000 (z.natAbs*2 ^ t):=bN (d7 hzb htb2) (by omega);rw[yv hF (by decide) hzb htb2,EJ];rw[rC (decide (z<0)) _ _ (z.natAbs*2 ^ t) (λa b=>Y3 N false false a b (λc8 s7 c9 s8=>k c8 s7 c9 s8))];rw[w5];obtain⟨w,hw⟩:∃ w:Int,w=z*((2 ^ t:Nat):Int):=⟨_,rfl⟩
  have hwb:aU 4000 w.natAbs:=by rw[hw,alj,ake]; exact hm
  rw[<- hw];unfold wZ Y3 Zq;dsimp only;rw[uX (by decide) hwb];have er:rJ (e,z)=mkRat w 1:=by
   unfold rJ;dsimp only;have:e.toNat=t:=by omega
   rw[if_pos (by omega),this,hw]
  rw[er,YF]
  (unfold WH; rw[af]; unfold Qh PL Ui WM VV kr)
  rw[BA];by_cases hl:w<0
  ·rw[ajx hl];have h2:decide (((ae w.natAbs).length:Int)>0)=true:=by rw[tG]; exact ajx (by omega)
   simp only[h2];rfl
  ·rw[ajy hl]; rfl
theorem uY (N:Nat) (e:Int) (k0:Bool):cA N ((0:Int)==0) e k0=k0:=rfl
theorem Jr {N:Nat} (hF:Fuel N) {x:Fl} (hx:aL x=true) (hw:FW x) (k:Kx6):lD N x k=kq (rJ (ofE x)) k:=by
 have hN:=hF.lt;have hex:=Mj hx;obtain⟨b,s,m,i,rfl,h⟩:=cI hx;have ho:=A2 h
 (unfold lD; rw[af]; unfold dX)
 have fin:∀(M:Nat) (e:Int),M<18446744073709551616->ofE (some b)=(e,aZ s M) ->
   cA N ((0:Int)==0) 4 (TM N (M:Int) false (λ(acs:Bool) (nsr:List Int)=>(cond s (TO N acs nsr (λ(acJ:Bool) (ack:List Int)=>(bM N (some b) s (M:Int) e acJ ack k))) (bM N (some b) s (M:Int) e acs nsr k))))=kq (rJ (ofE (some b))) k:=by
  intro M e hM heq;rw[heq]at hex ⊢;have h1:=hex.1;have h2:=hex.2.1;have h3:=hex.2.2;dsimp only at h1 h2 h3;have hl:(ae M).length<=1099511627776:=by
   have:aU 64 M:=by unfold aU; omega
   have:=C6 (B:=64) (by decide) this; omega
  rw[uY,SD (by omega) M hM];cases s
  ·rw[ajz];have e1:aZ false M=(M:Int):=rfl;rw[e1]at h3 ⊢;have:=Nt hF (some b) false (M:Int) e (M:Int) (by omega) (by omega) h3 k;rw[ajy (by omega:¬(M:Int)<0),ake]at this;exact this
  ·rw[ajA,O4 false M hl];have e1 : -(aZ false M)=aZ true M:=rfl;rw[e1];exact Nt hF (some b) true (M:Int) e (aZ true M) (by omega) (by omega) h3 k
 rw[LC (hw b rfl) h];by_cases h0:m=0
 ·rw[if_pos h0];rw[if_pos h0]at ho;refine fin 0 0 (by decide) ?_;rw[ho];cases s <;> rfl
 ·rw[if_neg h0];rw[if_neg h0]at ho;have hpl:=tX h;have hm:m<2 ^ 64:=by
   have:(2:Nat) ^ 64=18446744073709551616:=by decide
   omega
  obtain⟨g1,g2,g3,g4⟩:=vm 64 m i h0 hm;exact fin _ _ (by omega) ho
theorem U7 (N:Nat) (k:Kz3):pZ N k=k (aj 1):=by rw[R6]; rfl
theorem Jn {N:Nat} (hF:Fuel N) {z:Int} (hz:aU 30000 z.natAbs) (b1 b2:Bool) (k:Kx6) :
  Vv N b1 b2 (decide (z<0)) (aj z.natAbs) k=kqR (mkRat z 1) k:=by
 unfold Vv Zl;rw[U7,yr hF (B:=30000) (by decide) _ hz (bN M9 (by decide)) (by decide),jM]
theorem O7 {N:Nat} (hF:Fuel N) {x:Fl} (hx:aL x=true) (hw:FW x) (k:Kx6):xA N x k=kqR (rJ (ofE x)) k:=by
 have hN:=hF.lt;have hex:=Mj hx;unfold xA Cb;rw[YG (by omega) hx hw];obtain⟨p,hp⟩:∃ p,p=ofE x:=⟨_,rfl⟩
 rw[<- hp]at hex ⊢;obtain⟨e,z⟩:=p;have h1:=hex.1;have h2:=hex.2.1;have h3:=hex.2.2;dsimp only at h1 h2 h3
 (unfold exK; unfold WJ; rw[af]; unfold Qj)
 dsimp only;by_cases hc:e>=0
 ·rw[ajx hc,ajA];have hl:=λk0 k1 h0 he2=>U0 (N:=N) (by omega) hex (e:=0) (by omega) (by decide) k0 k1 h0 he2
  dsimp only at hl;rw[hl]
  ·unfold yR;have hb:=EC hex (e:=0) (by omega);dsimp only;rw[Jn hF (bN hb (by decide))];unfold rJ wQ;dsimp only;rw[if_pos hc,Int.sub_zero,ak1];rfl
  ·intro _; rfl
  ·intro h; omega
 ·rw[ajy hc,ajz];have n1:=λkk=>Er (N:=N) 1 (by decide) (by have:=vN (B:=1) (n:=1) (by decide) (by unfold aU; decide);exact⟨by omega,by omega⟩) (by omega) kk
  rw[show((1:Nat):Int)=1 from rfl]at n1;rw[n1,aa ajv];obtain⟨t,ht⟩:∃ t:Nat,(0 - e)=(t:Int):=⟨(0 - e).toNat,by omega⟩
  have ew:IntKind.wrap .u64 (0 - e)=(t:Int):=by rw[aq]; omega
  rw[ew,Ge t false false 1 (FV (B:=1) (by omega) (by omega) (by unfold aU; decide))];unfold yR;have e1:aZ false (1*2 ^ t)=((2 ^ t:Nat):Int):=by unfold aZ; rw[alC]; rfl
  rw[e1,ajy (WC (2 ^ t)),ake];dsimp only;have htp:=ajM t;have hzb:aU 2000 z.natAbs:=bN h3 (by omega);have htb2:aU 2000 (2 ^ t):=bN DM (by omega);unfold aay Zp;rw[EJ,yr hF (B:=2000) (by decide) _ hzb htb2 (Nat.ne_of_gt htp),jM];unfold rJ;dsimp only;have:(-e).toNat=t:=by omega
  rw[if_neg (by omega),this]
theorem Ar {B:Nat} {z:Int} {d:Nat} (hz:aU B z.natAbs) (hd:aU B d) (h0:0<d):Bq B (mkRat z d):=by
 refine⟨?_,?_⟩
 ·rw[amK,if_neg (by omega)];have h1:((Nat.gcd z.natAbs d:Nat):Int)∣z:=Int.ofNat_dvd_left.2 (akn _ _);rw[akN,Int.natAbs_ediv_of_dvd h1,ake];exact bV hz
 ·rw[amL,if_neg (by omega)];exact bV hd
theorem Vj {x:Fl} (hx:aL x=true):Bq 1200 (rJ (ofE x)):=by
 have hex:=Mj hx;obtain⟨p,hp⟩:∃ p,p=ofE x:=⟨_,rfl⟩
 rw[<- hp]at hex ⊢;obtain⟨e,z⟩:=p;have h1:=hex.1;have h2:=hex.2.1;have h3:=hex.2.2;dsimp only at h1 h2 h3;unfold rJ;dsimp only;split
 ·refine Ar ?_ (bN M9 (by decide)) (by decide);rw[alj,ake];exact bN (RL h3) (by omega)
 ·exact Ar (bN h3 (by omega)) (bN DM (by omega)) (ajM _)
theorem GS {A B:Nat} {x y:Rat} (hx:Bq A x) (hy:Bq B y):Bq (A+B) (x*y):=by rw[Rat.mul_def'];refine Ar ?_ (d7 hx.2 hy.2) (alr x.den_pos y.den_pos);rw[alj]; exact d7 hx.1 hy.1
theorem WZ {B:Nat} {y:Rat} (hy:Bq B y) (h:y.num ≠ 0):Bq B (y⁻¹):=by obtain⟨i1,i2,i3⟩:=Ef h;exact⟨by rw[i1]; exact hy.2,by rw[i2]; exact hy.1⟩
theorem KH {A B:Nat} {x y:Rat} (hx:Bq A x) (hy:Bq B y) (h:y.num ≠ 0):Bq (A+B) (x / y):=by rw[Rat.div_def]; exact GS hx (WZ hy h)
theorem W0 {B:Nat} {y:Rat} (hy:Bq B y):Bq B (-y):=⟨by rw[Rat.neg_num,alA]; exact hy.1,hy.2⟩
theorem WY {A B:Nat} {x y:Rat} (hx:Bq A x) (hy:Bq B y):Bq (A+B+1) (x+y):=by rw[Rat.add_def'];refine Ar (FU (yc hx.1 hy.2) ?_) (bN (d7 hx.2 hy.2) (by omega)) (alr x.den_pos y.den_pos);rw[alp]; exact yc hy.1 hx.2
theorem P5 {A B:Nat} {x y:Rat} (hx:Bq A x) (hy:Bq B y):Bq (A+B+1) (x - y):=by rw[Rat.sub_eq_add_neg]; exact WY hx (W0 hy)
theorem MW {B:Nat}:Bq (B+1) 0:=⟨ajM _,by show 1<2 ^ (B+1); exact Nat.one_lt_two_pow (by omega)⟩
def enc (x:Rat):RY1:=((decide (x.num<0),ae x.num.natAbs),(false,ae x.den))
def d9 (x:Rat):RY2:=((decide (x.num<0),aj x.num.natAbs),(false,aj x.den))
def mat {α:Type} (g:Rat->α) (n:Nat) (f:Nat->Nat->Rat):List α:=(List.range (n*n)).map (λt=>g (f (t / n) (t%n)))
theorem vj {α:Type} (g:Rat->α) (n:Nat) (f:Nat->Nat->Rat):(mat g n f).length=n*n:=by unfold mat; rw[alu,List.length_range]
theorem od {n i j:Nat} (hi:i<n) (hj:j<n):i*n+j<n*n:=by have h1:(i+1)*n<=n*n:=ajE _ hi;rw[aj2]at h1; omega
theorem Dk {n i j:Nat} (hj:j<n):(i*n+j) / n=i:=by rw[ajB,amx (by omega),aj3 hj,aj4]
theorem Dl {n i j:Nat} (hj:j<n):(i*n+j)%n=j:=by rw[ajB,alK,ajJ hj]
theorem oR {α:Type} (g:Rat->α) (n:Nat) (f:Nat->Nat->Rat) {i j:Nat} (hi:i<n) (hj:j<n) (z:α):(mat g n f).getD (i*n+j) z=g (f i j):=by have h:=od hi hj;unfold mat;rw[List.getD_eq_getElem?_getD,List.getElem?_map,List.getElem?_range h];simp only[akB,akj,Dk hj,Dl hj]
theorem lN {α:Type} (g:Rat->α) (n:Nat) {f f':Nat->Nat->Rat} (h:∀ a b,a<n->b<n->f a b=f' a b):mat g n f=mat g n f':=by
 unfold mat;apply amm;intro t ht;have ht:=List.mem_range.1 ht;have hn:0<n:=by
  rcases akT n with h0 | h0
  ·rw[h0]at ht; omega
  ·exact h0
 rw[h _ _ (als ht) (ajN _ hn)]
theorem NJ {α:Type} (g:Rat->α) (n:Nat) (f:Nat->Nat->Rat) {i j:Nat} (hi:i<n) (hj:j<n) (v:Rat):(mat g n f).set (i*n+j) (g v)=mat g n (λa b=>if a=i/\b=j then v else f a b):=by
 have h:=od hi hj;apply List.ext_getElem?;intro t;by_cases ht:t<n*n
 ·have hn:0<n:=by omega
  rw[List.getElem?_set];unfold mat;rw[List.getElem?_map,List.getElem?_map,List.getElem?_range ht];simp only[alu,List.length_range,akB];by_cases he:i*n+j=t
  ·rw[if_pos he,if_pos h,<- he,Dk hj,Dl hj,if_pos ⟨rfl,rfl⟩]
  ·rw[if_neg he];have:¬(t / n=i/\t%n=j):=by rintro ⟨h1,h2⟩;apply he;rw[<- h1,<- h2,ajB];exact aks t n
   rw[if_neg this]
 ·rw[List.getElem?_eq_none (by rw[amp,vj]; omega),List.getElem?_eq_none (by rw[vj]; omega)]
theorem xG {n:Nat} (h:n<=1000):n*n<=1000000:=by have:n*n<=1000*1000:=ako h h;omega
theorem jr (i j n:Nat):(i:Int)*(n:Int)+(j:Int)=((i*n+j:Nat):Int):=by rw[Int.natCast_add,ajU]
theorem js {n i j:Nat} (hn:n<=1000) (hi:i<n) (hj:j<n):ah .i64 ((i:Int)*(n:Int))=true/\ah .i64 (((i*n+j:Nat):Int))=true:=by have h1:=xG hn;have h2:=od hi hj;rw[<- ajU];exact⟨ac (by omega) (by omega),ac (by omega) (by omega)⟩
theorem uZ {N n i j:Nat} (hn:n<=1000) (hi:i<n) (hj:j<n) (f:Nat->Nat->Rat) (k:Kx6) :
  bd N n n i j (mat enc n f) k=kq (f i j) k:=by
 obtain⟨h1,h2⟩:=js hn hi hj;have h3:=od hi hj
 (unfold bd; rw[af]; unfold f8)
 rw[jr,aa h1,aa h2,vj,ajD,aa ajw,aa (ajx h3),oR enc n f hi hj];rfl
theorem U_ {N n i j:Nat} (hn:n<=1000) (hi:i<n) (hj:j<n) (f:Nat->Nat->Rat) (v:Rat) (k:List RY1->Bool) :
  gg N n n i j (decide (v.num<0)) (ae v.num.natAbs) false (ae v.den) (mat enc n f) k=k (mat enc n (λa b=>if a=i/\b=j then v else f a b)):=by
 obtain⟨h1,h2⟩:=js hn hi hj;have h3:=od hi hj;unfold gg lF;rw[jr,aa h1,aa h2,vj,ajD,aa ajw,aa (ajx h3)];exact amI k (NJ enc n f hi hj v)
theorem yo {N n i j:Nat} (hn:n<=1000) (hi:i<n) (hj:j<n) (f:Nat->Nat->Rat) (k:Kz0) :
  Kf N n n i j (mat d9 n f) k=k (i*n+j):=by
 obtain⟨h1,h2⟩:=js hn hi hj;have h3:=od hi hj;unfold Kf Zn;rw[jr,aa h1,aa h2,vj,ajD,aa ajw,aa (ajx h3)]
theorem HM (l:List RY2) (i:Nat):List.set l i (((List.getD l i ((false,[]),(false,[]))).1.1,(List.getD l i ((false,[]),(false,[]))).1.2),((List.getD l i ((false,[]),(false,[]))).2.1,(List.getD l i ((false,[]),(false,[]))).2.2))=l:=by
 show List.set l i (List.getD l i ((false,[]),(false,[])))=l;apply List.ext_getElem?;intro t;rw[List.getElem?_set];by_cases h:i=t
 ·subst h;rw[if_pos rfl];by_cases hl:i<l.length
  ·rw[if_pos hl,List.getD_eq_getElem?_getD,List.getElem?_eq_getElem hl]; rfl
  ·rw[if_neg hl,List.getElem?_eq_none (by omega)]
 ·rw[if_neg h]
theorem zV {σ:Type} {step:σ->(σ->Bool)->Bool} (C:Nat->σ) (m n:Nat) (hmn:m<=n) {N:Nat} (hn:n<N) {out:Bool} (hs:∀ i,m<=i->i<n -> ∀ K:σ->Bool,step (C i) K=K (C (i+1))) (hx:∀ K,step (C n) K=out):al N step (C m)=out:=by have:=aV (step:=step) (λi=>C (m+i)) (n - m) (N:=N) (by omega) (out:=out) (λi hi K=>hs (m+i) (by omega) (by omega) K) (λK=>by show step (C (m+(n - m))) K=out; rw[show m+(n - m)=n by omega]; exact hx K);exact this
def Bu (f:Nat->Nat->Rat) (i c:Nat) (x:Rat) (t:Nat):Nat->Nat->Rat:=λa b=>if a=i/\b<t then f i b+f c b*x else f a b
def e9 (f:Nat->Nat->Rat) (c m:Nat):Nat->Nat->Rat:=λa b=>if c<a/\a<m then f a b - f a c / f c c*f c b else f a b
def vG (B n:Nat) (f:Nat->Nat->Rat):Prop:=∀ a b,a<n->b<n->Bq B (f a b)
theorem SG {N B n i c:Nat} (hF:Fuel N) (hB:B<=300000000000) (hn:n<=1000) (hi:i<n) (hc:c<n) (hic:c ≠ i) {f:Nat->Nat->Rat} (hf:vG B n f) {x:Rat} (hx:Bq (2*B) x) (k:List RY1->Bool) :
  gf N n n i c (decide (x.num<0)) (ae x.num.natAbs) false (ae x.den) (mat enc n f) k=k (mat enc n (Bu f i c x n)):=by
 have hN:=hF.lt
 (unfold gf; rw[af]; unfold f7)
 have h0:mat enc n f=mat enc n (Bu f i c x 0):=lN _ _ (λa b _ _=>by unfold Bu; rw[if_neg (by omega)]);rw[h0];refine aV (λt:Nat=>((t:Int),mat enc n (Bu f i c x t))) n (by omega) ?_ ?_
 ·intro t ht K;unfold cB;dsimp only;rw[ajx (by omega:(t:Int)<(n:Int)),ajA,uZ hn hi ht];have e1:Bu f i c x t i t=f i t:=by unfold Bu; rw[if_neg (by omega)]
  have e2:Bu f i c x t c t=f c t:=by unfold Bu; rw[if_neg (by omega)]
  unfold kq kr;dsimp only;rw[uZ hn hc ht,e1,e2];unfold kq kr;dsimp only;rw[U4 hF (B:=2*B) (by omega) ((hf c t hc ht).mono (by omega)) hx];unfold kq kr;dsimp only;rw[U2 hF (B:=3*B) (by omega) ((hf i t hi ht).mono (by omega)) ((GS (hf c t hc ht) hx).mono (by omega))];unfold kq kr;dsimp only;rw[U_ hn hi ht,aa ajv];have e3:mat enc n (λa b=>if a=i/\b=t then f i t+f c t*x else Bu f i c x t a b)=mat enc n (Bu f i c x (t+1)):=lN _ _ (λa b _ _=>by
   unfold Bu;by_cases h:a=i/\b=t
   ·rw[if_pos h,if_pos (by omega),h.2]
   ·rw[if_neg h];by_cases h2:a=i/\b<t
    ·rw[if_pos h2,if_pos (by omega)]
    ·rw[if_neg h2,if_neg (by omega)])
  rw[e3];rfl
 ·intro K;unfold cB;dsimp only;rw[ajy (by omega:¬(n:Int)<(n:Int)),ajz]
def sO (f:Nat->Nat->Rat) (i c:Nat) (r:Rat) (t:Nat):Nat->Nat->Rat:=λa b=>if a=i/\b<t then f i b - r*f c b else f a b
theorem Pj {N B n i c:Nat} (hF:Fuel N) (hB:B<=300000000000) (hn:n<=1000) (hi:i<n) (hc:c<n) (hic:c ≠ i) {f:Nat->Nat->Rat} (hf:vG B n f) {r:Rat} (hx:Bq (2*B) r) (k:List RY2->Bool) :
  YX N n n i c (mat d9 n f) (decide (r.num<0)) (aj r.num.natAbs) false (aj r.den) k=k (mat d9 n (sO f i c r n)):=by
 have hN:=hF.lt
 (unfold YX; rw[af]; unfold Xa)
 have h0:mat d9 n f=mat d9 n (sO f i c r 0):=lN _ _ (λa b _ _=>by unfold sO; rw[if_neg (by omega)]);rw[h0];refine aV (λt:Nat=>((t:Int),mat d9 n (sO f i c r t))) n (by omega) ?_ ?_
 ·intro t ht K;unfold HY;dsimp only;rw[ajx (by omega:(t:Int)<(n:Int)),ajA,yo hn hi ht,yo hn hi ht,yo hn hc ht,HM];have e1:sO f i c r t i t=f i t:=by unfold sO; rw[if_neg (by omega)]
  have e2:sO f i c r t c t=f c t:=by unfold sO; rw[if_neg (by omega)]
  rw[oR d9 n _ hi ht,oR d9 n _ hc ht,e1,e2];unfold d9;dsimp only;rw[SK hF (B:=2*B) (by omega) hx ((hf c t hc ht).mono (by omega))];unfold kqR krR;dsimp only;rw[aa (ajx rfl),SS hF (B:=3*B) (by omega) ((hf i t hi ht).mono (by omega)) ((GS hx (hf c t hc ht)).mono (by omega))];unfold kqR krR;dsimp only;rw[aa ajv];have e4:=NJ d9 n (sO f i c r t) hi ht (f i t - r*f c t);have e3:mat d9 n (λa b=>if a=i/\b=t then f i t - r*f c t else sO f i c r t a b)=mat d9 n (sO f i c r (t+1)):=lN _ _ (λa b _ _=>by
   unfold sO;by_cases h:a=i/\b=t
   ·rw[if_pos h,if_pos (by omega),h.2]
   ·rw[if_neg h];by_cases h2:a=i/\b<t
    ·rw[if_pos h2,if_pos (by omega)]
    ·rw[if_neg h2,if_neg (by omega)])
  rw[e3]at e4;exact amI (λl=>K ((t:Int)+1,l)) e4
 ·intro K;unfold HY;dsimp only;rw[ajy (by omega:¬(n:Int)<(n:Int)),ajz]
def zC (g:Nat->Rat):Nat->Nat->Bool
 | i,0=>true
 | i,d+1=>decide (g i=0)&&zC g (i+1) d
theorem zD {g h:Nat->Rat}:∀ d i,(∀ j,i<=j->j<i+d->g j=h j)->zC g i d=zC h i d
 | 0,i,_=>rfl
 | d+1,i,e=>by unfold zC;rw[e i (ajL _) (by omega),zD d (i+1) (λj h1 h2=>e j (by omega) (by omega))]
def vT (n:Nat):Nat->Nat->Int->(Nat->Nat->Rat)->Int
 | 0,c,s,f=>s
 | d+1,c,s,f=>if (f c c).num<0 then 1 else if f c c=0 then(if zC (λi=>f i c) (c+1) d=true then vT n d (c+1) 2 f else 1)else vT n d (c+1) s (e9 f c n)
theorem Ki (z:Int):decide (Bd z<0)=decide (z<0):=by
 unfold Bd;by_cases h0:z=0
 ·rw[if_pos h0,h0]
 ·rw[if_neg h0];by_cases h:z<0
  ·rw[if_pos h,ajx h]; rfl
  ·rw[if_neg h,ajy h]; rfl
theorem xk {x:Rat}:(x.num=0)↔x=0:=Rat.num_eq_zero
theorem xE (x:Rat):(Bd x.num==0)=decide (x=0):=by
 rw[PQ];by_cases h:x=0
 ·rw[ajx h,ajx (xk.2 h)]
 ·rw[ajy h,ajy (λg=>h (xk.1 g))]
theorem VD (x:Rat):(Bd x.num != 0) = !decide (x=0):=by rw[<- xE]; rfl
theorem yh {B n c m:Nat} {f:Nat->Nat->Rat} (hf:vG B n f) (hc:c<n) (h0:f c c ≠ 0):vG (4*B+1) n (e9 f c m):=by
 intro a b ha hb;unfold e9;split
 ·exact(P5 (hf a b ha hb) (GS (KH (hf a c ha hc) (hf c c hc hc) (λh=>h0 (xk.1 h))) (hf c b hc hb))).mono (by omega)
 ·exact(hf a b ha hb).mono (by omega)
theorem D3 (f:Nat->Nat->Rat) (c:Nat) {α:Type} (g:Rat->α) (n:Nat):mat g n (e9 f c (c+1))=mat g n f:=lN _ _ (λa b _ _=>by unfold e9; rw[if_neg (by omega)])
theorem wP {f:Nat->Nat->Rat} {c i:Nat} (b:Nat):e9 f c i i b=f i b:=by unfold e9; rw[if_neg (by omega)]
theorem D4 {f:Nat->Nat->Rat} {c i:Nat} (b:Nat):e9 f c i c b=f c b:=by unfold e9; rw[if_neg (by omega)]
theorem BC {f:Nat->Nat->Rat} {c i a b:Nat} (h:c<i):e9 f c (i+1) a b=if a=i then f i b - f i c / f c c*f c b else e9 f c i a b:=by
 unfold e9;by_cases h1:a=i
 ·rw[if_pos h1,if_pos (by omega),h1]
 ·rw[if_neg h1];by_cases h2:c<a/\a<i
  ·rw[if_pos h2,if_pos (by omega)]
  ·rw[if_neg h2,if_neg (by omega)]
theorem Th (x y p q:Rat):q+y*(0 - x / p)=q - x / p*y:=by grind
theorem Tg (p q y:Rat):q - 0 / p*y=q:=by grind
theorem Ti (x y p:Rat):x / p*y=y / p*x:=by grind
theorem SP {N B n c:Nat} (hF:Fuel N) (hB:4*B+1<=300000000000) (hn:n<=1000) (hc:c<n) (s:Int) (t1 t2:Int) {f:Nat->Nat->Rat} (hf:vG B n f) (h0:f c c ≠ 0) (e0:Int->List RY1->Bool) (e1:List RY1->Bool) :
  al N (aD N s (c:Int) t1 t2 (n:Int) (n:Int) (decide ((f c c).num<0)) (ae (f c c).num.natAbs) false (ae (f c c).den) e0 e1) (((c+1:Nat):Int),mat enc n f)=e1 (mat enc n (e9 f c n)):=by
 have hN:=hF.lt;rw[<- D3 f c enc n];refine zV (λi:Nat=>((i:Int),mat enc n (e9 f c i))) (c+1) n (by omega) (by omega) ?_ ?_
 ·intro i hi1 hi2 K;unfold aD;dsimp only;rw[ajx (by omega:(i:Int)<(n:Int)),ajA,uZ hn hi2 hc,wP];unfold kq kr;dsimp only;rw[oM,xE];by_cases hz:f i c=0
  ·rw[ajx hz,ajA,aa ajv];have:mat enc n (e9 f c (i+1))=mat enc n (e9 f c i):=lN _ _ (λa b _ _=>by
    rw[BC (by omega)];by_cases h1:a=i
    ·rw[if_pos h1,h1,wP,hz,Tg]
    ·rw[if_neg h1])
   rw[this];rfl
  ·rw[ajy hz,ajz,oM,xE,ajy h0,ajz,LX hF];unfold kq kr;dsimp only;have hp:(f c c).num ≠ 0:=λh=>h0 (xk.1 h)
   have bx:=hf i c hi2 hc;have bp:=hf c c hc hc;have bq:=KH bx bp hp;rw[U9 hF (B:=B) (by omega) bx bp hp];unfold kq kr;dsimp only;have bz:Bq (B+B+1) 0:=MW;rw[Jv hF (B:=B+B+1) (by omega) bz (bq.mono (by omega))];unfold kq kr;dsimp only;have bs:Bq (2*(4*B+1)) (0 - f i c / f c c):=(P5 (A:=1) (MW (B:=0)) bq).mono (by omega);rw[SG hF (B:=4*B+1) hB hn hi2 hc (by omega) (yh hf hc h0) bs,aa ajv];have:mat enc n (e9 f c (i+1))=mat enc n (Bu (e9 f c i) i c (0 - f i c / f c c) n):=lN _ _ (λa b _ hb=>by
    rw[BC (by omega)];unfold Bu;by_cases h1:a=i
    ·rw[if_pos h1,if_pos ⟨h1,hb⟩,wP,D4,Th]
    ·rw[if_neg h1,if_neg (by omega)])
   rw[this];rfl
 ·intro K;unfold aD;dsimp only;rw[ajy (by omega:¬(n:Int)<(n:Int)),ajz]
theorem Po {N n c:Nat} (hF:Fuel N) (hn:n<=1000) (hc:c<n) (s:Int) (t1 t2:Int) {f:Nat->Nat->Rat} (h0:f c c=0) (e0:Int->List RY1->Bool) (e1:List RY1->Bool):∀(d i M:Nat),i+d=n->d<M ->
  al M (aD N s (c:Int) t1 t2 (n:Int) (n:Int) (decide ((f c c).num<0)) (ae (f c c).num.natAbs) false (ae (f c c).den) e0 e1) ((i:Int),mat enc n f)=if zC (λi=>f i c) i d=true then e1 (mat enc n f)else e0 1 (mat enc n f):=by
 intro d;induction d with
 | zero=>
  intro i M hi hM;cases M with
  | zero=>omega
  | succ M=>
   show aD _ _ _ _ _ _ _ _ _ _ _ _ _ ((i:Int),mat enc n f) (al M _)=_;unfold aD zC;dsimp only;rw[ajy (by omega:¬(i:Int)<(n:Int)),ajz,if_pos rfl]
 | succ d ih=>
  intro i M hi hM;cases M with
  | zero=>omega
  | succ M=>
   have hi2:i<n:=by omega
   show aD _ _ _ _ _ _ _ _ _ _ _ _ _ ((i:Int),mat enc n f) (al M _)=_;rw[aD];rw[ajx (by omega:(i:Int)<(n:Int)),ajA,uZ hn hi2 hc];unfold kq kr;dsimp only;rw[oM,xE,zC];by_cases hz:f i c=0
   ·rw[ajx hz,ajA,aa ajv,akA];exact ih (i+1) M (by omega) (by omega)
   ·rw[ajy hz,ajz,oM,xE,ajx h0,ajA,alR,if_neg (by decide)]
theorem Hw {N n:Nat} (hF:Fuel N) (hn:n<=1000) (k:Ky9):∀(d c B M:Nat) (s:Int) (f:Nat->Nat->Rat),c+d=n->d<M->vG B n f->(B+1)*4 ^ d<=100000000000 ->
  al M (aP N (n:Int) (n:Int) (n:Int) (λt _=>k t) (λt _=>k t)) (s,(c:Int),mat enc n f)=k (vT n d c s f):=by
 intro d;induction d with
 | zero=>
  intro c B M s f hc hM _ _;cases M with
  | zero=>omega
  | succ M=>
   show aP _ _ _ _ _ _ (s,(c:Int),mat enc n f) (al M _)=_;rw[aP];rw[ajy (by omega:¬(c:Int)<(n:Int)),ajz];rfl
 | succ d ih=>
  intro c B M s f hc hM hf hB;cases M with
  | zero=>omega
  | succ M=>
   have hN:=hF.lt;have hcn:c<n:=by omega
   have h4:(4*B+1+1)*4 ^ d<=100000000000:=by
    have h1:(4*B+1+1)*4 ^ d<=(B+1)*4*4 ^ d:=ajE _ (by omega);have h2:(B+1)*4*4 ^ d=(B+1)*4 ^ (d+1):=by rw[ajK,ajI,ajB 4 (4 ^ d)]
    omega
   have hB2:4*B+1+1<=100000000000:=by have:0<4 ^ d:=akE (by decide);have h1:(4*B+1+1)*1<=(4*B+1+1)*4 ^ d:=ajG _ this;omega
   show aP _ _ _ _ _ _ (s,(c:Int),mat enc n f) (al M _)=_;rw[aP];rw[ajx (by omega:(c:Int)<(n:Int)),ajA,uZ hn hcn hcn];unfold kq kr;dsimp only;rw[oM,Ki,vT];by_cases hneg:(f c c).num<0
   ·rw[ajx hneg,ajA,if_pos hneg]
   ·rw[ajy hneg,ajz,if_neg hneg,aa ajv];by_cases h0:f c c=0
    ·rw[if_pos h0];have hr:=λe0 e1=>Po hF hn hcn s (n:Int) (c:Int) h0 e0 e1 d (c+1) N (by omega) (by omega)
     rw[ajy hneg]at hr;rw[show(c:Int)+1=((c+1:Nat):Int) from rfl,hr];by_cases hz:zC (λi=>f i c) (c+1) d=true
     ·rw[if_pos hz,if_pos hz];have hs:=oM (N:=N) (f c c);rw[ajy hneg]at hs;rw[hs,xE,ajx h0,ajA,aa ajv];exact ih (c+1) B M 2 f (by omega) (by omega) hf (by have:(B+1)*4 ^ d<=(4*B+1+1)*4 ^ d:=ajE _ (by omega);omega)
     ·rw[if_neg hz,if_neg hz]
    ·rw[if_neg h0];have hr:=λe0 e1=>SP hF (by omega) hn hcn s (n:Int) (c:Int) hf h0 e0 e1
     rw[ajy hneg]at hr;rw[show(c:Int)+1=((c+1:Nat):Int) from rfl,hr];have hs:=oM (N:=N) (f c c);rw[ajy hneg]at hs;rw[hs,xE,ajy h0,ajz,aa ajv];exact ih (c+1) (4*B+1) M s (e9 f c n) (by omega) (by omega) (yh hf hcn h0) h4
theorem SU {N B n:Nat} (hF:Fuel N) (hB:B<=300000000000) (hn:n<=1000) {f:Nat->Nat->Rat} (hf:vG B n f) (hs:∀ a b,a<n->b<n->f a b=f b a) (k:Bool) :
  de N n n (mat enc n f) k=k:=by
 have hN:=hF.lt
 (unfold de; rw[af]; unfold cT)
 refine aV (λt:Nat=>(t:Int)) n (by omega) ?_ ?_
 ·intro i hi K;unfold bI;dsimp only;rw[ajx (by omega:(i:Int)<(n:Int)),ajA];refine aV (λt:Nat=>(t:Int)) i (by omega) ?_ ?_
  ·intro j hj K';have hj2:j<n:=by omega
   unfold bJ;dsimp only;rw[ajx (by omega:(j:Int)<(i:Int)),ajA,uZ hn hi hj2];unfold kq kr;dsimp only;rw[uZ hn hj2 hi];unfold kq kr;dsimp only;rw[Jv hF (B:=B) (by omega) (hf i j hi hj2) (hf j i hj2 hi)];unfold kq kr;dsimp only;have e:Bd (f i j - f j i).num=0:=by
    have:f i j - f j i=0:=by rw[hs i j hi hj2]; grind
    rw[this]; rfl
   rw[oM,e,uY,aa ajv];rfl
  ·intro K';unfold bJ;dsimp only;rw[ajy (by omega:¬(i:Int)<(i:Int)),ajz,aa ajv];rfl
 ·intro K;unfold bI;dsimp only;rw[ajy (by omega:¬(n:Int)<(n:Int)),ajz]
theorem Pe {N B n:Nat} (hF:Fuel N) (hn:n<=1000) {f:Nat->Nat->Rat} (hf:vG B n f) (hs:∀ a b,a<n->b<n->f a b=f b a) (hB:(B+1)*4 ^ n<=100000000000) (k:Ky9) :
  fE N n n (mat enc n f) (λt _=>k t)=k (vT n n 0 3 f):=by
 have hN:=hF.lt;have hB2:B<=300000000000:=by have:0<4 ^ n:=akE (by decide);have h1:(B+1)*1<=(B+1)*4 ^ n:=ajG _ this;omega
 unfold fE kA;have e:((n:Int)==(n:Int))=((0:Int)==0):=by simp
 rw[e,uY,SU hF hB2 hn hf hs]
 (unfold gZ; rw[af]; unfold dw)
 exact Hw hF hn k n 0 B N 3 f (by omega) (by omega) hf hB
theorem Pp {N B n c:Nat} (hF:Fuel N) (hB:4*B+1<=300000000000) (hn:n<=1000) (hc:c<n) (s:Int) {f:Nat->Nat->Rat} (hf:vG B n f) (h0:f c c ≠ 0) (e0:List RY2->Bool) :
  al N (E9 N s (c:Int) (c*n+c) (n:Int) (n:Int) e0) (((c+1:Nat):Int),mat d9 n f)=e0 (mat d9 n (e9 f c n)):=by
 have hN:=hF.lt;rw[<- D3 f c d9 n];refine zV (λi:Nat=>((i:Int),mat d9 n (e9 f c i))) (c+1) n (by omega) (by omega) ?_ ?_
 ·intro i hi1 hi2 K;unfold E9;dsimp only;have hne:¬(c*n+c=i*n+c):=by
   intro h;have:c*n=i*n:=by omega
   have:=ak3 (by omega) this;omega
  rw[ajx (by omega:(i:Int)<(n:Int)),ajA,yo hn hi2 hc,ajy hne,aa (a:=(!false&&true)) rfl,HM,HM,oR d9 n _ hi2 hc,oR d9 n _ hc hc,wP,D4];have hp:(f c c).num ≠ 0:=λh=>h0 (xk.1 h)
  have bx:=hf i c hi2 hc;have bp:=hf c c hc hc;have bq:=KH bx bp hp;have hq:=λkk=>SO (N:=N) (b1:=false) (b2:=false) hF (B:=B) (by omega) bx bp hp kk
  have he:∀ x:Rat,d9 x=((decide (x.num<0),aj x.num.natAbs),(false,aj x.den)):=λx=>rfl
  rw[he (f i c),he (f c c)];dsimp only;rw[hq];unfold kqR krR;dsimp only;rw[Pj hF (B:=4*B+1) hB hn hi2 hc (by omega) (yh hf hc h0) (bq.mono (by omega)),aa ajv];have:mat d9 n (e9 f c (i+1))=mat d9 n (sO (e9 f c i) i c (f i c / f c c) n):=lN _ _ (λa b _ hb=>by
   rw[BC (by omega)];unfold sO;by_cases h1:a=i
   ·rw[if_pos h1,if_pos ⟨h1,hb⟩,wP,D4]
   ·rw[if_neg h1,if_neg (by omega)])
  rw[this];rfl
 ·intro K;unfold E9;dsimp only;rw[ajy (by omega:¬(n:Int)<(n:Int)),ajz]
theorem LS {N n c:Nat} (hF:Fuel N) (hn:n<=1000) (hc:c<n) {f:Nat->Nat->Rat} (e0:Int->Bool) (e1:Bool):∀(d i M:Nat),i+d=n->d<M ->
  al M (Ag N (c:Int) (n:Int) (n:Int) (mat d9 n f) e0 e1) ((i:Int))=if zC (λi=>f c i) i d=true then e1 else e0 1:=by
 intro d;induction d with
 | zero=>
  intro i M hi hM;cases M with
  | zero=>omega
  | succ M=>
   show Ag _ _ _ _ _ _ _ (i:Int) (al M _)=_;unfold Ag zC;dsimp only;rw[ajy (by omega:¬(i:Int)<(n:Int)),ajz,if_pos rfl]
 | succ d ih=>
  intro i M hi hM;cases M with
  | zero=>omega
  | succ M=>
   have hi2:i<n:=by omega
   show Ag _ _ _ _ _ _ _ (i:Int) (al M _)=_;rw[Ag];have he:∀ x:Rat,d9 x=((decide (x.num<0),aj x.num.natAbs),(false,aj x.den)):=λx=>rfl
   rw[ajx (by omega:(i:Int)<(n:Int)),ajA,yo hn hc hi2,oR d9 n _ hc hi2,he (f c i)];dsimp only;rw[BS,VD,zC];by_cases hz:f c i=0
   ·rw[ajx hz,akp,ajz,aa ajv,akA];exact ih (i+1) M (by omega) (by omega)
   ·rw[ajy hz,aj_,ajA,alR,if_neg (by decide)]
def Yi (n c:Nat) (f:Nat->Nat->Rat):Prop:=∀ a b,c<=a->c<=b->a<n->b<n->f a b=f b a
theorem R9 {n c:Nat} {f:Nat->Nat->Rat} (h:Yi n c f) (hc:c<n):Yi n (c+1) (e9 f c n):=by intro a b ha hb han hbn;unfold e9;rw[if_pos ⟨by omega,han⟩,if_pos ⟨by omega,hbn⟩,h a b (by omega) (by omega) han hbn,h a c (by omega) (by omega) han hc,h c b (by omega) (by omega) hc hbn,Ti]
theorem O8 {N n:Nat} (hF:Fuel N) (hn:n<=1000) (k:Ky9):∀(d c B M:Nat) (s:Int) (f:Nat->Nat->Rat),c+d=n->d<M->vG B n f->Yi n c f->(B+1)*4 ^ d<=100000000000 ->
  al M (Af N (n:Int) (n:Int) (λt=>k t) (λt=>k t)) (s,(c:Int),mat d9 n f)=k (vT n d c s f):=by
 intro d;induction d with
 | zero=>
  intro c B M s f hc hM _ _ _;cases M with
  | zero=>omega
  | succ M=>
   show Af _ _ _ _ _ (s,(c:Int),mat d9 n f) (al M _)=_;rw[Af];rw[ajy (by omega:¬(c:Int)<(n:Int)),ajz];rfl
 | succ d ih=>
  intro c B M s f hc hM hf hsy hB;cases M with
  | zero=>omega
  | succ M=>
   have hN:=hF.lt;have hcn:c<n:=by omega
   have h4:(4*B+1+1)*4 ^ d<=100000000000:=by
    have h1:(4*B+1+1)*4 ^ d<=(B+1)*4*4 ^ d:=ajE _ (by omega);have h2:(B+1)*4*4 ^ d=(B+1)*4 ^ (d+1):=by rw[ajK,ajI,ajB 4 (4 ^ d)]
    omega
   have hB2:4*B+1+1<=100000000000:=by have:0<4 ^ d:=akE (by decide);have h1:(4*B+1+1)*1<=(4*B+1+1)*4 ^ d:=ajG _ this;omega
   have he:∀ x:Rat,d9 x=((decide (x.num<0),aj x.num.natAbs),(false,aj x.den)):=λx=>rfl
   show Af _ _ _ _ _ (s,(c:Int),mat d9 n f) (al M _)=_;rw[Af];rw[ajx (by omega:(c:Int)<(n:Int)),ajA,yo hn hcn hcn,oR d9 n _ hcn hcn,he (f c c)];dsimp only;rw[BS,Ki,vT];by_cases hneg:(f c c).num<0
   ·rw[ajx hneg,ajA,if_pos hneg]
   ·rw[if_neg hneg,BS,xE];rw[ajy hneg,ajz];by_cases h0:f c c=0
    ·rw[if_pos h0,ajx h0,ajA,aa ajv];rw[show(c:Int)+1=((c+1:Nat):Int) from rfl,LS hF hn hcn _ _ d (c+1) N (by omega) (by omega)];have ez:zC (λi=>f c i) (c+1) d=zC (λi=>f i c) (c+1) d:=zD _ _ (λj h1 h2=>hsy c j (by omega) (by omega) hcn (by omega));rw[ez];by_cases hz:zC (λi=>f i c) (c+1) d=true
     ·rw[if_pos hz,if_pos hz,aa ajv];exact ih (c+1) B M 2 f (by omega) (by omega) hf (λa b ha hb=>hsy a b (by omega) (by omega)) (by have:(B+1)*4 ^ d<=(4*B+1+1)*4 ^ d:=ajE _ (by omega);omega)
     ·rw[if_neg hz,if_neg hz]
    ·rw[if_neg h0,ajy h0,ajz,aa ajv];rw[show(c:Int)+1=((c+1:Nat):Int) from rfl,Pp hF (by omega) hn hcn s hf h0,aa ajv];exact ih (c+1) (4*B+1) M s (e9 f c n) (by omega) (by omega) (yh hf hcn h0) (R9 hsy hcn) h4
def fm (n:Nat) (l:List Fl):Nat->Nat->Rat:=λi j=>rJ (ofE (l.getD (i*n+j) none))
theorem NH {α:Type} (g:Rat->α) {n:Nat} {l:List Fl} (h:l.length=n*n):l.map (λx=>g (rJ (ofE x)))=mat g n (fm n l):=by
 apply List.ext_getElem?;intro t;by_cases ht:t<n*n
 ·unfold mat;rw[List.getElem?_map,List.getElem?_map,List.getElem?_range ht,List.getElem?_eq_getElem (by omega)];simp only[akB];unfold fm;have:t / n*n+t%n=t:=by rw[ajB]; exact aks t n
  rw[this,List.getD_eq_getElem?_getD,List.getElem?_eq_getElem (by omega)];rfl
 ·rw[List.getElem?_eq_none (by rw[alu]; omega),List.getElem?_eq_none (by rw[vj]; omega)]
theorem dY {l:List Fl} (h:aX l=true) {i:Nat} (hi:i<l.length):aL (l.getD i none)=true:=by unfold aX at h;exact eX.1 h i hi
def AllW (l:List Fl):Prop:=∀ x,x ∈ l->FW x
theorem AllW.get {l:List Fl} (h:AllW l) {i:Nat} (hi:i<l.length):FW (l.getD i none):=by rw[List.getD_eq_getElem?_getD,List.getElem?_eq_getElem hi];exact h _ (akR hi)
theorem He {n:Nat} {l:List Fl} (h:l.length=n*n) (hf:aX l=true):vG 1200 n (fm n l):=by intro a b ha hb;have:=od ha hb;exact Vj (dY hf (by omega))
theorem N_ {N:Nat} (x:Int) (k:Ky8):N2 N x k=k (decide (0<=x/\x<=12)):=by
 unfold N2 VX;by_cases h:x>=0
 ·rw[ajx h,show(true==true)=true from rfl,ajA];congr 1;by_cases h2:x<=12
  ·rw[ajx h2,ajx ⟨h,h2⟩]
  ·rw[ajy h2,ajy (by omega)]
 ·rw[ajy h,show(false==true)=false from rfl,ajz,ajy (by omega)]
theorem NM {a b:Int} (h1:0<=a/\a<=12) (h2:0<=b/\b<=12):0<=a*b/\a*b<=144:=by have h3:a*b<=12*b:=Int.mul_le_mul_of_nonneg_right h1.2 h2.1;have h4:0<=a*b:=Int.mul_nonneg h1.1 h2.1;omega
theorem uU {N:Nat} (hN:1000<=N) (a b:Int) (l:List Fl) (k:Ky9):PP N a b l k=k (chk a b l):=by
 (unfold PP; rw[af]; unfold XF chk)
 rw[N_];by_cases h1:0<=a/\a<=12
 ·rw[ajx h1,show((!true)==false)=true from rfl,ajA,N_];by_cases h2:0<=b/\b<=12
  ·have h3:=NM h1 h2;rw[ajx h2,if_pos ⟨h1,h2⟩,show(!true)=false from rfl,ajz,aa ajv];by_cases h4:(l.length:Int)=a*b
   ·have:(((l.length:Nat):Int) != a*b)=false:=by simp[h4]
    have h6:l.length<=144:=by rw[<- h4]at h3; omega
    rw[this,ajz,if_pos h4,rB l ⟨by omega,by omega⟩];cases h5:aX l
    ·rfl
    ·rfl
   ·have:(((l.length:Nat):Int) != a*b)=true:=by simp[h4]
    rw[this,ajA,if_neg h4]
  ·rw[ajy h2,if_neg (λh=>h2 h.2),show(!false)=true from rfl,ajA]
 ·rw[ajy h1,if_neg (λh=>h1 h.1)]; rfl
theorem G7 {n:Nat} {l:List Fl} (hn:n<=12) (h:l.length=n*n) (hf:aX l=true):chk n n l=0:=
 tD.2 ⟨⟨by omega,by omega⟩,by rw[h,ajU],hf⟩
theorem zm {α:Type} (g:Fl->α) {l:List Fl} {t:Nat} (ht:t<l.length):(l.take (t+1)).map g=(l.take t).map g++[g (l.getD t none)]:=by rw[akP ht,alv,List.getD_eq_getElem?_getD,List.getElem?_eq_getElem ht]; rfl
theorem Hq {N n:Nat} (hF:Fuel N) {l:List Fl} (hn:n<=12) (h:l.length=n*n) (hf:aX l=true) (hw:AllW l) (k:List RY1->Bool) :
  kt N n n l k=k (mat enc n (fm n l)):=by
 have hN:=hF.lt;have hl:=xG (n:=n) (by omega)
 (unfold kt; rw[af]; unfold ki)
 rw[uU (by omega),G7 hn h hf,uY,<- NH enc h];refine aV (λt:Nat=>((t:Int),(l.take t).map (λx=>enc (rJ (ofE x))))) l.length (by omega) ?_ ?_
 ·intro t ht K;unfold dK;dsimp only;rw[ajx (by omega:(t:Int)<(l.length:Int)),ajA,aa ajw,ajD,Jr hF (dY hf ht) (hw.get ht)];unfold kq kr;dsimp only;rw[zm _ ht,aa (ajx (by rw[akK,alu,akc]; simp only[aj9,alE]; omega)),aa ajv];rfl
 ·intro K;unfold dK;dsimp only;rw[ajy (by omega:¬(l.length:Int)<(l.length:Int)),ajz,akd]
theorem O5 {N n:Nat} (hF:Fuel N) {l:List Fl} (hn:n<=12) (h:l.length=n*n) (hf:aX l=true) (hw:AllW l) (a b:Int) (k:List RY2->Bool) :
  TH N a b l k=k (mat d9 n (fm n l)):=by
 have hN:=hF.lt;have hl:=xG (n:=n) (by omega)
 (unfold TH; rw[af]; unfold QN)
 rw[<- NH d9 h];refine aV (λt:Nat=>((t:Int),(l.take t).map (λx=>d9 (rJ (ofE x))))) l.length (by omega) ?_ ?_
 ·intro t ht K;unfold mT;dsimp only;rw[ajx (by omega:(t:Int)<(l.length:Int)),ajA,aa ajw,ajD,O7 hF (dY hf ht) (hw.get ht)];unfold kqR krR;dsimp only;rw[zm _ ht,aa (ajx (by rw[alu,akc]; omega)),aa ajv];rfl
 ·intro K;unfold mT;dsimp only;rw[ajy (by omega:¬(l.length:Int)<(l.length:Int)),ajz,akd]
theorem LB {N n:Nat} (hF:Fuel N) (hn:n<=12) (k:List RY2->Bool):TD N n n k=k (List.replicate (n*n) ((false,[]),(false,[]))):=by
 have hN:=hF.lt;have hl:=xG (n:=n) (by omega)
 (unfold TD; rw[af]; unfold QH)
 have h0:([]:List RY2)=List.replicate 0 ((false,[]),(false,[])):=rfl;rw[h0];refine aV (λt:Nat=>((t:Int),List.replicate t ((false,[]),(false,[])))) (n*n) (by omega) ?_ ?_
 ·intro t ht K;unfold lh;dsimp only;rw[<- ajU,aa ajv,ajx (by omega:(t:Int)<((n*n:Nat):Int)),ajA,aa (ajx (by rw[akV]; omega)),aa ajv,ak9];rfl
 ·intro K;unfold lh;dsimp only;rw[<- ajU,aa ajv,ajy (by omega:¬((n*n:Nat):Int)<((n*n:Nat):Int)),ajz]
theorem I4 {α:Type} (l:List α) (z:α) {t:Nat} (ht:t<=l.length):(l.take t++List.replicate (l.length - t) z).length=l.length:=by rw[akK,akc,akV]; omega
theorem I5 {α:Type} (l:List α) (z:α) {t:Nat} (ht:t<l.length):(l.take t++List.replicate (l.length - t) z).set t (l.getD t z)=l.take (t+1)++List.replicate (l.length - (t+1)) z:=by
 have h1:(l.take t).length=t:=by rw[akc]; omega
 have h2:l.length - t=(l.length - (t+1))+1:=by omega
 rw[alI _ _ (by omega),h1,aj8,h2,akh,List.set_cons_zero,akP ht,ajQ,List.getD_eq_getElem?_getD,List.getElem?_eq_getElem ht];rfl
theorem Vb {α:Type} (g:Rat->α) (n:Nat) (f:Nat->Nat->Rat) {t:Nat} (ht:t<n*n) (z:α):∃ a b,a<n/\b<n/\(mat g n f).getD t z=g (f a b):=by
 have hn:0<n:=by
  rcases akT n with h0 | h0
  ·rw[h0]at ht; omega
  ·exact h0
 refine⟨t / n,t%n,als ht,ajN _ hn,?_⟩;have:=oR g n f (als ht) (ajN t hn) z;rw[show t / n*n+t%n=t from by rw[ajB]; exact aks t n]at this;exact this
theorem LN {N n B:Nat} (hF:Fuel N) (hB:B<=2000000000100) (hn:n<=12) {f:Nat->Nat->Rat} (hf:vG B n f) (k:List RY2->Bool) :
  Y1 N n n (mat d9 n f) k=k (mat d9 n f):=by
 have hN:=hF.lt;have hl:=xG (n:=n) (by omega)
 (unfold Y1; rw[af]; unfold Xr)
 rw[LB hF hn];have hlen:=vj d9 n f;have h0:List.replicate (n*n) (((false,[]),(false,[])):RY2)=(mat d9 n f).take 0++List.replicate ((mat d9 n f).length - 0) ((false,[]),(false,[])):=by rw[hlen]; rfl
 rw[h0];refine aV (λt:Nat=>((t:Int),(mat d9 n f).take t++List.replicate ((mat d9 n f).length - t) ((false,[]),(false,[])))) (mat d9 n f).length (by omega) ?_ ?_
 ·intro t ht K;unfold H6;dsimp only;have hfl:=I4 (mat d9 n f) (((false,[]),(false,[])):RY2) (t:=t) (by omega);rw[ajx (by omega:(t:Int)<((mat d9 n f).length:Int)),ajA,ajD,hfl,aa ajw,aa (ajx ht),aa ajw];obtain⟨a,b,ha,hb,hm⟩:=Vb d9 n f (t:=t) (by omega) ((false,[]),(false,[]));have hs:=I5 (mat d9 n f) (((false,[]),(false,[])):RY2) ht;rw[hm]at hs ⊢;have he:∀ x:Rat,d9 x=((decide (x.num<0),aj x.num.natAbs),(false,aj x.den)):=λx=>rfl
  have hset:=λb1 b2 l1 l2 kk=>SC (N:=N) hF hB (hf a b ha hb) b1 b2 l1 l2 kk
  generalize List.take t (mat d9 n f)++List.replicate ((mat d9 n f).length - t) ((false,[]),false,[])=L at *;rw[he (f a b)];dsimp only;rw[hset];unfold kqR krR;dsimp only;rw[aa ajv];exact amI (λl=>K ((t:Int)+1,l)) hs
 ·intro K;unfold H6;dsimp only;rw[ajy (by omega),ajz,akd,aj8,aka,aj6]
theorem CT {n:Nat} (hn:n<=12):(1200+1)*4 ^ n<=100000000000:=by
 have h1:4 ^ n<=4 ^ 12:=ajO (by decide) hn;have h2:(4:Nat) ^ 12=16777216:=by decide
 rw[h2]at h1;have h3:(1200+1)*4 ^ n<=(1200+1)*16777216:=ajG _ h1;omega
def Rg (n:Nat) (l:List Fl):Prop:=∀ a b,a<n->b<n->fm n l a b=fm n l b a
def yS (n:Nat) (l:List Fl):Bool:=vT n n 0 3 (fm n l)==3
theorem Jo {N n:Nat} (hF:Fuel N) {l:List Fl} (hn:n<=12) (h:l.length=n*n) (hf:aX l=true) (hw:AllW l) (hs:Rg n l) (k:Ky1) :
  lC N n n l k=k (vT n n 0 3 (fm n l)) 0:=by
 (unfold lC; rw[af]; unfold li)
 rw[Hq hF hn h hf hw];exact Pe hF (by omega) (He h hf) hs (CT hn) (λt=>k t 0)
theorem u7 {N n:Nat} (hF:Fuel N) {l:List Fl} (hn:n<=12) (h:l.length=n*n) (hf:aX l=true) (hw:AllW l) (hs:Rg n l) (k:Ky8) :
  cz N n n l k=k (yS n l):=by
 unfold cz sw;rw[Jo hF hn h hf hw hs];rfl
theorem Hp {N n:Nat} (hF:Fuel N) {l:List Fl} (hn:n<=12) (h:l.length=n*n) (hf:aX l=true) (hw:AllW l) (hs:Rg n l) (k:Ky8) :
  TI N n n l k=k (yS n l):=by
 have hN:=hF.lt;unfold TI V9 CQ Cd;rw[O5 hF hn h hf hw];dsimp only
 (unfold aaz; rw[af]; unfold Xx)
 rw[LN (B:=1200) hF (by decide) hn (He h hf)];exact O8 hF (by omega) (λt=>k (t==3)) n 0 1200 N 3 (fm n l) (by omega) (by omega) (He h hf) (λa b _ _=>hs a b) (CT hn)
theorem SB (N:Nat) (a b:Nat) (k:Ky8):Mw N a b k=k (decide (cn (some a)=cn (some b))):=by unfold Mw Zh;simp only[HK,yD,GU,Gi];rw[<- RU a b (.inr trivial)];rfl
end Go.Proofs.YteifemaagdeomaaGreatDoor
end
section
namespace Go.Proofs.YteifemaagdeomaaGreatDoor
open Go Go.Mach Ieee
set_option maxRecDepth 100000
theorem yp {N:Nat} (hN:1000<=N) (k:Ky8):sQ0 N k=k true:=by
 obtain⟨M,rfl⟩:∃ M,N=M+1000:=⟨N - 1000,by omega⟩
 kernel_rfl
theorem Wu {N:Nat} (hN:1000<=N) (k:Ky2):qF N 1 k=k false (aj 1):=Er (N:=N) 1 (by decide) (sV hN (by decide)) (by omega) k
theorem acg (a b:Nat):flt (some a) (some b)=((Ieee.double.read a).order (Ieee.double.read b)==some .lt):=rfl
theorem Sf (a b:Nat):feq (some a) (some b)=((Ieee.double.read a).order (Ieee.double.read b)==some .eq):=rfl
theorem Ws (a b:Nat):fgt (some a) (some b)=((Ieee.double.read a).order (Ieee.double.read b)==some .gt):=rfl
theorem Rk {b:Nat} (hb:W64 b) {s:Bool} {m:Nat} {i:Int} (h:Ieee.double.read b=.number s m i):∃ c,Fr (some b)=some c/\W64 c/\Ieee.double.read c=.number false m i:=by
 have e:Ieee.double.read (b%9223372036854775808)=.number false m i:=by
  obtain⟨hs,hlt,h⟩:=jv h;unfold Format.read;simp only[gH,tB,lL,vb];have e1:b%9223372036854775808%9223372036854775808=b%9223372036854775808:=by omega
  have e2:(b%9223372036854775808 / 9223372036854775808%2==1)=false:=by rw[beq_eq_false_iff_ne]; omega
  rw[e1,e2];rcases h with⟨h1,rfl,rfl⟩ | ⟨h1,rfl,rfl⟩
  ·rw[if_pos h1]
  ·rw[if_neg (by omega),if_pos hlt]
 have hn:isNaN (b%9223372036854775808)=false:=by unfold isNaN; rw[e]; rfl
 refine⟨b%9223372036854775808,?_,by unfold W64 at *; omega,e⟩;show ik _=_;unfold ik; rw[hn]; rfl
theorem FE (N:Nat) {x:Fl} (hx:aL x=true) (hw:FW x) (k:Ky8):jU N x 0 k=k false:=by
 obtain⟨b,s,m,i,rfl,h⟩:=cI hx;obtain⟨c,hc,hcw,hcr⟩:=Rk (hw b rfl) h;have hp:=tX hcr;have hg:=xp hcr
 (unfold jU; rw[af]; unfold xW)
 show k (fgt (Fr (some b)) (some 9218868437227405311))=_;rw[hc];congr 1;have hr:Ieee.double.read 9218868437227405311=.number false 9007199254740991 971:=by decide
 rw[Ws,hcr,hr];simp only[Datum.order];have hmin:min i 971=i:=by omega
 have e0:(i - i).toNat=0:=by omega
 rw[hmin,e0];have s1:signed false m 0=((m:Nat):Int):=rfl;have s2:signed false 9007199254740991 (971 - i).toNat=((9007199254740991 <<< (971 - i).toNat:Nat):Int):=rfl;rw[s1,s2,Nat.shiftLeft_eq];have hpw:0<2 ^ (971 - i).toNat:=ajM _;have hle:9007199254740991<=9007199254740991*2 ^ (971 - i).toNat:=akk _ hpw;generalize 9007199254740991*2 ^ (971 - i).toNat=q at hle;have:compare (m:Int) (q:Int) ≠ .gt:=λe=>by have:=Int.compare_eq_gt.1 e; omega
 cases e:compare (m:Int) (q:Int)with
 | gt=>exact absurd e this
 | eq=>rfl
 | lt=>rfl
theorem P2 (d:Datum):W64 (Ieee.double.write d):=by
 cases d with
 | number s m i=>exact JJ s m i
 | infinity s=>
  have:Ieee.double.write (.infinity s)=Ieee.double.word s 9218868437227405312:=by rw[<- lL]; rfl
  rw[this]; exact Fj s (by decide)
 | nan s f=>
  have:Ieee.double.write (.nan s f)=Ieee.double.word s (9218868437227405312+f%4503599627370496):=by rw[<- lL,<- tB]; rfl
  rw[this]; exact Fj s (by omega)
theorem Dp {o:Option Datum}:FW (o.map Ieee.double.write):=by
 intro b hb;cases o with
 | none=>cases hb
 | some d=>cases hb; exact P2 d
theorem GT {f:Nat->Nat->Option Nat} (hf:∀ a b c,f a b=some c->W64 c) (x y:Fl):FW (I3 f x y):=by
 intro c hc;cases x with
 | none=>cases hc
 | some a=>cases y with
  | none=>cases hc
  | some b=>exact hf a b c hc
theorem l6 (x y:Fl):FW (cD x y):=GT (λa b c h=>Dp c h) x y
theorem MY (x y:Fl):FW (lj x y):=GT (λa b c h=>Dp c h) x y
theorem Di (x y:Fl):FW (bA x y):=GT (λa b c h=>Dp c h) x y
theorem MX (x y:Fl):FW (fdiv x y):=GT (λa b c h=>Dp c h) x y
theorem Ue:FW (some 0):=λb h=>by cases h; decide
theorem T3 (d e:Datum):d.sum e=e.sum d:=by
 cases d <;> cases e <;> simp only[Datum.sum]
 ·rename_i s m i t n j;rw[Int.min_comm i j,Int.add_comm,Bool.and_comm s t]
 ·rename_i s t;by_cases h:s=t
  ·subst h; rfl
  ·rw[if_neg h,if_neg (λe=>h e.symm)]
theorem BE (x y:Fl):cD x y=cD y x:=by
 cases x with
 | none=>cases y <;> rfl
 | some a=>cases y with
  | none=>rfl
  | some b=>
   show((Ieee.double.read a).sum (Ieee.double.read b)).map _=((Ieee.double.read b).sum (Ieee.double.read a)).map _;rw[T3]
def aam (xs:List Fl):Nat->Fl
 | 0=>some 0
 | n+1=>fmm true (aam xs n) (Fr (xs.getD n none))
def GE1 (x:Fl):Prop:=∃ b,x=some b/\W64 b/\(Ieee.double.read b=.infinity false \/ ∃ m i,Ieee.double.read b=.number false m i/\4503599627370496<=m/\m<9007199254740992 /\ -52<=i)
def Dv (x:Fl):Prop:=∃ b,x=some b/\(Ieee.double.read b=.infinity false \/ ∃ m i,Ieee.double.read b=.number false m i/\m ≠ 0)
def ach (a b c:Fl):Int:=cond (!aX [a,b,c]) 4 (cond (feq a (some 0)&&(feq b (some 0)&&feq c (some 0))) 251 0)
def ace (f g:K4->Bool):Prop:=∃ a b c d n,(a.isSome=true/\b.isSome=true/\c.isSome=true/\d.isSome=true)/\(∀ κ,f κ=κ a b c d n)/\(∀ κ,g κ=κ a b c d n)
set_option maxRecDepth 4000
theorem aan {a0 a1 a2 a3 a4 a5 a6 a7 a8:Fl} (h:aX [a0,a1,a2,a3,a4,a5,a6,a7,a8]=true):chk 3 3 [a0,a1,a2,a3,a4,a5,a6,a7,a8]=0:=tD.2 ⟨by decide,rfl,h⟩
set_option maxRecDepth 4000
theorem OW {b:Nat} (hb:W64 b) {s:Bool} (h:Ieee.double.read b=.infinity s):Fr (some b)=some 9218868437227405312:=by
 unfold Format.read at h;simp only[gH,tB,lL]at h;unfold W64 at hb;split at h
 ·cases h
 ·split at h
  ·cases h
  ·split at h
   ·rename_i h1 h2 h3;show ik (b%9223372036854775808)=_;have:b%9223372036854775808=9218868437227405312:=by omega
    rw[this]; decide
   ·cases h
theorem Et {N:Nat} {x:Fl} (hw:FW x) (o:Bool) (k:Ky8):xv N x o k=k (o || !aL x):=by
 (unfold xv; rw[af]; unfold M4)
 cases hf:aL x with
 | true=>rw[Sd hf,FE N hf hw]; cases o <;> rfl
 | false=>
  rw[aj_,Bool.or_true];cases x with
  | none=>rfl
  | some b=>
   cases hr:Ieee.double.read b with
   | number s m i=>rw[yi hr]at hf; cases hf
   | nan s f=>
    have:feq (some b) (some b)=false:=by rw[Sf,hr]; rfl
    rw[this]; rfl
   | infinity s=>
    have h1:feq (some b) (some b)=true:=by rw[Sf,hr]; cases s <;> rfl
    rw[h1];show jU N (some b) 0 _=_
    (unfold jU; rw[af]; unfold xW)
    rw[show((0:Int)==0)=true from rfl,ajA];simp only[Bb];rw[OW (hw b rfl) hr];have h2:fgt (some 9218868437227405312) (some 9218868437227405311)=true:=by decide
    rw[h2,ajA]
theorem Dn (N:Nat) (x y:Fl) (o:Bool) (k:Ky8):xv N (cD x y) o k=k (o || !aL (cD x y)):=Et (l6 x y) o k
theorem Ho (N:Nat) (x y:Fl) (o:Bool) (k:Ky3):EX N x y o k=k (bA x y) (o || !aL (bA x y)):=by
 (unfold EX; rw[af]; unfold QI)
 rw[Et (Di x y)]
theorem aaN {x y:Fl} (hx:aL x=true) (hy:Dv y):Nn (fdiv x y):=by
 obtain⟨a,s,m,i,rfl,ha⟩:=cI hx;obtain⟨b,rfl,hb⟩:=hy;show Nn (((Ieee.double.read a).quotient (Ieee.double.fractionBits+2) (Ieee.double.read b)).map Ieee.double.write);rw[ha];rcases hb with hb | ⟨n,j,hb,hn⟩
 ·rw[hb]; exact DB _ _ _
 ·rw[hb]; simp only[Datum.quotient,if_neg hn]; exact DB _ _ _
end Go.Proofs.YteifemaagdeomaaGreatDoor
end
