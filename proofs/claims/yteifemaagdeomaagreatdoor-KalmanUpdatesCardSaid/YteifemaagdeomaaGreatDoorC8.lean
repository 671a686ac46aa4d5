/-
  PURE: laws of the seat's functions, taken over from another seat of mine.
  Conditions: none.
-/
import Derived.Test.YteifemaagdeomaaGreatDoorD1
import Derived.Test.YteifemaagdeomaaGreatDoorFlA
import Derived.Test.YteifemaagdeomaaGreatDoorC1
import Derived.Test.YteifemaagdeomaaGreatDoorGp
set_option linter.unusedVariables false
section
namespace Go.Proofs.YteifemaagdeomaaGreatDoor
open Go Go.Mach Ieee
theorem IF {N n j:Nat} (hN:1000<=N) (hj:j<=900) (h:n<4294967296 ^ j):fi N (ai n):=by have:=cz j n h;exact⟨by omega,by omega⟩
theorem nw {N n:Nat} (hN:1000<=N) (h:n<18446744073709551616):fi N (ai n):=IF (j:=2) hN (by decide) (by
 have:(4294967296:Nat) ^ 2=18446744073709551616:=by decide
 omega)
theorem Up (n:Nat):az .and .u64 (n:Int) 2047=((n%2048:Nat):Int):=by have:=jF n 11 (by decide);simpa using this
theorem yB (s:Bool) (m:Nat) (i:Int):∃ r,Ieee.double.nearest s m i=Ieee.double.word s r/\r<=9218868437227405312:=by
 unfold Format.nearest;split
 ·exact⟨0,rfl,by omega⟩
 ·rw[kA]; exact⟨_,rfl,agx _ _⟩
theorem Dm (s:Bool) (m:Nat) (i:Int):W64 (Ieee.double.nearest s m i):=by obtain⟨r,h,hr⟩:=yB s m i;rw[h]; exact zi s (by omega)
theorem SH {N:Nat} (hN:1000<=N) {n:Nat} (h:n<=48):js N n:=⟨by omega,by omega⟩
theorem Ko (b:Nat):aY (some b)=decide (b%9223372036854775808<9218868437227405312):=by
 unfold aY Format.read;simp only[ix,qq,kA];by_cases h1:b%9223372036854775808<4503599627370496
 ·rw[if_pos h1,ade (by omega)]; rfl
 ·rw[if_neg h1];by_cases h2:b%9223372036854775808<9218868437227405312
  ·rw[if_pos h2,ade h2]; rfl
  ·rw[if_neg h2,adf h2];split <;> rfl
def Nn (x:Fl):Prop:=∃ b,x=some b/\isNaN b=false
theorem mp {x:Fl} (h:aY x=true):Nn x:=by
 cases x with
 | none=>cases h
 | some b=>
  rw[Ko]at h;have:=adj h;refine⟨b,rfl,?_⟩;rw[afP];intro hc;have:=(eZ b).1 hc;omega
theorem Mj (s:Bool) {r:Nat} (h:r<=9218868437227405312):Nn (some (Ieee.double.word s r)):=by
 refine⟨_,rfl,?_⟩;rw[afP];intro hc;have h1:=(eZ _).1 hc;have hw:Ieee.double.word s r%9223372036854775808=r:=by unfold Format.word; rw[ix]; cases s <;> simp <;> omega
 omega
theorem xt (s:Bool) (m:Nat) (i:Int):Nn (some (Ieee.double.nearest s m i)):=by obtain⟨r,h,hr⟩:=yB s m i;rw[h]; exact Mj s hr
abbrev K4:=Fl->Fl->Fl->Fl->Int->Bool
def f8:Nat->Nat->Int->Nat × Int
 | 0,m,e=>(m,e)
 | f+1,m,e=>if m%2=0 then f8 f (m / 2) (e+1)else(m,e)
theorem pc:∀ f m e,m ≠ 0->m<2 ^ f->e<=(f8 f m e).2/\(f8 f m e).2<=e+f/\(f8 f m e).1*2 ^ ((f8 f m e).2 - e).toNat=m/\(f8 f m e).1<=m
 | 0,m,e,h0,h=>by simp at h; omega
 | f+1,m,e,h0,h=>by
  unfold f8;split
  ·rename_i hm;obtain⟨h1,h2,h3,h4⟩:=pc f (m / 2) (e+1) (by omega) (by rw[adr]at h; omega);refine⟨by omega,by omega,?_,by omega⟩;have:((f8 f (m / 2) (e+1)).2 - e).toNat=((f8 f (m / 2) (e+1)).2 - (e+1)).toNat+1:=by omega
   rw[this,adr,<- adq,h3]; omega
  ·refine⟨by omega,by omega,?_,ads _⟩;rw[Int.sub_self]; simp
theorem MN {N:Nat} (hN:1000<=N) {m:Nat} {e:Int} (h0:m ≠ 0) (hm:m<2 ^ 64) (he1 : -2000<=e) (he2:e<=2000) (k:Ky4) :
  oh N m e k=k ((f8 64 m e).1:Int) (f8 64 m e).2:=by
 (unfold oh; rw[ac]; unfold rB)
 have key:∀ f:Nat,f<=64 -> ∀(m:Nat) (e:Int),m ≠ 0->m<2 ^ f->m<2 ^ 64 -> -2000<=e->e+f<=3000 -> ∀ M:Nat,f<M->ak M (kf N λa b=>k a b) ((m:Int),e)=k ((f8 f m e).1:Int) (f8 f m e).2:=by
  intro f;induction f with
  | zero=>intro _ m e h0 h; simp at h; omega
  | succ f ih=>
   intro hf m e h0 h h64 h1 h2 M hM;cases M with
   | zero=>omega
   | succ M=>
    show kf N _ ((m:Int),e) (ak M _)=_;have e2:Int.tmod (m:Int) 2=((m%2:Nat):Int):=by rw[ad9 (by omega)]; rfl
    have e3:Int.tdiv (m:Int) 2=((m / 2:Nat):Int):=by rw[aei (by omega)]; rfl
    simp only[kf,f8,e2,e3];by_cases hm:m%2=0
    ·have:(((m%2:Nat):Int)==0)=true:=by rw[hm]; rfl
     have ew:IntKind.wrap .u64 ((m / 2:Nat):Int)=((m / 2:Nat):Int):=by
      rw[am];have:(2:Nat) ^ 64=18446744073709551616:=by decide
      omega
     rw[this,adh,aa adb,if_pos hm,ew];exact ih (by omega) (m / 2) (e+1) (by omega) (by rw[adr]at h; omega) (by omega) (by omega) (by omega) M (by omega)
    ·have:(((m%2:Nat):Int)==0)=false:=by
      have:m%2=1:=by omega
      rw[this]; rfl
     rw[this,adg,if_neg hm]
 have:((m:Int)==0)=false:=by simp; omega
 rw[this,adg];exact key 64 (ads _) m e h0 hm hm (by omega) (by omega) N (by omega)
theorem KR (N:Nat) (e:Int) (k:Ky4):oh N 0 e k=k 0 0:=by (unfold oh; rw[ac]; unfold rB); rfl
def ofE (x:Fl):Int × Int:=match x with
 | some b=>match Ieee.double.read b with
  | .number s m i=>if m=0 then(0,0)else((f8 64 m i).2,aS s (f8 64 m i).1)
  | _=>(0,0)
 | none=>(0,0)
theorem Bv {b:Nat} {s:Bool} {m:Nat} {i:Int} (h:Ieee.double.read b=.number s m i):ofE (some b)=if m=0 then(0,0)else((f8 64 m i).2,aS s (f8 64 m i).1):=by unfold ofE; simp only[h]
theorem HO {N:Nat} (hN:1000<=N) {b:Nat} (hb:W64 b) {s:Bool} {m:Nat} {i:Int} (h:Ieee.double.read b=.number s m i) (k:Kx4) :
    ra N (some b) k=if m=0 then k s 0 0 0 else k s ((f8 64 m i).1:Int) (f8 64 m i).2 0:=by
  obtain⟨h1,h2,h3⟩:=ly h;have hpl:=oc h;have hnn:isNaN b=false:=by rw[afP]; intro hc; have:=(eZ b).1 hc; omega
  have hbits:lM (some b)=b:=by simp only[lM,cnb,hnn]; rfl
  have hsg:(Int.fdiv (b:Int) (2 ^ 63)==1)=s:=by
    have e:(2:Int) ^ 63=((9223372036854775808:Nat):Int):=by decide
    rw[e,jR,h1];have hW:b / 9223372036854775808<2:=by have:=hb; omega
    have:b / 9223372036854775808=0\/b / 9223372036854775808=1:=by omega
    rcases this with h | h <;> rw[h] <;> rfl
  have fin:∀(e:Int),i=e - 1074 -> -1100<=e->e<=2100->kP N (some b) s e (m:Int) k=if m=0 then k s 0 0 0 else k s ((f8 64 m i).1:Int) (f8 64 m i).2 0:=by
    intro e he h5 h6;unfold kP;rw[aa adb,<- he];by_cases h0:m=0
    · subst h0; rw[if_pos rfl]; exact KR N i _
    · rw[if_neg h0,MN hN h0 (by have:(2:Nat) ^ 64=18446744073709551616:=(by decide); omega) (by omega) (by omega)]
  (unfold ra; rw[ac]; unfold qf)
  rw[Ag,hbits];rw[hsg];have n2047:(((b / 4503599627370496%2048:Nat):Int)==2047)=false:=by simp; omega
  rw[n2047,adg];rcases h3 with⟨g1,g2,g3⟩ | ⟨g1,g2,g3⟩
  · have e0:b / 4503599627370496%2048=0:=by omega
    have e1:b%4503599627370496=m:=by omega
    rw[e0,e1,adf (by decide),adg];exact fin 0 (by omega) (by omega) (by omega)
  · have e0:0<b / 4503599627370496%2048:=by omega
    have e1:IntKind.wrap .u64 (((b%4503599627370496:Nat):Int)+4503599627370496)=(m:Int):=by rw[am]; omega
    rw[ade (by omega:((b / 4503599627370496%2048:Nat):Int)>0),adh,aa adb,e1];exact fin _ (by omega) (by omega) (by omega)
theorem QR {N:Nat} (hN:1000<=N) {x:Fl} (hx:aY x=true) (hw:FW x) (k:Int->Bool->List Int->Bool):yO N x k=exK (ofE x) k:=by
  obtain⟨b,s,m,i,rfl,h⟩:=ms hx;have hb:=hw b rfl
  (unfold yO; rw[ac]; unfold xm)
  rw[HO hN hb h,Bv h];by_cases h0:m=0
  · rw[if_pos h0,if_pos h0]
    have:∀ κ,Np N 0 false κ=κ false (ai 0):=λκ=>sI (N:=N) 0 (by decide) false (nw hN (by decide)) (by omega) κ
    rw[this];cases s
    · rw[adg]; unfold exK; rfl
    · rw[adh,Ae _ _ (nw hN (by decide))]; unfold exK sw; rfl
  · rw[if_neg h0,if_neg h0]
    have hpl:=oc h;obtain⟨g1,g2,g3,g4⟩:=pc 64 m i h0 (by have:(2:Nat) ^ 64=18446744073709551616:=(by decide); omega);have hs:=nw (N:=N) (n:=(f8 64 m i).1) hN (by omega);rw[sI (N:=N) _ (by omega) false hs (by omega)];cases s
    · rw[adg]
      show _=k (f8 64 m i).2 (decide ((((f8 64 m i).1:Nat):Int)<0)) (ai (((f8 64 m i).1:Nat):Int).natAbs);rw[adf (by omega),aea]
    · rw[adh,Ae _ _ hs]; rfl
def EV (x:Int × Int) (v:Int) (E:Nat):Prop:=0<=x.1+E/\x.2*2 ^ (x.1+E).toNat=v
theorem EV.up {x:Int × Int} {v:Int} {E:Nat} (h:EV x v E) (F:Nat):EV x (v*2 ^ F) (E+F):=by
 obtain⟨h1,h2⟩:=h;refine⟨by omega,?_⟩;have:(x.1+((E+F:Nat):Int)).toNat=(x.1+E).toNat+F:=by omega
 rw[this,Int.pow_add,<- Int.mul_assoc,h2]
theorem EV.mul {x y:Int × Int} {v w:Int} {E F:Nat} (h:EV x v E) (g:EV y w F):EV (wh x y) (v*w) (E+F):=by
 obtain⟨h1,h2⟩:=h;obtain⟨g1,g2⟩:=g;refine⟨by simp only[wh]; omega,?_⟩;have:((wh x y).1+((E+F:Nat):Int)).toNat=(x.1+E).toNat+(y.1+F).toNat:=by simp only[wh]; omega
 rw[this,Int.pow_add,<- h2,<- g2];simp only[wh];ac_rfl
theorem EV.neg {x:Int × Int} {v:Int} {E:Nat} (h:EV x v E):EV (NT x) (-v) E:=⟨h.1,by rw[<- h.2]; exact ags _ _⟩
theorem z8 {x:Int × Int} {v:Int} {E:Nat} (h:EV x v E) {e:Int} (he:e<=x.1) (hE:0<=e+E):qG x e*2 ^ (e+E).toNat=v:=by unfold qG;rw[Int.mul_assoc,<- Int.pow_add,show(x.1 - e).toNat+(e+E).toNat=(x.1+E).toNat by omega];exact h.2
theorem EV.add {x y:Int × Int} {v w:Int} {E:Nat} (h:EV x v E) (g:EV y w E):EV (Gj x y) (v+w) E:=by
 unfold Gj;split
 ·rename_i h0;have:v=0:=by rw[<- h.2,h0,Int.zero_mul]
  rw[this,Int.zero_add]; exact g
 ·split
  ·rename_i h0;have:w=0:=by rw[<- g.2,h0,Int.zero_mul]
   rw[this,Int.add_zero]; exact h
  ·have hE:0<=min x.1 y.1+E:=by have:=h.1; have:=g.1; omega
   exact⟨hE,by rw[Int.add_mul,z8 h (by omega) hE,z8 g (by omega) hE]⟩
theorem EV.sgn {x:Int × Int} {v:Int} {E:Nat} (h:EV x v E):uH x.2=uH v:=by
 rw[<- h.2];have hp:=Ld (x.1+E).toNat;unfold uH;rcases Int.lt_trichotomy x.2 0 with h | h | h
 ·have:=Int.mul_neg_of_neg_of_pos h hp;rw[if_neg (by omega),if_pos h,if_neg (by omega),if_pos this]
 ·rw[h,Int.zero_mul]
 ·have:=Int.mul_pos h hp;rw[if_neg (by omega),if_neg (by omega),if_neg (by omega),if_neg (by omega)]
theorem Ex.mono {E B E' B':Nat} {x:Int × Int} (h:Ex E B x) (hE:E<=E') (hB:B<=B'):Ex E' B' x:=⟨by have:=h.1; omega,by have:=h.2.1; omega,bK h.2.2 hB⟩
theorem Ex.mul {E B E' B':Nat} {x y:Int × Int} (h:Ex E B x) (g:Ex E' B' y):Ex (E+E') (B+B') (wh x y):=
 ⟨by have:=h.1; have:=g.1; simp only[wh]; omega,by have:=h.2.1; have:=g.2.1; simp only[wh]; omega,by show aP _ (x.2*y.2).natAbs;rw[ae4]; exact dB h.2.2 g.2.2⟩
theorem Ex.neg {E B:Nat} {x:Int × Int} (h:Ex E B x):Ex E B (NT x):=⟨h.1,h.2.1,by show aP _ (-x.2).natAbs; rw[afR]; exact h.2.2⟩
theorem yx {E B:Nat} {x:Int × Int} (h:Ex E B x) {e:Int} (he : -(E:Int)<=e):aP (B+2*E) (qG x e).natAbs:=by unfold qG;rw[ae4,Int.natAbs_pow];refine bK (tf h.2.2 _) ?_;have:=h.2.1; omega
theorem Ex.add {E B:Nat} {x y:Int × Int} (h:Ex E B x) (g:Ex E B y):Ex E (B+2*E+1) (Gj x y):=by
 unfold Gj;split
 ·exact g.mono (ads _) (by omega)
 ·split
  ·exact h.mono (ads _) (by omega)
  ·refine⟨by have:=h.1; have:=g.1; show -(E:Int)<=min x.1 y.1; omega,by have:=h.2.1; show min x.1 y.1<=E; omega,?_⟩;have h1:=yx h (e:=min x.1 y.1) (by have:=h.1; have:=g.1; omega);have h2:=yx g (e:=min x.1 y.1) (by have:=h.1; have:=g.1; omega);exact kQ (ua h1 h2) (Int.natAbs_add_le _ _)
theorem MH {N:Nat} (hN:1000<=N) {E B:Nat} {x:Int × Int} (hx:Ex E B x) {e:Int} (he : -(E:Int)<=e) (hB:B+2*E<=30000) (k0:Bool) (k1:Bool->List Int->Bool) (h0:x.1<=e->k0=sw x.2 k1) (he2:x.1<=e->e=x.1) :
  Rg N x.1 e (decide (x.2<0)) (ai x.2.natAbs) k0 k1=sw (qG x e) k1:=by
 unfold Rg RL;have hx1:=hx.1;have hx2:=hx.2.1;by_cases hc:x.1<=e
 ·rw[ade (by omega:e>=x.1),adh,h0 hc];have:qG x e=x.2:=by unfold qG;rw[he2 hc,Int.sub_self]; simp
  rw[this]
 ·rw[adf (by omega:¬ e>=x.1),adg,aa adb];have ew:IntKind.wrap .u64 (x.1 - e)=(((x.1 - e).toNat:Nat):Int):=by rw[am]; omega
  rw[ew,Ad _ _ _ _ (zQ hN (by omega) hx.2.2)];congr 1;unfold qG aS;by_cases hz:x.2<0
  ·rw[ade hz,if_pos rfl,adB,aeI,<- ags];congr 1; omega
  ·rw[adf hz,if_neg (by decide),adB,aeI];congr 1; omega
theorem Fr {x:Fl} (hx:aY x=true):Ex 1100 53 (ofE x):=by
  obtain⟨b,s,m,i,rfl,h⟩:=ms hx;rw[Bv h];have hpl:=oc h;have hpg:=Ds h;by_cases h0:m=0
  · rw[if_pos h0]; exact⟨by decide,by decide,adt _⟩
  · rw[if_neg h0]
    obtain⟨g1,g2,g3,g4⟩:=pc 64 m i h0 (by have:(2:Nat) ^ 64=18446744073709551616:=(by decide); omega);refine⟨by show -((1100:Nat):Int)<=(f8 64 m i).2; omega,by show(f8 64 m i).2<=((1100:Nat):Int); omega,?_⟩;show aP 53 (aS s (f8 64 m i).1).natAbs;have:(aS s (f8 64 m i).1).natAbs=(f8 64 m i).1:=by unfold aS; cases s <;> simp
    rw[this];show _<2 ^ 53;have:(2:Nat) ^ 53=9007199254740992:=by decide
    omega
theorem Au:∀(f t c:Nat) (e:Int),t<f->f8 f (2 ^ t*(2*c+1)) e=(2*c+1,e+t)
 | 0,t,c,e,h=>by omega
 | f+1,0,c,e,h=>by
  unfold f8;rw[ae_,afj,if_neg (by omega)];simp
 | f+1,t+1,c,e,h=>by
  unfold f8;have e1:2 ^ (t+1)*(2*c+1)=2*(2 ^ t*(2*c+1)):=by rw[adr]; ac_rfl
  rw[e1,if_pos (by omega),adP _ (by decide),Au f t c (e+1) (by omega)];congr 1; omega
theorem LH {b:Nat} (hb:W64 b):(az .and .u64 (b:Int) 9223372036854775808 != 0)=(b / 9223372036854775808%2==1):=by
 have e1:(9223372036854775808:Int)=((2 ^ 63:Nat):Int):=by decide
 have p63:(2:Nat) ^ 63=9223372036854775808:=by decide
 rw[e1,sB hb (by rw[p63]; omega)];have h1:b / 9223372036854775808%2=0\/b / 9223372036854775808%2=1:=by omega
 have h2:b.testBit 63=decide (b / 2 ^ 63%2=1):=Nat.testBit_eq_decide_div_mod_eq;rw[p63]at h2;rcases h1 with h | h
 ·have hz:b &&& 2 ^ 63=0:=by
   refine afu (λj=>?_);rw[agb,ae6,Nat.zero_testBit];by_cases hj:63=j
   ·subst hj; rw[h2,h]; rfl
   ·rw[adf hj,Bool.and_false]
  rw[hz,h]; rfl
 ·have hz:b &&& 2 ^ 63 ≠ 0:=by intro hc;have:=agr (λn=>n.testBit 63) hc;simp only[agb,ae6,Nat.zero_testBit,h2,h]at this;simp at this
  rw[h];generalize b &&& 2 ^ 63=z at hz ⊢;have:((z:Int) != 0)=true:=by simp; exact hz
  rw[this]; rfl
theorem Ax {N:Nat} {b m:Nat} {i:Int} {s:Bool} (hpl:i<=971/\m<9007199254740992) (hb:W64 b) (k:Kx4) (E:Int) (hEi:i=E) (h5 : -1100<=E) (h6:E<=1100) (h0:m ≠ 0):Hi N (b:Int) 52 2047 1075 s (m:Int) E k=k s ((f8 64 m i).1:Int) (f8 64 m i).2 0:=by
 unfold Hi;obtain⟨t,c,hm⟩:=yE m h0;have ht0:0<2 ^ t:=adt t;have ht:t<64:=by
  rcases aef t 64 with g | g
  ·exact g
  ·have g2:2 ^ 64<=2 ^ t:=adv (by decide) g;have g3:2 ^ t*1<=2 ^ t*(2*c+1):=adn _ (by omega);have g4:(2:Nat) ^ 64=18446744073709551616:=by decide
   omega
 rw[hm,QS N (by rw[<- hm]; omega),Au 64 t c i ht,aa (ade (by omega)),aa adb,adk,show min t 64=t by omega];have e2:(2:Int) ^ t=((2 ^ t:Nat):Int):=by rw[aeI]; rfl
 rw[e2,jR,adP _ ht0,hEi]
theorem ER {N:Nat} {b:Nat} (hb:W64 b) {s:Bool} {m:Nat} {i:Int} (h:Ieee.double.read b=.number s m i) (k:Kx4) :
  ph N (some b) k=if m=0 then k s 0 0 0 else k s ((f8 64 m i).1:Int) (f8 64 m i).2 0:=by
 obtain⟨h1,h2,h3⟩:=ly h;have hpl:=oc h;have hnn:isNaN b=false:=by rw[afP]; intro hc; have:=(eZ b).1 hc; omega
 have hcnb:cnb b=b:=by simp only[cnb,hnn]; rfl
 have hcls:=AY b;rw[hcnb]at hcls;have hE:b / 4503599627370496%2048<2047:=by omega
 rw[if_neg (Nat.ne_of_lt hE)]at hcls;have hc:(b / 4503599627370496%2048=0/\b%4503599627370496=m/\cls b=(if m=0 then 3 else 4)/\i = -1074)\/(b / 4503599627370496%2048 ≠ 0/\m=4503599627370496+b%4503599627370496/\cls b=5/\i=((b / 4503599627370496%2048:Nat):Int) - 1075):=by
  rcases h3 with⟨g1,g2,g3⟩ | ⟨g1,g2,g3⟩
  ·have e0:b / 4503599627370496%2048=0:=by omega
   have e1:b%4503599627370496=m:=by omega
   rw[if_pos e0,e1]at hcls;exact .inl ⟨e0,e1,hcls,by omega⟩
  ·have e0:b / 4503599627370496%2048 ≠ 0:=by omega
   rw[if_neg e0]at hcls;exact .inr ⟨e0,by omega,hcls,by omega⟩
 generalize hx:b / 4503599627370496%2048=x at hE hc;generalize hy:b%4503599627370496=y at hc;have hylt:y<4503599627370496:=by omega
 have goal0:ph N (some b) k=(ah .i64 ((x:Int) - 1075)&&(cond ((cls b:Int)==1) (k false 0 0 4) (cond ((cls b:Int)==2) (k false 0 0 4) (cond ((cls b:Int)==3) (k s 0 0 0) (cond ((cls b:Int)==4) ((ah .i64 (((x:Int) - 1075)+1))&&(Hi N (b:Int) 52 2047 1075 s (y:Int) (((x:Int) - 1075)+1) k)) (lC N 52 2047 1075 (λ(UK:Int)=>(Hi N (b:Int) 52 2047 1075 s (az .or .u64 (y:Int) UK) ((x:Int) - 1075) k)))))))):=by
  unfold ph xj;show Rk N (b:Int) 52 2047 1075 _=_
  (unfold Rk; rw[ac]; unfold Ph)
  rw[Ao,hcnb,LH hb,<- h1,Aj,hx,hy]
 rw[goal0,aa adb];clear goal0 hcls h1 h2 h3 hcnb hnn;rcases hc with⟨c1,c2,c3,c4⟩ | ⟨c1,c2,c3,c4⟩
 ·rw[c3];by_cases h0:m=0
  ·rw[if_pos h0,if_pos h0]; rfl
  ·rw[if_neg h0,if_neg h0,c2];show(ah .i64 (((x:Int) - 1075)+1)&&_)=_;rw[aa adb];exact Ax hpl hb k _ (by omega) (by omega) (by omega) h0
 ·have h0:m ≠ 0:=by omega
  rw[c3,if_neg h0];have eor:az .or .u64 (y:Int) 4503599627370496=(m:Int):=by
   have p52:(2:Nat) ^ 52=4503599627370496:=by decide
   have:=cu y 1 52 (by omega) (by omega);rw[p52]at this;rw[show((4503599627370496*1:Nat):Int)=4503599627370496 from rfl]at this;rw[this]; omega
  rw[show((5:Int)==1)=false from rfl,adg,show((5:Int)==2)=false from rfl,adg,show((5:Int)==3)=false from rfl,adg,show((5:Int)==4)=false from rfl,adg,jL,eor];exact Ax hpl hb k _ (by omega) (by omega) (by omega) h0
theorem ID {z:Int}:(uH z==0)=decide (z=0):=by
 unfold uH;by_cases h:z=0
 ·rw[if_pos h,ade h]; rfl
 ·rw[if_neg h,adf h];by_cases hl:z<0
  ·rw[if_pos hl]; rfl
  ·rw[if_neg hl]; rfl
def pe (p:Int × Int):Rat:=if 0<=p.1 then mkRat (p.2*((2 ^ p.1.toNat:Nat):Int)) 1 else mkRat p.2 (2 ^ (-p.1).toNat)
theorem QP (a b:Int):imm true a b=max a b:=by
 unfold imm; simp only[adh];by_cases h:a<=b
 ·have:max a b=b:=by omega
  rw[this];by_cases h2:b>a
  ·rw[ade h2]; rfl
  ·rw[adf h2,adg]; omega
 ·have:max a b=a:=by omega
  rw[this,adf (by omega),adg]
theorem N9 (n:Nat):¬((n:Nat):Int)<0:=by omega
theorem yC (g:Bool):(g != false)=g:=by cases g <;> rfl
theorem JV {B s n:Nat} (h:aP B n):aP (B+s) (n*2 ^ s):=tf h s
theorem xA {s:Nat}:aP (s+1) (2 ^ s):=by unfold aP; rw[adr]; have:=adt s; omega
theorem F_:aP 1 1:=by unfold aP; decide
theorem vc:ae 1=[1]:=oK (by decide) (by decide)
theorem QQ {w:Int} (k:Kx5):kq (mkRat w 1) k=kr w 1 k:=by unfold kq;rw[Rat.mkRat_one,Rat.num_intCast,Rat.den_intCast]
theorem Gt {N:Nat} (hF:Fuel N) (x:Fl) (s:Bool) (M e z:Int) (he : -1100<=e) (he2:e<=1100) (hz:aP 53 z.natAbs) (k:Kx5) :
  bZ N x s M e (decide (z<0)) (ae z.natAbs) k=kq (pe (e,z)) k:=by
 have hN:=hF.lt;unfold bZ;have n1:=λkk=>qK (N:=N) (by omega) 1 (by decide) kk
 rw[show((1:Nat):Int)=1 from rfl]at n1;rw[n1,aa adb,QP];obtain⟨t,ht⟩:∃ t:Nat,max e (0 - e)=(t:Int):=⟨(max e (0 - e)).toNat,by omega⟩
 have ew:IntKind.wrap .u64 (max e (0 - e))=(t:Int):=by rw[am]; omega
 have htb:t<=1100:=by omega
 rw[ew,HL t false false 1 (by omega) (by rw[vc]; simp; omega) (by rw[vc]; simp)];unfold qI;have e1:aS false (1*2 ^ t)=((2 ^ t:Nat):Int):=by unfold aS; rw[afj]; rfl
 rw[e1,adf (N9 (2 ^ t)),aea];dsimp only;have hp:=adt t;have hzb:aP 2000 z.natAbs:=bK hz (by omega);have htb2:aP 2000 (2 ^ t):=bK xA (by omega);by_cases hc:e<0
 ·rw[ade hc,adh];unfold Na OC;rw[yC,wl hF (B:=2000) (by decide) _ hzb htb2 hp,iq];unfold pe;dsimp only;have:(-e).toNat=t:=by omega
  rw[if_neg (by omega),this]
 ·rw[adf hc,adg];unfold Od NB;have hm:aP 4000 (z.natAbs*2 ^ t):=bK (dB hzb htb2) (by omega);rw[rW hF (by decide) hzb htb2,yC];rw[mC (decide (z<0)) _ _ (z.natAbs*2 ^ t) (λa b=>Ra N false false a b (λc8 s7 c9 s8=>k c8 s7 c9 s8))];rw[qJ];obtain⟨w,hw⟩:∃ w:Int,w=z*((2 ^ t:Nat):Int):=⟨_,rfl⟩
  have hwb:aP 4000 w.natAbs:=by rw[hw,ae4,aea]; exact hm
  rw[<- hw];unfold qI Ra RG;dsimp only;rw[oR (by decide) hwb];have er:pe (e,z)=mkRat w 1:=by
   unfold pe;dsimp only;have:e.toNat=t:=by omega
   rw[if_pos (by omega),this,hw]
  rw[er,QQ]
  (unfold SA; rw[ac]; unfold Pd Iw Mf Oe NC kr)
  rw[vc];by_cases hl:w<0
  ·rw[ade hl];have h2:decide (((ae w.natAbs).length:Int)>0)=true:=by rw[nO]; exact ade (by omega)
   simp only[h2];rfl
  ·rw[adf hl]; rfl
theorem oS (N:Nat) (e:Int) (k0:Bool):cY N ((0:Int)==0) e k0=k0:=rfl
theorem C5 {N:Nat} (hF:Fuel N) {x:Fl} (hx:aY x=true) (hw:FW x) (k:Kx5):jp N x k=kq (pe (ofE x)) k:=by
 have hN:=hF.lt;have hex:=Fr hx;obtain⟨b,s,m,i,rfl,h⟩:=ms hx;have ho:=Bv h
 (unfold jp; rw[ac]; unfold jk)
 have fin:∀(M:Nat) (e:Int),M<18446744073709551616->ofE (some b)=(e,aS s M) ->
   cY N ((0:Int)==0) 4 (Nb N (M:Int) false (λ(Uu:Bool) (nsr:List Int)=>(cond s (Nj N Uu nsr (λ(US:Bool) (Uv:List Int)=>(bZ N (some b) s (M:Int) e US Uv k))) (bZ N (some b) s (M:Int) e Uu nsr k))))=kq (pe (ofE (some b))) k:=by
  intro M e hM heq;rw[heq]at hex ⊢;have h1:=hex.1;have h2:=hex.2.1;have h3:=hex.2.2;dsimp only at h1 h2 h3;have hl:(ae M).length<=1099511627776:=by
   have:aP 64 M:=by unfold aP; omega
   have:=wY (B:=64) (by decide) this; omega
  rw[oS,KJ (by omega) M hM];cases s
  ·rw[adg];have e1:aS false M=(M:Int):=rfl;rw[e1]at h3 ⊢;have:=Gt hF (some b) false (M:Int) e (M:Int) (by omega) (by omega) h3 k;rw[adf (by omega:¬(M:Int)<0),aea]at this;exact this
  ·rw[adh,HM false M hl];have e1 : -(aS false M)=aS true M:=rfl;rw[e1];exact Gt hF (some b) true (M:Int) e (aS true M) (by omega) (by omega) h3 k
 rw[ER (hw b rfl) h];by_cases h0:m=0
 ·rw[if_pos h0];rw[if_pos h0]at ho;refine fin 0 0 (by decide) ?_;rw[ho];cases s <;> rfl
 ·rw[if_neg h0];rw[if_neg h0]at ho;have hpl:=oc h;have hm:m<2 ^ 64:=by
   have:(2:Nat) ^ 64=18446744073709551616:=by decide
   omega
  obtain⟨g1,g2,g3,g4⟩:=pc 64 m i h0 hm;exact fin _ _ (by omega) ho
theorem MO (N:Nat) (k:Kz6):pS N k=k (ai 1):=by rw[Kc]; rfl
theorem C1 {N:Nat} (hF:Fuel N) {z:Int} (hz:aP 30000 z.natAbs) (b1 b2:Bool) (k:Kx5) :
  Nd N b1 b2 (decide (z<0)) (ai z.natAbs) k=kqR (mkRat z 1) k:=by
 unfold Nd RB;rw[MO,rR hF (B:=30000) (by decide) _ hz (bK F_ (by decide)) (by decide),iq]
theorem HQ {N:Nat} (hF:Fuel N) {x:Fl} (hx:aY x=true) (hw:FW x) (k:Kx5):re N x k=kqR (pe (ofE x)) k:=by
 have hN:=hF.lt;have hex:=Fr hx;unfold re vR;rw[QR (by omega) hx hw];obtain⟨p,hp⟩:∃ p,p=ofE x:=⟨_,rfl⟩
 rw[<- hp]at hex ⊢;obtain⟨e,z⟩:=p;have h1:=hex.1;have h2:=hex.2.1;have h3:=hex.2.2;dsimp only at h1 h2 h3
 (unfold exK; unfold SC; rw[ac]; unfold Pf)
 dsimp only;by_cases hc:e>=0
 ·rw[ade hc,adh];have hl:=λk0 k1 h0 he2=>MH (N:=N) (by omega) hex (e:=0) (by omega) (by decide) k0 k1 h0 he2
  dsimp only at hl;rw[hl]
  ·unfold sw;have hb:=yx hex (e:=0) (by omega);dsimp only;rw[C1 hF (bK hb (by decide))];unfold pe qG;dsimp only;rw[if_pos hc,Int.sub_zero,aeI];rfl
  ·intro _; rfl
  ·intro h; omega
 ·rw[adf hc,adg];have n1:=λkk=>yh (N:=N) 1 (by decide) (by have:=pL (B:=1) (n:=1) (by decide) (by unfold aP; decide);exact⟨by omega,by omega⟩) (by omega) kk
  rw[show((1:Nat):Int)=1 from rfl]at n1;rw[n1,aa adb];obtain⟨t,ht⟩:∃ t:Nat,(0 - e)=(t:Int):=⟨(0 - e).toNat,by omega⟩
  have ew:IntKind.wrap .u64 (0 - e)=(t:Int):=by rw[am]; omega
  rw[ew,Ad t false false 1 (zQ (B:=1) (by omega) (by omega) (by unfold aP; decide))];unfold sw;have e1:aS false (1*2 ^ t)=((2 ^ t:Nat):Int):=by unfold aS; rw[afj]; rfl
  rw[e1,adf (N9 (2 ^ t)),aea];dsimp only;have htp:=adt t;have hzb:aP 2000 z.natAbs:=bK h3 (by omega);have htb2:aP 2000 (2 ^ t):=bK xA (by omega);unfold Sy RF;rw[yC,rR hF (B:=2000) (by decide) _ hzb htb2 (Nat.ne_of_gt htp),iq];unfold pe;dsimp only;have:(-e).toNat=t:=by omega
  rw[if_neg (by omega),this]
theorem tU {B:Nat} {z:Int} {d:Nat} (hz:aP B z.natAbs) (hd:aP B d) (h0:0<d):Bq B (mkRat z d):=by
 refine⟨?_,?_⟩
 ·rw[agt,if_neg (by omega)];have h1:((Nat.gcd z.natAbs d:Nat):Int)∣z:=Int.ofNat_dvd_left.2 (ad6 _ _);rw[aev,Int.natAbs_ediv_of_dvd h1,aea];exact bS hz
 ·rw[agu,if_neg (by omega)];exact bS hd
theorem M3 {x:Fl} (hx:aY x=true):Bq 1200 (pe (ofE x)):=by
 have hex:=Fr hx;obtain⟨p,hp⟩:∃ p,p=ofE x:=⟨_,rfl⟩
 rw[<- hp]at hex ⊢;obtain⟨e,z⟩:=p;have h1:=hex.1;have h2:=hex.2.1;have h3:=hex.2.2;dsimp only at h1 h2 h3;unfold pe;dsimp only;split
 ·refine tU ?_ (bK F_ (by decide)) (by decide);rw[ae4,aea];exact bK (JV h3) (by omega)
 ·exact tU (bK h3 (by omega)) (bK xA (by omega)) (adt _)
theorem AN {A B:Nat} {x y:Rat} (hx:Bq A x) (hy:Bq B y):Bq (A+B) (x*y):=by rw[Rat.mul_def'];refine tU ?_ (dB hx.2 hy.2) (afe x.den_pos y.den_pos);rw[ae4]; exact dB hx.1 hy.1
theorem Ov {B:Nat} {y:Rat} (hy:Bq B y) (h:y.num ≠ 0):Bq B (y⁻¹):=by obtain⟨i1,i2,i3⟩:=xZ h;exact⟨by rw[i1]; exact hy.2,by rw[i2]; exact hy.1⟩
theorem Ea {A B:Nat} {x y:Rat} (hx:Bq A x) (hy:Bq B y) (h:y.num ≠ 0):Bq (A+B) (x / y):=by rw[Rat.div_def]; exact AN hx (Ov hy h)
theorem Ow {B:Nat} {y:Rat} (hy:Bq B y):Bq B (-y):=⟨by rw[Rat.neg_num,afR]; exact hy.1,hy.2⟩
theorem Ou {A B:Nat} {x y:Rat} (hx:Bq A x) (hy:Bq B y):Bq (A+B+1) (x+y):=by rw[Rat.add_def'];refine tU (zP (rG hx.1 hy.2) ?_) (bK (dB hx.2 hy.2) (by omega)) (afe x.den_pos y.den_pos);rw[ae9]; exact rG hy.1 hx.2
theorem IU {A B:Nat} {x y:Rat} (hx:Bq A x) (hy:Bq B y):Bq (A+B+1) (x - y):=by rw[Rat.sub_eq_add_neg]; exact Ou hx (Ow hy)
theorem FX {B:Nat}:Bq (B+1) 0:=⟨adt _,by show 1<2 ^ (B+1); exact Nat.one_lt_two_pow (by omega)⟩
def enc (x:Rat):RY1:=((decide (x.num<0),ae x.num.natAbs),(false,ae x.den))
def dD (x:Rat):RY2:=((decide (x.num<0),ai x.num.natAbs),(false,ai x.den))
def mat {α:Type} (g:Rat->α) (n:Nat) (f:Nat->Nat->Rat):List α:=(List.range (n*n)).map (λt=>g (f (t / n) (t%n)))
theorem o_ {α:Type} (g:Rat->α) (n:Nat) (f:Nat->Nat->Rat):(mat g n f).length=n*n:=by unfold mat; rw[afb,List.length_range]
theorem kR {n i j:Nat} (hi:i<n) (hj:j<n):i*n+j<n*n:=by have h1:(i+1)*n<=n*n:=adl _ hi;rw[adI]at h1; omega
theorem xb {n i j:Nat} (hj:j<n):(i*n+j) / n=i:=by rw[adi,agd (by omega),adK hj,adL]
theorem xc {n i j:Nat} (hj:j<n):(i*n+j)%n=j:=by rw[adi,afr,adp hj]
theorem lm {α:Type} (g:Rat->α) (n:Nat) (f:Nat->Nat->Rat) {i j:Nat} (hi:i<n) (hj:j<n) (z:α):(mat g n f).getD (i*n+j) z=g (f i j):=by have h:=kR hi hj;unfold mat;rw[List.getD_eq_getElem?_getD,List.getElem?_map,List.getElem?_range h];simp only[aeM,ad3,xb hj,xc hj]
theorem jA {α:Type} (g:Rat->α) (n:Nat) {f f':Nat->Nat->Rat} (h:∀ a b,a<n->b<n->f a b=f' a b):mat g n f=mat g n f':=by
 unfold mat;apply af3;intro t ht;have ht:=List.mem_range.1 ht;have hn:0<n:=by
  rcases aez n with h0 | h0
  ·rw[h0]at ht; omega
  ·exact h0
 rw[h _ _ (afa ht) (adu _ hn)]
theorem GB {α:Type} (g:Rat->α) (n:Nat) (f:Nat->Nat->Rat) {i j:Nat} (hi:i<n) (hj:j<n) (v:Rat):(mat g n f).set (i*n+j) (g v)=mat g n (λa b=>if a=i/\b=j then v else f a b):=by
 have h:=kR hi hj;apply List.ext_getElem?;intro t;by_cases ht:t<n*n
 ·have hn:0<n:=by omega
  rw[List.getElem?_set];unfold mat;rw[List.getElem?_map,List.getElem?_map,List.getElem?_range ht];simp only[afb,List.length_range,aeM];by_cases he:i*n+j=t
  ·rw[if_pos he,if_pos h,<- he,xb hj,xc hj,if_pos ⟨rfl,rfl⟩]
  ·rw[if_neg he];have:¬(t / n=i/\t%n=j):=by rintro ⟨h1,h2⟩;apply he;rw[<- h1,<- h2,adi];exact aee t n
   rw[if_neg this]
 ·rw[List.getElem?_eq_none (by rw[af6,o_]; omega),List.getElem?_eq_none (by rw[o_]; omega)]
theorem ri {n:Nat} (h:n<=1000):n*n<=1000000:=by have:n*n<=1000*1000:=ad7 h h;omega
theorem fV (i j n:Nat):(i:Int)*(n:Int)+(j:Int)=((i*n+j:Nat):Int):=by rw[Int.natCast_add,adB]
theorem fW {n i j:Nat} (hn:n<=1000) (hi:i<n) (hj:j<n):ah .i64 ((i:Int)*(n:Int))=true/\ah .i64 (((i*n+j:Nat):Int))=true:=by have h1:=ri hn;have h2:=kR hi hj;rw[<- adB];exact⟨ab (by omega) (by omega),ab (by omega) (by omega)⟩
theorem oT {N n i j:Nat} (hn:n<=1000) (hi:i<n) (hj:j<n) (f:Nat->Nat->Rat) (k:Kx5) :
  aV N n n i j (mat enc n f) k=kq (f i j) k:=by
 obtain⟨h1,h2⟩:=fW hn hi hj;have h3:=kR hi hj
 (unfold aV; rw[ac]; unfold eQ)
 rw[fV,aa h1,aa h2,o_,adk,aa adc,aa (ade h3),lm enc n f hi hj];rfl
theorem MR {N n i j:Nat} (hn:n<=1000) (hi:i<n) (hj:j<n) (f:Nat->Nat->Rat) (v:Rat) (k:List RY1->Bool) :
  fe N n n i j (decide (v.num<0)) (ae v.num.natAbs) false (ae v.den) (mat enc n f) k=k (mat enc n (λa b=>if a=i/\b=j then v else f a b)):=by
 obtain⟨h1,h2⟩:=fW hn hi hj;have h3:=kR hi hj;unfold fe jr;rw[fV,aa h1,aa h2,o_,adk,aa adc,aa (ade h3)];exact agr k (GB enc n f hi hj v)
theorem rP {N n i j:Nat} (hn:n<=1000) (hi:i<n) (hj:j<n) (f:Nat->Nat->Rat) (k:Kz3) :
  DI N n n i j (mat dD n f) k=k (i*n+j):=by
 obtain⟨h1,h2⟩:=fW hn hi hj;have h3:=kR hi hj;unfold DI RD;rw[fV,aa h1,aa h2,o_,adk,aa adc,aa (ade h3)]
theorem BG (l:List RY2) (i:Nat):List.set l i (((List.getD l i ((false,[]),(false,[]))).1.1,(List.getD l i ((false,[]),(false,[]))).1.2),((List.getD l i ((false,[]),(false,[]))).2.1,(List.getD l i ((false,[]),(false,[]))).2.2))=l:=by
 show List.set l i (List.getD l i ((false,[]),(false,[])))=l;apply List.ext_getElem?;intro t;rw[List.getElem?_set];by_cases h:i=t
 ·subst h;rw[if_pos rfl];by_cases hl:i<l.length
  ·rw[if_pos hl,List.getD_eq_getElem?_getD,List.getElem?_eq_getElem hl]; rfl
  ·rw[if_neg hl,List.getElem?_eq_none (by omega)]
 ·rw[if_neg h]
theorem tz {σ:Type} {step:σ->(σ->Bool)->Bool} (C:Nat->σ) (m n:Nat) (hmn:m<=n) {N:Nat} (hn:n<N) {out:Bool} (hs:∀ i,m<=i->i<n -> ∀ K:σ->Bool,step (C i) K=K (C (i+1))) (hx:∀ K,step (C n) K=out):ak N step (C m)=out:=by have:=aD (step:=step) (λi=>C (m+i)) (n - m) (N:=N) (by omega) (out:=out) (λi hi K=>hs (m+i) (by omega) (by omega) K) (λK=>by show step (C (m+(n - m))) K=out; rw[show m+(n - m)=n by omega]; exact hx K);exact this
def uZ (f:Nat->Nat->Rat) (i c:Nat) (x:Rat) (t:Nat):Nat->Nat->Rat:=λa b=>if a=i/\b<t then f i b+f c b*x else f a b
def fk (f:Nat->Nat->Rat) (c m:Nat):Nat->Nat->Rat:=λa b=>if c<a/\a<m then f a b - f a c / f c c*f c b else f a b
def pE (B n:Nat) (f:Nat->Nat->Rat):Prop:=∀ a b,a<n->b<n->Bq B (f a b)
theorem KM {N B n i c:Nat} (hF:Fuel N) (hB:B<=300000000000) (hn:n<=1000) (hi:i<n) (hc:c<n) (hic:c ≠ i) {f:Nat->Nat->Rat} (hf:pE B n f) {x:Rat} (hx:Bq (2*B) x) (k:List RY1->Bool) :
  fa N n n i c (decide (x.num<0)) (ae x.num.natAbs) false (ae x.den) (mat enc n f) k=k (mat enc n (uZ f i c x n)):=by
 have hN:=hF.lt
 (unfold fa; rw[ac]; unfold eP)
 have h0:mat enc n f=mat enc n (uZ f i c x 0):=jA _ _ (λa b _ _=>by unfold uZ; rw[if_neg (by omega)]);rw[h0];refine aD (λt:Nat=>((t:Int),mat enc n (uZ f i c x t))) n (by omega) ?_ ?_
 ·intro t ht K;unfold ck;dsimp only;rw[ade (by omega:(t:Int)<(n:Int)),adh,oT hn hi ht];have e1:uZ f i c x t i t=f i t:=by unfold uZ; rw[if_neg (by omega)]
  have e2:uZ f i c x t c t=f c t:=by unfold uZ; rw[if_neg (by omega)]
  unfold kq kr;dsimp only;rw[oT hn hc ht,e1,e2];unfold kq kr;dsimp only;rw[ML hF (B:=2*B) (by omega) ((hf c t hc ht).mono (by omega)) hx];unfold kq kr;dsimp only;rw[MJ hF (B:=3*B) (by omega) ((hf i t hi ht).mono (by omega)) ((AN (hf c t hc ht) hx).mono (by omega))];unfold kq kr;dsimp only;rw[MR hn hi ht,aa adb];have e3:mat enc n (λa b=>if a=i/\b=t then f i t+f c t*x else uZ f i c x t a b)=mat enc n (uZ f i c x (t+1)):=jA _ _ (λa b _ _=>by
   unfold uZ;by_cases h:a=i/\b=t
   ·rw[if_pos h,if_pos (by omega),h.2]
   ·rw[if_neg h];by_cases h2:a=i/\b<t
    ·rw[if_pos h2,if_pos (by omega)]
    ·rw[if_neg h2,if_neg (by omega)])
  rw[e3];rfl
 ·intro K;unfold ck;dsimp only;rw[adf (by omega:¬(n:Int)<(n:Int)),adg]
def nk (f:Nat->Nat->Rat) (i c:Nat) (r:Rat) (t:Nat):Nat->Nat->Rat:=λa b=>if a=i/\b<t then f i b - r*f c b else f a b
theorem H3 {N B n i c:Nat} (hF:Fuel N) (hB:B<=300000000000) (hn:n<=1000) (hi:i<n) (hc:c<n) (hic:c ≠ i) {f:Nat->Nat->Rat} (hf:pE B n f) {r:Rat} (hx:Bq (2*B) r) (k:List RY2->Bool) :
  Q_ N n n i c (mat dD n f) (decide (r.num<0)) (ai r.num.natAbs) false (ai r.den) k=k (mat dD n (nk f i c r n)):=by
 have hN:=hF.lt
 (unfold Q_; rw[ac]; unfold OU)
 have h0:mat dD n f=mat dD n (nk f i c r 0):=jA _ _ (λa b _ _=>by unfold nk; rw[if_neg (by omega)]);rw[h0];refine aD (λt:Nat=>((t:Int),mat dD n (nk f i c r t))) n (by omega) ?_ ?_
 ·intro t ht K;unfold BP;dsimp only;rw[ade (by omega:(t:Int)<(n:Int)),adh,rP hn hi ht,rP hn hi ht,rP hn hc ht,BG];have e1:nk f i c r t i t=f i t:=by unfold nk; rw[if_neg (by omega)]
  have e2:nk f i c r t c t=f c t:=by unfold nk; rw[if_neg (by omega)]
  rw[lm dD n _ hi ht,lm dD n _ hc ht,e1,e2];unfold dD;dsimp only;rw[KQ hF (B:=2*B) (by omega) hx ((hf c t hc ht).mono (by omega))];unfold kqR krR;dsimp only;rw[aa (ade rfl),K1 hF (B:=3*B) (by omega) ((hf i t hi ht).mono (by omega)) ((AN hx (hf c t hc ht)).mono (by omega))];unfold kqR krR;dsimp only;rw[aa adb];have e4:=GB dD n (nk f i c r t) hi ht (f i t - r*f c t);have e3:mat dD n (λa b=>if a=i/\b=t then f i t - r*f c t else nk f i c r t a b)=mat dD n (nk f i c r (t+1)):=jA _ _ (λa b _ _=>by
   unfold nk;by_cases h:a=i/\b=t
   ·rw[if_pos h,if_pos (by omega),h.2]
   ·rw[if_neg h];by_cases h2:a=i/\b<t
    ·rw[if_pos h2,if_pos (by omega)]
    ·rw[if_neg h2,if_neg (by omega)])
  rw[e3]at e4;exact agr (λl=>K ((t:Int)+1,l)) e4
 ·intro K;unfold BP;dsimp only;rw[adf (by omega:¬(n:Int)<(n:Int)),adg]
def te (g:Nat->Rat):Nat->Nat->Bool
 | i,0=>true
 | i,d+1=>decide (g i=0)&&te g (i+1) d
theorem xy {g h:Nat->Rat}:∀ d i,(∀ j,i<=j->j<i+d->g j=h j)->te g i d=te h i d
 | 0,i,_=>rfl
 | d+1,i,e=>by unfold te;rw[e i (ads _) (by omega),xy d (i+1) (λj h1 h2=>e j (by omega) (by omega))]
def uJ (n:Nat):Nat->Nat->Int->(Nat->Nat->Rat)->Int
 | 0,c,s,f=>s
 | d+1,c,s,f=>if (f c c).num<0 then 1 else if f c c=0 then(if te (λi=>f i c) (c+1) d=true then uJ n d (c+1) 2 f else 1)else uJ n d (c+1) s (fk f c n)
theorem DL (z:Int):decide (uH z<0)=decide (z<0):=by
 unfold uH;by_cases h0:z=0
 ·rw[if_pos h0,h0]
 ·rw[if_neg h0];by_cases h:z<0
  ·rw[if_pos h,ade h]; rfl
  ·rw[if_neg h,adf h]; rfl
theorem qT {x:Rat}:(x.num=0)↔x=0:=Rat.num_eq_zero
theorem rh (x:Rat):(uH x.num==0)=decide (x=0):=by
 rw[ID];by_cases h:x=0
 ·rw[ade h,ade (qT.2 h)]
 ·rw[adf h,adf (λg=>h (qT.1 g))]
theorem Nt (x:Rat):(uH x.num != 0) = !decide (x=0):=by rw[<- rh]; rfl
theorem rL {B n c m:Nat} {f:Nat->Nat->Rat} (hf:pE B n f) (hc:c<n) (h0:f c c ≠ 0):pE (4*B+1) n (fk f c m):=by
 intro a b ha hb;unfold fk;split
 ·exact(IU (hf a b ha hb) (AN (Ea (hf a c ha hc) (hf c c hc hc) (λh=>h0 (qT.1 h))) (hf c b hc hb))).mono (by omega)
 ·exact(hf a b ha hb).mono (by omega)
theorem xN (f:Nat->Nat->Rat) (c:Nat) {α:Type} (g:Rat->α) (n:Nat):mat g n (fk f c (c+1))=mat g n f:=jA _ _ (λa b _ _=>by unfold fk; rw[if_neg (by omega)])
theorem qF {f:Nat->Nat->Rat} {c i:Nat} (b:Nat):fk f c i i b=f i b:=by unfold fk; rw[if_neg (by omega)]
theorem xO {f:Nat->Nat->Rat} {c i:Nat} (b:Nat):fk f c i c b=f c b:=by unfold fk; rw[if_neg (by omega)]
theorem vh {f:Nat->Nat->Rat} {c i a b:Nat} (h:c<i):fk f c (i+1) a b=if a=i then f i b - f i c / f c c*f c b else fk f c i a b:=by
 unfold fk;by_cases h1:a=i
 ·rw[if_pos h1,if_pos (by omega),h1]
 ·rw[if_neg h1];by_cases h2:c<a/\a<i
  ·rw[if_pos h2,if_pos (by omega)]
  ·rw[if_neg h2,if_neg (by omega)]
theorem Lg (x y p q:Rat):q+y*(0 - x / p)=q - x / p*y:=by grind
theorem Lf (p q y:Rat):q - 0 / p*y=q:=by grind
theorem Lh (x y p:Rat):x / p*y=y / p*x:=by grind
theorem KX {N B n c:Nat} (hF:Fuel N) (hB:4*B+1<=300000000000) (hn:n<=1000) (hc:c<n) (s:Int) (t1 t2:Int) {f:Nat->Nat->Rat} (hf:pE B n f) (h0:f c c ≠ 0) (e0:Int->List RY1->Bool) (e1:List RY1->Bool) :
  ak N (ay N s (c:Int) t1 t2 (n:Int) (n:Int) (decide ((f c c).num<0)) (ae (f c c).num.natAbs) false (ae (f c c).den) e0 e1) (((c+1:Nat):Int),mat enc n f)=e1 (mat enc n (fk f c n)):=by
 have hN:=hF.lt;rw[<- xN f c enc n];refine tz (λi:Nat=>((i:Int),mat enc n (fk f c i))) (c+1) n (by omega) (by omega) ?_ ?_
 ·intro i hi1 hi2 K;unfold ay;dsimp only;rw[ade (by omega:(i:Int)<(n:Int)),adh,oT hn hi2 hc,qF];unfold kq kr;dsimp only;rw[ll,rh];by_cases hz:f i c=0
  ·rw[ade hz,adh,aa adb];have:mat enc n (fk f c (i+1))=mat enc n (fk f c i):=jA _ _ (λa b _ _=>by
    rw[vh (by omega)];by_cases h1:a=i
    ·rw[if_pos h1,h1,qF,hz,Lf]
    ·rw[if_neg h1])
   rw[this];rfl
  ·rw[adf hz,adg,ll,rh,adf h0,adg,Fe hF];unfold kq kr;dsimp only;have hp:(f c c).num ≠ 0:=λh=>h0 (qT.1 h)
   have bx:=hf i c hi2 hc;have bp:=hf c c hc hc;have bq:=Ea bx bp hp;rw[MP hF (B:=B) (by omega) bx bp hp];unfold kq kr;dsimp only;have bz:Bq (B+B+1) 0:=FX;rw[C7 hF (B:=B+B+1) (by omega) bz (bq.mono (by omega))];unfold kq kr;dsimp only;have bs:Bq (2*(4*B+1)) (0 - f i c / f c c):=(IU (A:=1) (FX (B:=0)) bq).mono (by omega);rw[KM hF (B:=4*B+1) hB hn hi2 hc (by omega) (rL hf hc h0) bs,aa adb];have:mat enc n (fk f c (i+1))=mat enc n (uZ (fk f c i) i c (0 - f i c / f c c) n):=jA _ _ (λa b _ hb=>by
    rw[vh (by omega)];unfold uZ;by_cases h1:a=i
    ·rw[if_pos h1,if_pos ⟨h1,hb⟩,qF,xO,Lg]
    ·rw[if_neg h1,if_neg (by omega)])
   rw[this];rfl
 ·intro K;unfold ay;dsimp only;rw[adf (by omega:¬(n:Int)<(n:Int)),adg]
theorem H9 {N n c:Nat} (hF:Fuel N) (hn:n<=1000) (hc:c<n) (s:Int) (t1 t2:Int) {f:Nat->Nat->Rat} (h0:f c c=0) (e0:Int->List RY1->Bool) (e1:List RY1->Bool):∀(d i M:Nat),i+d=n->d<M ->
  ak M (ay N s (c:Int) t1 t2 (n:Int) (n:Int) (decide ((f c c).num<0)) (ae (f c c).num.natAbs) false (ae (f c c).den) e0 e1) ((i:Int),mat enc n f)=if te (λi=>f i c) i d=true then e1 (mat enc n f)else e0 1 (mat enc n f):=by
 intro d;induction d with
 | zero=>
  intro i M hi hM;cases M with
  | zero=>omega
  | succ M=>
   show ay _ _ _ _ _ _ _ _ _ _ _ _ _ ((i:Int),mat enc n f) (ak M _)=_;unfold ay te;dsimp only;rw[adf (by omega:¬(i:Int)<(n:Int)),adg,if_pos rfl]
 | succ d ih=>
  intro i M hi hM;cases M with
  | zero=>omega
  | succ M=>
   have hi2:i<n:=by omega
   show ay _ _ _ _ _ _ _ _ _ _ _ _ _ ((i:Int),mat enc n f) (ak M _)=_;rw[ay];rw[ade (by omega:(i:Int)<(n:Int)),adh,oT hn hi2 hc];unfold kq kr;dsimp only;rw[ll,rh,te];by_cases hz:f i c=0
   ·rw[ade hz,adh,aa adb,aek];exact ih (i+1) M (by omega) (by omega)
   ·rw[adf hz,adg,ll,rh,ade h0,adh,afQ,if_neg (by decide)]
theorem Bj {N n:Nat} (hF:Fuel N) (hn:n<=1000) (k:Kz2):∀(d c B M:Nat) (s:Int) (f:Nat->Nat->Rat),c+d=n->d<M->pE B n f->(B+1)*4 ^ d<=100000000000 ->
  ak M (aK N (n:Int) (n:Int) (n:Int) (λt _=>k t) (λt _=>k t)) (s,(c:Int),mat enc n f)=k (uJ n d c s f):=by
 intro d;induction d with
 | zero=>
  intro c B M s f hc hM _ _;cases M with
  | zero=>omega
  | succ M=>
   show aK _ _ _ _ _ _ (s,(c:Int),mat enc n f) (ak M _)=_;rw[aK];rw[adf (by omega:¬(c:Int)<(n:Int)),adg];rfl
 | succ d ih=>
  intro c B M s f hc hM hf hB;cases M with
  | zero=>omega
  | succ M=>
   have hN:=hF.lt;have hcn:c<n:=by omega
   have h4:(4*B+1+1)*4 ^ d<=100000000000:=by
    have h1:(4*B+1+1)*4 ^ d<=(B+1)*4*4 ^ d:=adl _ (by omega);have h2:(B+1)*4*4 ^ d=(B+1)*4 ^ (d+1):=by rw[adr,adq,adi 4 (4 ^ d)]
    omega
   have hB2:4*B+1+1<=100000000000:=by have:0<4 ^ d:=aen (by decide);have h1:(4*B+1+1)*1<=(4*B+1+1)*4 ^ d:=adn _ this;omega
   show aK _ _ _ _ _ _ (s,(c:Int),mat enc n f) (ak M _)=_;rw[aK];rw[ade (by omega:(c:Int)<(n:Int)),adh,oT hn hcn hcn];unfold kq kr;dsimp only;rw[ll,DL,uJ];by_cases hneg:(f c c).num<0
   ·rw[ade hneg,adh,if_pos hneg]
   ·rw[adf hneg,adg,if_neg hneg,aa adb];by_cases h0:f c c=0
    ·rw[if_pos h0];have hr:=λe0 e1=>H9 hF hn hcn s (n:Int) (c:Int) h0 e0 e1 d (c+1) N (by omega) (by omega)
     rw[adf hneg]at hr;rw[show(c:Int)+1=((c+1:Nat):Int) from rfl,hr];by_cases hz:te (λi=>f i c) (c+1) d=true
     ·rw[if_pos hz,if_pos hz];have hs:=ll (N:=N) (f c c);rw[adf hneg]at hs;rw[hs,rh,ade h0,adh,aa adb];exact ih (c+1) B M 2 f (by omega) (by omega) hf (by have:(B+1)*4 ^ d<=(4*B+1+1)*4 ^ d:=adl _ (by omega);omega)
     ·rw[if_neg hz,if_neg hz]
    ·rw[if_neg h0];have hr:=λe0 e1=>KX hF (by omega) hn hcn s (n:Int) (c:Int) hf h0 e0 e1
     rw[adf hneg]at hr;rw[show(c:Int)+1=((c+1:Nat):Int) from rfl,hr];have hs:=ll (N:=N) (f c c);rw[adf hneg]at hs;rw[hs,rh,adf h0,adg,aa adb];exact ih (c+1) (4*B+1) M s (fk f c n) (by omega) (by omega) (rL hf hcn h0) h4
theorem K2 {N B n:Nat} (hF:Fuel N) (hB:B<=300000000000) (hn:n<=1000) {f:Nat->Nat->Rat} (hf:pE B n f) (hs:∀ a b,a<n->b<n->f a b=f b a) (k:Bool) :
  cS N n n (mat enc n f) k=k:=by
 have hN:=hF.lt
 (unfold cS; rw[ac]; unfold cI)
 refine aD (λt:Nat=>(t:Int)) n (by omega) ?_ ?_
 ·intro i hi K;unfold bD;dsimp only;rw[ade (by omega:(i:Int)<(n:Int)),adh];refine aD (λt:Nat=>(t:Int)) i (by omega) ?_ ?_
  ·intro j hj K';have hj2:j<n:=by omega
   unfold bE;dsimp only;rw[ade (by omega:(j:Int)<(i:Int)),adh,oT hn hi hj2];unfold kq kr;dsimp only;rw[oT hn hj2 hi];unfold kq kr;dsimp only;rw[C7 hF (B:=B) (by omega) (hf i j hi hj2) (hf j i hj2 hi)];unfold kq kr;dsimp only;have e:uH (f i j - f j i).num=0:=by
    have:f i j - f j i=0:=by rw[hs i j hi hj2]; grind
    rw[this]; rfl
   rw[ll,e,oS,aa adb];rfl
  ·intro K';unfold bE;dsimp only;rw[adf (by omega:¬(i:Int)<(i:Int)),adg,aa adb];rfl
 ·intro K;unfold bD;dsimp only;rw[adf (by omega:¬(n:Int)<(n:Int)),adg]
theorem HX {N B n:Nat} (hF:Fuel N) (hn:n<=1000) {f:Nat->Nat->Rat} (hf:pE B n f) (hs:∀ a b,a<n->b<n->f a b=f b a) (hB:(B+1)*4 ^ n<=100000000000) (k:Kz2) :
  ek N n n (mat enc n f) (λt _=>k t)=k (uJ n n 0 3 f):=by
 have hN:=hF.lt;have hB2:B<=300000000000:=by have:0<4 ^ n:=aen (by decide);have h1:(B+1)*1<=(B+1)*4 ^ n:=adn _ this;omega
 unfold ek iS;have e:((n:Int)==(n:Int))=((0:Int)==0):=by simp
 rw[e,oS,K2 hF hB2 hn hf hs]
 (unfold ga; rw[ac]; unfold dc)
 exact Bj hF hn k n 0 B N 3 f (by omega) (by omega) hf hB
theorem H_ {N B n c:Nat} (hF:Fuel N) (hB:4*B+1<=300000000000) (hn:n<=1000) (hc:c<n) (s:Int) {f:Nat->Nat->Rat} (hf:pE B n f) (h0:f c c ≠ 0) (e0:List RY2->Bool) :
  ak N (yX N s (c:Int) (c*n+c) (n:Int) (n:Int) e0) (((c+1:Nat):Int),mat dD n f)=e0 (mat dD n (fk f c n)):=by
 have hN:=hF.lt;rw[<- xN f c dD n];refine tz (λi:Nat=>((i:Int),mat dD n (fk f c i))) (c+1) n (by omega) (by omega) ?_ ?_
 ·intro i hi1 hi2 K;unfold yX;dsimp only;have hne:¬(c*n+c=i*n+c):=by
   intro h;have:c*n=i*n:=by omega
   have:=aeJ (by omega) this;omega
  rw[ade (by omega:(i:Int)<(n:Int)),adh,rP hn hi2 hc,adf hne,aa (a:=(!false&&true)) rfl,BG,BG,lm dD n _ hi2 hc,lm dD n _ hc hc,qF,xO];have hp:(f c c).num ≠ 0:=λh=>h0 (qT.1 h)
  have bx:=hf i c hi2 hc;have bp:=hf c c hc hc;have bq:=Ea bx bp hp;have hq:=λkk=>KU (N:=N) (b1:=false) (b2:=false) hF (B:=B) (by omega) bx bp hp kk
  have he:∀ x:Rat,dD x=((decide (x.num<0),ai x.num.natAbs),(false,ai x.den)):=λx=>rfl
  rw[he (f i c),he (f c c)];dsimp only;rw[hq];unfold kqR krR;dsimp only;rw[H3 hF (B:=4*B+1) hB hn hi2 hc (by omega) (rL hf hc h0) (bq.mono (by omega)),aa adb];have:mat dD n (fk f c (i+1))=mat dD n (nk (fk f c i) i c (f i c / f c c) n):=jA _ _ (λa b _ hb=>by
   rw[vh (by omega)];unfold nk;by_cases h1:a=i
   ·rw[if_pos h1,if_pos ⟨h1,hb⟩,qF,xO]
   ·rw[if_neg h1,if_neg (by omega)])
  rw[this];rfl
 ·intro K;unfold yX;dsimp only;rw[adf (by omega:¬(n:Int)<(n:Int)),adg]
theorem E8 {N n c:Nat} (hF:Fuel N) (hn:n<=1000) (hc:c<n) {f:Nat->Nat->Rat} (e0:Int->Bool) (e1:Bool):∀(d i M:Nat),i+d=n->d<M ->
  ak M (y_ N (c:Int) (n:Int) (n:Int) (mat dD n f) e0 e1) ((i:Int))=if te (λi=>f c i) i d=true then e1 else e0 1:=by
 intro d;induction d with
 | zero=>
  intro i M hi hM;cases M with
  | zero=>omega
  | succ M=>
   show y_ _ _ _ _ _ _ _ (i:Int) (ak M _)=_;unfold y_ te;dsimp only;rw[adf (by omega:¬(i:Int)<(n:Int)),adg,if_pos rfl]
 | succ d ih=>
  intro i M hi hM;cases M with
  | zero=>omega
  | succ M=>
   have hi2:i<n:=by omega
   show y_ _ _ _ _ _ _ _ (i:Int) (ak M _)=_;rw[y_];have he:∀ x:Rat,dD x=((decide (x.num<0),ai x.num.natAbs),(false,ai x.den)):=λx=>rfl
   rw[ade (by omega:(i:Int)<(n:Int)),adh,rP hn hc hi2,lm dD n _ hc hi2,he (f c i)];dsimp only;rw[vv,Nt,te];by_cases hz:f c i=0
   ·rw[ade hz,ad8,adg,aa adb,aek];exact ih (i+1) M (by omega) (by omega)
   ·rw[adf hz,adW,adh,afQ,if_neg (by decide)]
def QE (n c:Nat) (f:Nat->Nat->Rat):Prop:=∀ a b,c<=a->c<=b->a<n->b<n->f a b=f b a
theorem Kf {n c:Nat} {f:Nat->Nat->Rat} (h:QE n c f) (hc:c<n):QE n (c+1) (fk f c n):=by intro a b ha hb han hbn;unfold fk;rw[if_pos ⟨by omega,han⟩,if_pos ⟨by omega,hbn⟩,h a b (by omega) (by omega) han hbn,h a c (by omega) (by omega) han hc,h c b (by omega) (by omega) hc hbn,Lh]
theorem HR {N n:Nat} (hF:Fuel N) (hn:n<=1000) (k:Kz2):∀(d c B M:Nat) (s:Int) (f:Nat->Nat->Rat),c+d=n->d<M->pE B n f->QE n c f->(B+1)*4 ^ d<=100000000000 ->
  ak M (yZ N (n:Int) (n:Int) (λt=>k t) (λt=>k t)) (s,(c:Int),mat dD n f)=k (uJ n d c s f):=by
 intro d;induction d with
 | zero=>
  intro c B M s f hc hM _ _ _;cases M with
  | zero=>omega
  | succ M=>
   show yZ _ _ _ _ _ (s,(c:Int),mat dD n f) (ak M _)=_;rw[yZ];rw[adf (by omega:¬(c:Int)<(n:Int)),adg];rfl
 | succ d ih=>
  intro c B M s f hc hM hf hsy hB;cases M with
  | zero=>omega
  | succ M=>
   have hN:=hF.lt;have hcn:c<n:=by omega
   have h4:(4*B+1+1)*4 ^ d<=100000000000:=by
    have h1:(4*B+1+1)*4 ^ d<=(B+1)*4*4 ^ d:=adl _ (by omega);have h2:(B+1)*4*4 ^ d=(B+1)*4 ^ (d+1):=by rw[adr,adq,adi 4 (4 ^ d)]
    omega
   have hB2:4*B+1+1<=100000000000:=by have:0<4 ^ d:=aen (by decide);have h1:(4*B+1+1)*1<=(4*B+1+1)*4 ^ d:=adn _ this;omega
   have he:∀ x:Rat,dD x=((decide (x.num<0),ai x.num.natAbs),(false,ai x.den)):=λx=>rfl
   show yZ _ _ _ _ _ (s,(c:Int),mat dD n f) (ak M _)=_;rw[yZ];rw[ade (by omega:(c:Int)<(n:Int)),adh,rP hn hcn hcn,lm dD n _ hcn hcn,he (f c c)];dsimp only;rw[vv,DL,uJ];by_cases hneg:(f c c).num<0
   ·rw[ade hneg,adh,if_pos hneg]
   ·rw[if_neg hneg,vv,rh];rw[adf hneg,adg];by_cases h0:f c c=0
    ·rw[if_pos h0,ade h0,adh,aa adb];rw[show(c:Int)+1=((c+1:Nat):Int) from rfl,E8 hF hn hcn _ _ d (c+1) N (by omega) (by omega)];have ez:te (λi=>f c i) (c+1) d=te (λi=>f i c) (c+1) d:=xy _ _ (λj h1 h2=>hsy c j (by omega) (by omega) hcn (by omega));rw[ez];by_cases hz:te (λi=>f i c) (c+1) d=true
     ·rw[if_pos hz,if_pos hz,aa adb];exact ih (c+1) B M 2 f (by omega) (by omega) hf (λa b ha hb=>hsy a b (by omega) (by omega)) (by have:(B+1)*4 ^ d<=(4*B+1+1)*4 ^ d:=adl _ (by omega);omega)
     ·rw[if_neg hz,if_neg hz]
    ·rw[if_neg h0,adf h0,adg,aa adb];rw[show(c:Int)+1=((c+1:Nat):Int) from rfl,H_ hF (by omega) hn hcn s hf h0,aa adb];exact ih (c+1) (4*B+1) M s (fk f c n) (by omega) (by omega) (rL hf hcn h0) (Kf hsy hcn) h4
def fm (n:Nat) (l:List Fl):Nat->Nat->Rat:=λi j=>pe (ofE (l.getD (i*n+j) none))
theorem Gz {α:Type} (g:Rat->α) {n:Nat} {l:List Fl} (h:l.length=n*n):l.map (λx=>g (pe (ofE x)))=mat g n (fm n l):=by
 apply List.ext_getElem?;intro t;by_cases ht:t<n*n
 ·unfold mat;rw[List.getElem?_map,List.getElem?_map,List.getElem?_range ht,List.getElem?_eq_getElem (by omega)];simp only[aeM];unfold fm;have:t / n*n+t%n=t:=by rw[adi]; exact aee t n
  rw[this,List.getD_eq_getElem?_getD,List.getElem?_eq_getElem (by omega)];rfl
 ·rw[List.getElem?_eq_none (by rw[afb]; omega),List.getElem?_eq_none (by rw[o_]; omega)]
theorem kw {l:List Fl} (h:bC l=true) {i:Nat} (hi:i<l.length):aY (l.getD i none)=true:=by unfold bC at h;exact nJ.1 h i hi
def AllW (l:List Fl):Prop:=∀ x,x ∈ l->FW x
theorem AllW.get {l:List Fl} (h:AllW l) {i:Nat} (hi:i<l.length):FW (l.getD i none):=by rw[List.getD_eq_getElem?_getD,List.getElem?_eq_getElem hi];exact h _ (aey hi)
theorem A2 {n:Nat} {l:List Fl} (h:l.length=n*n) (hf:bC l=true):pE 1200 n (fm n l):=by intro a b ha hb;have:=kR ha hb;exact M3 (kw hf (by omega))
theorem G0 {N:Nat} (x:Int) (k:Kz1):GP N x k=k (decide (0<=x/\x<=12)):=by
 unfold GP NF;by_cases h:x>=0
 ·rw[ade h,show(true==true)=true from rfl,adh];congr 1;by_cases h2:x<=12
  ·rw[ade h2,ade ⟨h,h2⟩]
  ·rw[adf h2,adf (by omega)]
 ·rw[adf h,show(false==true)=false from rfl,adg,adf (by omega)]
theorem GD {a b:Int} (h1:0<=a/\a<=12) (h2:0<=b/\b<=12):0<=a*b/\a*b<=144:=by have h3:a*b<=12*b:=Int.mul_le_mul_of_nonneg_right h1.2 h2.1;have h4:0<=a*b:=Int.mul_nonneg h1.1 h2.1;omega
theorem tA {N:Nat} (hN:1000<=N) (a b:Int) (l:List Fl) (k:Kz2):LA N a b l k=k (chk a b l):=by
 (unfold LA; rw[ac]; unfold O4 chk)
 rw[G0];by_cases h1:0<=a/\a<=12
 ·rw[ade h1,show((!true)==false)=true from rfl,adh,G0];by_cases h2:0<=b/\b<=12
  ·have h3:=GD h1 h2;rw[ade h2,if_pos ⟨h1,h2⟩,show(!true)=false from rfl,adg,aa adb];by_cases h4:(l.length:Int)=a*b
   ·have:(((l.length:Nat):Int) != a*b)=false:=by simp[h4]
    have h6:l.length<=144:=by rw[<- h4]at h3; omega
    rw[this,adg,if_pos h4,kC l ⟨by omega,by omega⟩];cases h5:bC l
    ·rfl
    ·rfl
   ·have:(((l.length:Nat):Int) != a*b)=true:=by simp[h4]
    rw[this,adh,if_neg h4]
  ·rw[adf h2,if_neg (λh=>h2 h.2),show(!false)=true from rfl,adh]
 ·rw[adf h1,if_neg (λh=>h1 h.1)]; rfl
theorem Eo {n:Nat} {l:List Fl} (hn:n<=12) (h:l.length=n*n) (hf:bC l=true):chk n n l=0:=
 qw.2 ⟨⟨by omega,by omega⟩,by rw[h,adB],hf⟩
theorem sN {α:Type} (g:Fl->α) {l:List Fl} {t:Nat} (ht:t<l.length):(l.take (t+1)).map g=(l.take t).map g++[g (l.getD t none)]:=by rw[aex ht,afc,List.getD_eq_getElem?_getD,List.getElem?_eq_getElem ht]; rfl
theorem Bc {N n:Nat} (hF:Fuel N) {l:List Fl} (hn:n<=12) (h:l.length=n*n) (hf:bC l=true) (hw:AllW l) (k:List RY1->Bool) :
  iP N n n l k=k (mat enc n (fm n l)):=by
 have hN:=hF.lt;have hl:=ri (n:=n) (by omega)
 (unfold iP; rw[ac]; unfold iJ)
 rw[tA (by omega),Eo hn h hf,oS,<- Gz enc h];refine aD (λt:Nat=>((t:Int),(l.take t).map (λx=>enc (pe (ofE x))))) l.length (by omega) ?_ ?_
 ·intro t ht K;unfold dw;dsimp only;rw[ade (by omega:(t:Int)<(l.length:Int)),adh,aa adc,adk,C5 hF (kw hf ht) (hw.get ht)];unfold kq kr;dsimp only;rw[sN _ ht,aa (ade (by rw[aes,afb,adV]; simp only[adR,afl]; omega)),aa adb];rfl
 ·intro K;unfold dw;dsimp only;rw[adf (by omega:¬(l.length:Int)<(l.length:Int)),adg,adX]
theorem HN {N n:Nat} (hF:Fuel N) {l:List Fl} (hn:n<=12) (h:l.length=n*n) (hf:bC l=true) (hw:AllW l) (a b:Int) (k:List RY2->Bool) :
  rb N a b l k=k (mat dD n (fm n l)):=by
 have hN:=hF.lt;have hl:=ri (n:=n) (by omega)
 (unfold rb; rw[ac]; unfold qh)
 rw[<- Gz dD h];refine aD (λt:Nat=>((t:Int),(l.take t).map (λx=>dD (pe (ofE x))))) l.length (by omega) ?_ ?_
 ·intro t ht K;unfold kg;dsimp only;rw[ade (by omega:(t:Int)<(l.length:Int)),adh,aa adc,adk,HQ hF (kw hf ht) (hw.get ht)];unfold kqR krR;dsimp only;rw[sN _ ht,aa (ade (by rw[afb,adV]; omega)),aa adb];rfl
 ·intro K;unfold kg;dsimp only;rw[adf (by omega:¬(l.length:Int)<(l.length:Int)),adg,adX]
theorem EQ {N n:Nat} (hF:Fuel N) (hn:n<=12) (k:List RY2->Bool):pq N n n k=k (List.replicate (n*n) ((false,[]),(false,[]))):=by
 have hN:=hF.lt;have hl:=ri (n:=n) (by omega)
 (unfold pq; rw[ac]; unfold ox)
 have h0:([]:List RY2)=List.replicate 0 ((false,[]),(false,[])):=rfl;rw[h0];refine aD (λt:Nat=>((t:Int),List.replicate t ((false,[]),(false,[])))) (n*n) (by omega) ?_ ?_
 ·intro t ht K;unfold je;dsimp only;rw[<- adB,aa adb,ade (by omega:(t:Int)<((n*n:Nat):Int)),adh,aa (ade (by rw[aeB]; omega)),aa adb,aeT];rfl
 ·intro K;unfold je;dsimp only;rw[<- adB,aa adb,adf (by omega:¬((n*n:Nat):Int)<((n*n:Nat):Int)),adg]
theorem CJ {α:Type} (l:List α) (z:α) {t:Nat} (ht:t<=l.length):(l.take t++List.replicate (l.length - t) z).length=l.length:=by rw[aes,adV,aeB]; omega
theorem CK {α:Type} (l:List α) (z:α) {t:Nat} (ht:t<l.length):(l.take t++List.replicate (l.length - t) z).set t (l.getD t z)=l.take (t+1)++List.replicate (l.length - (t+1)) z:=by
 have h1:(l.take t).length=t:=by rw[adV]; omega
 have h2:l.length - t=(l.length - (t+1))+1:=by omega
 rw[afp _ _ (by omega),h1,adQ,h2,ad0,List.set_cons_zero,aex ht,adx,List.getD_eq_getElem?_getD,List.getElem?_eq_getElem ht];rfl
theorem MT {α:Type} (g:Rat->α) (n:Nat) (f:Nat->Nat->Rat) {t:Nat} (ht:t<n*n) (z:α):∃ a b,a<n/\b<n/\(mat g n f).getD t z=g (f a b):=by
 have hn:0<n:=by
  rcases aez n with h0 | h0
  ·rw[h0]at ht; omega
  ·exact h0
 refine⟨t / n,t%n,afa ht,adu _ hn,?_⟩;have:=lm g n f (afa ht) (adu t hn) z;rw[show t / n*n+t%n=t from by rw[adi]; exact aee t n]at this;exact this
theorem EY {N n B:Nat} (hF:Fuel N) (hB:B<=2000000000100) (hn:n<=12) {f:Nat->Nat->Rat} (hf:pE B n f) (k:List RY2->Bool) :
  Lj N n n (mat dD n f) k=k (mat dD n f):=by
 have hN:=hF.lt;have hl:=ri (n:=n) (by omega)
 (unfold Lj; rw[ac]; unfold IW)
 rw[EQ hF hn];have hlen:=o_ dD n f;have h0:List.replicate (n*n) (((false,[]),(false,[])):RY2)=(mat dD n f).take 0++List.replicate ((mat dD n f).length - 0) ((false,[]),(false,[])):=by rw[hlen]; rfl
 rw[h0];refine aD (λt:Nat=>((t:Int),(mat dD n f).take t++List.replicate ((mat dD n f).length - t) ((false,[]),(false,[])))) (mat dD n f).length (by omega) ?_ ?_
 ·intro t ht K;unfold BU;dsimp only;have hfl:=CJ (mat dD n f) (((false,[]),(false,[])):RY2) (t:=t) (by omega);rw[ade (by omega:(t:Int)<((mat dD n f).length:Int)),adh,adk,hfl,aa adc,aa (ade ht),aa adc];obtain⟨a,b,ha,hb,hm⟩:=MT dD n f (t:=t) (by omega) ((false,[]),(false,[]));have hs:=CK (mat dD n f) (((false,[]),(false,[])):RY2) ht;rw[hm]at hs ⊢;have he:∀ x:Rat,dD x=((decide (x.num<0),ai x.num.natAbs),(false,ai x.den)):=λx=>rfl
  have hset:=λb1 b2 l1 l2 kk=>KI (N:=N) hF hB (hf a b ha hb) b1 b2 l1 l2 kk
  generalize List.take t (mat dD n f)++List.replicate ((mat dD n f).length - t) ((false,[]),false,[])=L at *;rw[he (f a b)];dsimp only;rw[hset];unfold kqR krR;dsimp only;rw[aa adb];exact agr (λl=>K ((t:Int)+1,l)) hs
 ·intro K;unfold BU;dsimp only;rw[adf (by omega),adg,adX,adQ,adS,adN]
theorem wO {n:Nat} (hn:n<=12):(1200+1)*4 ^ n<=100000000000:=by
 have h1:4 ^ n<=4 ^ 12:=adv (by decide) hn;have h2:(4:Nat) ^ 12=16777216:=by decide
 rw[h2]at h1;have h3:(1200+1)*4 ^ n<=(1200+1)*16777216:=adn _ h1;omega
def JP (n:Nat) (l:List Fl):Prop:=∀ a b,a<n->b<n->fm n l a b=fm n l b a
def tG (n:Nat) (l:List Fl):Bool:=uJ n n 0 3 (fm n l)==3
theorem C2 {N n:Nat} (hF:Fuel N) {l:List Fl} (hn:n<=12) (h:l.length=n*n) (hf:bC l=true) (hw:AllW l) (hs:JP n l) (k:Ky4) :
  jo N n n l k=k (uJ n n 0 3 (fm n l)) 0:=by
 (unfold jo; rw[ac]; unfold jj)
 rw[Bc hF hn h hf hw];exact HX hF (by omega) (A2 h hf) hs (wO hn) (λt=>k t 0)
theorem oU {N n:Nat} (hF:Fuel N) {l:List Fl} (hn:n<=12) (h:l.length=n*n) (hf:bC l=true) (hw:AllW l) (hs:JP n l) (k:Kz1) :
  cX N n n l k=k (tG n l):=by
 unfold cX mU;rw[C2 hF hn h hf hw hs];rfl
theorem uo {N n:Nat} (hF:Fuel N) {l:List Fl} (hn:n<=12) (h:l.length=n*n) (hf:bC l=true) (hw:AllW l) (hs:JP n l) (k:Kz1) :
  GT N n n l k=k (tG n l):=by
 have hN:=hF.lt;unfold GT NK wL vS;rw[HN hF hn h hf hw];dsimp only
 (unfold Ol; rw[ac]; unfold Jp)
 rw[EY (B:=1200) hF (by decide) hn (A2 h hf)];exact HR hF (by omega) (λt=>k (t==3)) n 0 1200 N 3 (fm n l) (by omega) (by omega) (A2 h hf) (λa b _ _=>hs a b) (wO hn)
theorem KH (N:Nat) (a b:Nat) (k:Kz1):FH N a b k=k (decide (cn (some a)=cn (some b))):=by unfold FH Ry;simp only[BE,sc,AQ,Ai];rw[<- J4 a b (.inr trivial)];rfl
end Go.Proofs.YteifemaagdeomaaGreatDoor
end
section
namespace Go.Proofs.YteifemaagdeomaaGreatDoor
open Go Go.Mach Ieee
set_option maxRecDepth 100000
theorem Ah {N:Nat} (hN:1000<=N) (k:Kz1):sQ2 N k=k true:=by
 obtain⟨M,rfl⟩:∃ M,N=M+1000:=⟨N - 1000,by omega⟩
 kernel_rfl
end Go.Proofs.YteifemaagdeomaaGreatDoor
end
