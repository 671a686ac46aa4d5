/- Laws in plain Lean. Conditions: none. -/
import Derived.Test.YtdinakfmablagaaGreatDoorD1
import Derived.Test.YtdinakfmablagaaGreatDoorFlA
set_option linter.unusedVariables false
section
namespace Go.Proofs.YtdinakfmablagaaGreatDoor
open Go Go.Mach Ieee
theorem Mq {N n j:Nat} (hN:1000<=N) (hj:j<=900) (h:n<4294967296 ^ j):f7 N (aj n):=by have:=cU j n h;exact⟨by omega,by omega⟩
theorem pb {N n:Nat} (hN:1000<=N) (h:n<18446744073709551616):f7 N (aj n):=Mq (j:=2) hN (by decide) (by
 have:(4294967296:Nat) ^ 2=18446744073709551616:=by decide
 omega)
theorem Zx (n:Nat):aD .and .u64 (n:Int) 2047=((n%2048:Nat):Int):=by have:=kg n 11 (by decide);simpa using this
theorem vU (s:Bool) (m:Nat) (i:Int):∃ r,Ieee.double.nearest s m i=Ieee.double.word s r/\r<=9218868437227405312:=by
 unfold Format.nearest;split
 ·exact⟨0,rfl,by omega⟩
 ·rw[eI]; exact⟨_,rfl,aiB _ _⟩
theorem D_ (s:Bool) {r:Nat} (h:r<=9218868437227405312):Ieee.double.read (Ieee.double.word s r)=.infinity s \/ ∃ m i,Ieee.double.read (Ieee.double.word s r)=.number s m i:=by
 have hw:Ieee.double.word s r%9223372036854775808=r:=by unfold Format.word; rw[cw]; cases s <;> simp <;> omega
 have hs:(Ieee.double.word s r / 9223372036854775808%2==1)=s:=by
  unfold Format.word; rw[cw];cases s
  ·simp; omega
  ·have:(9223372036854775808+r) / 9223372036854775808=1:=by omega
   simp[this]
 unfold Format.read;simp only[cw,kf,eI,hw,hs];split
 ·exact .inr ⟨_,_,rfl⟩
 ·split
  ·exact .inr ⟨_,_,rfl⟩
  ·split
   ·exact .inl rfl
   ·omega
theorem Gp (s:Bool) (m:Nat) (i:Int):W64 (Ieee.double.nearest s m i):=by obtain⟨r,h,hr⟩:=vU s m i;rw[h]; exact xt s (by omega)
theorem XK {N:Nat} (hN:1000<=N) {n:Nat} (h:n<=48):bW N n:=⟨by omega,by omega⟩
theorem On (b:Nat):aE (some b)=decide (b%9223372036854775808<9218868437227405312):=by
 unfold aE Format.read;simp only[cw,kf,eI];by_cases h1:b%9223372036854775808<4503599627370496
 ·rw[if_pos h1,afi (by omega)]; rfl
 ·rw[if_neg h1];by_cases h2:b%9223372036854775808<9218868437227405312
  ·rw[if_pos h2,afi h2]; rfl
  ·rw[if_neg h2,afj h2];split <;> rfl
def Nn (x:Fl):Prop:=∃ b,x=some b/\isNaN b=false
theorem Vo {x:Fl} (h:aE x=true):Nn x:=by
 cases x with
 | none=>cases h
 | some b=>
  rw[On]at h;have:=afp h;refine⟨b,rfl,?_⟩;rw[ahX];intro hc;have:=(fK b).1 hc;omega
theorem QA (s:Bool) {r:Nat} (h:r<=9218868437227405312):Nn (some (Ieee.double.word s r)):=by
 refine⟨_,rfl,?_⟩;rw[ahX];intro hc;have h1:=(fK _).1 hc;have hw:Ieee.double.word s r%9223372036854775808=r:=by unfold Format.word; rw[cw]; cases s <;> simp <;> omega
 omega
theorem zZ (s:Bool) (m:Nat) (i:Int):Nn (some (Ieee.double.nearest s m i)):=by obtain⟨r,h,hr⟩:=vU s m i;rw[h]; exact QA s hr
abbrev K4:=Fl->Fl->Fl->Fl->Int->Bool
def gE:Nat->Nat->Int->Nat × Int
 | 0,m,e=>(m,e)
 | f+1,m,e=>if m%2=0 then gE f (m / 2) (e+1)else(m,e)
theorem qT:∀ f m e,m ≠ 0->m<2 ^ f->e<=(gE f m e).2/\(gE f m e).2<=e+f/\(gE f m e).1*2 ^ ((gE f m e).2 - e).toNat=m/\(gE f m e).1<=m
 | 0,m,e,h0,h=>by simp at h; omega
 | f+1,m,e,h0,h=>by
  unfold gE;split
  ·rename_i hm;obtain⟨h1,h2,h3,h4⟩:=qT f (m / 2) (e+1) (by omega) (by rw[afv]at h; omega);refine⟨by omega,by omega,?_,by omega⟩;have:((gE f (m / 2) (e+1)).2 - e).toNat=((gE f (m / 2) (e+1)).2 - (e+1)).toNat+1:=by omega
   rw[this,afv,<- aft,h3]; omega
  ·refine⟨by omega,by omega,?_,afw _⟩;rw[Int.sub_self]; simp
theorem Rj {N:Nat} (hN:1000<=N) {m:Nat} {e:Int} (h0:m ≠ 0) (hm:m<2 ^ 64) (he1 : -2000<=e) (he2:e<=2000) (k:Ky3) :
  p6 N m e k=k ((gE 64 m e).1:Int) (gE 64 m e).2:=by
 (unfold p6; rw[ac]; unfold tR)
 have key:∀ f:Nat,f<=64 -> ∀(m:Nat) (e:Int),m ≠ 0->m<2 ^ f->m<2 ^ 64 -> -2000<=e->e+f<=3000 -> ∀ M:Nat,f<M->ah M (lc N λa b=>k a b) ((m:Int),e)=k ((gE f m e).1:Int) (gE f m e).2:=by
  intro f;induction f with
  | zero=>intro _ m e h0 h; simp at h; omega
  | succ f ih=>
   intro hf m e h0 h h64 h1 h2 M hM;cases M with
   | zero=>omega
   | succ M=>
    show lc N _ ((m:Int),e) (ah M _)=_;have e2:Int.tmod (m:Int) 2=((m%2:Nat):Int):=by rw[age (by omega)]; rfl
    have e3:Int.tdiv (m:Int) 2=((m / 2:Nat):Int):=by rw[ago (by omega)]; rfl
    simp only[lc,gE,e2,e3];by_cases hm:m%2=0
    ·have:(((m%2:Nat):Int)==0)=true:=by rw[hm]; rfl
     have ew:IntKind.wrap .u64 ((m / 2:Nat):Int)=((m / 2:Nat):Int):=by
      rw[am];have:(2:Nat) ^ 64=18446744073709551616:=by decide
      omega
     rw[this,afl,aa afg,if_pos hm,ew];exact ih (by omega) (m / 2) (e+1) (by omega) (by rw[afv]at h; omega) (by omega) (by omega) (by omega) M (by omega)
    ·have:(((m%2:Nat):Int)==0)=false:=by
      have:m%2=1:=by omega
      rw[this]; rfl
     rw[this,afk,if_neg hm]
 have:((m:Int)==0)=false:=by simp; omega
 rw[this,afk];exact key 64 (afw _) m e h0 hm hm (by omega) (by omega) N (by omega)
theorem O_ (N:Nat) (e:Int) (k:Ky3):p6 N 0 e k=k 0 0:=by (unfold p6; rw[ac]; unfold tR); rfl
def ofE (x:Fl):Int × Int:=match x with
 | some b=>match Ieee.double.read b with
  | .number s m i=>if m=0 then(0,0)else((gE 64 m i).2,bc s (gE 64 m i).1)
  | _=>(0,0)
 | none=>(0,0)
theorem D3 {b:Nat} {s:Bool} {m:Nat} {i:Int} (h:Ieee.double.read b=.number s m i):ofE (some b)=if m=0 then(0,0)else((gE 64 m i).2,bc s (gE 64 m i).1):=by unfold ofE; simp only[h]
theorem Lg {N:Nat} (hN:1000<=N) {b:Nat} (hb:W64 b) {s:Bool} {m:Nat} {i:Int} (h:Ieee.double.read b=.number s m i) (k:Kx3) :
    tm N (some b) k=if m=0 then k s 0 0 0 else k s ((gE 64 m i).1:Int) (gE 64 m i).2 0:=by
  obtain⟨h1,h2,h3⟩:=mC h;have hpl:=ob h;have hnn:isNaN b=false:=by rw[ahX]; intro hc; have:=(fK b).1 hc; omega
  have hbits:mV (some b)=b:=by simp only[mV,cnb,hnn]; rfl
  have hsg:(Int.fdiv (b:Int) (2 ^ 63)==1)=s:=by
    have e:(2:Int) ^ 63=((9223372036854775808:Nat):Int):=by decide
    rw[e,kF,h1];have hW:b / 9223372036854775808<2:=by have:=hb; omega
    have:b / 9223372036854775808=0\/b / 9223372036854775808=1:=by omega
    rcases this with h | h <;> rw[h] <;> rfl
  have fin:∀(e:Int),i=e - 1074 -> -1100<=e->e<=2100->lU N (some b) s e (m:Int) k=if m=0 then k s 0 0 0 else k s ((gE 64 m i).1:Int) (gE 64 m i).2 0:=by
    intro e he h5 h6;unfold lU;rw[aa afg,<- he];by_cases h0:m=0
    · subst h0; rw[if_pos rfl]; exact O_ N i _
    · rw[if_neg h0,Rj hN h0 (by have:(2:Nat) ^ 64=18446744073709551616:=(by decide); omega) (by omega) (by omega)]
  (unfold tm; rw[ac]; unfold rZ)
  rw[CQ,hbits];rw[hsg];have n2047:(((b / 4503599627370496%2048:Nat):Int)==2047)=false:=by simp; omega
  rw[n2047,afk];rcases h3 with⟨g1,g2,g3⟩ | ⟨g1,g2,g3⟩
  · have e0:b / 4503599627370496%2048=0:=by omega
    have e1:b%4503599627370496=m:=by omega
    rw[e0,e1,afj (by decide),afk];exact fin 0 (by omega) (by omega) (by omega)
  · have e0:0<b / 4503599627370496%2048:=by omega
    have e1:IntKind.wrap .u64 (((b%4503599627370496:Nat):Int)+4503599627370496)=(m:Int):=by rw[am]; omega
    rw[afi (by omega:((b / 4503599627370496%2048:Nat):Int)>0),afl,aa afg,e1];exact fin _ (by omega) (by omega) (by omega)
theorem VN {N:Nat} (hN:1000<=N) {x:Fl} (hx:aE x=true) (hw:FW x) (k:Int->Bool->List Int->Bool):Bw N x k=exK (ofE x) k:=by
  obtain⟨b,s,m,i,rfl,h⟩:=mj hx;have hb:=hw b rfl
  (unfold Bw; rw[ac]; unfold zW)
  rw[Lg hN hb h,D3 h];by_cases h0:m=0
  · rw[if_pos h0,if_pos h0]
    have:∀ κ,R7 N 0 false κ=κ false (aj 0):=λκ=>uZ (N:=N) 0 (by decide) false (pb hN (by decide)) (by omega) κ
    rw[this];cases s
    · rw[afk]; unfold exK; rfl
    · rw[afl,CP _ _ (pb hN (by decide))]; unfold exK uH; rfl
  · rw[if_neg h0,if_neg h0]
    have hpl:=ob h;obtain⟨g1,g2,g3,g4⟩:=qT 64 m i h0 (by have:(2:Nat) ^ 64=18446744073709551616:=(by decide); omega);have hs:=pb (N:=N) (n:=(gE 64 m i).1) hN (by omega);rw[uZ (N:=N) _ (by omega) false hs (by omega)];cases s
    · rw[afk]
      show _=k (gE 64 m i).2 (decide ((((gE 64 m i).1:Nat):Int)<0)) (aj (((gE 64 m i).1:Nat):Int).natAbs);rw[afj (by omega),agf]
    · rw[afl,CP _ _ hs]; rfl
def EV (x:Int × Int) (v:Int) (E:Nat):Prop:=0<=x.1+E/\x.2*2 ^ (x.1+E).toNat=v
theorem EV.up {x:Int × Int} {v:Int} {E:Nat} (h:EV x v E) (F:Nat):EV x (v*2 ^ F) (E+F):=by
 obtain⟨h1,h2⟩:=h;refine⟨by omega,?_⟩;have:(x.1+((E+F:Nat):Int)).toNat=(x.1+E).toNat+F:=by omega
 rw[this,Int.pow_add,<- Int.mul_assoc,h2]
theorem EV.mul {x y:Int × Int} {v w:Int} {E F:Nat} (h:EV x v E) (g:EV y w F):EV (yP x y) (v*w) (E+F):=by
 obtain⟨h1,h2⟩:=h;obtain⟨g1,g2⟩:=g;refine⟨by simp only[yP]; omega,?_⟩;have:((yP x y).1+((E+F:Nat):Int)).toNat=(x.1+E).toNat+(y.1+F).toNat:=by simp only[yP]; omega
 rw[this,Int.pow_add,<- h2,<- g2];simp only[yP];ac_rfl
theorem EV.neg {x:Int × Int} {v:Int} {E:Nat} (h:EV x v E):EV (SF x) (-v) E:=⟨h.1,by rw[<- h.2]; exact aiw _ _⟩
theorem CC {x:Int × Int} {v:Int} {E:Nat} (h:EV x v E) {e:Int} (he:e<=x.1) (hE:0<=e+E):sB x e*2 ^ (e+E).toNat=v:=by unfold sB;rw[Int.mul_assoc,<- Int.pow_add,show(x.1 - e).toNat+(e+E).toNat=(x.1+E).toNat by omega];exact h.2
theorem EV.add {x y:Int × Int} {v w:Int} {E:Nat} (h:EV x v E) (g:EV y w E):EV (Jr x y) (v+w) E:=by
 unfold Jr;split
 ·rename_i h0;have:v=0:=by rw[<- h.2,h0,Int.zero_mul]
  rw[this,Int.zero_add]; exact g
 ·split
  ·rename_i h0;have:w=0:=by rw[<- g.2,h0,Int.zero_mul]
   rw[this,Int.add_zero]; exact h
  ·have hE:0<=min x.1 y.1+E:=by have:=h.1; have:=g.1; omega
   exact⟨hE,by rw[Int.add_mul,CC h (by omega) hE,CC g (by omega) hE]⟩
theorem EV.sgn {x:Int × Int} {v:Int} {E:Nat} (h:EV x v E):xl x.2=xl v:=by
 rw[<- h.2];have hp:=Py (x.1+E).toNat;unfold xl;rcases Int.lt_trichotomy x.2 0 with h | h | h
 ·have:=Int.mul_neg_of_neg_of_pos h hp;rw[if_neg (by omega),if_pos h,if_neg (by omega),if_pos this]
 ·rw[h,Int.zero_mul]
 ·have:=Int.mul_pos h hp;rw[if_neg (by omega),if_neg (by omega),if_neg (by omega),if_neg (by omega)]
theorem Ex.mono {E B E' B':Nat} {x:Int × Int} (h:Ex E B x) (hE:E<=E') (hB:B<=B'):Ex E' B' x:=⟨by have:=h.1; omega,by have:=h.2.1; omega,bX h.2.2 hB⟩
theorem Ex.mul {E B E' B':Nat} {x y:Int × Int} (h:Ex E B x) (g:Ex E' B' y):Ex (E+E') (B+B') (yP x y):=
 ⟨by have:=h.1; have:=g.1; simp only[yP]; omega,by have:=h.2.1; have:=g.2.1; simp only[yP]; omega,by show aX _ (x.2*y.2).natAbs;rw[ahf]; exact dJ h.2.2 g.2.2⟩
theorem Ex.neg {E B:Nat} {x:Int × Int} (h:Ex E B x):Ex E B (SF x):=⟨h.1,h.2.1,by show aX _ (-x.2).natAbs; rw[ahZ]; exact h.2.2⟩
theorem Bb {E B:Nat} {x:Int × Int} (h:Ex E B x) {e:Int} (he : -(E:Int)<=e):aX (B+2*E) (sB x e).natAbs:=by unfold sB;rw[ahf,Int.natAbs_pow];refine bX (vy h.2.2 _) ?_;have:=h.2.1; omega
theorem Ex.add {E B:Nat} {x y:Int × Int} (h:Ex E B x) (g:Ex E B y):Ex E (B+2*E+1) (Jr x y):=by
 unfold Jr;split
 ·exact g.mono (afw _) (by omega)
 ·split
  ·exact h.mono (afw _) (by omega)
  ·refine⟨by have:=h.1; have:=g.1; show -(E:Int)<=min x.1 y.1; omega,by have:=h.2.1; show min x.1 y.1<=E; omega,?_⟩;have h1:=Bb h (e:=min x.1 y.1) (by have:=h.1; have:=g.1; omega);have h2:=Bb g (e:=min x.1 y.1) (by have:=h.1; have:=g.1; omega);exact lV (wI h1 h2) (Int.natAbs_add_le _ _)
theorem Rb {N:Nat} (hN:1000<=N) {E B:Nat} {x:Int × Int} (hx:Ex E B x) {e:Int} (he : -(E:Int)<=e) (hB:B+2*E<=30000) (k0:Bool) (k1:Bool->List Int->Bool) (h0:x.1<=e->k0=uH x.2 k1) (he2:x.1<=e->e=x.1) :
  Wh N x.1 e (decide (x.2<0)) (aj x.2.natAbs) k0 k1=uH (sB x e) k1:=by
 unfold Wh WV;have hx1:=hx.1;have hx2:=hx.2.1;by_cases hc:x.1<=e
 ·rw[afi (by omega:e>=x.1),afl,h0 hc];have:sB x e=x.2:=by unfold sB;rw[he2 hc,Int.sub_self]; simp
  rw[this]
 ·rw[afj (by omega:¬ e>=x.1),afk,aa afg];have ew:IntKind.wrap .u64 (x.1 - e)=(((x.1 - e).toNat:Nat):Int):=by rw[am]; omega
  rw[ew,CO _ _ _ _ (Cq hN (by omega) hx.2.2)];congr 1;unfold sB bc;by_cases hz:x.2<0
  ·rw[afi hz,if_pos rfl,afF,agM,<- aiw];congr 1; omega
  ·rw[afj hz,if_neg (by decide),afF,agM];congr 1; omega
theorem Ix {x:Fl} (hx:aE x=true):Ex 1100 53 (ofE x):=by
  obtain⟨b,s,m,i,rfl,h⟩:=mj hx;rw[D3 h];have hpl:=ob h;have hpg:=Bm h;by_cases h0:m=0
  · rw[if_pos h0]; exact⟨by decide,by decide,afy _⟩
  · rw[if_neg h0]
    obtain⟨g1,g2,g3,g4⟩:=qT 64 m i h0 (by have:(2:Nat) ^ 64=18446744073709551616:=(by decide); omega);refine⟨by show -((1100:Nat):Int)<=(gE 64 m i).2; omega,by show(gE 64 m i).2<=((1100:Nat):Int); omega,?_⟩;show aX 53 (bc s (gE 64 m i).1).natAbs;have:(bc s (gE 64 m i).1).natAbs=(gE 64 m i).1:=by unfold bc; cases s <;> simp
    rw[this];show _<2 ^ 53;have:(2:Nat) ^ 53=9007199254740992:=by decide
    omega
theorem C5:∀(f t c:Nat) (e:Int),t<f->gE f (2 ^ t*(2*c+1)) e=(2*c+1,e+t)
 | 0,t,c,e,h=>by omega
 | f+1,0,c,e,h=>by
  unfold gE;rw[ag7,agQ,if_neg (by omega)];simp
 | f+1,t+1,c,e,h=>by
  unfold gE;have e1:2 ^ (t+1)*(2*c+1)=2*(2 ^ t*(2*c+1)):=by rw[afv]; ac_rfl
  rw[e1,if_pos (by omega),afV _ (by decide),C5 f t c (e+1) (by omega)];congr 1; omega
theorem P4 {b:Nat} (hb:W64 b):(aD .and .u64 (b:Int) 9223372036854775808 != 0)=(b / 9223372036854775808%2==1):=by
 have e1:(9223372036854775808:Int)=((2 ^ 63:Nat):Int):=by decide
 have p63:(2:Nat) ^ 63=9223372036854775808:=by decide
 rw[e1,uN hb (by rw[p63]; omega)];have h1:b / 9223372036854775808%2=0\/b / 9223372036854775808%2=1:=by omega
 have h2:b.testBit 63=decide (b / 2 ^ 63%2=1):=Nat.testBit_eq_decide_div_mod_eq;rw[p63]at h2;rcases h1 with h | h
 ·have hz:b &&& 2 ^ 63=0:=by
   refine ahC (λj=>?_);rw[aih,ahg,Nat.zero_testBit];by_cases hj:63=j
   ·subst hj; rw[h2,h]; rfl
   ·rw[afj hj,Bool.and_false]
  rw[hz,h]; rfl
 ·have hz:b &&& 2 ^ 63 ≠ 0:=by intro hc;have:=aio (λn=>n.testBit 63) hc;simp only[aih,ahg,Nat.zero_testBit,h2,h]at this;simp at this
  rw[h];generalize b &&& 2 ^ 63=z at hz ⊢;have:((z:Int) != 0)=true:=by simp; exact hz
  rw[this]; rfl
theorem C9 {N:Nat} {b m:Nat} {i:Int} {s:Bool} (hpl:i<=971/\m<9007199254740992) (hb:W64 b) (k:Kx3) (E:Int) (hEi:i=E) (h5 : -1100<=E) (h6:E<=1100) (h0:m ≠ 0):Kv N (b:Int) 52 2047 1075 s (m:Int) E k=k s ((gE 64 m i).1:Int) (gE 64 m i).2 0:=by
 unfold Kv;obtain⟨t,c,hm⟩:=Bi m h0;have ht0:0<2 ^ t:=afy t;have ht:t<64:=by
  rcases agb t 64 with g | g
  ·exact g
  ·have g2:2 ^ 64<=2 ^ t:=afz (by decide) g;have g3:2 ^ t*1<=2 ^ t*(2*c+1):=afq _ (by omega);have g4:(2:Nat) ^ 64=18446744073709551616:=by decide
   omega
 rw[hm,VO N (by rw[<- hm]; omega),C5 64 t c i ht,aa (afi (by omega)),aa afg,afo,show min t 64=t by omega];have e2:(2:Int) ^ t=((2 ^ t:Nat):Int):=by rw[agM]; rfl
 rw[e2,kF,afV _ ht0,hEi]
theorem H6 {N:Nat} {b:Nat} (hb:W64 b) {s:Bool} {m:Nat} {i:Int} (h:Ieee.double.read b=.number s m i) (k:Kx3) :
  qX N (some b) k=if m=0 then k s 0 0 0 else k s ((gE 64 m i).1:Int) (gE 64 m i).2 0:=by
 obtain⟨h1,h2,h3⟩:=mC h;have hpl:=ob h;have hnn:isNaN b=false:=by rw[ahX]; intro hc; have:=(fK b).1 hc; omega
 have hcnb:cnb b=b:=by simp only[cnb,hnn]; rfl
 have hcls:=Dw b;rw[hcnb]at hcls;have hE:b / 4503599627370496%2048<2047:=by omega
 rw[if_neg (Nat.ne_of_lt hE)]at hcls;have hc:(b / 4503599627370496%2048=0/\b%4503599627370496=m/\cls b=(if m=0 then 3 else 4)/\i = -1074)\/(b / 4503599627370496%2048 ≠ 0/\m=4503599627370496+b%4503599627370496/\cls b=5/\i=((b / 4503599627370496%2048:Nat):Int) - 1075):=by
  rcases h3 with⟨g1,g2,g3⟩ | ⟨g1,g2,g3⟩
  ·have e0:b / 4503599627370496%2048=0:=by omega
   have e1:b%4503599627370496=m:=by omega
   rw[if_pos e0,e1]at hcls;exact .inl ⟨e0,e1,hcls,by omega⟩
  ·have e0:b / 4503599627370496%2048 ≠ 0:=by omega
   rw[if_neg e0]at hcls;exact .inr ⟨e0,by omega,hcls,by omega⟩
 generalize hx:b / 4503599627370496%2048=x at hE hc;generalize hy:b%4503599627370496=y at hc;have hylt:y<4503599627370496:=by omega
 have goal0:qX N (some b) k=(af .i64 ((x:Int) - 1075)&&(cond ((cls b:Int)==1) (k false 0 0 4) (cond ((cls b:Int)==2) (k false 0 0 4) (cond ((cls b:Int)==3) (k s 0 0 0) (cond ((cls b:Int)==4) ((af .i64 (((x:Int) - 1075)+1))&&(Kv N (b:Int) 52 2047 1075 s (y:Int) (((x:Int) - 1075)+1) k)) (mH N 52 2047 1075 (λ(ZX:Int)=>(Kv N (b:Int) 52 2047 1075 s (aD .or .u64 (y:Int) ZX) ((x:Int) - 1075) k)))))))):=by
  unfold qX zT;show Wm N (b:Int) 52 2047 1075 _=_
  (unfold Wm; rw[ac]; unfold TV)
  rw[CW,hcnb,P4 hb,<- h1,CV,hx,hy]
 rw[goal0,aa afg];clear goal0 hcls h1 h2 h3 hcnb hnn;rcases hc with⟨c1,c2,c3,c4⟩ | ⟨c1,c2,c3,c4⟩
 ·rw[c3];by_cases h0:m=0
  ·rw[if_pos h0,if_pos h0]; rfl
  ·rw[if_neg h0,if_neg h0,c2];show(af .i64 (((x:Int) - 1075)+1)&&_)=_;rw[aa afg];exact C9 hpl hb k _ (by omega) (by omega) (by omega) h0
 ·have h0:m ≠ 0:=by omega
  rw[c3,if_neg h0];have eor:aD .or .u64 (y:Int) 4503599627370496=(m:Int):=by
   have p52:(2:Nat) ^ 52=4503599627370496:=by decide
   have:=cP y 1 52 (by omega) (by omega);rw[p52]at this;rw[show((4503599627370496*1:Nat):Int)=4503599627370496 from rfl]at this;rw[this]; omega
  rw[show((5:Int)==1)=false from rfl,afk,show((5:Int)==2)=false from rfl,afk,show((5:Int)==3)=false from rfl,afk,show((5:Int)==4)=false from rfl,afk,kz,eor];exact C9 hpl hb k _ (by omega) (by omega) (by omega) h0
theorem Mo {z:Int}:(xl z==0)=decide (z=0):=by
 unfold xl;by_cases h:z=0
 ·rw[if_pos h,afi h]; rfl
 ·rw[if_neg h,afj h];by_cases hl:z<0
  ·rw[if_pos hl]; rfl
  ·rw[if_neg hl]; rfl
def qV (p:Int × Int):Rat:=if 0<=p.1 then mkRat (p.2*((2 ^ p.1.toNat:Nat):Int)) 1 else mkRat p.2 (2 ^ (-p.1).toNat)
theorem VK (a b:Int):imm true a b=max a b:=by
 unfold imm; simp only[afl];by_cases h:a<=b
 ·have:max a b=b:=by omega
  rw[this];by_cases h2:b>a
  ·rw[afi h2]; rfl
  ·rw[afj h2,afk]; omega
 ·have:max a b=a:=by omega
  rw[this,afj (by omega),afk]
theorem SN (n:Nat):¬((n:Nat):Int)<0:=by omega
theorem Bh (g:Bool):(g != false)=g:=by cases g <;> rfl
theorem NK {B s n:Nat} (h:aX B n):aX (B+s) (n*2 ^ s):=vy h s
theorem Ac {s:Nat}:aX (s+1) (2 ^ s):=by unfold aX; rw[afv]; have:=afy s; omega
theorem Jf:aX 1 1:=by unfold aX; decide
theorem xH:ae 1=[1]:=qy (by decide) (by decide)
theorem VL {w:Int} (k:Kx4):kq (mkRat w 1) k=kr w 1 k:=by unfold kq;rw[Rat.mkRat_one,Rat.num_intCast,Rat.den_intCast]
theorem JE {N:Nat} (hF:Fuel N) (x:Fl) (s:Bool) (M e z:Int) (he : -1100<=e) (he2:e<=1100) (hz:aX 53 z.natAbs) (k:Kx4) :
  cB N x s M e (decide (z<0)) (ae z.natAbs) k=kq (qV (e,z)) k:=by
 have hN:=hF.lt;unfold cB;have n1:=λkk=>sG (N:=N) (by omega) 1 (by decide) kk
 rw[show((1:Nat):Int)=1 from rfl]at n1;rw[n1,aa afg,VK];obtain⟨t,ht⟩:∃ t:Nat,max e (0 - e)=(t:Int):=⟨(max e (0 - e)).toNat,by omega⟩
 have ew:IntKind.wrap .u64 (max e (0 - e))=(t:Int):=by rw[am]; omega
 have htb:t<=1100:=by omega
 rw[ew,Ld t false false 1 (by omega) (by rw[xH]; simp; omega) (by rw[xH]; simp)];unfold sD;have e1:bc false (1*2 ^ t)=((2 ^ t:Nat):Int):=by unfold bc; rw[agQ]; rfl
 rw[e1,afj (SN (2 ^ t)),agf];dsimp only;have hp:=afy t;have hzb:aX 2000 z.natAbs:=bX hz (by omega);have htb2:aX 2000 (2 ^ t):=bX Ac (by omega);by_cases hc:e<0
 ·rw[afi hc,afl];unfold RP Tg;rw[Bh,yS hF (B:=2000) (by decide) _ hzb htb2 hp,iV];unfold qV;dsimp only;have:(-e).toNat=t:=by omega
  rw[if_neg (by omega),this]
 ·rw[afj hc,afk];unfold XF WZ;have hm:aX 4000 (z.natAbs*2 ^ t):=bX (dJ hzb htb2) (by omega);rw[ut hF (by decide) hzb htb2,Bh];rw[nV (decide (z<0)) _ _ (z.natAbs*2 ^ t) (λa b=>Wb N false false a b (λc8 s7 c9 s8=>k c8 s7 c9 s8))];rw[sE];obtain⟨w,hw⟩:∃ w:Int,w=z*((2 ^ t:Nat):Int):=⟨_,rfl⟩
  have hwb:aX 4000 w.natAbs:=by rw[hw,ahf,agf]; exact hm
  rw[<- hw];unfold sD Wb WP;dsimp only;rw[qJ (by decide) hwb];have er:qV (e,z)=mkRat w 1:=by
   unfold qV;dsimp only;have:e.toNat=t:=by omega
   rw[if_pos (by omega),this,hw]
  rw[er,VL]
  (unfold XC; rw[ac]; unfold TS Mj Qu SR Sk kr)
  rw[xH];by_cases hl:w<0
  ·rw[afi hl];have h2:decide (((ae w.natAbs).length:Int)>0)=true:=by rw[pM]; exact afi (by omega)
   simp only[h2];rfl
  ·rw[afj hl]; rfl
theorem qK (N:Nat) (e:Int) (k0:Bool):dx N ((0:Int)==0) e k0=k0:=rfl
theorem F5 {N:Nat} (hF:Fuel N) {x:Fl} (hx:aE x=true) (hw:FW x) (k:Kx4):jV N x k=kq (qV (ofE x)) k:=by
 have hN:=hF.lt;have hex:=Ix hx;obtain⟨b,s,m,i,rfl,h⟩:=mj hx;have ho:=D3 h
 (unfold jV; rw[ac]; unfold jP)
 have fin:∀(M:Nat) (e:Int),M<18446744073709551616->ofE (some b)=(e,bc s M) ->
   dx N ((0:Int)==0) 4 (RQ N (M:Int) false (λ(ZF:Bool) (nsr:List Int)=>(cond s (RY N ZF nsr (λ(ZT:Bool) (ZC:List Int)=>(cB N (some b) s (M:Int) e ZT ZC k))) (cB N (some b) s (M:Int) e ZF nsr k))))=kq (qV (ofE (some b))) k:=by
  intro M e hM heq;rw[heq]at hex ⊢;have h1:=hex.1;have h2:=hex.2.1;have h3:=hex.2.2;dsimp only at h1 h2 h3;have hl:(ae M).length<=1099511627776:=by
   have:aX 64 M:=by unfold aX; omega
   have:=zB (B:=64) (by decide) this; omega
  rw[qK,OR (by omega) M hM];cases s
  ·rw[afk];have e1:bc false M=(M:Int):=rfl;rw[e1]at h3 ⊢;have:=JE hF (some b) false (M:Int) e (M:Int) (by omega) (by omega) h3 k;rw[afj (by omega:¬(M:Int)<0),agf]at this;exact this
  ·rw[afl,Le false M hl];have e1 : -(bc false M)=bc true M:=rfl;rw[e1];exact JE hF (some b) true (M:Int) e (bc true M) (by omega) (by omega) h3 k
 rw[H6 (hw b rfl) h];by_cases h0:m=0
 ·rw[if_pos h0];rw[if_pos h0]at ho;refine fin 0 0 (by decide) ?_;rw[ho];cases s <;> rfl
 ·rw[if_neg h0];rw[if_neg h0]at ho;have hpl:=ob h;have hm:m<2 ^ 64:=by
   have:(2:Nat) ^ 64=18446744073709551616:=by decide
   omega
  obtain⟨g1,g2,g3,g4⟩:=qT 64 m i h0 hm;exact fin _ _ (by omega) ho
theorem Rk (N:Nat) (k:Kz6):rH N k=k (aj 1):=by rw[N9]; rfl
theorem FV {N:Nat} (hF:Fuel N) {z:Int} (hz:aX 30000 z.natAbs) (b1 b2:Bool) (k:Kx4) :
  RU N b1 b2 (decide (z<0)) (aj z.natAbs) k=kqR (mkRat z 1) k:=by
 unfold RU WL;rw[Rk,uo hF (B:=30000) (by decide) _ hz (bX Jf (by decide)) (by decide),iV]
theorem Lh {N:Nat} (hF:Fuel N) {x:Fl} (hx:aE x=true) (hw:FW x) (k:Kx4):tu N x k=kqR (qV (ofE x)) k:=by
 have hN:=hF.lt;have hex:=Ix hx;unfold tu yx;rw[VN (by omega) hx hw];obtain⟨p,hp⟩:∃ p,p=ofE x:=⟨_,rfl⟩
 rw[<- hp]at hex ⊢;obtain⟨e,z⟩:=p;have h1:=hex.1;have h2:=hex.2.1;have h3:=hex.2.2;dsimp only at h1 h2 h3
 (unfold exK; unfold XE; rw[ac]; unfold TU)
 dsimp only;by_cases hc:e>=0
 ·rw[afi hc,afl];have hl:=λk0 k1 h0 he2=>Rb (N:=N) (by omega) hex (e:=0) (by omega) (by decide) k0 k1 h0 he2
  dsimp only at hl;rw[hl]
  ·unfold uH;have hb:=Bb hex (e:=0) (by omega);dsimp only;rw[FV hF (bX hb (by decide))];unfold qV sB;dsimp only;rw[if_pos hc,Int.sub_zero,agM];rfl
  ·intro _; rfl
  ·intro h; omega
 ·rw[afj hc,afk];have n1:=λkk=>AY (N:=N) 1 (by decide) (by have:=rD (B:=1) (n:=1) (by decide) (by unfold aX; decide);exact⟨by omega,by omega⟩) (by omega) kk
  rw[show((1:Nat):Int)=1 from rfl]at n1;rw[n1,aa afg];obtain⟨t,ht⟩:∃ t:Nat,(0 - e)=(t:Int):=⟨(0 - e).toNat,by omega⟩
  have ew:IntKind.wrap .u64 (0 - e)=(t:Int):=by rw[am]; omega
  rw[ew,CO t false false 1 (Cq (B:=1) (by omega) (by omega) (by unfold aX; decide))];unfold uH;have e1:bc false (1*2 ^ t)=((2 ^ t:Nat):Int):=by unfold bc; rw[agQ]; rfl
  rw[e1,afj (SN (2 ^ t)),agf];dsimp only;have htp:=afy t;have hzb:aX 2000 z.natAbs:=bX h3 (by omega);have htb2:aX 2000 (2 ^ t):=bX Ac (by omega);unfold XA WO;rw[Bh,uo hF (B:=2000) (by decide) _ hzb htb2 (Nat.ne_of_gt htp),iV];unfold qV;dsimp only;have:(-e).toNat=t:=by omega
  rw[if_neg (by omega),this]
theorem wo {B:Nat} {z:Int} {d:Nat} (hz:aX B z.natAbs) (hd:aX B d) (h0:0<d):Bq B (mkRat z d):=by
 refine⟨?_,?_⟩
 ·rw[aix,if_neg (by omega)];have h1:((Nat.gcd z.natAbs d:Nat):Int)∣z:=Int.ofNat_dvd_left.2 (agc _ _);rw[agB,Int.natAbs_ediv_of_dvd h1,agf];exact cd hz
 ·rw[aiy,if_neg (by omega)];exact cd hd
theorem RI {x:Fl} (hx:aE x=true):Bq 1200 (qV (ofE x)):=by
 have hex:=Ix hx;obtain⟨p,hp⟩:∃ p,p=ofE x:=⟨_,rfl⟩
 rw[<- hp]at hex ⊢;obtain⟨e,z⟩:=p;have h1:=hex.1;have h2:=hex.2.1;have h3:=hex.2.2;dsimp only at h1 h2 h3;unfold qV;dsimp only;split
 ·refine wo ?_ (bX Jf (by decide)) (by decide);rw[ahf,agf];exact bX (NK h3) (by omega)
 ·exact wo (bX h3 (by omega)) (bX Ac (by omega)) (afy _)
end Go.Proofs.YtdinakfmablagaaGreatDoor
end
