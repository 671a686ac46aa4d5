/-
  PURE: laws of the seat's functions, taken over from another seat of mine.
  Conditions: none.
-/
import Derived.Test.YtldenpmpmifnlaaGreatDoorC2
import Derived.Test.YtldenpmpmifnlaaGreatDoorFlA
import Derived.Test.YtldenpmpmifnlaaGreatDoorC1
import Derived.Test.YtldenpmpmifnlaaGreatDoorGp
set_option linter.unusedVariables false
section
namespace Go.Proofs.YtldenpmpmifnlaaGreatDoor
open Go Go.Mach Ieee
theorem Tm {N n j:Nat} (hN:1000<=N) (hj:j<=900) (h:n<4294967296 ^ j):ll N (aM n):=by have:=sr j n h;exact⟨by omega,by omega⟩
theorem sH {N n:Nat} (hN:1000<=N) (h:n<18446744073709551616):ll N (aM n):=Tm (j:=2) hN (by decide) (by
 have:(4294967296:Nat) ^ 2=18446744073709551616:=by decide
 omega)
theorem or0 (n:Nat) (h:n<18446744073709551616):az .or .u64 0 (n:Int)=n:=by have:=dE 0 n 0 (by decide) (by omega);simpa using this
theorem aeS (n:Nat) (h:n<9223372036854775808):az .or .u64 (n:Int) 9223372036854775808=((9223372036854775808+n:Nat):Int):=by have:=dE n 1 63 (by simpa using h) (by simp; omega);simpa using this
theorem ak9 (n:Nat):az .and .u64 (n:Int) 2047=((n%2048:Nat):Int):=by have:=nD n 11 (by decide);simpa using this
theorem afW (b:Nat):Int.fdiv (b:Int) (2 ^ 52)=((b / 4503599627370496:Nat):Int):=by rw[show(2:Int) ^ 52=((4503599627370496:Nat):Int) by decide,mQ]
theorem Ff (s:Bool) (m:Nat) (i:Int):∃ r,Ieee.double.nearest s m i=Ieee.double.word s r/\r<=9218868437227405312:=by
 unfold Format.nearest;split
 ·exact⟨0,rfl,by omega⟩
 ·rw[fN]; exact⟨_,rfl,Nat.min_le_right _ _⟩
theorem KN (s:Bool) (m:Nat) (i:Int):W64 (Ieee.double.nearest s m i):=by obtain⟨r,h,hr⟩:=Ff s m i;rw[h]; exact rS s (by omega)
def Nr (x:Fl) (k:Int):Fl:=match x with
 | some b=>match Ieee.double.read b with
  | .number s m i=>some (Ieee.double.nearest s m (i+k))
  | _=>some b
 | none=>none
theorem w6 {b:Nat} {s:Bool} {m:Nat} {i:Int} (h:Ieee.double.read b=.number s m i) (k:Int):Nr (some b) k=some (Ieee.double.nearest s m (i+k)):=by unfold Nr; simp only[h]
theorem ajH {N:Nat} (hN:1000<=N) {n:Nat} (h:n<=48):PC N n:=⟨by omega,by omega⟩
theorem EI (b:Nat):aw (some b)=decide (b%9223372036854775808<9218868437227405312):=by
 unfold aw Format.read;simp only[cE,jM,fN];by_cases h1:b%9223372036854775808<4503599627370496
 ·rw[if_pos h1,awM (by omega)]; rfl
 ·rw[if_neg h1];by_cases h2:b%9223372036854775808<9218868437227405312
  ·rw[if_pos h2,awM h2]; rfl
  ·rw[if_neg h2,awN h2];split <;> rfl
def Nn (x:Fl):Prop:=∃ b,x=some b/\isNaN b=false
theorem afj {x:Fl} (h:aw x=true):Nn x:=by
 cases x with
 | none=>cases h
 | some b=>
  rw[EI]at h;have:=awQ h;refine⟨b,rfl,?_⟩;rw[aza];intro hc;have:=(jP b).1 hc;omega
theorem abF (s:Bool) {r:Nat} (h:r<=9218868437227405312):Nn (some (Ieee.double.word s r)):=by
 refine⟨_,rfl,?_⟩;rw[aza];intro hc;have h1:=(jP _).1 hc;have hw:Ieee.double.word s r%9223372036854775808=r:=by unfold Format.word; rw[cE]; cases s <;> simp <;> omega
 omega
theorem DJ (s:Bool) (m:Nat) (i:Int):Nn (some (Ieee.double.nearest s m i)):=by obtain⟨r,h,hr⟩:=Ff s m i;rw[h]; exact abF s hr
abbrev K4:=Fl->Fl->Fl->Fl->Int->Bool
def jp:Nat->Nat->Int->Nat × Int
 | 0,m,e=>(m,e)
 | f+1,m,e=>if m%2=0 then jp f (m / 2) (e+1)else(m,e)
theorem rF:∀ f m e,m ≠ 0->m<2 ^ f->e<=(jp f m e).2/\(jp f m e).2<=e+f/\(jp f m e).1*2 ^ ((jp f m e).2 - e).toNat=m/\(jp f m e).1<=m
 | 0,m,e,h0,h=>by simp at h; omega
 | f+1,m,e,h0,h=>by
  unfold jp;split
  ·rename_i hm;obtain⟨h1,h2,h3,h4⟩:=rF f (m / 2) (e+1) (by omega) (by rw[awX]at h; omega);refine⟨by omega,by omega,?_,by omega⟩;have:((jp f (m / 2) (e+1)).2 - e).toNat=((jp f (m / 2) (e+1)).2 - (e+1)).toNat+1:=by omega
   rw[this,awX,<- awW,h3]; omega
  ·refine⟨by omega,by omega,?_,awT _⟩;rw[Int.sub_self]; simp
theorem adL {N:Nat} (hN:1000<=N) {m:Nat} {e:Int} (h0:m ≠ 0) (hm:m<2 ^ 64) (he1 : -2000<=e) (he2:e<=2000) (k:Ky2) :
  Fr N m e k=k ((jp 64 m e).1:Int) (jp 64 m e).2:=by
 unfold Fr I8;have key:∀ f:Nat,f<=64 -> ∀(m:Nat) (e:Int),m ≠ 0->m<2 ^ f->m<2 ^ 64 -> -2000<=e->e+f<=3000 -> ∀ M:Nat,f<M->al M (oq N λa b=>k a b) ((m:Int),e)=k ((jp f m e).1:Int) (jp f m e).2:=by
  intro f;induction f with
  | zero=>intro _ m e h0 h; simp at h; omega
  | succ f ih=>
   intro hf m e h0 h h64 h1 h2 M hM;cases M with
   | zero=>omega
   | succ M=>
    show oq N _ ((m:Int),e) (al M _)=_;have e2:Int.tmod (m:Int) 2=((m%2:Nat):Int):=by rw[axS (by omega)]; rfl
    have e3:Int.tdiv (m:Int) 2=((m / 2:Nat):Int):=by rw[ax0 (by omega)]; rfl
    simp only[oq,jp,e2,e3];by_cases hm:m%2=0
    ·have:(((m%2:Nat):Int)==0)=true:=by rw[hm]; rfl
     have ew:IntKind.wrap .u64 ((m / 2:Nat):Int)=((m / 2:Nat):Int):=by
      rw[aD];have:(2:Nat) ^ 64=18446744073709551616:=by decide
      omega
     rw[this,awP,ae awK,if_pos hm,ew];exact ih (by omega) (m / 2) (e+1) (by omega) (by rw[awX]at h; omega) (by omega) (by omega) (by omega) M (by omega)
    ·have:(((m%2:Nat):Int)==0)=false:=by
      have:m%2=1:=by omega
      rw[this]; rfl
     rw[this,awO,if_neg hm]
 have:((m:Int)==0)=false:=by simp; omega
 rw[this,awO];exact key 64 (awT _) m e h0 hm hm (by omega) (by omega) N (by omega)
theorem Wh (N:Nat) (e:Int) (k:Ky2):Fr N 0 e k=k 0 0:=by unfold Fr I8; rfl
def ofE (x:Fl):Int × Int:=match x with
 | some b=>match Ieee.double.read b with
  | .number s m i=>if m=0 then(0,0)else((jp 64 m i).2,cT s (jp 64 m i).1)
  | _=>(0,0)
 | none=>(0,0)
theorem Dy {b:Nat} {s:Bool} {m:Nat} {i:Int} (h:Ieee.double.read b=.number s m i):ofE (some b)=if m=0 then(0,0)else((jp 64 m i).2,cT s (jp 64 m i).1):=by unfold ofE; simp only[h]
theorem Sx {N:Nat} (hN:1000<=N) {b:Nat} (hb:W64 b) {s:Bool} {m:Nat} {i:Int} (h:Ieee.double.read b=.number s m i) (k:Kx4) :
    Qo N (some b) k=if m=0 then k s 0 0 0 else k s ((jp 64 m i).1:Int) (jp 64 m i).2 0:=by
  obtain⟨h1,h2,h3⟩:=gz h;have hpl:=mS h;have hnn:isNaN b=false:=by rw[aza]; intro hc; have:=(jP b).1 hc; omega
  have hbits:Ei (some b)=b:=by simp only[Ei,cnb,hnn]; rfl
  have hsg:(Int.fdiv (b:Int) (2 ^ 63)==1)=s:=by
    have e:(2:Int) ^ 63=((9223372036854775808:Nat):Int):=by decide
    rw[e,mQ,h1];have hW:b / 9223372036854775808<2:=by have:=hb; omega
    have:b / 9223372036854775808=0\/b / 9223372036854775808=1:=by omega
    rcases this with h | h <;> rw[h] <;> rfl
  have fin:∀(e:Int),i=e - 1074 -> -1100<=e->e<=2100->Je N (KX N) (Fr N) (some b) s e (m:Int) k=if m=0 then k s 0 0 0 else k s ((jp 64 m i).1:Int) (jp 64 m i).2 0:=by
    intro e he h5 h6;unfold Je;rw[ae awK,<- he];by_cases h0:m=0
    · subst h0; rw[if_pos rfl]; exact Wh N i _
    · rw[if_neg h0,adL hN h0 (by have:(2:Nat) ^ 64=18446744073709551616:=(by decide); omega) (by omega) (by omega)]
  unfold Qo Gu;rw[Sy,hbits];rw[hsg];have n2047:(((b / 4503599627370496%2048:Nat):Int)==2047)=false:=by simp; omega
  rw[n2047,awO];rcases h3 with⟨g1,g2,g3⟩ | ⟨g1,g2,g3⟩
  · have e0:b / 4503599627370496%2048=0:=by omega
    have e1:b%4503599627370496=m:=by omega
    rw[e0,e1,awN (by decide),awO];exact fin 0 (by omega) (by omega) (by omega)
  · have e0:0<b / 4503599627370496%2048:=by omega
    have e1:IntKind.wrap .u64 (((b%4503599627370496:Nat):Int)+4503599627370496)=(m:Int):=by rw[aD]; omega
    rw[awM (by omega:((b / 4503599627370496%2048:Nat):Int)>0),awP,ae awK,e1];exact fin _ (by omega) (by omega) (by omega)
theorem E6 {N:Nat} (hN:1000<=N) {x:Fl} (hx:aw x=true) (hw:FW x) (k:Kx9):QA N x k=exK (ofE x) k:=by
  obtain⟨b,s,m,i,rfl,h⟩:=cR hx;have hb:=hw b rfl;unfold QA Py;rw[Sx hN hb h,Dy h];by_cases h0:m=0
  · rw[if_pos h0,if_pos h0]
    have:∀ κ,W5 N 0 false κ=κ false (aM 0):=λκ=>yD (N:=N) 0 (by decide) false (sH hN (by decide)) (by omega) κ
    rw[this];cases s
    · rw[awO]; unfold exK; rfl
    · rw[awP,Hm _ _ (sH hN (by decide))]; unfold exK vF; rfl
  · rw[if_neg h0,if_neg h0]
    have hpl:=mS h;obtain⟨g1,g2,g3,g4⟩:=rF 64 m i h0 (by have:(2:Nat) ^ 64=18446744073709551616:=(by decide); omega);have hs:=sH (N:=N) (n:=(jp 64 m i).1) hN (by omega);rw[yD (N:=N) _ (by omega) false hs (by omega)];cases s
    · rw[awO]
      show _=k (jp 64 m i).2 (decide ((((jp 64 m i).1:Nat):Int)<0)) (aM (((jp 64 m i).1:Nat):Int).natAbs);rw[awN (by omega),axI]
    · rw[awP,Hm _ _ hs]; rfl
def EV (x:Int × Int) (v:Int) (E:Nat):Prop:=0<=x.1+E/\x.2*2 ^ (x.1+E).toNat=v
theorem EV.up {x:Int × Int} {v:Int} {E:Nat} (h:EV x v E) (F:Nat):EV x (v*2 ^ F) (E+F):=by
 obtain⟨h1,h2⟩:=h;refine⟨by omega,?_⟩;have:(x.1+((E+F:Nat):Int)).toNat=(x.1+E).toNat+F:=by omega
 rw[this,Int.pow_add,<- Int.mul_assoc,h2]
theorem EV.mul {x y:Int × Int} {v w:Int} {E F:Nat} (h:EV x v E) (g:EV y w F):EV (jY x y) (v*w) (E+F):=by
 obtain⟨h1,h2⟩:=h;obtain⟨g1,g2⟩:=g;refine⟨by simp only[jY]; omega,?_⟩;have:((jY x y).1+((E+F:Nat):Int)).toNat=(x.1+E).toNat+(y.1+F).toNat:=by simp only[jY]; omega
 rw[this,Int.pow_add,<- h2,<- g2];simp only[jY];ac_rfl
theorem EV.neg {x:Int × Int} {v:Int} {E:Nat} (h:EV x v E):EV (Hb x) (-v) E:=⟨h.1,by rw[<- h.2]; exact ayN _ _⟩
theorem Ha {x:Int × Int} {v:Int} {E:Nat} (h:EV x v E) {e:Int} (he:e<=x.1) (hE:0<=e+E):wk x e*2 ^ (e+E).toNat=v:=by unfold wk;rw[Int.mul_assoc,<- Int.pow_add,show(x.1 - e).toNat+(e+E).toNat=(x.1+E).toNat by omega];exact h.2
theorem EV.add {x y:Int × Int} {v w:Int} {E:Nat} (h:EV x v E) (g:EV y w E):EV (yB x y) (v+w) E:=by
 unfold yB;split
 ·rename_i h0;have:v=0:=by rw[<- h.2,h0,Int.zero_mul]
  rw[this,Int.zero_add]; exact g
 ·split
  ·rename_i h0;have:w=0:=by rw[<- g.2,h0,Int.zero_mul]
   rw[this,Int.add_zero]; exact h
  ·have hE:0<=min x.1 y.1+E:=by have:=h.1; have:=g.1; omega
   exact⟨hE,by rw[Int.add_mul,Ha h (by omega) hE,Ha g (by omega) hE]⟩
theorem EV.sgn {x:Int × Int} {v:Int} {E:Nat} (h:EV x v E):vK x.2=vK v:=by
 rw[<- h.2];have hp:=WD (x.1+E).toNat;unfold vK;rcases Int.lt_trichotomy x.2 0 with h | h | h
 ·have:=Int.mul_neg_of_neg_of_pos h hp;rw[if_neg (by omega),if_pos h,if_neg (by omega),if_pos this]
 ·rw[h,Int.zero_mul]
 ·have:=Int.mul_pos h hp;rw[if_neg (by omega),if_neg (by omega),if_neg (by omega),if_neg (by omega)]
theorem ZT (E:Nat):EV (0,0) 0 E:=⟨by simp only[]; omega,Int.zero_mul _⟩
theorem Ex.mono {E B E' B':Nat} {x:Int × Int} (h:Ex E B x) (hE:E<=E') (hB:B<=B'):Ex E' B' x:=⟨by have:=h.1; omega,by have:=h.2.1; omega,gQ h.2.2 hB⟩
theorem Ex.mul {E B E' B':Nat} {x y:Int × Int} (h:Ex E B x) (g:Ex E' B' y):Ex (E+E') (B+B') (jY x y):=
 ⟨by have:=h.1; have:=g.1; simp only[jY]; omega,by have:=h.2.1; have:=g.2.1; simp only[jY]; omega,by show cP _ (x.2*y.2).natAbs;rw[ayx]; exact po h.2.2 g.2.2⟩
theorem Ex.neg {E B:Nat} {x:Int × Int} (h:Ex E B x):Ex E B (Hb x):=⟨h.1,h.2.1,by show cP _ (-x.2).natAbs; rw[azc]; exact h.2.2⟩
theorem AE {E B:Nat} {x:Int × Int} (h:Ex E B x) {e:Int} (he : -(E:Int)<=e):cP (B+2*E) (wk x e).natAbs:=by unfold wk;rw[ayx,Int.natAbs_pow];refine gQ (yV h.2.2 _) ?_;have:=h.2.1; omega
theorem Ex.add {E B:Nat} {x y:Int × Int} (h:Ex E B x) (g:Ex E B y):Ex E (B+2*E+1) (yB x y):=by
 unfold yB;split
 ·exact g.mono (awT _) (by omega)
 ·split
  ·exact h.mono (awT _) (by omega)
  ·refine⟨by have:=h.1; have:=g.1; show -(E:Int)<=min x.1 y.1; omega,by have:=h.2.1; show min x.1 y.1<=E; omega,?_⟩;have h1:=AE h (e:=min x.1 y.1) (by have:=h.1; have:=g.1; omega);have h2:=AE g (e:=min x.1 y.1) (by have:=h.1; have:=g.1; omega);exact qr (Ej h1 h2) (Int.natAbs_add_le _ _)
theorem xG (z:Int) (k:Ky1):vF z k=k (decide (z<0)) (aM z.natAbs):=rfl
theorem PW {N:Nat} (hN:1000<=N) {E B:Nat} {x:Int × Int} (hx:Ex E B x) {e:Int} (he : -(E:Int)<=e) (hB:B+2*E<=30000) (k0:Bool) (k1:Bool->List Int->Bool) (h0:x.1<=e->k0=vF x.2 k1) (he2:x.1<=e->e=x.1) :
  W0 N x.1 e (decide (x.2<0)) (aM x.2.natAbs) k0 k1=vF (wk x e) k1:=by
 unfold W0 abe;have hx1:=hx.1;have hx2:=hx.2.1;by_cases hc:x.1<=e
 ·rw[awM (by omega:e>=x.1),awP,h0 hc];have:wk x e=x.2:=by unfold wk;rw[he2 hc,Int.sub_self]; simp
  rw[this]
 ·rw[awN (by omega:¬ e>=x.1),awO,ae awK];have ew:IntKind.wrap .u64 (x.1 - e)=(((x.1 - e).toNat:Nat):Int):=by rw[aD]; omega
  rw[ew,Su _ _ _ _ (RV hN (by omega) hx.2.2)];congr 1;unfold wk cT;by_cases hz:x.2<0
  ·rw[awM hz,if_pos rfl,aw4,axA,<- ayN];congr 1; omega
  ·rw[awN hz,if_neg (by decide),aw4,axA];congr 1; omega
theorem Cb {x:Fl} (hx:aw x=true):Ex 1100 53 (ofE x):=by
  obtain⟨b,s,m,i,rfl,h⟩:=cR hx;rw[Dy h];have hpl:=mS h;have hpg:=iD h;by_cases h0:m=0
  · rw[if_pos h0]; exact⟨by decide,by decide,aw0 _⟩
  · rw[if_neg h0]
    obtain⟨g1,g2,g3,g4⟩:=rF 64 m i h0 (by have:(2:Nat) ^ 64=18446744073709551616:=(by decide); omega);refine⟨by show -((1100:Nat):Int)<=(jp 64 m i).2; omega,by show(jp 64 m i).2<=((1100:Nat):Int); omega,?_⟩;show cP 53 (cT s (jp 64 m i).1).natAbs;have:(cT s (jp 64 m i).1).natAbs=(jp 64 m i).1:=by unfold cT; cases s <;> simp
    rw[this];show _<2 ^ 53;have:(2:Nat) ^ 53=9007199254740992:=by decide
    omega
theorem Wz {b:Nat} {s:Bool} {m:Nat} {i:Int} (h:Ieee.double.read b=.number s m i) {E:Nat} (hE:1074<=E):EV (ofE (some b)) (signed s m (i+E).toNat) E:=by
  rw[Dy h];have hpg:=iD h;by_cases h0:m=0
  · rw[if_pos h0]; subst h0; rw[iu]; exact ZT E
  · rw[if_neg h0]
    have hpl:=mS h;obtain⟨g1,g2,g3,g4⟩:=rF 64 m i h0 (by have:(2:Nat) ^ 64=18446744073709551616:=(by decide); omega);refine⟨by show 0<=(jp 64 m i).2+(E:Int); omega,?_⟩;show cT s (jp 64 m i).1*2 ^ ((jp 64 m i).2+E).toNat=_;generalize jp 64 m i=q at *;have e1:(q.2+E).toNat=(q.2 - i).toNat+(i+E).toNat:=by omega
    unfold cT signed;rw[Nat.shiftLeft_eq,e1,Int.pow_add,<- g3];cases s
    · simp only[axq,axc]
      rw[aw4,aw4,axA,axA]; rw[show((2:Nat):Int)=2 from rfl]; ac_rfl
    · simp only[ax5]
      rw[aw4,aw4,axA,axA]; rw[show((2:Nat):Int)=2 from rfl];rw[ayN]; congr 1; ac_rfl
theorem Hz:∀(f t c:Nat) (e:Int),t<f->jp f (2 ^ t*(2*c+1)) e=(2*c+1,e+t)
 | 0,t,c,e,h=>by omega
 | f+1,0,c,e,h=>by
  unfold jp;rw[ayO,ax4,if_neg (by omega)];simp
 | f+1,t+1,c,e,h=>by
  unfold jp;have e1:2 ^ (t+1)*(2*c+1)=2*(2 ^ t*(2*c+1)):=by rw[awX]; ac_rfl
  rw[e1,if_pos (by omega),axx _ (by decide),Hz f t c (e+1) (by omega)];congr 1; omega
theorem Yp {b:Nat} (hb:W64 b):(az .and .u64 (b:Int) 9223372036854775808 != 0)=(b / 9223372036854775808%2==1):=by
 have e1:(9223372036854775808:Int)=((2 ^ 63:Nat):Int):=by decide
 have p63:(2:Nat) ^ 63=9223372036854775808:=by decide
 rw[e1,yw hb (by rw[p63]; omega)];have h1:b / 9223372036854775808%2=0\/b / 9223372036854775808%2=1:=by omega
 have h2:b.testBit 63=decide (b / 2 ^ 63%2=1):=Nat.testBit_eq_decide_div_mod_eq;rw[p63]at h2;rcases h1 with h | h
 ·have hz:b &&& 2 ^ 63=0:=by
   refine ayn (λj=>?_);rw[ayp,ayb,Nat.zero_testBit];by_cases hj:63=j
   ·subst hj; rw[h2,h]; rfl
   ·rw[awN hj,Bool.and_false]
  rw[hz,h]; rfl
 ·have hz:b &&& 2 ^ 63 ≠ 0:=by intro hc;have:=azJ (λn=>n.testBit 63) hc;simp only[ayp,ayb,Nat.zero_testBit,h2,h]at this;simp at this
  rw[h];generalize b &&& 2 ^ 63=z at hz ⊢;have:((z:Int) != 0)=true:=by simp; exact hz
  rw[this]; rfl
theorem HB {N:Nat} {b m:Nat} {i:Int} {s:Bool} (hpl:i<=971/\m<9007199254740992) (hb:W64 b) (k:Kx4) (E:Int) (hEi:i=E) (h5 : -1100<=E) (h6:E<=1100) (h0:m ≠ 0):DI N (K8 N) (K7 N) (IE N) (Nk N) (b:Int) 52 2047 1075 s (m:Int) E k=k s ((jp 64 m i).1:Int) (jp 64 m i).2 0:=by
 unfold DI;obtain⟨t,c,hm⟩:=Wy m h0;have ht0:0<2 ^ t:=aw0 t;have ht:t<64:=by
  rcases axY t 64 with g | g
  ·exact g
  ·have g2:2 ^ 64<=2 ^ t:=aw5 (by decide) g;have g3:2 ^ t*1<=2 ^ t*(2*c+1):=aw1 _ (by omega);have g4:(2:Nat) ^ 64=18446744073709551616:=by decide
   omega
 rw[hm,agA N (by rw[<- hm]; omega),Hz 64 t c i ht,ae (awM (by omega)),ae awK,awS,show min t 64=t by omega];have e2:(2:Int) ^ t=((2 ^ t:Nat):Int):=by rw[axA]; rfl
 rw[e2,mQ,axx _ ht0,hEi]
theorem MI {N:Nat} {b:Nat} (hb:W64 b) {s:Bool} {m:Nat} {i:Int} (h:Ieee.double.read b=.number s m i) (k:Kx4) :
  CW N (some b) k=if m=0 then k s 0 0 0 else k s ((jp 64 m i).1:Int) (jp 64 m i).2 0:=by
 obtain⟨h1,h2,h3⟩:=gz h;have hpl:=mS h;have hnn:isNaN b=false:=by rw[aza]; intro hc; have:=(jP b).1 hc; omega
 have hcnb:cnb b=b:=by simp only[cnb,hnn]; rfl
 have hcls:=PK b;rw[hcnb]at hcls;have hE:b / 4503599627370496%2048<2047:=by omega
 rw[if_neg (Nat.ne_of_lt hE)]at hcls;have hc:(b / 4503599627370496%2048=0/\b%4503599627370496=m/\cls b=(if m=0 then 3 else 4)/\i = -1074)\/(b / 4503599627370496%2048 ≠ 0/\m=4503599627370496+b%4503599627370496/\cls b=5/\i=((b / 4503599627370496%2048:Nat):Int) - 1075):=by
  rcases h3 with⟨g1,g2,g3⟩ | ⟨g1,g2,g3⟩
  ·have e0:b / 4503599627370496%2048=0:=by omega
   have e1:b%4503599627370496=m:=by omega
   rw[if_pos e0,e1]at hcls;exact .inl ⟨e0,e1,hcls,by omega⟩
  ·have e0:b / 4503599627370496%2048 ≠ 0:=by omega
   rw[if_neg e0]at hcls;exact .inr ⟨e0,by omega,hcls,by omega⟩
 generalize hx:b / 4503599627370496%2048=x at hE hc;generalize hy:b%4503599627370496=y at hc;have hylt:y<4503599627370496:=by omega
 have goal0:CW N (some b) k=(au .i64 ((x:Int) - 1075)&&(cond ((cls b:Int)==1) (k false 0 0 4) (cond ((cls b:Int)==2) (k false 0 0 4) (cond ((cls b:Int)==3) (k s 0 0 0) (cond ((cls b:Int)==4) ((au .i64 (((x:Int) - 1075)+1))&&(DI N (K8 N) (K7 N) (IE N) (Nk N) (b:Int) 52 2047 1075 s (y:Int) (((x:Int) - 1075)+1) k)) (IE N 52 2047 1075 (λ(amB:Int)=>(DI N (K8 N) (K7 N) (IE N) (Nk N) (b:Int) 52 2047 1075 s (az .or .u64 (y:Int) amB) ((x:Int) - 1075) k)))))))):=by unfold CW Pk;show aem N (b:Int) 52 2047 1075 _=_;unfold aem RK;rw[Hq,hcnb,Yp hb,<- h1,Ho,hx,hy]
 rw[goal0,ae awK];clear goal0 hcls h1 h2 h3 hcnb hnn;rcases hc with⟨c1,c2,c3,c4⟩ | ⟨c1,c2,c3,c4⟩
 ·rw[c3];by_cases h0:m=0
  ·rw[if_pos h0,if_pos h0]; rfl
  ·rw[if_neg h0,if_neg h0,c2];show(au .i64 (((x:Int) - 1075)+1)&&_)=_;rw[ae awK];exact HB hpl hb k _ (by omega) (by omega) (by omega) h0
 ·have h0:m ≠ 0:=by omega
  rw[c3,if_neg h0];have eor:az .or .u64 (y:Int) 4503599627370496=(m:Int):=by
   have p52:(2:Nat) ^ 52=4503599627370496:=by decide
   have:=dE y 1 52 (by omega) (by omega);rw[p52]at this;rw[show((4503599627370496*1:Nat):Int)=4503599627370496 from rfl]at this;rw[this]; omega
  rw[show((5:Int)==1)=false from rfl,awO,show((5:Int)==2)=false from rfl,awO,show((5:Int)==3)=false from rfl,awO,show((5:Int)==4)=false from rfl,awO,nO,eor];exact HB hpl hb k _ (by omega) (by omega) (by omega) h0
theorem Tk {z:Int}:(vK z==0)=decide (z=0):=by
 unfold vK;by_cases h:z=0
 ·rw[if_pos h,awM h]; rfl
 ·rw[if_neg h,awN h];by_cases hl:z<0
  ·rw[if_pos hl]; rfl
  ·rw[if_neg hl]; rfl
def zw (p:Int × Int):Rat:=if 0<=p.1 then mkRat (p.2*((2 ^ p.1.toNat:Nat):Int)) 1 else mkRat p.2 (2 ^ (-p.1).toNat)
theorem agl (a b:Int):imm true a b=max a b:=by
 unfold imm; simp only[awP];by_cases h:a<=b
 ·have:max a b=b:=by omega
  rw[this];by_cases h2:b>a
  ·rw[awM h2]; rfl
  ·rw[awN h2,awO]; omega
 ·have:max a b=a:=by omega
  rw[this,awN (by omega),awO]
theorem ajr (n:Nat):¬((n:Nat):Int)<0:=by omega
theorem KO (g:Bool):(g != false)=g:=by cases g <;> rfl
theorem Um {B s n:Nat} (h:cP B n):cP (B+s) (n*2 ^ s):=yV h s
theorem Jt {s:Nat}:cP (s+1) (2 ^ s):=by unfold cP; rw[awX]; have:=aw0 s; omega
theorem abK:cP 1 1:=by unfold cP; decide
theorem BI:af 1=[1]:=uo (by decide) (by decide)
theorem agz {w:Int} (k:Kx5):kq (mkRat w 1) k=kr w 1 k:=by unfold kq;rw[Rat.mkRat_one,Rat.num_intCast,Rat.den_intCast]
theorem PX {N:Nat} (hF:Fuel N) (x:Fl) (s:Bool) (M e z:Int) (he : -1100<=e) (he2:e<=1100) (hz:cP 53 z.natAbs) (k:Kx5) :
  dC N (CW N) (cM N) (K6 N) (Ld N) (Lf N) (Nm N) (sQ7 N) (Tj N) (Nl N) x s M e (decide (z<0)) (af z.natAbs) k=kq (zw (e,z)) k:=by
 have hN:=hF.lt;unfold dC;have n1:=λkk=>wR (N:=N) (by omega) 1 (by decide) kk
 rw[show((1:Nat):Int)=1 from rfl]at n1;rw[n1,ae awK,agl];obtain⟨t,ht⟩:∃ t:Nat,max e (0 - e)=(t:Int):=⟨(max e (0 - e)).toNat,by omega⟩
 have ew:IntKind.wrap .u64 (max e (0 - e))=(t:Int):=by rw[aD]; omega
 have htb:t<=1100:=by omega
 rw[ew,Sr t false false 1 (by omega) (by rw[BI]; simp; omega) (by rw[BI]; simp)];unfold wI;have e1:cT false (1*2 ^ t)=((2 ^ t:Nat):Int):=by unfold cT; rw[ax4]; rfl
 rw[e1,awN (ajr (2 ^ t)),axI];dsimp only;have hp:=aw0 t;have hzb:cP 2000 z.natAbs:=gQ hz (by omega);have htb2:cP 2000 (2 ^ t):=gQ Jt (by omega);by_cases hc:e<0
 ·rw[awM hc,awP];unfold sQ7 GQ7;rw[KO,CN hF (B:=2000) (by decide) _ hzb htb2 hp,Hh];unfold zw;dsimp only;have:(-e).toNat=t:=by omega
  rw[if_neg (by omega),this]
 ·rw[awN hc,awO];unfold Tj aaW;have hm:cP 4000 (z.natAbs*2 ^ t):=gQ (po hzb htb2) (by omega);rw[xK hF (by decide) hzb htb2,KO];rw[rB (decide (z<0)) _ _ (z.natAbs*2 ^ t) (λa b=>Nl N false false a b (λc8 s7 c9 s8=>k c8 s7 c9 s8))];rw[EY];obtain⟨w,hw⟩:∃ w:Int,w=z*((2 ^ t:Nat):Int):=⟨_,rfl⟩
  have hwb:cP 4000 w.natAbs:=by rw[hw,ayx,axI]; exact hm
  rw[<- hw];unfold wI Nl aaP;dsimp only;rw[uD (by decide) hwb];have er:zw (e,z)=mkRat w 1:=by
   unfold zw;dsimp only;have:e.toNat=t:=by omega
   rw[if_pos (by omega),this,hw]
  rw[er,agz];unfold agN abl K3 RH agL abh kr;rw[BI];by_cases hl:w<0
  ·rw[awM hl];have h2:decide (((af w.natAbs).length:Int)>0)=true:=by rw[tv]; exact awM (by omega)
   simp only[h2];rfl
  ·rw[awN hl]; rfl
theorem uE (N:Nat) (e:Int) (k0:Bool):cM N ((0:Int)==0) e k0=k0:=rfl
theorem KA {N:Nat} (hF:Fuel N) {x:Fl} (hx:aw x=true) (hw:FW x) (k:Kx5):kh N x k=kq (zw (ofE x)) k:=by
 have hN:=hF.lt;have hex:=Cb hx;obtain⟨b,s,m,i,rfl,h⟩:=cR hx;have ho:=Dy h;unfold kh fK;have fin:∀(M:Nat) (e:Int),M<18446744073709551616->ofE (some b)=(e,cT s M) ->
   cM N ((0:Int)==0) 4 (K6 N (M:Int) false (λ(alT:Bool) (nsr:List Int)=>(cond s (Ld N alT nsr (λ(amQ:Bool) (alG:List Int)=>(dC N (CW N) (cM N) (K6 N) (Ld N) (Lf N) (Nm N) (sQ7 N) (Tj N) (Nl N) (some b) s (M:Int) e amQ alG k))) (dC N (CW N) (cM N) (K6 N) (Ld N) (Lf N) (Nm N) (sQ7 N) (Tj N) (Nl N) (some b) s (M:Int) e alT nsr k))))=kq (zw (ofE (some b))) k:=by
  intro M e hM heq;rw[heq]at hex ⊢;have h1:=hex.1;have h2:=hex.2.1;have h3:=hex.2.2;dsimp only at h1 h2 h3;have hl:(af M).length<=1099511627776:=by
   have:cP 64 M:=by unfold cP; omega
   have:=Dh (B:=64) (by decide) this; omega
  rw[uE,Wd (by omega) M hM];cases s
  ·rw[awO];have e1:cT false M=(M:Int):=rfl;rw[e1]at h3 ⊢;have:=PX hF (some b) false (M:Int) e (M:Int) (by omega) (by omega) h3 k;rw[awN (by omega:¬(M:Int)<0),axI]at this;exact this
  ·rw[awP,Sv false M hl];have e1 : -(cT false M)=cT true M:=rfl;rw[e1];exact PX hF (some b) true (M:Int) e (cT true M) (by omega) (by omega) h3 k
 rw[MI (hw b rfl) h];by_cases h0:m=0
 ·rw[if_pos h0];rw[if_pos h0]at ho;refine fin 0 0 (by decide) ?_;rw[ho];cases s <;> rfl
 ·rw[if_neg h0];rw[if_neg h0]at ho;have hpl:=mS h;have hm:m<2 ^ 64:=by
   have:(2:Nat) ^ 64=18446744073709551616:=by decide
   omega
  obtain⟨g1,g2,g3,g4⟩:=rF 64 m i h0 hm;exact fin _ _ (by omega) ho
theorem zK {B:Nat} {z:Int} {d:Nat} (hz:cP B z.natAbs) (hd:cP B d) (h0:0<d):Bq B (mkRat z d):=by
 refine⟨?_,?_⟩
 ·rw[Rat.num_mkRat,if_neg (by omega)];have h1:((Nat.gcd z.natAbs d:Nat):Int)∣z:=Int.ofNat_dvd_left.2 (axO _ _);rw[ayg,Int.natAbs_ediv_of_dvd h1,axI];exact gw hz
 ·rw[Rat.den_mkRat,if_neg (by omega)];exact gw hd
theorem ad2 {x:Fl} (hx:aw x=true):Bq 1200 (zw (ofE x)):=by
 have hex:=Cb hx;obtain⟨p,hp⟩:∃ p,p=ofE x:=⟨_,rfl⟩
 rw[<- hp]at hex ⊢;obtain⟨e,z⟩:=p;have h1:=hex.1;have h2:=hex.2.1;have h3:=hex.2.2;dsimp only at h1 h2 h3;unfold zw;dsimp only;split
 ·refine zK ?_ (gQ abK (by decide)) (by decide);rw[ayx,axI];exact gQ (Um h3) (by omega)
 ·exact zK (gQ h3 (by omega)) (gQ Jt (by omega)) (aw0 _)
theorem LA {A B:Nat} {x y:Rat} (hx:Bq A x) (hy:Bq B y):Bq (A+B) (x*y):=by rw[Rat.mul_def'];refine zK ?_ (po hx.2 hy.2) (ayI x.den_pos y.den_pos);rw[ayx]; exact po hx.1 hy.1
theorem ae5 {B:Nat} {y:Rat} (hy:Bq B y) (h:y.num ≠ 0):Bq B (y⁻¹):=by obtain⟨i1,i2,i3⟩:=Ko h;exact⟨by rw[i1]; exact hy.2,by rw[i2]; exact hy.1⟩
theorem TC {A B:Nat} {x y:Rat} (hx:Bq A x) (hy:Bq B y) (h:y.num ≠ 0):Bq (A+B) (x / y):=by rw[Rat.div_def]; exact LA hx (ae5 hy h)
theorem ae6 {B:Nat} {y:Rat} (hy:Bq B y):Bq B (-y):=⟨by rw[Rat.neg_num,azc]; exact hy.1,hy.2⟩
theorem ae4 {A B:Nat} {x y:Rat} (hx:Bq A x) (hy:Bq B y):Bq (A+B+1) (x+y):=by rw[Rat.add_def'];refine zK (GY (xv hx.1 hy.2) ?_) (gQ (po hx.2 hy.2) (by omega)) (ayI x.den_pos y.den_pos);rw[ay1]; exact xv hy.1 hx.2
theorem TD {A B:Nat} {x y:Rat} (hx:Bq A x) (hy:Bq B y):Bq (A+B+1) (x - y):=by rw[Rat.sub_eq_add_neg]; exact ae4 hx (ae6 hy)
theorem Oo {B:Nat}:Bq (B+1) 0:=⟨aw0 _,by show 1<2 ^ (B+1); exact Nat.one_lt_two_pow (by omega)⟩
def enc (x:Rat):RY0:=((decide (x.num<0),af x.num.natAbs),(false,af x.den))
def mat {α:Type} (g:Rat->α) (n:Nat) (f:Nat->Nat->Rat):List α:=(List.range (n*n)).map (λt=>g (f (t / n) (t%n)))
theorem AF {α:Type} (g:Rat->α) (n:Nat) (f:Nat->Nat->Rat):(mat g n f).length=n*n:=by unfold mat; rw[ayH,List.length_range]
theorem xE {n i j:Nat} (hi:i<n) (hj:j<n):i*n+j<n*n:=by have h1:(i+1)*n<=n*n:=awU _ hi;rw[axh]at h1; omega
theorem PR {n i j:Nat} (hj:j<n):(i*n+j) / n=i:=by rw[awR,azI (by omega),axl hj,axb]
theorem PS {n i j:Nat} (hj:j<n):(i*n+j)%n=j:=by rw[awR,azr,awV hj]
theorem Wr {α:Type} (g:Rat->α) (n:Nat) (f:Nat->Nat->Rat) {i j:Nat} (hi:i<n) (hj:j<n) (z:α):(mat g n f).getD (i*n+j) z=g (f i j):=by have h:=xE hi hj;unfold mat;rw[List.getD_eq_getElem?_getD,List.getElem?_map,List.getElem?_range h];simp only[axP,axk,PR hj,PS hj]
theorem tN {α:Type} (g:Rat->α) (n:Nat) {f f':Nat->Nat->Rat} (h:∀ a b,a<n->b<n->f a b=f' a b):mat g n f=mat g n f':=by
 unfold mat;apply azn;intro t ht;have ht:=List.mem_range.1 ht;have hn:0<n:=by
  rcases ayh n with h0 | h0
  ·rw[h0]at ht; omega
  ·exact h0
 rw[h _ _ (azj ht) (axf _ hn)]
theorem adR {α:Type} (g:Rat->α) (n:Nat) (f:Nat->Nat->Rat) {i j:Nat} (hi:i<n) (hj:j<n) (v:Rat):(mat g n f).set (i*n+j) (g v)=mat g n (λa b=>if a=i/\b=j then v else f a b):=by
 have h:=xE hi hj;apply List.ext_getElem?;intro t;by_cases ht:t<n*n
 ·have hn:0<n:=by omega
  rw[List.getElem?_set];unfold mat;rw[List.getElem?_map,List.getElem?_map,List.getElem?_range ht];simp only[ayH,List.length_range,axP];by_cases he:i*n+j=t
  ·rw[if_pos he,if_pos h,<- he,PR hj,PS hj,if_pos ⟨rfl,rfl⟩]
  ·rw[if_neg he];have:¬(t / n=i/\t%n=j):=by rintro ⟨h1,h2⟩;apply he;rw[<- h1,<- h2,awR];exact axz t n
   rw[if_neg this]
 ·rw[List.getElem?_eq_none (by rw[azp,AF]; omega),List.getElem?_eq_none (by rw[AF]; omega)]
theorem Lq {n:Nat} (h:n<=1000):n*n<=1000000:=by have:n*n<=1000*1000:=axK h h;omega
theorem ES (i j n:Nat):(i:Int)*(n:Int)+(j:Int)=((i*n+j:Nat):Int):=by rw[Int.natCast_add,aw4]
theorem ET {n i j:Nat} (hn:n<=1000) (hi:i<n) (hj:j<n):au .i64 ((i:Int)*(n:Int))=true/\au .i64 (((i*n+j:Nat):Int))=true:=by have h1:=Lq hn;have h2:=xE hi hj;rw[<- aw4];exact⟨aj (by omega) (by omega),aj (by omega) (by omega)⟩
theorem uF {N n i j:Nat} (hn:n<=1000) (hi:i<n) (hj:j<n) (f:Nat->Nat->Rat) (k:Kx5) :
  bv N n n i j (mat enc n f) k=kq (f i j) k:=by
 obtain⟨h1,h2⟩:=ET hn hi hj;have h3:=xE hi hj;unfold bv gN;rw[ES,ae h1,ae h2,AF,awS,ae awL,ae (awM h3),Wr enc n f hi hj];rfl
theorem adN {N n i j:Nat} (hn:n<=1000) (hi:i<n) (hj:j<n) (f:Nat->Nat->Rat) (v:Rat) (k:List RY0->Bool) :
  gW N n n i j (decide (v.num<0)) (af v.num.natAbs) false (af v.den) (mat enc n f) k=k (mat enc n (λa b=>if a=i/\b=j then v else f a b)):=by
 obtain⟨h1,h2⟩:=ET hn hi hj;have h3:=xE hi hj;unfold gW gO;rw[ES,ae h1,ae h2,AF,awS,ae awL,ae (awM h3)];exact azJ k (adR enc n f hi hj v)
theorem EX {σ:Type} {step:σ->(σ->Bool)->Bool} (C:Nat->σ) (m n:Nat) (hmn:m<=n) {N:Nat} (hn:n<N) {out:Bool} (hs:∀ i,m<=i->i<n -> ∀ K:σ->Bool,step (C i) K=K (C (i+1))) (hx:∀ K,step (C n) K=out):al N step (C m)=out:=by have:=tK (step:=step) (λi=>C (m+i)) (n - m) (N:=N) (by omega) (out:=out) (λi hi K=>hs (m+i) (by omega) (by omega) K) (λK=>by show step (C (m+(n - m))) K=out; rw[show m+(n - m)=n by omega]; exact hx K);exact this
def BE (f:Nat->Nat->Rat) (i c:Nat) (x:Rat) (t:Nat):Nat->Nat->Rat:=λa b=>if a=i/\b<t then f i b+f c b*x else f a b
def nF (f:Nat->Nat->Rat) (c m:Nat):Nat->Nat->Rat:=λa b=>if c<a/\a<m then f a b - f a c / f c c*f c b else f a b
def Cp (B n:Nat) (f:Nat->Nat->Rat):Prop:=∀ a b,a<n->b<n->Bq B (f a b)
theorem We {N B n i c:Nat} (hF:Fuel N) (hB:B<=300000000000) (hn:n<=1000) (hi:i<n) (hc:c<n) (hic:c ≠ i) {f:Nat->Nat->Rat} (hf:Cp B n f) {x:Rat} (hx:Bq (2*B) x) (k:List RY0->Bool) :
  cG N n n i c (decide (x.num<0)) (af x.num.natAbs) false (af x.den) (mat enc n f) k=k (mat enc n (BE f i c x n)):=by
 have hN:=hF.lt;unfold cG gM;have h0:mat enc n f=mat enc n (BE f i c x 0):=tN _ _ (λa b _ _=>by unfold BE; rw[if_neg (by omega)]);rw[h0];refine tK (λt:Nat=>((t:Int),mat enc n (BE f i c x t))) n (by omega) ?_ ?_
 ·intro t ht K;unfold dD;dsimp only;rw[awM (by omega:(t:Int)<(n:Int)),awP,uF hn hi ht];have e1:BE f i c x t i t=f i t:=by unfold BE; rw[if_neg (by omega)]
  have e2:BE f i c x t c t=f c t:=by unfold BE; rw[if_neg (by omega)]
  unfold kq kr;dsimp only;rw[uF hn hc ht,e1,e2];unfold kq kr;dsimp only;rw[adJ hF (B:=2*B) (by omega) ((hf c t hc ht).mono (by omega)) hx];unfold kq kr;dsimp only;rw[adH hF (B:=3*B) (by omega) ((hf i t hi ht).mono (by omega)) ((LA (hf c t hc ht) hx).mono (by omega))];unfold kq kr;dsimp only;rw[adN hn hi ht,ae awK];have e3:mat enc n (λa b=>if a=i/\b=t then f i t+f c t*x else BE f i c x t a b)=mat enc n (BE f i c x (t+1)):=tN _ _ (λa b _ _=>by
   unfold BE;by_cases h:a=i/\b=t
   ·rw[if_pos h,if_pos (by omega),h.2]
   ·rw[if_neg h];by_cases h2:a=i/\b<t
    ·rw[if_pos h2,if_pos (by omega)]
    ·rw[if_neg h2,if_neg (by omega)])
  rw[e3];rfl
 ·intro K;unfold dD;dsimp only;rw[awN (by omega:¬(n:Int)<(n:Int)),awO]
def RQ (g:Nat->Rat):Nat->Nat->Bool
 | i,0=>true
 | i,d+1=>decide (g i=0)&&RQ g (i+1) d
def AX (n:Nat):Nat->Nat->Int->(Nat->Nat->Rat)->Int
 | 0,c,s,f=>s
 | d+1,c,s,f=>if (f c c).num<0 then 1 else if f c c=0 then(if RQ (λi=>f i c) (c+1) d=true then AX n d (c+1) 2 f else 1)else AX n d (c+1) s (nF f c n)
theorem W9 (z:Int):decide (vK z<0)=decide (z<0):=by
 unfold vK;by_cases h0:z=0
 ·rw[if_pos h0,h0]
 ·rw[if_neg h0];by_cases h:z<0
  ·rw[if_pos h,awM h]; rfl
  ·rw[if_neg h,awN h]; rfl
theorem AL {x:Rat}:(x.num=0)↔x=0:=Rat.num_eq_zero
theorem Cg (x:Rat):(vK x.num==0)=decide (x=0):=by
 rw[Tk];by_cases h:x=0
 ·rw[awM h,awM (AL.2 h)]
 ·rw[awN h,awN (λg=>h (AL.1 g))]
theorem G9 {B n c m:Nat} {f:Nat->Nat->Rat} (hf:Cp B n f) (hc:c<n) (h0:f c c ≠ 0):Cp (4*B+1) n (nF f c m):=by
 intro a b ha hb;unfold nF;split
 ·exact(TD (hf a b ha hb) (LA (TC (hf a c ha hc) (hf c c hc hc) (λh=>h0 (AL.1 h))) (hf c b hc hb))).mono (by omega)
 ·exact(hf a b ha hb).mono (by omega)
theorem Me (f:Nat->Nat->Rat) (c:Nat) {α:Type} (g:Rat->α) (n:Nat):mat g n (nF f c (c+1))=mat g n f:=tN _ _ (λa b _ _=>by unfold nF; rw[if_neg (by omega)])
theorem ED {f:Nat->Nat->Rat} {c i:Nat} (b:Nat):nF f c i i b=f i b:=by unfold nF; rw[if_neg (by omega)]
theorem U5 {f:Nat->Nat->Rat} {c i:Nat} (b:Nat):nF f c i c b=f c b:=by unfold nF; rw[if_neg (by omega)]
theorem G_ {f:Nat->Nat->Rat} {c i a b:Nat} (h:c<i):nF f c (i+1) a b=if a=i then f i b - f i c / f c c*f c b else nF f c i a b:=by
 unfold nF;by_cases h1:a=i
 ·rw[if_pos h1,if_pos (by omega),h1]
 ·rw[if_neg h1];by_cases h2:c<a/\a<i
  ·rw[if_pos h2,if_pos (by omega)]
  ·rw[if_neg h2,if_neg (by omega)]
theorem WG (x y p q:Rat):q+y*(0 - x / p)=q - x / p*y:=by grind
theorem WF (p q y:Rat):q - 0 / p*y=q:=by grind
theorem Wk {N B n c:Nat} (hF:Fuel N) (hB:4*B+1<=300000000000) (hn:n<=1000) (hc:c<n) (s:Int) (t1 t2:Int) {f:Nat->Nat->Rat} (hf:Cp B n f) (h0:f c c ≠ 0) (e0:Int->List RY0->Bool) (e1:List RY0->Bool) :
  al N (aE N (bv N) (bE N) (fQ N) (cl N) (bD N) (cG N) s (c:Int) t1 t2 (n:Int) (n:Int) (decide ((f c c).num<0)) (af (f c c).num.natAbs) false (af (f c c).den) e0 e1) (((c+1:Nat):Int),mat enc n f)=e1 (mat enc n (nF f c n)):=by
 have hN:=hF.lt;rw[<- Me f c enc n];refine EX (λi:Nat=>((i:Int),mat enc n (nF f c i))) (c+1) n (by omega) (by omega) ?_ ?_
 ·intro i hi1 hi2 K;unfold aE;dsimp only;rw[awM (by omega:(i:Int)<(n:Int)),awP,uF hn hi2 hc,ED];unfold kq kr;dsimp only;rw[pz,Cg];by_cases hz:f i c=0
  ·rw[awM hz,awP,ae awK];have:mat enc n (nF f c (i+1))=mat enc n (nF f c i):=tN _ _ (λa b _ _=>by
    rw[G_ (by omega)];by_cases h1:a=i
    ·rw[if_pos h1,h1,ED,hz,WF]
    ·rw[if_neg h1])
   rw[this];rfl
  ·rw[awN hz,awO,pz,Cg,awN h0,awO,MN hF];unfold kq kr;dsimp only;have hp:(f c c).num ≠ 0:=λh=>h0 (AL.1 h)
   have bx:=hf i c hi2 hc;have bp:=hf c c hc hc;have bq:=TC bx bp hp;rw[adM hF (B:=B) (by omega) bx bp hp];unfold kq kr;dsimp only;have bz:Bq (B+B+1) 0:=Oo;rw[KB hF (B:=B+B+1) (by omega) bz (bq.mono (by omega))];unfold kq kr;dsimp only;have bs:Bq (2*(4*B+1)) (0 - f i c / f c c):=(TD (A:=1) (Oo (B:=0)) bq).mono (by omega);rw[We hF (B:=4*B+1) hB hn hi2 hc (by omega) (G9 hf hc h0) bs,ae awK];have:mat enc n (nF f c (i+1))=mat enc n (BE (nF f c i) i c (0 - f i c / f c c) n):=tN _ _ (λa b _ hb=>by
    rw[G_ (by omega)];unfold BE;by_cases h1:a=i
    ·rw[if_pos h1,if_pos ⟨h1,hb⟩,ED,U5,WG]
    ·rw[if_neg h1,if_neg (by omega)])
   rw[this];rfl
 ·intro K;unfold aE;dsimp only;rw[awN (by omega:¬(n:Int)<(n:Int)),awO]
theorem SH {N n c:Nat} (hF:Fuel N) (hn:n<=1000) (hc:c<n) (s:Int) (t1 t2:Int) {f:Nat->Nat->Rat} (h0:f c c=0) (e0:Int->List RY0->Bool) (e1:List RY0->Bool):∀(d i M:Nat),i+d=n->d<M ->
  al M (aE N (bv N) (bE N) (fQ N) (cl N) (bD N) (cG N) s (c:Int) t1 t2 (n:Int) (n:Int) (decide ((f c c).num<0)) (af (f c c).num.natAbs) false (af (f c c).den) e0 e1) ((i:Int),mat enc n f)=if RQ (λi=>f i c) i d=true then e1 (mat enc n f)else e0 1 (mat enc n f):=by
 intro d;induction d with
 | zero=>
  intro i M hi hM;cases M with
  | zero=>omega
  | succ M=>
   show aE _ _ _ _ _ _ _ _ _ _ _ _ _ _ _ _ _ _ _ ((i:Int),mat enc n f) (al M _)=_;unfold aE RQ;dsimp only;rw[awN (by omega:¬(i:Int)<(n:Int)),awO,if_pos rfl]
 | succ d ih=>
  intro i M hi hM;cases M with
  | zero=>omega
  | succ M=>
   have hi2:i<n:=by omega
   show aE _ _ _ _ _ _ _ _ _ _ _ _ _ _ _ _ _ _ _ ((i:Int),mat enc n f) (al M _)=_;rw[aE];rw[awM (by omega:(i:Int)<(n:Int)),awP,uF hn hi2 hc];unfold kq kr;dsimp only;rw[pz,Cg,RQ];by_cases hz:f i c=0
   ·rw[awM hz,awP,ae awK,axB];exact ih (i+1) M (by omega) (by omega)
   ·rw[awN hz,awO,pz,Cg,awM h0,awP,azx,if_neg (by decide)]
theorem Im {N n:Nat} (hF:Fuel N) (hn:n<=1000) (k:Ky8):∀(d c B M:Nat) (s:Int) (f:Nat->Nat->Rat),c+d=n->d<M->Cp B n f->(B+1)*4 ^ d<=100000000000 ->
  al M (aV N (bv N) (bE N) (fQ N) (cl N) (bD N) (cG N) (n:Int) (n:Int) (n:Int) (λt _=>k t) (λt _=>k t)) (s,(c:Int),mat enc n f)=k (AX n d c s f):=by
 intro d;induction d with
 | zero=>
  intro c B M s f hc hM _ _;cases M with
  | zero=>omega
  | succ M=>
   show aV _ _ _ _ _ _ _ _ _ _ _ _ (s,(c:Int),mat enc n f) (al M _)=_;rw[aV];rw[awN (by omega:¬(c:Int)<(n:Int)),awO];rfl
 | succ d ih=>
  intro c B M s f hc hM hf hB;cases M with
  | zero=>omega
  | succ M=>
   have hN:=hF.lt;have hcn:c<n:=by omega
   have h4:(4*B+1+1)*4 ^ d<=100000000000:=by
    have h1:(4*B+1+1)*4 ^ d<=(B+1)*4*4 ^ d:=awU _ (by omega);have h2:(B+1)*4*4 ^ d=(B+1)*4 ^ (d+1):=by rw[awX,awW,awR 4 (4 ^ d)]
    omega
   have hB2:4*B+1+1<=100000000000:=by have:0<4 ^ d:=axJ (by decide);have h1:(4*B+1+1)*1<=(4*B+1+1)*4 ^ d:=aw1 _ this;omega
   show aV _ _ _ _ _ _ _ _ _ _ _ _ (s,(c:Int),mat enc n f) (al M _)=_;rw[aV];rw[awM (by omega:(c:Int)<(n:Int)),awP,uF hn hcn hcn];unfold kq kr;dsimp only;rw[pz,W9,AX];by_cases hneg:(f c c).num<0
   ·rw[awM hneg,awP,if_pos hneg]
   ·rw[awN hneg,awO,if_neg hneg,ae awK];by_cases h0:f c c=0
    ·rw[if_pos h0];have hr:=λe0 e1=>SH hF hn hcn s (n:Int) (c:Int) h0 e0 e1 d (c+1) N (by omega) (by omega)
     rw[awN hneg]at hr;rw[show(c:Int)+1=((c+1:Nat):Int) from rfl,hr];by_cases hz:RQ (λi=>f i c) (c+1) d=true
     ·rw[if_pos hz,if_pos hz];have hs:=pz (N:=N) (f c c);rw[awN hneg]at hs;rw[hs,Cg,awM h0,awP,ae awK];exact ih (c+1) B M 2 f (by omega) (by omega) hf (by have:(B+1)*4 ^ d<=(4*B+1+1)*4 ^ d:=awU _ (by omega);omega)
     ·rw[if_neg hz,if_neg hz]
    ·rw[if_neg h0];have hr:=λe0 e1=>Wk hF (by omega) hn hcn s (n:Int) (c:Int) hf h0 e0 e1
     rw[awN hneg]at hr;rw[show(c:Int)+1=((c+1:Nat):Int) from rfl,hr];have hs:=pz (N:=N) (f c c);rw[awN hneg]at hs;rw[hs,Cg,awN h0,awO,ae awK];exact ih (c+1) (4*B+1) M s (nF f c n) (by omega) (by omega) (G9 hf hcn h0) h4
theorem Wm {N B n:Nat} (hF:Fuel N) (hB:B<=300000000000) (hn:n<=1000) {f:Nat->Nat->Rat} (hf:Cp B n f) (hs:∀ a b,a<n->b<n->f a b=f b a) (k:Bool) :
  dT N n n (mat enc n f) k=k:=by
 have hN:=hF.lt;unfold dT dQ;refine tK (λt:Nat=>(t:Int)) n (by omega) ?_ ?_
 ·intro i hi K;unfold cj;dsimp only;rw[awM (by omega:(i:Int)<(n:Int)),awP];refine tK (λt:Nat=>(t:Int)) i (by omega) ?_ ?_
  ·intro j hj K';have hj2:j<n:=by omega
   unfold ck;dsimp only;rw[awM (by omega:(j:Int)<(i:Int)),awP,uF hn hi hj2];unfold kq kr;dsimp only;rw[uF hn hj2 hi];unfold kq kr;dsimp only;rw[KB hF (B:=B) (by omega) (hf i j hi hj2) (hf j i hj2 hi)];unfold kq kr;dsimp only;have e:vK (f i j - f j i).num=0:=by
    have:f i j - f j i=0:=by rw[hs i j hi hj2]; grind
    rw[this]; rfl
   rw[pz,e,uE,ae awK];rfl
  ·intro K';unfold ck;dsimp only;rw[awN (by omega:¬(i:Int)<(i:Int)),awO,ae awK];rfl
 ·intro K;unfold cj;dsimp only;rw[awN (by omega:¬(n:Int)<(n:Int)),awO]
theorem SD {N B n:Nat} (hF:Fuel N) (hn:n<=1000) {f:Nat->Nat->Rat} (hf:Cp B n f) (hs:∀ a b,a<n->b<n->f a b=f b a) (hB:(B+1)*4 ^ n<=100000000000) (k:Ky8) :
  gl N n n (mat enc n f) (λt _=>k t)=k (AX n n 0 3 f):=by
 have hN:=hF.lt;have hB2:B<=300000000000:=by have:0<4 ^ n:=axJ (by decide);have h1:(B+1)*1<=(B+1)*4 ^ n:=aw1 _ this;omega
 unfold gl fY;have e:((n:Int)==(n:Int))=((0:Int)==0):=by simp
 rw[e,uE,Wm hF hB2 hn hf hs];unfold g_ ep;exact Im hF hn k n 0 B N 3 f (by omega) (by omega) hf hB
def fm (n:Nat) (l:List Fl):Nat->Nat->Rat:=λi j=>zw (ofE (l.getD (i*n+j) none))
theorem adQ {α:Type} (g:Rat->α) {n:Nat} {l:List Fl} (h:l.length=n*n):l.map (λx=>g (zw (ofE x)))=mat g n (fm n l):=by
 apply List.ext_getElem?;intro t;by_cases ht:t<n*n
 ·unfold mat;rw[List.getElem?_map,List.getElem?_map,List.getElem?_range ht,List.getElem?_eq_getElem (by omega)];simp only[axP];unfold fm;have:t / n*n+t%n=t:=by rw[awR]; exact axz t n
  rw[this,List.getD_eq_getElem?_getD,List.getElem?_eq_getElem (by omega)];rfl
 ·rw[List.getElem?_eq_none (by rw[ayH]; omega),List.getElem?_eq_none (by rw[AF]; omega)]
theorem uh {l:List Fl} (h:ji l=true) {i:Nat} (hi:i<l.length):aw (l.getD i none)=true:=by unfold ji at h;exact pn.1 h i hi
def AllW (l:List Fl):Prop:=∀ x,x ∈ l->FW x
theorem AllW.get {l:List Fl} (h:AllW l) {i:Nat} (hi:i<l.length):FW (l.getD i none):=by rw[List.getD_eq_getElem?_getD,List.getElem?_eq_getElem hi];exact h _ (axN hi)
theorem abQ {n:Nat} {l:List Fl} (h:l.length=n*n) (hf:ji l=true):Cp 1200 n (fm n l):=by intro a b ha hb;have:=xE ha hb;exact ad2 (uh hf (by omega))
theorem Q9 {N:Nat} (x:Int) (k:Ky7):Ql N x k=k (decide (0<=x/\x<=12)):=by
 unfold Ql Pe;by_cases h:x>=0
 ·rw[awM h,show(true==true)=true from rfl,awP];congr 1;by_cases h2:x<=12
  ·rw[awM h2,awM ⟨h,h2⟩]
  ·rw[awN h2,awN (by omega)]
 ·rw[awN h,show(false==true)=false from rfl,awO,awN (by omega)]
theorem adU {a b:Int} (h1:0<=a/\a<=12) (h2:0<=b/\b<=12):0<=a*b/\a*b<=144:=by have h3:a*b<=12*b:=Int.mul_le_mul_of_nonneg_right h1.2 h2.1;have h4:0<=a*b:=Int.mul_nonneg h1.1 h2.1;omega
theorem zn {N:Nat} (hN:1000<=N) (a b:Int) (l:List Fl) (k:Ky8):Tg N a b l k=k (chk a b l):=by
 unfold Tg aaN chk;rw[Q9];by_cases h1:0<=a/\a<=12
 ·rw[awM h1,show((!true)==false)=true from rfl,awP,Q9];by_cases h2:0<=b/\b<=12
  ·have h3:=adU h1 h2;rw[awM h2,if_pos ⟨h1,h2⟩,show(!true)=false from rfl,awO,ae awK];by_cases h4:(l.length:Int)=a*b
   ·have:(((l.length:Nat):Int) != a*b)=false:=by simp[h4]
    have h6:l.length<=144:=by rw[<- h4]at h3; omega
    rw[this,awO,if_pos h4,rA l ⟨by omega,by omega⟩];cases h5:ji l
    ·rfl
    ·rfl
   ·have:(((l.length:Nat):Int) != a*b)=true:=by simp[h4]
    rw[this,awP,if_neg h4]
  ·rw[awN h2,if_neg (λh=>h2 h.2),show(!false)=true from rfl,awP]
 ·rw[awN h1,if_neg (λh=>h1 h.1)]; rfl
theorem Ut {n:Nat} {l:List Fl} (hn:n<=12) (h:l.length=n*n) (hf:ji l=true):chk n n l=0:=
 Ae.2 ⟨⟨by omega,by omega⟩,by rw[h,aw4],hf⟩
theorem Gp {α:Type} (g:Fl->α) {l:List Fl} {t:Nat} (ht:t<l.length):(l.take (t+1)).map g=(l.take t).map g++[g (l.getD t none)]:=by rw[ax_ ht,ayL,List.getD_eq_getElem?_getD,List.getElem?_eq_getElem ht]; rfl
theorem Ik {N n:Nat} (hF:Fuel N) {l:List Fl} (hn:n<=12) (h:l.length=n*n) (hf:ji l=true) (hw:AllW l) (k:List RY0->Bool) :
  jz N n n l k=k (mat enc n (fm n l)):=by
 have hN:=hF.lt;have hl:=Lq (n:=n) (by omega);unfold jz jr;rw[zn (by omega),Ut hn h hf,uE,<- adQ enc h];refine tK (λt:Nat=>((t:Int),(l.take t).map (λx=>enc (zw (ofE x))))) l.length (by omega) ?_ ?_
 ·intro t ht K;unfold fo;dsimp only;rw[awM (by omega:(t:Int)<(l.length:Int)),awP,ae awL,awS,KA hF (uh hf ht) (hw.get ht)];unfold kq kr;dsimp only;rw[Gp _ ht,ae (awM (by rw[axQ,ayH,axv]; simp only[axj,ayG]; omega)),ae awK];rfl
 ·intro K;unfold fo;dsimp only;rw[awN (by omega:¬(l.length:Int)<(l.length:Int)),awO,axp]
theorem Lr {n:Nat} (hn:n<=12):(1200+1)*4 ^ n<=100000000000:=by
 have h1:4 ^ n<=4 ^ 12:=aw5 (by decide) hn;have h2:(4:Nat) ^ 12=16777216:=by decide
 rw[h2]at h1;have h3:(1200+1)*4 ^ n<=(1200+1)*16777216:=aw1 _ h1;omega
def abG (n:Nat) (l:List Fl):Prop:=∀ a b,a<n->b<n->fm n l a b=fm n l b a
def S9 (n:Nat) (l:List Fl):Bool:=AX n n 0 3 (fm n l)==3
theorem Kw {N n:Nat} (hF:Fuel N) {l:List Fl} (hn:n<=12) (h:l.length=n*n) (hf:ji l=true) (hw:AllW l) (hs:abG n l) (k:Ky2) :
  kg N n n l k=k (AX n n 0 3 (fm n l)) 0:=by
 unfold kg j6;rw[Ik hF hn h hf hw];exact SD hF (by omega) (abQ h hf) hs (Lr hn) (λt=>k t 0)
theorem AC {N n:Nat} (hF:Fuel N) {l:List Fl} (hn:n<=12) (h:l.length=n*n) (hf:ji l=true) (hw:AllW l) (hs:abG n l) (k:Ky7) :
  gV N n n l k=k (S9 n l):=by
 unfold gV kM;rw[Kw hF hn h hf hw hs];rfl
theorem Wc (N:Nat) (a b:Nat) (k:Ky7):HI N a b k=k (decide (cn (some a)=cn (some b))):=by unfold HI Pu;simp only[Fq,xQ,zP,Hn];rw[<- afP a b (.inr trivial)];rfl
end Go.Proofs.YtldenpmpmifnlaaGreatDoor
end
section
namespace Go.Proofs.YtldenpmpmifnlaaGreatDoor
open Go Go.Mach Ieee
set_option maxRecDepth 100000
theorem SB {N:Nat} (hN:1000<=N) (k:Ky7):aee N k=k true:=by
 obtain⟨M,rfl⟩:∃ M,N=M+1000:=⟨N - 1000,by omega⟩
 kernel_rfl
theorem Ku {N:Nat} (hN:1000<=N) (k:Ky1):KZ N 1 k=k false (aM 1):=MH (N:=N) 1 (by decide) (sH hN (by decide)) (by omega) k
theorem aeN (a b:Nat):flt (some a) (some b)=((Ieee.double.read a).order (Ieee.double.read b)==some .lt):=rfl
theorem aiz (a b:Nat):feq (some a) (some b)=((Ieee.double.read a).order (Ieee.double.read b)==some .eq):=rfl
theorem aiA (a b:Nat):fgt (some a) (some b)=((Ieee.double.read a).order (Ieee.double.read b)==some .gt):=rfl
theorem Ve (a b:Nat):aZ (some a) (some b)=((Ieee.double.read a).product (Ieee.double.read b)).map Ieee.double.write:=rfl
theorem z8 {b:Nat} (hb:W64 b) {s:Bool} {m:Nat} {i:Int} (h:Ieee.double.read b=.number s m i):∃ c,oJ (some b)=some c/\W64 c/\Ieee.double.read c=.number false m i:=by
 have e:Ieee.double.read (b%9223372036854775808)=.number false m i:=by
  obtain⟨hs,hlt,h⟩:=gz h;unfold Format.read;simp only[cE,jM,fN,il];have e1:b%9223372036854775808%9223372036854775808=b%9223372036854775808:=by omega
  have e2:(b%9223372036854775808 / 9223372036854775808%2==1)=false:=by rw[beq_eq_false_iff_ne]; omega
  rw[e1,e2];rcases h with⟨h1,rfl,rfl⟩ | ⟨h1,rfl,rfl⟩
  ·rw[if_pos h1]
  ·rw[if_neg (by omega),if_pos hlt]
 have hn:isNaN (b%9223372036854775808)=false:=by unfold isNaN; rw[e]; rfl
 refine⟨b%9223372036854775808,?_,by unfold W64 at *; omega,e⟩;show ir _=_;unfold ir; rw[hn]; rfl
theorem Na:Ieee.double.read 4841369599423283200=.number false 4503599627370496 0:=by decide
theorem M_:Ieee.double.read 4503599627370496=.number false 4503599627370496 (-1074):=by decide
theorem KW:Ieee.double.read 4368491638549381120=.number false 4503599627370496 (-105):=by decide
theorem Hc {c:Nat} {m:Nat} {i:Int} (h:Ieee.double.read c=.number false m i):flt (some c) (some 4503599627370496)=decide (m<4503599627370496/\i = -1074):=by
 have hg:=iD h;have hr:=gz h;rw[aeN,h,M_];simp only[Datum.order];have hmin:min i (-1074) = -1074:=by omega
 have e0:(-1074 - -1074:Int).toNat=0:=by decide
 rw[hmin,e0];have s1:signed false m (i - -1074).toNat=((m <<< (i - -1074).toNat:Nat):Int):=rfl;have s2:signed false 4503599627370496 0=((4503599627370496:Nat):Int):=rfl;rw[s1,s2,Nat.shiftLeft_eq];have hp:0<2 ^ (i - -1074).toNat:=aw0 _;have hle:m<=m*2 ^ (i - -1074).toNat:=axr m hp;by_cases hc:m<4503599627370496/\i = -1074
 ·rw[awM hc];obtain⟨h1,rfl⟩:=hc;rw[e0,ayO,ayj];have:compare (m:Int) ((4503599627370496:Nat):Int)=.lt:=Int.compare_eq_lt.2 (by omega);rw[this]; rfl
 ·rw[awN hc];have hm:4503599627370496<=m:=by
   rcases hr.2.2 with⟨h1,rfl,rfl⟩ | ⟨h1,rfl,rfl⟩
   ·omega
   ·omega
  generalize m*2 ^ (i - -1074).toNat=q at hle;have:compare (q:Int) ((4503599627370496:Nat):Int) ≠ .lt:=λe=>by have:=Int.compare_eq_lt.1 e; omega
  cases e:compare (q:Int) ((4503599627370496:Nat):Int)with
  | lt=>exact absurd e this
  | eq=>rfl
  | gt=>rfl
theorem Va {b:Nat} {s:Bool} {m:Nat} {i:Int} (h:Ieee.double.read b=.number s m i):feq (some b) (some 0)=decide (m=0):=by
 rw[aiz,h,HE];simp only[Datum.order,iu];by_cases h0:m=0
 ·subst h0; rw[iu]; rfl
 ·rw[awN h0];have hp:m <<< (i - min i (-1074)).toNat ≠ 0:=by rw[Nat.shiftLeft_eq];exact azs h0 (Nat.ne_of_gt (aw0 _))
  have hne:signed s m (i - min i (-1074)).toNat ≠ 0:=by unfold signed;generalize m <<< (i - min i (-1074)).toNat=q at hp;cases s <;> simp <;> omega
  cases e:compare (signed s m (i - min i (-1074)).toNat) 0 with
  | lt=>rfl
  | gt=>rfl
  | eq=>exact absurd (Int.compare_eq_eq.1 e) hne
theorem sZ (N:Nat) {x:Fl} (hx:aw x=true) (hw:FW x) (k:Ky7):Lg N x 0 k=k false:=by
 obtain⟨b,s,m,i,rfl,h⟩:=cR hx;obtain⟨c,hc,hcw,hcr⟩:=z8 (hw b rfl) h;have hp:=mS hcr;have hg:=iD hcr;unfold Lg TY;show k (fgt (oJ (some b)) (some 9218868437227405311))=_;rw[hc];congr 1;have hr:Ieee.double.read 9218868437227405311=.number false 9007199254740991 971:=by decide
 rw[aiA,hcr,hr];simp only[Datum.order];have hmin:min i 971=i:=by omega
 have e0:(i - i).toNat=0:=by omega
 rw[hmin,e0];have s1:signed false m 0=((m:Nat):Int):=rfl;have s2:signed false 9007199254740991 (971 - i).toNat=((9007199254740991 <<< (971 - i).toNat:Nat):Int):=rfl;rw[s1,s2,Nat.shiftLeft_eq];have hpw:0<2 ^ (971 - i).toNat:=aw0 _;have hle:9007199254740991<=9007199254740991*2 ^ (971 - i).toNat:=axr _ hpw;generalize 9007199254740991*2 ^ (971 - i).toNat=q at hle;have:compare (m:Int) (q:Int) ≠ .gt:=λe=>by have:=Int.compare_eq_gt.1 e; omega
 cases e:compare (m:Int) (q:Int)with
 | gt=>exact absurd e this
 | eq=>rfl
 | lt=>rfl
theorem aj8 {b:Nat} (hb:W64 b) {s:Bool} {M:Nat} {P:Int} (h:Ieee.double.read b=.number s M P) (hM:4503599627370496<=M):((b / 4503599627370496%2048:Nat):Int)=P+1075:=by
 obtain⟨-,hlt,h⟩:=gz h;rcases h with⟨h1,rfl,rfl⟩ | ⟨h1,rfl,rfl⟩
 ·omega
 ·omega
theorem abI (n:Nat) (h:n<4096):az .and .i64 (n:Int) 2047=((n%2048:Nat):Int):=by
 unfold az qf;simp only[axk];have h2047:(2047:Int)=((2 ^ 11 - 1:Nat):Int):=by simp
 rw[h2047];have e:((BitVec.ofInt (IntKind.bits .i64) (n:Int)) &&& (BitVec.ofInt (IntKind.bits .i64) ((2 ^ 11 - 1:Nat):Int))).toNat=n%2048:=by show((BitVec.ofInt 64 (n:Int)) &&& (BitVec.ofInt 64 ((2 ^ 11 - 1:Nat):Int))).toNat=n%2 ^ 11;rw[ayt,axg,axg,axi,axi,awV (a:=2 ^ 11 - 1) (by decide),aye,Nat.mod_mod_of_dvd];exact Nat.pow_dvd_pow 2 (by decide)
 rw[e];have hw:∀ z:Nat,z<4096->IntKind.wrap .i64 (z:Int)=z:=λz hz=>by
  unfold IntKind.wrap;have h1:IntKind.signed .i64=true:=rfl;have h2:IntKind.bits .i64=64:=rfl;have h3:(2:Int) ^ 64=18446744073709551616:=by decide
  have h4:(2:Int) ^ (64 - 1)=9223372036854775808:=by decide
  simp only[h1,h2,h3,h4,axB,ayS];split <;> omega
 rw[hw _ (by omega)]
theorem Vd {b:Nat} {s:Bool} {m:Nat} {i:Int} (h:Ieee.double.read b=.number s m i) (h0:m ≠ 0):flt (some b) (some 0)=s:=by
 rw[aeN,h,HE];simp only[Datum.order,iu];have hp:m <<< (i - min i (-1074)).toNat ≠ 0:=by rw[Nat.shiftLeft_eq];exact azs h0 (Nat.ne_of_gt (aw0 _))
 cases s with
 | true=>
  have:signed true m (i - min i (-1074)).toNat<0:=by show -((m <<< (i - min i (-1074)).toNat:Nat):Int)<0;generalize m <<< (i - min i (-1074)).toNat=q at hp;omega
  rw[Int.compare_eq_lt.2 this]; rfl
 | false=>
  have:0<signed false m (i - min i (-1074)).toNat:=by show 0<((m <<< (i - min i (-1074)).toNat:Nat):Int);generalize m <<< (i - min i (-1074)).toNat=q at hp;omega
  rw[Int.compare_eq_gt.2 this]; rfl
theorem KQ {b:Nat} (hb:W64 b) {s:Bool} {m:Nat} {i:Int} (h:Ieee.double.read b=.number s m i):b / 9223372036854775808*9223372036854775808=Ieee.double.word s 0:=by
 obtain⟨rfl,-,-⟩:=gz h;unfold Format.word; rw[cE];unfold W64 at hb;by_cases h1:b / 9223372036854775808%2=1
 ·rw[h1]; simp; omega
 ·rw[show(b / 9223372036854775808%2==1)=false by rw[beq_eq_false_iff_ne]; exact h1]; simp; omega
theorem ZP (s:Bool):Ieee.double.word s 9218868437227405312=cond s 18442240474082181120 9218868437227405312:=by cases s <;> decide
theorem adY (a b:Nat) (ha:a<9223372036854775808) (hb:b<9223372036854775808):az .or .u64 (az .or .u64 (a:Int) 9223372036854775808) (b:Int)=az .or .u64 (az .or .u64 (a:Int) (b:Int)) 9223372036854775808:=by
 have hor:∀ u v:Nat,u<18446744073709551616->v<18446744073709551616->az .or .u64 (u:Int) (v:Int)=((u ||| v:Nat):Int):=λu v hu hv=>by
  unfold az qf;simp only[axk];have h64:(2:Nat) ^ 64=18446744073709551616:=by decide
  have e:((BitVec.ofInt (IntKind.bits .u64) (u:Int)) ||| (BitVec.ofInt (IntKind.bits .u64) (v:Int))).toNat=u ||| v:=by show((BitVec.ofInt 64 (u:Int)) ||| (BitVec.ofInt 64 (v:Int))).toNat=_;rw[BitVec.toNat_or,axg,axg,axi,axi,awV (by omega),awV (by omega)]
  rw[e,pJ _ (by have:=Nat.or_lt_two_pow (n:=64) (x:=u) (y:=v) (by omega) (by omega);omega)]
 have h64:(2:Nat) ^ 64=18446744073709551616:=by decide
 have o1:=Nat.or_lt_two_pow (n:=64) (x:=a) (y:=9223372036854775808) (by omega) (by omega);have o2:=Nat.or_lt_two_pow (n:=64) (x:=a) (y:=b) (by omega) (by omega);have c:(9223372036854775808:Int)=((9223372036854775808:Nat):Int):=rfl;rw[c,hor a _ (by omega) (by decide),hor _ b (by omega) (by omega),hor a b (by omega) (by omega),hor _ _ (by omega) (by decide),Nat.or_assoc,Nat.or_assoc,Nat.or_comm b]
theorem PY {b:Nat} (hb:W64 b) {s:Bool} {M:Nat} {P:Int} (h:Ieee.double.read b=.number s M P) (hM:4503599627370496<=M) {E:Int} (h1:0<E) (h2:E<2047) :
  az .or .u64 (az .andNot .u64 (b:Int) 9218868437227405312) (IntKind.wrap .u64 ((IntKind.wrap .u64 E)*2 ^ 52))=((Ieee.double.word s (E.toNat*4503599627370496+(M - 4503599627370496)):Nat):Int):=by
 have hs:=KQ hb h;obtain⟨hsg,hlt,hr⟩:=gz h;have hf:M - 4503599627370496=b%4503599627370496:=by
  rcases hr with⟨h1,rfl,rfl⟩ | ⟨h1,rfl,rfl⟩
  ·omega
  ·omega
 obtain⟨e,rfl⟩:∃ e:Nat,E=e:=⟨E.toNat,by omega⟩
 have e1:IntKind.wrap .u64 (IntKind.wrap .u64 (e:Int)*2 ^ 52)=((2 ^ 52*e:Nat):Int):=by
  rw[pJ e (by omega),aD];have h3:(2:Int) ^ 52=4503599627370496:=by decide
  have h4:(2:Nat) ^ 52=4503599627370496:=by decide
  rw[h3,h4]; omega
 rw[e1,LZ hb,hs,hf,awS];have p52:(2:Nat) ^ 52=4503599627370496:=by decide
 cases s with
 | false=>
  have w0:Ieee.double.word false 0=0:=by decide
  rw[w0,axe,dE _ e 52 (by rw[p52]; omega) (by rw[p52]; omega),p52];unfold Format.word;simp only[axq,axc];rw[awR 4503599627370496 e]
 | true=>
  have w0:Ieee.double.word true 0=9223372036854775808:=by decide
  rw[w0];have hsplit:az .or .u64 ((9223372036854775808+b%4503599627370496:Nat):Int) ((2 ^ 52*e:Nat):Int)=((9223372036854775808+(2 ^ 52*e+b%4503599627370496):Nat):Int):=by rw[<- aeS (b%4503599627370496) (by omega),<- aeS (2 ^ 52*e+b%4503599627370496) (by rw[p52]; omega),<- dE (b%4503599627370496) e 52 (by rw[p52]; omega) (by rw[p52]; omega)];exact adY _ _ (by omega) (by rw[p52]; omega)
  rw[hsplit];unfold Format.word;rw[cE];simp only[ax5];rw[p52,awR 4503599627370496 e]
theorem Tx (d:Datum):W64 (Ieee.double.write d):=by
 cases d with
 | number s m i=>exact KN s m i
 | infinity s=>
  have:Ieee.double.write (.infinity s)=Ieee.double.word s 9218868437227405312:=by rw[<- fN]; rfl
  rw[this]; exact rS s (by decide)
 | nan s f=>
  have:Ieee.double.write (.nan s f)=Ieee.double.word s (9218868437227405312+f%4503599627370496):=by rw[<- fN,<- jM]; rfl
  rw[this]; exact rS s (by omega)
theorem Dx {o:Option Datum}:FW (o.map Ieee.double.write):=by
 intro b hb;cases o with
 | none=>cases hb
 | some d=>cases hb; exact Tx d
theorem HR {f:Nat->Nat->Option Nat} (hf:∀ a b c,f a b=some c->W64 c) (x y:Fl):FW (Kb f x y):=by
 intro c hc;cases x with
 | none=>cases hc
 | some a=>cases y with
  | none=>cases hc
  | some b=>exact hf a b c hc
theorem qm (x y:Fl):FW (cu x y):=HR (λa b c h=>Dx c h) x y
theorem O6 (x y:Fl):FW (dF x y):=HR (λa b c h=>Dx c h) x y
theorem O5 (x y:Fl):FW (aZ x y):=HR (λa b c h=>Dx c h) x y
theorem O4 (x y:Fl):FW (fdiv x y):=HR (λa b c h=>Dx c h) x y
def vl (x:Fl):Int:=match x with
 | some b=>match Ieee.double.read b with
  | .number s m i=>signed s m (i+1074).toNat
  | _=>0
 | none=>0
theorem Cm {b:Nat} {s:Bool} {m:Nat} {i:Int} (h:Ieee.double.read b=.number s m i):vl (some b)=signed s m (i+1074).toNat:=by unfold vl; simp only[h]
theorem AY (s:Bool) (m a c:Nat):signed s m (a+c)=signed s m a*2 ^ c:=by
 unfold signed;rw[Nat.shiftLeft_add];generalize m <<< a=q;have:((q <<< c:Nat):Int)=(q:Int)*2 ^ c:=by rw[Nat.shiftLeft_eq]; push_cast; rfl
 cases s
 ·simp only[axq,axc]; exact this
 ·simp only[ax5]; rw[this,ayN]
theorem F5 (x y:Int) (c:Nat):compare (x*2 ^ c) (y*2 ^ c)=compare x y:=by
 have hp:(0:Int)<2 ^ c:=Int.pow_pos (by decide);rcases Int.lt_trichotomy x y with h | h | h
 ·rw[Int.compare_eq_lt.2 h,Int.compare_eq_lt.2 (Int.mul_lt_mul_of_pos_right h hp)]
 ·subst h; rw[Int.compare_eq_eq.2 rfl,Int.compare_eq_eq.2 rfl]
 ·rw[Int.compare_eq_gt.2 h,Int.compare_eq_gt.2 (Int.mul_lt_mul_of_pos_right h hp)]
theorem Dt {x y:Fl} (hx:aw x=true) (hy:aw y=true):vq x y=some (compare (vl x) (vl y)):=by
 obtain⟨a,s,m,i,rfl,ha⟩:=cR hx;obtain⟨b,t,n,j,rfl,hb⟩:=cR hy;have ga:=iD ha;have gb:=iD hb;show(Ieee.double.read a).order (Ieee.double.read b)=_;rw[ha,hb,Cm ha,Cm hb];simp only[Datum.order];have e1:(i+1074).toNat=(i - min i j).toNat+(min i j+1074).toNat:=by omega
 have e2:(j+1074).toNat=(j - min i j).toNat+(min i j+1074).toNat:=by omega
 rw[e1,e2,AY,AY,F5]
theorem afY {x y:Fl} (hx:aw x=true) (hy:aw y=true):fge x y=decide (vl y<=vl x):=by unfold fge;rw[Dt hx hy,ayo,ayi,ay5,azl,azl,aw7,aw7,Int.compare_eq_eq,Int.compare_eq_gt];omega
theorem T4 {x:Fl} (hx:aw x=true) (hw:FW x):aw (oJ x)=true:=by obtain⟨b,s,m,i,rfl,h⟩:=cR hx;obtain⟨c,hc,-,hr⟩:=z8 (hw b rfl) h;rw[hc]; exact sw hr
def ajq (xs:List Fl):Nat->Fl
 | 0=>some 0
 | n+1=>fmm true (ajq xs n) (oJ (xs.getD n none))
def GE1 (x:Fl):Prop:=∃ b,x=some b/\W64 b/\(Ieee.double.read b=.infinity false \/ ∃ m i,Ieee.double.read b=.number false m i/\4503599627370496<=m/\m<9007199254740992 /\ -52<=i)
def Dv (x:Fl):Prop:=∃ b,x=some b/\(Ieee.double.read b=.infinity false \/ ∃ m i,Ieee.double.read b=.number false m i/\m ≠ 0)
theorem ZN {x:Fl} (hx:aw x=true) (hw:FW x) {b:Nat} {s:Bool} {m:Nat} {i:Int} (e:x=some b) (h:Ieee.double.read b=.number s m i):vl (oJ x)=((m*2 ^ (i+1074).toNat:Nat):Int):=by subst e;obtain⟨c,hc,hcw,hcr⟩:=z8 (hw b rfl) h;rw[hc,Cm hcr,<- Nat.shiftLeft_eq]; rfl
def ala (a b c:Fl):Int:=cond (!ji [a,b,c]) 4 (cond (feq a (some 0)&&(feq b (some 0)&&feq c (some 0))) 251 0)
def ak7 (f g:K4->Bool):Prop:=∃ a b c d n,(a.isSome=true/\b.isSome=true/\c.isSome=true/\d.isSome=true)/\(∀ κ,f κ=κ a b c d n)/\(∀ κ,g κ=κ a b c d n)
set_option maxRecDepth 4000
theorem ajs {a0 a1 a2 a3 a4 a5 a6 a7 a8:Fl} (h:ji [a0,a1,a2,a3,a4,a5,a6,a7,a8]=true):chk 3 3 [a0,a1,a2,a3,a4,a5,a6,a7,a8]=0:=Ae.2 ⟨by decide,rfl,h⟩
set_option maxRecDepth 4000
theorem ag6 {b:Nat} (hb:W64 b) {s:Bool} (h:Ieee.double.read b=.infinity s):oJ (some b)=some 9218868437227405312:=by
 unfold Format.read at h;simp only[cE,jM,fN]at h;unfold W64 at hb;split at h
 ·cases h
 ·split at h
  ·cases h
  ·split at h
   ·rename_i h1 h2 h3;show ir (b%9223372036854775808)=_;have:b%9223372036854775808=9218868437227405312:=by omega
    rw[this]; decide
   ·cases h
theorem ajP {x y:Fl} (hx:aw x=true) (hy:Dv y):Nn (fdiv x y):=by
 obtain⟨a,s,m,i,rfl,ha⟩:=cR hx;obtain⟨b,rfl,hb⟩:=hy;show Nn (((Ieee.double.read a).quotient (Ieee.double.fractionBits+2) (Ieee.double.read b)).map Ieee.double.write);rw[ha];rcases hb with hb | ⟨n,j,hb,hn⟩
 ·rw[hb]; exact DJ _ _ _
 ·rw[hb]; simp only[Datum.quotient,if_neg hn]; exact DJ _ _ _
theorem P2 {N n i j:Nat} (hn:n<=12) (hi:i<n) (hj:j<n) {l:List Fl} (h:l.length=n*n) (k:Kz0):aeq N n n l i j k=k (elt l n i j):=by obtain⟨h1,h2⟩:=ET (by omega:n<=1000) hi hj;have h3:=MB hi hj;unfold aeq abA elt;rw[ES,ae h1,ae h2,h,awS,ae awL]
def IY (n:Nat) (l:List Fl):Bool:=HU (λi=>HU (λj=>decide (cn (elt l n i j)=cn (elt l n j i))) i) n
theorem adG {N n:Nat} (hN:1000<=N) (hn:n<=12) {l:List Fl} (h:l.length=n*n) (hf:ji l=true) (k:Ky7):ael N n n l k=k (IY n l):=by
 unfold ael abm;rw[zn hN,Ut hn h hf,show(((0:Int) != 0)==false)=true from rfl,awP];have:((n:Int) != (n:Int))=false:=by simp
 rw[this,awO];have hk:k (IY n l)=cond (IY n l) (k true) (k false):=by cases IY n l <;> rfl
 rw[hk];refine B2 (λt:Nat=>(t:Int)) (λi=>HU (λj=>decide (cn (elt l n i j)=cn (elt l n j i))) i) n (by omega) ?_ ?_
 ·intro i hi K;unfold IQ;dsimp only;rw[awM (by omega:(i:Int)<(n:Int)),awP];refine(B2 (λt:Nat=>(t:Int)) (λj=>decide (cn (elt l n i j)=cn (elt l n j i))) i (N:=N) (by omega) (ex:=k false) (out:=K (((i+1:Nat):Int))) ?_ ?_:_)
  ·intro j hj K';have hj2:j<n:=by omega
   unfold IR;dsimp only;rw[awM (by omega:(j:Int)<(i:Int)),awP,P2 hn hi hj2 h,P2 hn hj2 hi h];unfold K0;dsimp only;by_cases he:cn (elt l n i j)=cn (elt l n j i)
   ·rw[awM he,show(!true)=false from rfl,awO,awP,ae awK];rfl
   ·rw[awN he,show(!false)=true from rfl,awP,awO]
  ·intro K';unfold IR;dsimp only;rw[awN (by omega:¬(i:Int)<(i:Int)),awO,ae awK];rfl
 ·intro K;unfold IQ;dsimp only;rw[awN (by omega:¬(n:Int)<(n:Int)),awO]
theorem Ux {x:Fl} (h:aw x=true):cn x=x:=by obtain⟨b,rfl,hb⟩:=afj h;simp only[cn,hb]; rfl
theorem ag0 {n:Nat} {l:List Fl} (h:l.length=n*n) (hf:ji l=true) (hs:IY n l=true):abG n l:=by
 have key:∀ i j,j<i->i<n->elt l n i j=elt l n j i:=by
  intro i j hj hi;have h1:=pn.1 (pn.1 hs i hi) j hj;have h2:=awQ h1;have hj2:j<n:=by omega
  have e1:=MB hi hj2;have e2:=MB hj2 hi;rw[Ux (x:=elt l n i j) (uh hf (by omega)),Ux (x:=elt l n j i) (uh hf (by omega))]at h2;exact h2
 intro a b ha hb;show zw (ofE (elt l n a b))=zw (ofE (elt l n b a));rcases ay_ a b with h1 | h1 | h1
 ·rw[key b a h1 hb]
 ·rw[h1]
 ·rw[key a b h1 ha]
def agy (x:List Fl) (r c:Int) (l:List Fl):Int:=
 if chk r c l ≠ 0 then chk r c l else if r ≠ c then 3 else if (x.length:Int) ≠ r then 3 else if ji x=false then 4 else if IY r.toNat l=false then 150 else if S9 r.toNat l=false then 151 else 0
theorem MG {N:Nat} (hF:Fuel N) (x:List Fl) (r c:Int) (l:List Fl) (hw:AllW l) (k:Ky8):jR N x r c l k=k (agy x r c l):=by
 have hN:=hF.lt;unfold jR nx agy;rw[zn (by omega)];by_cases h0:chk r c l=0
 ·have q:=Ae.1 h0;rw[h0,if_neg (λh=>h rfl),show((0:Int) != 0)=false from rfl,awO];by_cases h1:r=c
  ·subst h1;have e1:((r != r)==false)=true:=by simp
   rw[if_neg (λh=>h rfl),e1,awP];obtain⟨n,hn⟩:∃ n:Nat,r=n:=⟨r.toNat,by omega⟩
   subst hn;by_cases h2:(x.length:Int)=n
   ·have e2:(((x.length:Nat):Int) != (n:Int))=false:=by simp[h2]
    have hl:l.length=n*n:=by exact_mod_cast q.2.1
    have hn12:n<=12:=by omega
    rw[e2,awO,if_neg (λh=>h h2),rA x ⟨by omega,by omega⟩];cases h3:ji x
    ·rfl
    ·rw[show(!true)=false from rfl,awO,if_neg (by decide),adG (by omega) hn12 hl q.2.2,awS];cases h4:IY n l
     ·rfl
     ·rw[show(!true)=false from rfl,awO,if_neg (by decide),AC hF hn12 hl q.2.2 hw (ag0 hl q.2.2 h4)];cases S9 n l <;> rfl
   ·have e2:(((x.length:Nat):Int) != (n:Int))=true:=by simp[h2]
    rw[e2,awP,if_pos h2]
  ·have e1:((r != c)==false)=false:=by simp[h1]
   rw[e1,awO,if_pos h1]
 ·have e0:(chk r c l != 0)=true:=by simp[h0]
  rw[e0,awP,if_pos h0]
theorem zo (N:Nat) (g:Bool) (n:Nat) (k:Ky8):IF N g (aM n) k=k (if n=0 then 0 else if g=true then -1 else 1):=by
 unfold IF abz;rw[UZ];by_cases h:n=0
 ·rw[awM h,if_pos h]; rfl
 ·rw[awN h,if_neg h]; cases g <;> rfl
theorem Gf (N:Nat) {b:Nat} (hb:W64 b) {s:Bool} {m:Nat} {i:Int} (h:Ieee.double.read b=.number s m i) (h0:m ≠ 0) :
  ∃ b' M P adj,(∀ κ:Fl->Int->Bool,W7 N (some b) κ=κ (some b') adj)/\W64 b'/\Ieee.double.read b'=.number s M P/\4503599627370496<=M/\M<9007199254740992 /\ -1074<=P/\P<=971 /\ -52<=adj/\(adj<=0/\P+adj=i+m.log2 - 52) /\ ∀ k,Ieee.double.nearest s M (P+adj+k)=Ieee.double.nearest s m (i+k):=by
 obtain⟨c,hc,hcw,hcr⟩:=z8 hb h;have hp:=mS h;have hg:=iD h;have hr:=gz h;by_cases hd:m<4503599627370496/\i = -1074
 ·obtain⟨h1,rfl⟩:=hd;have hl:m.log2<52:=(Nat.log2_lt h0).2 (by simpa using h1);obtain⟨hM1,hM2⟩:=agE h0 hp.2;have hmul:aZ (some b) (some 4841369599423283200)=some (Ieee.double.nearest s (m*4503599627370496) (-1074)):=by rw[Ve,h,Na];have e:(Datum.number s m (-1074)).product (.number false 4503599627370496 0)=some (.number (s ^^ false) (m*4503599627370496) (-1074+0)):=rfl;rw[e,axP,Bool.xor_false,Int.add_zero,uS]
  have hn:Ieee.double.nearest s (m*4503599627370496) (-1074)=Ieee.double.nearest s (m <<< (52 - m.log2)) (-1074+m.log2):=by
   have:=mR s (m <<< (52 - m.log2)) (-1074+m.log2) m.log2;rw[<- Nat.shiftLeft_add,show 52 - m.log2+m.log2=52 by omega]at this;have e1:m*4503599627370496=m <<< 52:=by
    have:(2:Nat) ^ 52=4503599627370496:=by decide
    rw[Nat.shiftLeft_eq,this]
   have e2:(-1074+(m.log2:Int)) - (m.log2:Int) = -1074:=by omega
   rw[e2]at this;rw[e1,this]
  have hw:Ieee.double.nearest s (m <<< (52 - m.log2)) (-1074+m.log2)=Ieee.double.word s ((-1074+(m.log2:Int)+1075).toNat*4503599627370496+(m <<< (52 - m.log2) - 4503599627370496)):=
   uT (rS s (by omega)) (sE s _ _ ⟨hM1,hM2⟩ (by omega))
  refine⟨Ieee.double.word s ((-1074+(m.log2:Int)+1075).toNat*4503599627370496+(m <<< (52 - m.log2) - 4503599627370496)),m <<< (52 - m.log2),-1074+m.log2,-52,λκ=>?_,rS s (by omega),sE s _ _ ⟨hM1,hM2⟩ (by omega),hM1,hM2,by omega,by omega,by omega,⟨by omega,by omega⟩,λk=>?_⟩
  ·unfold W7 TX;show cond (flt (oJ (some b)) (some 4503599627370496)) _ _=_;rw[hc,Hc hcr,awM ⟨h1,rfl⟩,awP,hmul,hn,hw]
  ·have e:(-1074+(m.log2:Int) + -52+k) = -1074+k - ((52 - m.log2:Nat):Int):=by omega
   rw[e,It]
 ·have hm:4503599627370496<=m:=by
   rcases hr.2.2 with⟨h1,rfl,rfl⟩ | ⟨h1,rfl,rfl⟩
   ·omega
   ·omega
  refine⟨b,m,i,0,λκ=>?_,hb,h,hm,hp.2,hg,hp.1,by omega,⟨by omega,by rw[sD ⟨hm,hp.2⟩]; omega⟩,λk=>by rw[Int.add_zero]⟩;unfold W7 TX;show cond (flt (oJ (some b)) (some 4503599627370496)) _ _=_;rw[hc,Hc hcr,awN hd,awO]
theorem Sq (N:Nat) (x:Fl) (k:Ky7):WQ N x k=k (!feq x x):=rfl
theorem F6 (N:Nat) {b:Nat} (hb:W64 b) {s:Bool} {m:Nat} {i:Int} (h:Ieee.double.read b=.number s m i) (κ:Fl->Bool):Qj N (some 0) (some b) κ=κ (some (Ieee.double.word s 0)):=by
 unfold Qj O_;have e0:yH N (some 0)=λk=>k ((0:Nat):Int):=rfl
 have e1:yH N (some b)=λk=>k (b:Int):=rfl
 rw[e0,e1];dsimp only;have hand:az .and .u64 (b:Int) 9223372036854775808=((b / 9223372036854775808*9223372036854775808:Nat):Int):=by
  unfold az qf;simp only[axk];unfold W64 at hb;have e:((BitVec.ofInt (IntKind.bits .u64) (b:Int)) &&& (BitVec.ofInt (IntKind.bits .u64) (9223372036854775808:Int))).toNat=b / 9223372036854775808*9223372036854775808:=by
   show((BitVec.ofInt 64 (b:Int)) &&& (BitVec.ofInt 64 ((2 ^ 63:Nat):Int))).toNat=_;have h64:(2:Nat) ^ 64=18446744073709551616:=by decide
   have h63:(2:Nat) ^ 63=9223372036854775808:=by decide
   rw[ayt,axg,axg,axi,axi,awV (by omega),awV (a:=2 ^ 63) (by decide)];have hq:b / 9223372036854775808=0\/b / 9223372036854775808=1:=by omega
   have ht:=Nat.testBit_eq_decide_div_mod_eq (x:=b) (i:=63);rw[h63]at ht;rcases hq with hq | hq
   ·rw[hq,axF];rw[hq]at ht;apply ayn;intro j;rw[ayp,ayb,Nat.zero_testBit];by_cases hj:63=j
    ·subst hj; rw[ht]; rfl
    ·rw[awN hj,Bool.and_false]
   ·rw[hq,ax4,<- h63];rw[hq]at ht;apply ayn;intro j;rw[ayp,ayb];by_cases hj:63=j
    ·subst hj; rw[ht]; rfl
    ·rw[awN hj,Bool.and_false]
  rw[e,pJ _ (by omega)]
 have h00:az .andNot .u64 ((0:Nat):Int) 9223372036854775808=0:=by rw[oO]; rfl
 rw[hand,h00,KQ hb h,or0 _ (rS s (by decide))];show κ (ir (Int.toNat ((Ieee.double.word s 0:Nat):Int)))=_;rw[awS];congr 1;cases s <;> decide
theorem Kr (N:Nat) (κ:Fl->Bool):xR N (-1) κ=κ (some 18442240474082181120):=by unfold xR ub;rw[awN (by decide),awO];show κ (ir 18442240474082181120)=_;congr 1
theorem Ks (N:Nat) (κ:Fl->Bool):xR N 1 κ=κ (some 9218868437227405312):=by unfold xR ub;rw[awM (by decide),awP];show κ (ir 9218868437227405312)=_;congr 1
theorem xH (N:Nat) {x:Fl} (hx:aw x=true) (hw:FW x) {k:Int} (hk1 : -5000<=k) (hk2:k<=5000) (κ:Fl->Bool):HG N x k κ=κ (Nr x k):=by
 obtain⟨b,s,m,i,rfl,h⟩:=cR hx;have hb:=hw b rfl;rw[w6 h];unfold HG I9 Qw DG;rw[Va h];by_cases h0:m=0
 ·subst h0;rw[awM rfl,awP,nS,SN hb h]
 ·rw[awN h0,awO,sZ N hx hw];dsimp only;rw[show((false:Bool)==false)=true from rfl,awP,Sq,EG hx,azk,awO];obtain⟨b',M,P,adj,h1,h2,h3,h4,h5,h6,h7,h8,h9,h10⟩:=Gf N hb h h0;have he:=aj8 h2 h3 h4;have hM0:M ≠ 0:=by omega
  have hP:(P+adj+k)=P+adj+k:=rfl;rw[h1,<- h10 k];have e0:yH N (some b')=λk=>k (b':Int):=rfl
  rw[e0];dsimp only;have hb':b'<18446744073709551616:=h2;rw[ae awK,afW,ae awK,abI _ (by omega),he,ae awK,ae awK];have e1:k+adj+(P+1075 - 1023)=P+adj+k+52:=by omega
  rw[e1];generalize hQ:P+adj+k=Q;by_cases c1:Q+52 < -1075
  ·rw[awM c1,awP,F6 N h2 h3,Iu s ⟨h4,h5⟩ (by omega)]
  ·rw[awN c1,awO];by_cases c2:Q+52>1023
   ·rw[awM c2,awP,Vd h3 hM0,Is s ⟨h4,h5⟩ (by omega),ZP];cases s
    ·rw[awO,Ks]; rfl
    ·rw[awP,Kr]; rfl
   ·rw[awN c2,awO];have hjump:∀(E:Int) (c:Nat) ,0<E+1023->E+1023<2047->au .i64 (E+1023)=true:=λE c a1 a2=>aj (by omega) (by omega)
    by_cases c3:Q+52 < -1022
    ·rw[awM c3,awP,ae awK];unfold Jg;rw[ae awK,PY h2 h3 h4 (by omega) (by omega)];show κ (aZ _ (ir (Int.toNat ((_:Nat):Int))))=_;rw[awS];have hE:(Q+52+53+1023)=(Q+53)+1075:=by omega
     rw[hE];have hrd:=sE s M (Q+53) ⟨h4,h5⟩ (by omega);have hcn:ir (Ieee.double.word s ((Q+53+1075).toNat*4503599627370496+(M - 4503599627370496)))=some (Ieee.double.word s ((Q+53+1075).toNat*4503599627370496+(M - 4503599627370496))):=by
      have hn:isNaN (Ieee.double.word s ((Q+53+1075).toNat*4503599627370496+(M - 4503599627370496)))=false:=by unfold isNaN; rw[hrd]; rfl
      unfold ir; rw[hn]; rfl
     rw[hcn,Ve,KW,hrd];have e:(Datum.number false 4503599627370496 (-105)).product (.number s M (Q+53))=some (.number (false ^^ s) (4503599627370496*M) (-105+(Q+53))):=rfl;rw[e,axP,Bool.false_xor,uS];have e5:4503599627370496*M=M <<< 52:=by
      have:(2:Nat) ^ 52=4503599627370496:=by decide
      rw[Nat.shiftLeft_eq,this,awR]
     have e6:(-105+(Q+53))=Q - ((52:Nat):Int):=by omega
     rw[e5,e6,mR]
    ·rw[awN c3,awO];unfold Jg;rw[ae awK,PY h2 h3 h4 (by omega) (by omega)];show κ (aZ _ (ir (Int.toNat ((_:Nat):Int))))=_;rw[awS];have hE:(Q+52+1023)=Q+1075:=by omega
     rw[hE];have hrd:=sE s M Q ⟨h4,h5⟩ (by omega);have hW:W64 (Ieee.double.word s ((Q+1075).toNat*4503599627370496+(M - 4503599627370496))):=rS s (by omega);have hcn:ir (Ieee.double.word s ((Q+1075).toNat*4503599627370496+(M - 4503599627370496)))=some (Ieee.double.word s ((Q+1075).toNat*4503599627370496+(M - 4503599627370496))):=by
      have hn:isNaN (Ieee.double.word s ((Q+1075).toNat*4503599627370496+(M - 4503599627370496)))=false:=by unfold isNaN; rw[hrd]; rfl
      unfold ir; rw[hn]; rfl
     rw[hcn,uT hW hrd,WA (λc hc=>by cases hc; exact hW) (sw hrd)]
theorem ZS (N:Nat) (k:Int) (κ:Fl->Bool):HG N (some 9218868437227405312) k κ=κ (some 9218868437227405312):=by
 unfold HG I9 Qw DG;have h1:feq (some 9218868437227405312) (some 0)=false:=by decide
 rw[h1,awO];unfold Lg TY;rw[show((0:Int)==0)=true from rfl,awP];simp only[sF];have h2:fgt (oJ (some 9218868437227405312)) (some 9218868437227405311)=true:=by decide
 rw[h2];rfl
set_option maxRecDepth 4000
set_option maxRecDepth 4000
def mf (n:Nat) (f:Nat->Nat->Fl):List Fl:=(List.range (n*n)).map (λt=>f (t / n) (t%n))
theorem MF {N:Nat} (b g h:Bool) (m n:Nat) (hN:(aM m).length+(aM n).length+4<N) (hs:(aM m).length+(aM n).length<=17592186044416) (k:Ky1) :
  aeo N b g (aM m) h (aM n) k=vF (cT g m*cT h n) k:=by
 unfold aeo abt;have hl:(aM (m*n)).length<=(aM m).length+(aM n).length:=by
  refine sr _ _ (uJ ?_ ?_)
  ·have:=m8 (dL m); rwa [bR]at this
  ·have:=m8 (dL n); rwa [bR]at this
 rw[SL _ _ (dL m) (dL n) (by omega) hs,bR,bR,oW _ _ _ (dL _) ⟨by omega,by omega⟩,bR,xO _ _ k,Kp]
theorem Hl {N:Nat} (b g:Bool) (n:Nat) (hN:ll N (aM n)) (k:Ky1):Qi N b g (aM n) k=vF (-(cT g n)) k:=by unfold Qi O9 W6 TW;obtain⟨h1,h2⟩:=hN;rw[ax3,awM (by omega),axB,xJ _ (by omega) (by omega),Em];simp only[ayc,axp];rw[awM (by omega:0+(aM n).length<=(aM n).length),axB];exact P7 g n k
theorem ME {N:Nat} (b g1:Bool) (n1:Nat) (g2:Bool) (n2:Nat) (h1:ll N (aM n1)) (h2:ll N (aM n2)) (h3:ll N (aM (n1+n2))) (k:Ky1) :
  Nq N b g1 (aM n1) g2 (aM n2) k=vF (cT g1 n1+cT g2 n2) k:=by
 unfold Nq abo;rw[SK false b g1 n1 g2 n2 h1 h2 h3]; rfl
theorem qQ {N:Nat} (hN:1000<=N) {E B:Nat} {x y:Int × Int} (hx:Ex E B x) (hy:Ex E B y) (hE:E<=100000) (hB:B<=15000) (k:Kx9) :
  ad_ N x.1 y.1 (decide (x.2<0)) (aM x.2.natAbs) (decide (y.2<0)) (aM y.2.natAbs) k=exK (jY x y) k:=by
 have h1:=Ab hx.2.2;have h2:=Ab hy.2.2;unfold ad_ aaO;rw[MF _ _ _ _ _ (by omega) (by omega),rz,rz,xG,ae (aj (by have:=hx.1; have:=hy.1; omega) (by have:=hx.2.1; have:=hy.2.1; omega))];rfl
theorem B4 {N:Nat} (hN:1000<=N) {E B:Nat} {x y:Int × Int} (hx:Ex E B x) (hy:Ex E B y) (hB:B+2*E<=29000) (k0 k1:Bool) (k2:Int->Bool->List Int->Bool) (h0:k0=exK y k2) (h1:k1=exK x k2) :
  WR N x.1 y.1 (decide (x.2<0)) (aM x.2.natAbs) (decide (y.2<0)) (aM y.2.natAbs) k0 k1 k2=exK (yB x y) k2:=by
 unfold WR aaH yB;have z0:∀(z:Int) (g:Bool),((if z.natAbs=0 then(0:Int)else if g=true then -1 else 1)==0)=decide (z=0):=by
  intro z g;by_cases h:z=0
  ·rw[if_pos (by omega),awM h]; rfl
  ·rw[if_neg (by omega),awN h]; cases g <;> rfl
 rw[zo,z0,zo,z0];by_cases c0:x.2=0
 ·rw[awM c0,awP,if_pos c0,h0]
 ·rw[awN c0,awO,if_neg c0];by_cases c1:y.2=0
  ·rw[awM c1,awP,if_pos c1,h1]
  ·rw[awN c1,awO,if_neg c1,adB];have hxe:=hx.1;have hye:=hy.1;have lx:=AE hx (e:=min x.1 y.1) (by omega);have ly:=AE hy (e:=min x.1 y.1) (by omega);have hadd:∀(a b:Int),cP (B+2*E) a.natAbs->cP (B+2*E) b.natAbs->Nq N false (decide (a<0)) (aM a.natAbs) (decide (b<0)) (aM b.natAbs) (λcr nsr=>k2 (min x.1 y.1) cr nsr)=exK (min x.1 y.1,a+b) k2:=by intro a b ha hb;rw[ME _ _ _ _ _ (m_ hN (by omega) ha) (m_ hN (by omega) hb) (m_ hN (by omega) (Ej ha hb)),rz,rz];rfl
   have hyl:∀(a:Int),cP (B+2*E) a.natAbs->W0 N y.1 (min x.1 y.1) (decide (y.2<0)) (aM y.2.natAbs) (Nq N false (decide (a<0)) (aM a.natAbs) (decide (y.2<0)) (aM y.2.natAbs) (λcr nsr=>k2 (min x.1 y.1) cr nsr)) (λg d=>Nq N false (decide (a<0)) (aM a.natAbs) g d (λcr nsr=>k2 (min x.1 y.1) cr nsr))=exK (min x.1 y.1,a+wk y (min x.1 y.1)) k2:=by intro a ha;rw[PW hN hy (by omega) (by omega) _ _ (λ_=>by rw[xG]) (by omega),xG,hadd _ _ ha ly]
   rw[PW hN hx (by omega) (by omega) _ _ (λh=>by rw[xG]) (by omega),xG,hyl _ lx]
theorem Hk {N:Nat} (hN:1000<=N) {E B:Nat} {x y:Int × Int} (hx:Ex E B x) (hy:Ex E B y) (hB:B+2*E<=28000) (k:Ky8) :
  aea N x.1 y.1 (decide (x.2<0)) (aM x.2.natAbs) (decide (y.2<0)) (aM y.2.natAbs) k=k (vK (yB x (Hb y)).2):=by
 unfold aea aaT Th TR;rw[Hl _ _ _ (m_ hN (by omega) hy.2.2),rz,xG];have sg:∀(z:Int),IF N (decide (z<0)) (aM z.natAbs) (λnr=>k nr)=k (vK z):=by
  intro z;rw[zo];unfold vK;congr 1;by_cases h:z=0
  ·rw[if_pos (by omega),if_pos h]
  ·rw[if_neg (by omega),if_neg h];by_cases hl:z<0
   ·rw[if_pos (awM hl),if_pos hl]
   ·rw[if_neg (by rw[awN hl]; decide),if_neg hl]
 have:=B4 (N:=N) hN hx (Ex.neg hy) (by omega) (IF N (decide (-y.2<0)) (aM (-y.2).natAbs) (λnr=>k nr)) (IF N (decide (x.2<0)) (aM x.2.natAbs) (λnr=>k nr)) (λ_ g d=>IF N g d (λnr=>k nr)) rfl rfl;refine Eq.trans this ?_;unfold exK;exact sg _
@[irreducible] def Sc:Nat:=1074
theorem Jh:1074<=Sc:=by unfold Sc; exact awT _
theorem TZ:Sc<=1074:=by unfold Sc; exact awT _
@[irreducible] def e2:Nat:=4196
theorem ak_:e2=2098+2098:=by unfold e2; rfl
def bN (x:Fl):Int:=(ofE x).2*2 ^ ((ofE x).1+Sc).toNat
theorem A4 {x:Fl} (hx:aw x=true):EV (ofE x) (bN x) Sc:=by obtain⟨b,s,m,i,rfl,h⟩:=cR hx;exact⟨(Wz h Jh).1,rfl⟩
theorem Lx {b:Nat} {s:Bool} {m:Nat} {i:Int} (h:Ieee.double.read b=.number s m i):bN (some b)=signed s m (i+Sc).toNat:=(Wz h Jh).2
theorem EV.bits {x:Int × Int} {v:Int} {E B:Nat} (h:EV x v E) (g:cP B v.natAbs):cP B x.2.natAbs:=by refine qr g ?_;rw[<- h.2,Cy];exact axr _ (aw0 _)
def FinL (a:List Fl) (n:Nat):Prop:=∀ i,i<n->aw (a.getD i none)=true/\FW (a.getD i none)
theorem FinL.mono {a:List Fl} {n m:Nat} (h:FinL a n) (hm:m<=n):FinL a m:=λi hi=>h i (by omega)
theorem ajQ (n:Nat):n<4294967296 ^ (aM n).length:=by
 have:=m8 (dL n)
 rwa [bR]at this
def pE (e:Int):Int:=1*2 ^ (e+((Sc+Sc:Nat):Int)).toNat
theorem EV.abs {x:Int × Int} {v:Int} {E:Nat} (h:EV x v E):EV (x.1,((x.2.natAbs:Nat):Int)) ((v.natAbs:Nat):Int) E:=by refine⟨h.1,?_⟩;show((x.2.natAbs:Nat):Int)*2 ^ (x.1+E).toNat=_;rw[<- h.2,Cy,aw4,axA]; rfl
end Go.Proofs.YtldenpmpmifnlaaGreatDoor
end
section
end
