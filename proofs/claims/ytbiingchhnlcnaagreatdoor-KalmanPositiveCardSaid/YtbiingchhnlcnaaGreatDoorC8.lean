/- Laws in plain Lean. Conditions: none. -/
import Derived.Test.YtbiingchhnlcnaaGreatDoorD1
import Derived.Test.YtbiingchhnlcnaaGreatDoorFlA
set_option linter.defProp false
set_option linter.unusedVariables false
section
namespace Go.Proofs.YtbiingchhnlcnaaGreatDoor
open Go Go.Mach Ieee
def K5 {N n j:Nat} (hN:1000<=N) (hj:j<=900) (h:n<4294967296 ^ j):fH N (aj n):=by have:=cN j n h;exact⟨by omega,by omega⟩
def pG {N n:Nat} (hN:1000<=N) (h:n<18446744073709551616):fH N (aj n):=K5 (j:=2) hN (by decide) (by
 have:(4294967296:Nat) ^ 2=18446744073709551616:=by decide
 omega)
def WW (n:Nat):aA .and .u64 (n:Int) 2047=((n%2048:Nat):Int):=by have:=kU n 11 (by decide);simpa using this
def A6 (s:Bool) (m:Nat) (i:Int):∃ r,Ieee.double.nearest s m i=Ieee.double.word s r/\r<=9218868437227405312:=by
 unfold Format.nearest;split
 ·exact⟨0,rfl,by omega⟩
 ·rw[mA]; exact⟨_,rfl,alK _ _⟩
def F4 (s:Bool) (m:Nat) (i:Int):W64 (Ieee.double.nearest s m i):=by obtain⟨r,h,hr⟩:=A6 s m i;rw[h]; exact BE s (by omega)
def U5 {N:Nat} (hN:1000<=N) {n:Nat} (h:n<=48):eE N n:=⟨by omega,by omega⟩
def M0 (b:Nat):be (some b)=decide (b%9223372036854775808<9218868437227405312):=by
 unfold be Format.read;simp only[i7,sO,mA];by_cases h1:b%9223372036854775808<4503599627370496
 ·rw[if_pos h1,ait (by omega)]; rfl
 ·rw[if_neg h1];by_cases h2:b%9223372036854775808<9218868437227405312
  ·rw[if_pos h2,ait h2]; rfl
  ·rw[if_neg h2,aiu h2];split <;> rfl
def Nn (x:Fl):Prop:=∃ b,x=some b/\isNaN b=false
def S5 {x:Fl} (h:be x=true):Nn x:=by
 cases x with
 | none=>cases h
 | some b=>
  rw[M0]at h;have:=aiz h;refine⟨b,rfl,?_⟩;rw[ak2];intro hc;have:=(fB b).1 hc;omega
def ON (s:Bool) {r:Nat} (h:r<=9218868437227405312):Nn (some (Ieee.double.word s r)):=by
 refine⟨_,rfl,?_⟩;rw[ak2];intro hc;have h1:=(fB _).1 hc;have hw:Ieee.double.word s r%9223372036854775808=r:=by unfold Format.word; rw[i7]; cases s <;> simp <;> omega
 omega
def zW (s:Bool) (m:Nat) (i:Int):Nn (some (Ieee.double.nearest s m i)):=by obtain⟨r,h,hr⟩:=A6 s m i;rw[h]; exact ON s hr
abbrev K4:=Fl->Fl->Fl->Fl->Int->Bool
def gc:Nat->Nat->Int->Nat × Int
 | 0,m,e=>(m,e)
 | f+1,m,e=>if m%2=0 then gc f (m / 2) (e+1)else(m,e)
def rk:∀ f m e,m ≠ 0->m<2 ^ f->e<=(gc f m e).2/\(gc f m e).2<=e+f/\(gc f m e).1*2 ^ ((gc f m e).2 - e).toNat=m/\(gc f m e).1<=m
 | 0,m,e,h0,h=>by simp at h; omega
 | f+1,m,e,h0,h=>by
  unfold gc;split
  ·rename_i hm;obtain⟨h1,h2,h3,h4⟩:=rk f (m / 2) (e+1) (by omega) (by rw[aiG]at h; omega);refine⟨by omega,by omega,?_,by omega⟩;have:((gc f (m / 2) (e+1)).2 - e).toNat=((gc f (m / 2) (e+1)).2 - (e+1)).toNat+1:=by omega
   rw[this,aiG,<- aiF,h3]; omega
  ·refine⟨by omega,by omega,?_,aiH _⟩;rw[Int.sub_self]; simp
def Ph {N:Nat} (hN:1000<=N) {m:Nat} {e:Int} (h0:m ≠ 0) (hm:m<2 ^ 64) (he1 : -2000<=e) (he2:e<=2000) (k:Ky6) :
  qz N m e k=k ((gc 64 m e).1:Int) (gc 64 m e).2:=by
 (unfold qz; rw[ae]; unfold um)
 have key:∀ f:Nat,f<=64 -> ∀(m:Nat) (e:Int),m ≠ 0->m<2 ^ f->m<2 ^ 64 -> -2000<=e->e+f<=3000 -> ∀ M:Nat,f<M->ah M (lV N λa b=>k a b) ((m:Int),e)=k ((gc f m e).1:Int) (gc f m e).2:=by
  intro f;induction f with
  | zero=>intro _ m e h0 h; simp at h; omega
  | succ f ih=>
   intro hf m e h0 h h64 h1 h2 M hM;cases M with
   | zero=>omega
   | succ M=>
    show lV N _ ((m:Int),e) (ah M _)=_;have e2:Int.tmod (m:Int) 2=((m%2:Nat):Int):=by rw[ajn (by omega)]; rfl
    have e3:Int.tdiv (m:Int) 2=((m / 2:Nat):Int):=by rw[ajw (by omega)]; rfl
    simp only[lV,gc,e2,e3];by_cases hm:m%2=0
    ·have:(((m%2:Nat):Int)==0)=true:=by rw[hm]; rfl
     have ew:IntKind.wrap .u64 ((m / 2:Nat):Int)=((m / 2:Nat):Int):=by
      rw[aq];have:(2:Nat) ^ 64=18446744073709551616:=by decide
      omega
     rw[this,aiw,aa air,if_pos hm,ew];exact ih (by omega) (m / 2) (e+1) (by omega) (by rw[aiG]at h; omega) (by omega) (by omega) (by omega) M (by omega)
    ·have:(((m%2:Nat):Int)==0)=false:=by
      have:m%2=1:=by omega
      rw[this]; rfl
     rw[this,aiv,if_neg hm]
 have:((m:Int)==0)=false:=by simp; omega
 rw[this,aiv];exact key 64 (aiH _) m e h0 hm hm (by omega) (by omega) N (by omega)
def Ny (N:Nat) (e:Int) (k:Ky6):qz N 0 e k=k 0 0:=by (unfold qz; rw[ae]; unfold um); rfl
def ofE (x:Fl):Int × Int:=match x with
 | some b=>match Ieee.double.read b with
  | .number s m i=>if m=0 then(0,0)else((gc 64 m i).2,aV s (gc 64 m i).1)
  | _=>(0,0)
 | none=>(0,0)
def DS {b:Nat} {s:Bool} {m:Nat} {i:Int} (h:Ieee.double.read b=.number s m i):ofE (some b)=if m=0 then(0,0)else((gc 64 m i).2,aV s (gc 64 m i).1):=by unfold ofE; simp only[h]
def Ke {N:Nat} (hN:1000<=N) {b:Nat} (hb:W64 b) {s:Bool} {m:Nat} {i:Int} (h:Ieee.double.read b=.number s m i) (k:Kx5) :
    tS N (some b) k=if m=0 then k s 0 0 0 else k s ((gc 64 m i).1:Int) (gc 64 m i).2 0:=by
  obtain⟨h1,h2,h3⟩:=nh h;have hpl:=qu h;have hnn:isNaN b=false:=by rw[ak2]; intro hc; have:=(fB b).1 hc; omega
  have hbits:ny (some b)=b:=by simp only[ny,cnb,hnn]; rfl
  have hsg:(Int.fdiv (b:Int) (2 ^ 63)==1)=s:=by
    have e:(2:Int) ^ 63=((9223372036854775808:Nat):Int):=by decide
    rw[e,lq,h1];have hW:b / 9223372036854775808<2:=by have:=hb; omega
    have:b / 9223372036854775808=0\/b / 9223372036854775808=1:=by omega
    rcases this with h | h <;> rw[h] <;> rfl
  have fin:∀(e:Int),i=e - 1074 -> -1100<=e->e<=2100->mO N (some b) s e (m:Int) k=if m=0 then k s 0 0 0 else k s ((gc 64 m i).1:Int) (gc 64 m i).2 0:=by
    intro e he h5 h6;unfold mO;rw[aa air,<- he];by_cases h0:m=0
    · subst h0; rw[if_pos rfl]; exact Ny N i _
    · rw[if_neg h0,Ph hN h0 (by have:(2:Nat) ^ 64=18446744073709551616:=(by decide); omega) (by omega) (by omega)]
  (unfold tS; rw[ae]; unfold sH)
  rw[CB,hbits];rw[hsg];have n2047:(((b / 4503599627370496%2048:Nat):Int)==2047)=false:=by simp; omega
  rw[n2047,aiv];rcases h3 with⟨g1,g2,g3⟩ | ⟨g1,g2,g3⟩
  · have e0:b / 4503599627370496%2048=0:=by omega
    have e1:b%4503599627370496=m:=by omega
    rw[e0,e1,aiu (by decide),aiv];exact fin 0 (by omega) (by omega) (by omega)
  · have e0:0<b / 4503599627370496%2048:=by omega
    have e1:IntKind.wrap .u64 (((b%4503599627370496:Nat):Int)+4503599627370496)=(m:Int):=by rw[aq]; omega
    rw[ait (by omega:((b / 4503599627370496%2048:Nat):Int)>0),aiw,aa air,e1];exact fin _ (by omega) (by omega) (by omega)
def Tl {N:Nat} (hN:1000<=N) {x:Fl} (hx:be x=true) (hw:FW x) (k:Int->Bool->List Int->Bool):Bg N x k=exK (ofE x) k:=by
  obtain⟨b,s,m,i,rfl,h⟩:=qf hx;have hb:=hw b rfl
  (unfold Bg; rw[ae]; unfold zT)
  rw[Ke hN hb h,DS h];by_cases h0:m=0
  · rw[if_pos h0,if_pos h0]
    have:∀ κ,PV N 0 false κ=κ false (aj 0):=λκ=>vv (N:=N) 0 (by decide) false (pG hN (by decide)) (by omega) κ
    rw[this];cases s
    · rw[aiv]; unfold exK; rfl
    · rw[aiw,Cz _ _ (pG hN (by decide))]; unfold exK vc; rfl
  · rw[if_neg h0,if_neg h0]
    have hpl:=qu h;obtain⟨g1,g2,g3,g4⟩:=rk 64 m i h0 (by have:(2:Nat) ^ 64=18446744073709551616:=(by decide); omega);have hs:=pG (N:=N) (n:=(gc 64 m i).1) hN (by omega);rw[vv (N:=N) _ (by omega) false hs (by omega)];cases s
    · rw[aiv]
      show _=k (gc 64 m i).2 (decide ((((gc 64 m i).1:Nat):Int)<0)) (aj (((gc 64 m i).1:Nat):Int).natAbs);rw[aiu (by omega),ajp]
    · rw[aiw,Cz _ _ hs]; rfl
def EV (x:Int × Int) (v:Int) (E:Nat):Prop:=0<=x.1+E/\x.2*2 ^ (x.1+E).toNat=v
def EV.up {x:Int × Int} {v:Int} {E:Nat} (h:EV x v E) (F:Nat):EV x (v*2 ^ F) (E+F):=by
 obtain⟨h1,h2⟩:=h;refine⟨by omega,?_⟩;have:(x.1+((E+F:Nat):Int)).toNat=(x.1+E).toNat+F:=by omega
 rw[this,Int.pow_add,<- Int.mul_assoc,h2]
def EV.mul {x y:Int × Int} {v w:Int} {E F:Nat} (h:EV x v E) (g:EV y w F):EV (yE x y) (v*w) (E+F):=by
 obtain⟨h1,h2⟩:=h;obtain⟨g1,g2⟩:=g;refine⟨by simp only[yE]; omega,?_⟩;have:((yE x y).1+((E+F:Nat):Int)).toNat=(x.1+E).toNat+(y.1+F).toNat:=by simp only[yE]; omega
 rw[this,Int.pow_add,<- h2,<- g2];simp only[yE];ac_rfl
def EV.neg {x:Int × Int} {v:Int} {E:Nat} (h:EV x v E):EV (Qi x) (-v) E:=⟨h.1,by rw[<- h.2]; exact alF _ _⟩
def Cp {x:Int × Int} {v:Int} {E:Nat} (h:EV x v E) {e:Int} (he:e<=x.1) (hE:0<=e+E):th x e*2 ^ (e+E).toNat=v:=by unfold th;rw[Int.mul_assoc,<- Int.pow_add,show(x.1 - e).toNat+(e+E).toNat=(x.1+E).toNat by omega];exact h.2
def EV.add {x y:Int × Int} {v w:Int} {E:Nat} (h:EV x v E) (g:EV y w E):EV (IK x y) (v+w) E:=by
 unfold IK;split
 ·rename_i h0;have:v=0:=by rw[<- h.2,h0,Int.zero_mul]
  rw[this,Int.zero_add]; exact g
 ·split
  ·rename_i h0;have:w=0:=by rw[<- g.2,h0,Int.zero_mul]
   rw[this,Int.add_zero]; exact h
  ·have hE:0<=min x.1 y.1+E:=by have:=h.1; have:=g.1; omega
   exact⟨hE,by rw[Int.add_mul,Cp h (by omega) hE,Cp g (by omega) hE]⟩
def EV.sgn {x:Int × Int} {v:Int} {E:Nat} (h:EV x v E):xn x.2=xn v:=by
 rw[<- h.2];have hp:=NS (x.1+E).toNat;unfold xn;rcases Int.lt_trichotomy x.2 0 with h | h | h
 ·have:=Int.mul_neg_of_neg_of_pos h hp;rw[if_neg (by omega),if_pos h,if_neg (by omega),if_pos this]
 ·rw[h,Int.zero_mul]
 ·have:=Int.mul_pos h hp;rw[if_neg (by omega),if_neg (by omega),if_neg (by omega),if_neg (by omega)]
def Ex.mono {E B E' B':Nat} {x:Int × Int} (h:Ex E B x) (hE:E<=E') (hB:B<=B'):Ex E' B' x:=⟨by have:=h.1; omega,by have:=h.2.1; omega,bN h.2.2 hB⟩
def Ex.mul {E B E' B':Nat} {x y:Int × Int} (h:Ex E B x) (g:Ex E' B' y):Ex (E+E') (B+B') (yE x y):=
 ⟨by have:=h.1; have:=g.1; simp only[yE]; omega,by have:=h.2.1; have:=g.2.1; simp only[yE]; omega,by show aS _ (x.2*y.2).natAbs;rw[akf]; exact dI h.2.2 g.2.2⟩
def Ex.neg {E B:Nat} {x:Int × Int} (h:Ex E B x):Ex E B (Qi x):=⟨h.1,h.2.1,by show aS _ (-x.2).natAbs; rw[ak4]; exact h.2.2⟩
def A2 {E B:Nat} {x:Int × Int} (h:Ex E B x) {e:Int} (he : -(E:Int)<=e):aS (B+2*E) (th x e).natAbs:=by unfold th;rw[akf,Int.natAbs_pow];refine bN (vR h.2.2 _) ?_;have:=h.2.1; omega
def Ex.add {E B:Nat} {x y:Int × Int} (h:Ex E B x) (g:Ex E B y):Ex E (B+2*E+1) (IK x y):=by
 unfold IK;split
 ·exact g.mono (aiH _) (by omega)
 ·split
  ·exact h.mono (aiH _) (by omega)
  ·refine⟨by have:=h.1; have:=g.1; show -(E:Int)<=min x.1 y.1; omega,by have:=h.2.1; show min x.1 y.1<=E; omega,?_⟩;have h1:=A2 h (e:=min x.1 y.1) (by have:=h.1; have:=g.1; omega);have h2:=A2 g (e:=min x.1 y.1) (by have:=h.1; have:=g.1; omega);exact mP (wQ h1 h2) (Int.natAbs_add_le _ _)
def Pc {N:Nat} (hN:1000<=N) {E B:Nat} {x:Int × Int} (hx:Ex E B x) {e:Int} (he : -(E:Int)<=e) (hB:B+2*E<=30000) (k0:Bool) (k1:Bool->List Int->Bool) (h0:x.1<=e->k0=vc x.2 k1) (he2:x.1<=e->e=x.1) :
  TQ N x.1 e (decide (x.2<0)) (aj x.2.natAbs) k0 k1=vc (th x e) k1:=by
 unfold TQ Un;have hx1:=hx.1;have hx2:=hx.2.1;by_cases hc:x.1<=e
 ·rw[ait (by omega:e>=x.1),aiw,h0 hc];have:th x e=x.2:=by unfold th;rw[he2 hc,Int.sub_self]; simp
  rw[this]
 ·rw[aiu (by omega:¬ e>=x.1),aiv,aa air];have ew:IntKind.wrap .u64 (x.1 - e)=(((x.1 - e).toNat:Nat):Int):=by rw[aq]; omega
  rw[ew,Cy _ _ _ _ (Ce hN (by omega) hx.2.2)];congr 1;unfold th aV;by_cases hz:x.2<0
  ·rw[ait hz,if_pos rfl,aiQ,ajV,<- alF];congr 1; omega
  ·rw[aiu hz,if_neg (by decide),aiQ,ajV];congr 1; omega
def H3 {x:Fl} (hx:be x=true):Ex 1100 53 (ofE x):=by
  obtain⟨b,s,m,i,rfl,h⟩:=qf hx;rw[DS h];have hpl:=qu h;have hpg:=Ga h;by_cases h0:m=0
  · rw[if_pos h0]; exact⟨by decide,by decide,aiI _⟩
  · rw[if_neg h0]
    obtain⟨g1,g2,g3,g4⟩:=rk 64 m i h0 (by have:(2:Nat) ^ 64=18446744073709551616:=(by decide); omega);refine⟨by show -((1100:Nat):Int)<=(gc 64 m i).2; omega,by show(gc 64 m i).2<=((1100:Nat):Int); omega,?_⟩;show aS 53 (aV s (gc 64 m i).1).natAbs;have:(aV s (gc 64 m i).1).natAbs=(gc 64 m i).1:=by unfold aV; cases s <;> simp
    rw[this];show _<2 ^ 53;have:(2:Nat) ^ 53=9007199254740992:=by decide
    omega
def CN:∀(f t c:Nat) (e:Int),t<f->gc f (2 ^ t*(2*c+1)) e=(2*c+1,e+t)
 | 0,t,c,e,h=>by omega
 | f+1,0,c,e,h=>by
  unfold gc;rw[akn,akt,if_neg (by omega)];simp
 | f+1,t+1,c,e,h=>by
  unfold gc;have e1:2 ^ (t+1)*(2*c+1)=2*(2 ^ t*(2*c+1)):=by rw[aiG]; ac_rfl
  rw[e1,if_pos (by omega),ai5 _ (by decide),CN f t c (e+1) (by omega)];congr 1; omega
def Ol {b:Nat} (hb:W64 b):(aA .and .u64 (b:Int) 9223372036854775808 != 0)=(b / 9223372036854775808%2==1):=by
 have e1:(9223372036854775808:Int)=((2 ^ 63:Nat):Int):=by decide
 have p63:(2:Nat) ^ 63=9223372036854775808:=by decide
 rw[e1,vm hb (by rw[p63]; omega)];have h1:b / 9223372036854775808%2=0\/b / 9223372036854775808%2=1:=by omega
 have h2:b.testBit 63=decide (b / 2 ^ 63%2=1):=Nat.testBit_eq_decide_div_mod_eq;rw[p63]at h2;rcases h1 with h | h
 ·have hz:b &&& 2 ^ 63=0:=by
   refine akH (λj=>?_);rw[alp,akh,Nat.zero_testBit];by_cases hj:63=j
   ·subst hj; rw[h2,h]; rfl
   ·rw[aiu hj,Bool.and_false]
  rw[hz,h]; rfl
 ·have hz:b &&& 2 ^ 63 ≠ 0:=by intro hc;have:=alE (λn=>n.testBit 63) hc;simp only[alp,akh,Nat.zero_testBit,h2,h]at this;simp at this
  rw[h];generalize b &&& 2 ^ 63=z at hz ⊢;have:((z:Int) != 0)=true:=by simp; exact hz
  rw[this]; rfl
def CQ {N:Nat} {b m:Nat} {i:Int} {s:Bool} (hpl:i<=971/\m<9007199254740992) (hb:W64 b) (k:Kx5) (E:Int) (hEi:i=E) (h5 : -1100<=E) (h6:E<=1100) (h0:m ≠ 0):JG N (b:Int) 52 2047 1075 s (m:Int) E k=k s ((gc 64 m i).1:Int) (gc 64 m i).2 0:=by
 unfold JG;obtain⟨t,c,hm⟩:=A8 m h0;have ht0:0<2 ^ t:=aiI t;have ht:t<64:=by
  rcases ajs t 64 with g | g
  ·exact g
  ·have g2:2 ^ 64<=2 ^ t:=aiK (by decide) g;have g3:2 ^ t*1<=2 ^ t*(2*c+1):=aiB _ (by omega);have g4:(2:Nat) ^ 64=18446744073709551616:=by decide
   omega
 rw[hm,Tm N (by rw[<- hm]; omega),CN 64 t c i ht,aa (ait (by omega)),aa air,aiA,show min t 64=t by omega];have e2:(2:Int) ^ t=((2 ^ t:Nat):Int):=by rw[ajV]; rfl
 rw[e2,lq,ai5 _ ht0,hEi]
def Hw {N:Nat} {b:Nat} (hb:W64 b) {s:Bool} {m:Nat} {i:Int} (h:Ieee.double.read b=.number s m i) (k:Kx5) :
  ru N (some b) k=if m=0 then k s 0 0 0 else k s ((gc 64 m i).1:Int) (gc 64 m i).2 0:=by
 obtain⟨h1,h2,h3⟩:=nh h;have hpl:=qu h;have hnn:isNaN b=false:=by rw[ak2]; intro hc; have:=(fB b).1 hc; omega
 have hcnb:cnb b=b:=by simp only[cnb,hnn]; rfl
 have hcls:=Dg b;rw[hcnb]at hcls;have hE:b / 4503599627370496%2048<2047:=by omega
 rw[if_neg (Nat.ne_of_lt hE)]at hcls;have hc:(b / 4503599627370496%2048=0/\b%4503599627370496=m/\cls b=(if m=0 then 3 else 4)/\i = -1074)\/(b / 4503599627370496%2048 ≠ 0/\m=4503599627370496+b%4503599627370496/\cls b=5/\i=((b / 4503599627370496%2048:Nat):Int) - 1075):=by
  rcases h3 with⟨g1,g2,g3⟩ | ⟨g1,g2,g3⟩
  ·have e0:b / 4503599627370496%2048=0:=by omega
   have e1:b%4503599627370496=m:=by omega
   rw[if_pos e0,e1]at hcls;exact .inl ⟨e0,e1,hcls,by omega⟩
  ·have e0:b / 4503599627370496%2048 ≠ 0:=by omega
   rw[if_neg e0]at hcls;exact .inr ⟨e0,by omega,hcls,by omega⟩
 generalize hx:b / 4503599627370496%2048=x at hE hc;generalize hy:b%4503599627370496=y at hc;have hylt:y<4503599627370496:=by omega
 have goal0:ru N (some b) k=(ac .i64 ((x:Int) - 1075)&&(cond ((cls b:Int)==1) (k false 0 0 4) (cond ((cls b:Int)==2) (k false 0 0 4) (cond ((cls b:Int)==3) (k s 0 0 0) (cond ((cls b:Int)==4) ((ac .i64 (((x:Int) - 1075)+1))&&(JG N (b:Int) 52 2047 1075 s (y:Int) (((x:Int) - 1075)+1) k)) (nn N 52 2047 1075 (λ(Xx:Int)=>(JG N (b:Int) 52 2047 1075 s (aA .or .u64 (y:Int) Xx) ((x:Int) - 1075) k)))))))):=by
  unfold ru zQ;show TU N (b:Int) 52 2047 1075 _=_
  (unfold TU; rw[ae]; unfold Rr)
  rw[CF,hcnb,Ol hb,<- h1,CD,hx,hy]
 rw[goal0,aa air];clear goal0 hcls h1 h2 h3 hcnb hnn;rcases hc with⟨c1,c2,c3,c4⟩ | ⟨c1,c2,c3,c4⟩
 ·rw[c3];by_cases h0:m=0
  ·rw[if_pos h0,if_pos h0]; rfl
  ·rw[if_neg h0,if_neg h0,c2];show(ac .i64 (((x:Int) - 1075)+1)&&_)=_;rw[aa air];exact CQ hpl hb k _ (by omega) (by omega) (by omega) h0
 ·have h0:m ≠ 0:=by omega
  rw[c3,if_neg h0];have eor:aA .or .u64 (y:Int) 4503599627370496=(m:Int):=by
   have p52:(2:Nat) ^ 52=4503599627370496:=by decide
   have:=cL y 1 52 (by omega) (by omega);rw[p52]at this;rw[show((4503599627370496*1:Nat):Int)=4503599627370496 from rfl]at this;rw[this]; omega
  rw[show((5:Int)==1)=false from rfl,aiv,show((5:Int)==2)=false from rfl,aiv,show((5:Int)==3)=false from rfl,aiv,show((5:Int)==4)=false from rfl,aiv,lf,eor];exact CQ hpl hb k _ (by omega) (by omega) (by omega) h0
def K2 {z:Int}:(xn z==0)=decide (z=0):=by
 unfold xn;by_cases h:z=0
 ·rw[if_pos h,ait h]; rfl
 ·rw[if_neg h,aiu h];by_cases hl:z<0
  ·rw[if_pos hl]; rfl
  ·rw[if_neg hl]; rfl
def rn (p:Int × Int):Rat:=if 0<=p.1 then mkRat (p.2*((2 ^ p.1.toNat:Nat):Int)) 1 else mkRat p.2 (2 ^ (-p.1).toNat)
def Tj (a b:Int):imm true a b=max a b:=by
 unfold imm; simp only[aiw];by_cases h:a<=b
 ·have:max a b=b:=by omega
  rw[this];by_cases h2:b>a
  ·rw[ait h2]; rfl
  ·rw[aiu h2,aiv]; omega
 ·have:max a b=a:=by omega
  rw[this,aiu (by omega),aiv]
def Qo (n:Nat):¬((n:Nat):Int)<0:=by omega
def A7 (g:Bool):(g != false)=g:=by cases g <;> rfl
def Ms {B s n:Nat} (h:aS B n):aS (B+s) (n*2 ^ s):=vR h s
def Aa {s:Nat}:aS (s+1) (2 ^ s):=by unfold aS; rw[aiG]; have:=aiI s; omega
def IB:aS 1 1:=by unfold aS; decide
def xH:af 1=[1]:=qU (by decide) (by decide)
def Tk {w:Int} (k:Kx6):kq (mkRat w 1) k=kr w 1 k:=by unfold kq;rw[Rat.mkRat_one,Rat.num_intCast,Rat.den_intCast]
def IZ {N:Nat} (hF:Fuel N) (x:Fl) (s:Bool) (M e z:Int) (he : -1100<=e) (he2:e<=1100) (hz:aS 53 z.natAbs) (k:Kx6) :
  cu N x s M e (decide (z<0)) (af z.natAbs) k=kq (rn (e,z)) k:=by
 have hN:=hF.lt;unfold cu;have n1:=λkk=>tu (N:=N) (by omega) 1 (by decide) kk
 rw[show((1:Nat):Int)=1 from rfl]at n1;rw[n1,aa air,Tj];obtain⟨t,ht⟩:∃ t:Nat,max e (0 - e)=(t:Int):=⟨(max e (0 - e)).toNat,by omega⟩
 have ew:IntKind.wrap .u64 (max e (0 - e))=(t:Int):=by rw[aq]; omega
 have htb:t<=1100:=by omega
 rw[ew,Kb t false false 1 (by omega) (by rw[xH]; simp; omega) (by rw[xH]; simp)];unfold tm;have e1:aV false (1*2 ^ t)=((2 ^ t:Nat):Int):=by unfold aV; rw[akt]; rfl
 rw[e1,aiu (Qo (2 ^ t)),ajp];dsimp only;have hp:=aiI t;have hzb:aS 2000 z.natAbs:=bN hz (by omega);have htb2:aS 2000 (2 ^ t):=bN Aa (by omega);by_cases hc:e<0
 ·rw[ait hc,aiw];unfold PI QL;rw[A7,yH hF (B:=2000) (by decide) _ hzb htb2 hp,iT];unfold rn;dsimp only;have:(-e).toNat=t:=by omega
  rw[if_neg (by omega),this]
 ·rw[aiu hc,aiv];unfold UX Uq;have hm:aS 4000 (z.natAbs*2 ^ t):=bN (dI hzb htb2) (by omega);rw[uK hF (by decide) hzb htb2,A7];rw[oH (decide (z<0)) _ _ (z.natAbs*2 ^ t) (λa b=>TJ N false false a b (λc8 s7 c9 s8=>k c8 s7 c9 s8))];rw[tn];obtain⟨w,hw⟩:∃ w:Int,w=z*((2 ^ t:Nat):Int):=⟨_,rfl⟩
  have hwb:aS 4000 w.natAbs:=by rw[hw,akf,ajp]; exact hm
  rw[<- hw];unfold tm TJ Uh;dsimp only;rw[q_ (by decide) hwb];have er:rn (e,z)=mkRat w 1:=by
   unfold rn;dsimp only;have:e.toNat=t:=by omega
   rw[if_pos (by omega),this,hw]
  rw[er,Tk]
  (unfold UU; rw[ae]; unfold Ro KW OI Qs P7 kr)
  rw[xH];by_cases hl:w<0
  ·rw[ait hl];have h2:decide (((af w.natAbs).length:Int)>0)=true:=by rw[p_]; exact ait (by omega)
   simp only[h2];rfl
  ·rw[aiu hl]; rfl
def ra (N:Nat) (e:Int) (k0:Bool):dw N ((0:Int)==0) e k0=k0:=rfl
def FG {N:Nat} (hF:Fuel N) {x:Fl} (hx:be x=true) (hw:FW x) (k:Kx6):kv N x k=kq (rn (ofE x)) k:=by
 have hN:=hF.lt;have hex:=H3 hx;obtain⟨b,s,m,i,rfl,h⟩:=qf hx;have ho:=DS h
 (unfold kv; rw[ae]; unfold kn)
 have fin:∀(M:Nat) (e:Int),M<18446744073709551616->ofE (some b)=(e,aV s M) ->
   dw N ((0:Int)==0) 4 (PJ N (M:Int) false (λ(W3:Bool) (nsr:List Int)=>(cond s (PQ N W3 nsr (λ(XA:Bool) (W1:List Int)=>(cu N (some b) s (M:Int) e XA W1 k))) (cu N (some b) s (M:Int) e W3 nsr k))))=kq (rn (ofE (some b))) k:=by
  intro M e hM heq;rw[heq]at hex ⊢;have h1:=hex.1;have h2:=hex.2.1;have h3:=hex.2.2;dsimp only at h1 h2 h3;have hl:(af M).length<=1099511627776:=by
   have:aS 64 M:=by unfold aS; omega
   have:=zo (B:=64) (by decide) this; omega
  rw[ra,Np (by omega) M hM];cases s
  ·rw[aiv];have e1:aV false M=(M:Int):=rfl;rw[e1]at h3 ⊢;have:=IZ hF (some b) false (M:Int) e (M:Int) (by omega) (by omega) h3 k;rw[aiu (by omega:¬(M:Int)<0),ajp]at this;exact this
  ·rw[aiw,Kc false M hl];have e1 : -(aV false M)=aV true M:=rfl;rw[e1];exact IZ hF (some b) true (M:Int) e (aV true M) (by omega) (by omega) h3 k
 rw[Hw (hw b rfl) h];by_cases h0:m=0
 ·rw[if_pos h0];rw[if_pos h0]at ho;refine fin 0 0 (by decide) ?_;rw[ho];cases s <;> rfl
 ·rw[if_neg h0];rw[if_neg h0]at ho;have hpl:=qu h;have hm:m<2 ^ 64:=by
   have:(2:Nat) ^ 64=18446744073709551616:=by decide
   omega
  obtain⟨g1,g2,g3,g4⟩:=rk 64 m i h0 hm;exact fin _ _ (by omega) ho
def Pi (N:Nat) (k:Kz9):rZ N k=k (aj 1):=by rw[MQ]; rfl
def FA {N:Nat} (hF:Fuel N) {z:Int} (hz:aS 30000 z.natAbs) (b1 b2:Bool) (k:Kx6) :
  PL N b1 b2 (decide (z<0)) (aj z.natAbs) k=kqR (mkRat z 1) k:=by
 unfold PL Ud;rw[Pi,uI hF (B:=30000) (by decide) _ hz (bN IB (by decide)) (by decide),iT]
def Kf {N:Nat} (hF:Fuel N) {x:Fl} (hx:be x=true) (hw:FW x) (k:Kx6):tU N x k=kqR (rn (ofE x)) k:=by
 have hN:=hF.lt;have hex:=H3 hx;unfold tU yn;rw[Tl (by omega) hx hw];obtain⟨p,hp⟩:∃ p,p=ofE x:=⟨_,rfl⟩
 rw[<- hp]at hex ⊢;obtain⟨e,z⟩:=p;have h1:=hex.1;have h2:=hex.2.1;have h3:=hex.2.2;dsimp only at h1 h2 h3
 (unfold exK; unfold UW; rw[ae]; unfold Rq)
 dsimp only;by_cases hc:e>=0
 ·rw[ait hc,aiw];have hl:=λk0 k1 h0 he2=>Pc (N:=N) (by omega) hex (e:=0) (by omega) (by decide) k0 k1 h0 he2
  dsimp only at hl;rw[hl]
  ·unfold vc;have hb:=A2 hex (e:=0) (by omega);dsimp only;rw[FA hF (bN hb (by decide))];unfold rn th;dsimp only;rw[if_pos hc,Int.sub_zero,ajV];rfl
  ·intro _; rfl
  ·intro h; omega
 ·rw[aiu hc,aiv];have n1:=λkk=>AP (N:=N) 1 (by decide) (by have:=rV (B:=1) (n:=1) (by decide) (by unfold aS; decide);exact⟨by omega,by omega⟩) (by omega) kk
  rw[show((1:Nat):Int)=1 from rfl]at n1;rw[n1,aa air];obtain⟨t,ht⟩:∃ t:Nat,(0 - e)=(t:Int):=⟨(0 - e).toNat,by omega⟩
  have ew:IntKind.wrap .u64 (0 - e)=(t:Int):=by rw[aq]; omega
  rw[ew,Cy t false false 1 (Ce (B:=1) (by omega) (by omega) (by unfold aS; decide))];unfold vc;have e1:aV false (1*2 ^ t)=((2 ^ t:Nat):Int):=by unfold aV; rw[akt]; rfl
  rw[e1,aiu (Qo (2 ^ t)),ajp];dsimp only;have htp:=aiI t;have hzb:aS 2000 z.natAbs:=bN h3 (by omega);have htb2:aS 2000 (2 ^ t):=bN Aa (by omega);unfold US Ug;rw[A7,uI hF (B:=2000) (by decide) _ hzb htb2 (Nat.ne_of_gt htp),iT];unfold rn;dsimp only;have:(-e).toNat=t:=by omega
  rw[if_neg (by omega),this]
def wI {B:Nat} {z:Int} {d:Nat} (hz:aS B z.natAbs) (hd:aS B d) (h0:0<d):Bq B (mkRat z d):=by
 refine⟨?_,?_⟩
 ·rw[alG,if_neg (by omega)];have h1:((Nat.gcd z.natAbs d:Nat):Int)∣z:=Int.ofNat_dvd_left.2 (ajk _ _);rw[ajJ,Int.natAbs_ediv_of_dvd h1,ajp];exact cd hz
 ·rw[alH,if_neg (by omega)];exact cd hd
def PA {x:Fl} (hx:be x=true):Bq 1200 (rn (ofE x)):=by
 have hex:=H3 hx;obtain⟨p,hp⟩:∃ p,p=ofE x:=⟨_,rfl⟩
 rw[<- hp]at hex ⊢;obtain⟨e,z⟩:=p;have h1:=hex.1;have h2:=hex.2.1;have h3:=hex.2.2;dsimp only at h1 h2 h3;unfold rn;dsimp only;split
 ·refine wI ?_ (bN IB (by decide)) (by decide);rw[akf,ajp];exact bN (Ms h3) (by omega)
 ·exact wI (bN h3 (by omega)) (bN Aa (by omega)) (aiI _)
end Go.Proofs.YtbiingchhnlcnaaGreatDoor
end
