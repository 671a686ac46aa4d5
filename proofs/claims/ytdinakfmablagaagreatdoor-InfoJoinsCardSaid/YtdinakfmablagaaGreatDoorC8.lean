/- Laws in plain Lean. Conditions: none. -/
import Derived.Test.YtdinakfmablagaaGreatDoorD1
import Derived.Test.YtdinakfmablagaaGreatDoorFlA
set_option linter.defProp false
set_option linter.unusedVariables false
section
namespace Go.Proofs.YtdinakfmablagaaGreatDoor
open Go Go.Mach Ieee
def IB {N n j:Nat} (hN:1000<=N) (hj:j<=900) (h:n<4294967296 ^ j):dq N (ah n):=by have:=ci j n h;exact⟨by omega,by omega⟩
def kO {N n:Nat} (hN:1000<=N) (h:n<18446744073709551616):dq N (ah n):=IB (j:=2) hN (by decide) (by
 have:(4294967296:Nat) ^ 2=18446744073709551616:=by decide
 omega)
def T8 (n:Nat):aA .and .u64 (n:Int) 2047=((n%2048:Nat):Int):=by have:=jg n 11 (by decide);simpa using this
def yA (s:Bool) (m:Nat) (i:Int):∃ r,Ieee.double.nearest s m i=Ieee.double.word s r/\r<=9218868437227405312:=by
 unfold Format.nearest;split
 ·exact⟨0,rfl,by omega⟩
 ·rw[fF]; exact⟨_,rfl,acq _ _⟩
def Dw (s:Bool) (m:Nat) (i:Int):W64 (Ieee.double.nearest s m i):=by obtain⟨r,h,hr⟩:=yA s m i;rw[h]; exact zj s (by omega)
def SH {N:Nat} (hN:1000<=N) {n:Nat} (h:n<=48):ek N n:=⟨by omega,by omega⟩
def Kn (b:Nat):aL (some b)=decide (b%9223372036854775808<9218868437227405312):=by
 unfold aL Format.read;simp only[dj,kt,fF];by_cases h1:b%9223372036854775808<4503599627370496
 ·rw[if_pos h1,Y5 (by omega)]; rfl
 ·rw[if_neg h1];by_cases h2:b%9223372036854775808<9218868437227405312
  ·rw[if_pos h2,Y5 h2]; rfl
  ·rw[if_neg h2,Y6 h2];split <;> rfl
def Nn (x:Fl):Prop:=∃ b,x=some b/\isNaN b=false
def Qv {x:Fl} (h:aL x=true):Nn x:=by
 cases x with
 | none=>cases h
 | some b=>
  rw[Kn]at h;have:=Za h;refine⟨b,rfl,?_⟩;rw[abJ];intro hc;have:=(eA b).1 hc;omega
def Mu (s:Bool) {r:Nat} (h:r<=9218868437227405312):Nn (some (Ieee.double.word s r)):=by
 refine⟨_,rfl,?_⟩;rw[abJ];intro hc;have h1:=(eA _).1 hc;have hw:Ieee.double.word s r%9223372036854775808=r:=by unfold Format.word; rw[dj]; cases s <;> simp <;> omega
 omega
def xp (s:Bool) (m:Nat) (i:Int):Nn (some (Ieee.double.nearest s m i)):=by obtain⟨r,h,hr⟩:=yA s m i;rw[h]; exact Mu s hr
abbrev K4:=Fl->Fl->Fl->Fl->Int->Bool
def d8:Nat->Nat->Int->Nat × Int
 | 0,m,e=>(m,e)
 | f+1,m,e=>if m%2=0 then d8 f (m / 2) (e+1)else(m,e)
def mi:∀ f m e,m ≠ 0->m<2 ^ f->e<=(d8 f m e).2/\(d8 f m e).2<=e+f/\(d8 f m e).1*2 ^ ((d8 f m e).2 - e).toNat=m/\(d8 f m e).1<=m
 | 0,m,e,h0,h=>by simp at h; omega
 | f+1,m,e,h0,h=>by
  unfold d8;split
  ·rename_i hm;obtain⟨h1,h2,h3,h4⟩:=mi f (m / 2) (e+1) (by omega) (by rw[Zh]at h; omega);refine⟨by omega,by omega,?_,by omega⟩;have:((d8 f (m / 2) (e+1)).2 - e).toNat=((d8 f (m / 2) (e+1)).2 - (e+1)).toNat+1:=by omega
   rw[this,Zh,<- Zf,h3]; omega
  ·refine⟨by omega,by omega,?_,Zi _⟩;rw[Int.sub_self]; simp
def M8 {N:Nat} (hN:1000<=N) {m:Nat} {e:Int} (h0:m ≠ 0) (hm:m<2 ^ 64) (he1 : -2000<=e) (he2:e<=2000) (k:Ky2) :
  nQ N m e k=k ((d8 64 m e).1:Int) (d8 64 m e).2:=by
 (unfold nQ; rw[af]; unfold q_)
 have key:∀ f:Nat,f<=64 -> ∀(m:Nat) (e:Int),m ≠ 0->m<2 ^ f->m<2 ^ 64 -> -2000<=e->e+f<=3000 -> ∀ M:Nat,f<M->am M (jN N λa b=>k a b) ((m:Int),e)=k ((d8 f m e).1:Int) (d8 f m e).2:=by
  intro f;induction f with
  | zero=>intro _ m e h0 h; simp at h; omega
  | succ f ih=>
   intro hf m e h0 h h64 h1 h2 M hM;cases M with
   | zero=>omega
   | succ M=>
    show jN N _ ((m:Int),e) (am M _)=_;have e2:Int.tmod (m:Int) 2=((m%2:Nat):Int):=by rw[Z1 (by omega)]; rfl
    have e3:Int.tdiv (m:Int) 2=((m / 2:Nat):Int):=by rw[Z_ (by omega)]; rfl
    simp only[jN,d8,e2,e3];by_cases hm:m%2=0
    ·have:(((m%2:Nat):Int)==0)=true:=by rw[hm]; rfl
     have ew:IntKind.wrap .u64 ((m / 2:Nat):Int)=((m / 2:Nat):Int):=by
      rw[aq];have:(2:Nat) ^ 64=18446744073709551616:=by decide
      omega
     rw[this,Y8,aa Y3,if_pos hm,ew];exact ih (by omega) (m / 2) (e+1) (by omega) (by rw[Zh]at h; omega) (by omega) (by omega) (by omega) M (by omega)
    ·have:(((m%2:Nat):Int)==0)=false:=by
      have:m%2=1:=by omega
      rw[this]; rfl
     rw[this,Y7,if_neg hm]
 have:((m:Int)==0)=false:=by simp; omega
 rw[this,Y7];exact key 64 (Zi _) m e h0 hm hm (by omega) (by omega) N (by omega)
def KQ (N:Nat) (e:Int) (k:Ky2):nQ N 0 e k=k 0 0:=by (unfold nQ; rw[af]; unfold q_); rfl
def ofE (x:Fl):Int × Int:=match x with
 | some b=>match Ieee.double.read b with
  | .number s m i=>if m=0 then(0,0)else((d8 64 m i).2,aT s (d8 64 m i).1)
  | _=>(0,0)
 | none=>(0,0)
def xd {b:Nat} {s:Bool} {m:Nat} {i:Int} (h:Ieee.double.read b=.number s m i):ofE (some b)=if m=0 then(0,0)else((d8 64 m i).2,aT s (d8 64 m i).1):=by unfold ofE; simp only[h]
def HL {N:Nat} (hN:1000<=N) {b:Nat} (hb:W64 b) {s:Bool} {m:Nat} {i:Int} (h:Ieee.double.read b=.number s m i) (k:Kx3) :
    qJ N (some b) k=if m=0 then k s 0 0 0 else k s ((d8 64 m i).1:Int) (d8 64 m i).2 0:=by
  obtain⟨h1,h2,h3⟩:=kI h;have hpl:=kH h;have hnn:isNaN b=false:=by rw[abJ]; intro hc; have:=(eA b).1 hc; omega
  have hbits:kY (some b)=b:=by simp only[kY,cnb,hnn]; rfl
  have hsg:(Int.fdiv (b:Int) (2 ^ 63)==1)=s:=by
    have e:(2:Int) ^ 63=((9223372036854775808:Nat):Int):=by decide
    rw[e,js,h1];have hW:b / 9223372036854775808<2:=by have:=hb; omega
    have:b / 9223372036854775808=0\/b / 9223372036854775808=1:=by omega
    rcases this with h | h <;> rw[h] <;> rfl
  have fin:∀(e:Int),i=e - 1074 -> -1100<=e->e<=2100->kg N (some b) s e (m:Int) k=if m=0 then k s 0 0 0 else k s ((d8 64 m i).1:Int) (d8 64 m i).2 0:=by
    intro e he h5 h6;unfold kg;rw[aa Y3,<- he];by_cases h0:m=0
    · subst h0; rw[if_pos rfl]; exact KQ N i _
    · rw[if_neg h0,M8 hN h0 (by have:(2:Nat) ^ 64=18446744073709551616:=(by decide); omega) (by omega) (by omega)]
  (unfold qJ; rw[af]; unfold pP)
  rw[Ao,hbits];rw[hsg];have n2047:(((b / 4503599627370496%2048:Nat):Int)==2047)=false:=by simp; omega
  rw[n2047,Y7];rcases h3 with⟨g1,g2,g3⟩ | ⟨g1,g2,g3⟩
  · have e0:b / 4503599627370496%2048=0:=by omega
    have e1:b%4503599627370496=m:=by omega
    rw[e0,e1,Y6 (by decide),Y7];exact fin 0 (by omega) (by omega) (by omega)
  · have e0:0<b / 4503599627370496%2048:=by omega
    have e1:IntKind.wrap .u64 (((b%4503599627370496:Nat):Int)+4503599627370496)=(m:Int):=by rw[aq]; omega
    rw[Y5 (by omega:((b / 4503599627370496%2048:Nat):Int)>0),Y8,aa Y3,e1];exact fin _ (by omega) (by omega) (by omega)
def uT {N:Nat} (hN:1000<=N) {x:Fl} (hx:aL x=true) (hw:FW x) (k:Kx9):e_ N x k=exK (ofE x) k:=by
  obtain⟨b,s,m,i,rfl,h⟩:=gz hx;have hb:=hw b rfl
  (unfold e_; rw[af]; unfold IZ)
  rw[HL hN hb h,xd h];by_cases h0:m=0
  · rw[if_pos h0,if_pos h0]
    have:∀ κ,NN N 0 false κ=κ false (ah 0):=λκ=>si (N:=N) 0 (by decide) false (kO hN (by decide)) (by omega) κ
    rw[this];cases s
    · rw[Y7]; unfold exK; rfl
    · rw[Y8,An _ _ (kO hN (by decide))]; unfold exK mB; rfl
  · rw[if_neg h0,if_neg h0]
    have hpl:=kH h;obtain⟨g1,g2,g3,g4⟩:=mi 64 m i h0 (by have:(2:Nat) ^ 64=18446744073709551616:=(by decide); omega);have hs:=kO (N:=N) (n:=(d8 64 m i).1) hN (by omega);rw[si (N:=N) _ (by omega) false hs (by omega)];cases s
    · rw[Y7]
      show _=k (d8 64 m i).2 (decide ((((d8 64 m i).1:Nat):Int)<0)) (ah (((d8 64 m i).1:Nat):Int).natAbs);rw[Y6 (by omega),ZV]
    · rw[Y8,An _ _ hs]; rfl
def EV (x:Int × Int) (v:Int) (E:Nat):Prop:=0<=x.1+E/\x.2*2 ^ (x.1+E).toNat=v
def EV.up {x:Int × Int} {v:Int} {E:Nat} (h:EV x v E) (F:Nat):EV x (v*2 ^ F) (E+F):=by
 obtain⟨h1,h2⟩:=h;refine⟨by omega,?_⟩;have:(x.1+((E+F:Nat):Int)).toNat=(x.1+E).toNat+F:=by omega
 rw[this,Int.pow_add,<- Int.mul_assoc,h2]
def EV.mul {x y:Int × Int} {v w:Int} {E F:Nat} (h:EV x v E) (g:EV y w F):EV (mN x y) (v*w) (E+F):=by
 obtain⟨h1,h2⟩:=h;obtain⟨g1,g2⟩:=g;refine⟨by simp only[mN]; omega,?_⟩;have:((mN x y).1+((E+F:Nat):Int)).toNat=(x.1+E).toNat+(y.1+F).toNat:=by simp only[mN]; omega
 rw[this,Int.pow_add,<- h2,<- g2];simp only[mN];ac_rfl
def EV.neg {x:Int × Int} {v:Int} {E:Nat} (h:EV x v E):EV (vS x) (-v) E:=⟨h.1,by rw[<- h.2]; exact abw _ _⟩
def z_ {x:Int × Int} {v:Int} {E:Nat} (h:EV x v E) {e:Int} (he:e<=x.1) (hE:0<=e+E):pp x e*2 ^ (e+E).toNat=v:=by unfold pp;rw[Int.mul_assoc,<- Int.pow_add,show(x.1 - e).toNat+(e+E).toNat=(x.1+E).toNat by omega];exact h.2
def EV.add {x y:Int × Int} {v w:Int} {E:Nat} (h:EV x v E) (g:EV y w E):EV (jQ x y) (v+w) E:=by
 unfold jQ;split
 ·rename_i h0;have:v=0:=by rw[<- h.2,h0,Int.zero_mul]
  rw[this,Int.zero_add]; exact g
 ·split
  ·rename_i h0;have:w=0:=by rw[<- g.2,h0,Int.zero_mul]
   rw[this,Int.add_zero]; exact h
  ·have hE:0<=min x.1 y.1+E:=by have:=h.1; have:=g.1; omega
   exact⟨hE,by rw[Int.add_mul,z_ h (by omega) hE,z_ g (by omega) hE]⟩
def EV.sgn {x:Int × Int} {v:Int} {E:Nat} (h:EV x v E):nS x.2=nS v:=by
 rw[<- h.2];have hp:=Le (x.1+E).toNat;unfold nS;rcases Int.lt_trichotomy x.2 0 with h | h | h
 ·have:=Int.mul_neg_of_neg_of_pos h hp;rw[if_neg (by omega),if_pos h,if_neg (by omega),if_pos this]
 ·rw[h,Int.zero_mul]
 ·have:=Int.mul_pos h hp;rw[if_neg (by omega),if_neg (by omega),if_neg (by omega),if_neg (by omega)]
def Ml (E:Nat):EV (0,0) 0 E:=⟨by simp only[]; omega,Int.zero_mul _⟩
def Ex.mono {E B E' B':Nat} {x:Int × Int} (h:Ex E B x) (hE:E<=E') (hB:B<=B'):Ex E' B' x:=⟨by have:=h.1; omega,by have:=h.2.1; omega,bJ h.2.2 hB⟩
def Ex.mul {E B E' B':Nat} {x y:Int × Int} (h:Ex E B x) (g:Ex E' B' y):Ex (E+E') (B+B') (mN x y):=
 ⟨by have:=h.1; have:=g.1; simp only[mN]; omega,by have:=h.2.1; have:=g.2.1; simp only[mN]; omega,by show aK _ (x.2*y.2).natAbs;rw[aaP]; exact dd h.2.2 g.2.2⟩
def Ex.neg {E B:Nat} {x:Int × Int} (h:Ex E B x):Ex E B (vS x):=⟨h.1,h.2.1,by show aK _ (-x.2).natAbs; rw[abo]; exact h.2.2⟩
def qo {E B:Nat} {x:Int × Int} (h:Ex E B x) {e:Int} (he : -(E:Int)<=e):aK (B+2*E) (pp x e).natAbs:=by unfold pp;rw[aaP,Int.natAbs_pow];refine bJ (oi h.2.2 _) ?_;have:=h.2.1; omega
def Ex.add {E B:Nat} {x y:Int × Int} (h:Ex E B x) (g:Ex E B y):Ex E (B+2*E+1) (jQ x y):=by
 unfold jQ;split
 ·exact g.mono (Zi _) (by omega)
 ·split
  ·exact h.mono (Zi _) (by omega)
  ·refine⟨by have:=h.1; have:=g.1; show -(E:Int)<=min x.1 y.1; omega,by have:=h.2.1; show min x.1 y.1<=E; omega,?_⟩;have h1:=qo h (e:=min x.1 y.1) (by have:=h.1; have:=g.1; omega);have h2:=qo g (e:=min x.1 y.1) (by have:=h.1; have:=g.1; omega);exact jh (pW h1 h2) (Int.natAbs_add_le _ _)
def rC (z:Int) (k:Ky3):mB z k=k (decide (z<0)) (ah z.natAbs):=rfl
def Bi {N:Nat} (hN:1000<=N) {E B:Nat} {x:Int × Int} (hx:Ex E B x) {e:Int} (he : -(E:Int)<=e) (hB:B+2*E<=30000) (k0:Bool) (k1:Bool->List Int->Bool) (h0:x.1<=e->k0=mB x.2 k1) (he2:x.1<=e->e=x.1) :
  FB N x.1 e (decide (x.2<0)) (ah x.2.natAbs) k0 k1=mB (pp x e) k1:=by
 unfold FB RG;have hx1:=hx.1;have hx2:=hx.2.1;by_cases hc:x.1<=e
 ·rw[Y5 (by omega:e>=x.1),Y8,h0 hc];have:pp x e=x.2:=by unfold pp;rw[he2 hc,Int.sub_self]; simp
  rw[this]
 ·rw[Y6 (by omega:¬ e>=x.1),Y7,aa Y3];have ew:IntKind.wrap .u64 (x.1 - e)=(((x.1 - e).toNat:Nat):Int):=by rw[aq]; omega
  rw[ew,Al _ _ _ _ (zS hN (by omega) hx.2.2)];congr 1;unfold pp aT;by_cases hz:x.2<0
  ·rw[Y5 hz,if_pos rfl,Zp,aab,<- abw];congr 1; omega
  ·rw[Y6 hz,if_neg (by decide),Zp,aab];congr 1; omega
def mj {x:Fl} (hx:aL x=true):Ex 1100 53 (ofE x):=by
  obtain⟨b,s,m,i,rfl,h⟩:=gz hx;rw[xd h];have hpl:=kH h;have hpg:=qA h;by_cases h0:m=0
  · rw[if_pos h0]; exact⟨by decide,by decide,Zj _⟩
  · rw[if_neg h0]
    obtain⟨g1,g2,g3,g4⟩:=mi 64 m i h0 (by have:(2:Nat) ^ 64=18446744073709551616:=(by decide); omega);refine⟨by show -((1100:Nat):Int)<=(d8 64 m i).2; omega,by show(d8 64 m i).2<=((1100:Nat):Int); omega,?_⟩;show aK 53 (aT s (d8 64 m i).1).natAbs;have:(aT s (d8 64 m i).1).natAbs=(d8 64 m i).1:=by unfold aT; cases s <;> simp
    rw[this];show _<2 ^ 53;have:(2:Nat) ^ 53=9007199254740992:=by decide
    omega
def K9 {b:Nat} {s:Bool} {m:Nat} {i:Int} (h:Ieee.double.read b=.number s m i) {E:Nat} (hE:1074<=E):EV (ofE (some b)) (signed s m (i+E).toNat) E:=by
  rw[xd h];have hpg:=qA h;by_cases h0:m=0
  · rw[if_pos h0]; subst h0; rw[nd]; exact Ml E
  · rw[if_neg h0]
    have hpl:=kH h;obtain⟨g1,g2,g3,g4⟩:=mi 64 m i h0 (by have:(2:Nat) ^ 64=18446744073709551616:=(by decide); omega);refine⟨by show 0<=(d8 64 m i).2+(E:Int); omega,?_⟩;show aT s (d8 64 m i).1*2 ^ ((d8 64 m i).2+E).toNat=_;generalize d8 64 m i=q at *;have e1:(q.2+E).toNat=(q.2 - i).toNat+(i+E).toNat:=by omega
    unfold aT signed;rw[Nat.shiftLeft_eq,e1,Int.pow_add,<- g3];cases s
    · simp only[ZU,ZE]
      rw[Zp,Zp,aab,aab]; rw[show((2:Nat):Int)=2 from rfl]; ac_rfl
    · simp only[aaD]
      rw[Zp,Zp,aab,aab]; rw[show((2:Nat):Int)=2 from rfl];rw[abw]; congr 1; ac_rfl
def Az:∀(f t c:Nat) (e:Int),t<f->d8 f (2 ^ t*(2*c+1)) e=(2*c+1,e+t)
 | 0,t,c,e,h=>by omega
 | f+1,0,c,e,h=>by
  unfold d8;rw[aaR,aaC,if_neg (by omega)];simp
 | f+1,t+1,c,e,h=>by
  unfold d8;have e1:2 ^ (t+1)*(2*c+1)=2*(2 ^ t*(2*c+1)):=by rw[Zh]; ac_rfl
  rw[e1,if_pos (by omega),ZH _ (by decide),Az f t c (e+1) (by omega)];congr 1; omega
def LN {b:Nat} (hb:W64 b):(aA .and .u64 (b:Int) 9223372036854775808 != 0)=(b / 9223372036854775808%2==1):=by
 have e1:(9223372036854775808:Int)=((2 ^ 63:Nat):Int):=by decide
 have p63:(2:Nat) ^ 63=9223372036854775808:=by decide
 rw[e1,rX hb (by rw[p63]; omega)];have h1:b / 9223372036854775808%2=0\/b / 9223372036854775808%2=1:=by omega
 have h2:b.testBit 63=decide (b / 2 ^ 63%2=1):=Nat.testBit_eq_decide_div_mod_eq;rw[p63]at h2;rcases h1 with h | h
 ·have hz:b &&& 2 ^ 63=0:=by
   refine abl (λj=>?_);rw[ab8,aa1,Nat.zero_testBit];by_cases hj:63=j
   ·subst hj; rw[h2,h]; rfl
   ·rw[Y6 hj,Bool.and_false]
  rw[hz,h]; rfl
 ·have hz:b &&& 2 ^ 63 ≠ 0:=by intro hc;have:=acf (λn=>n.testBit 63) hc;simp only[ab8,aa1,Nat.zero_testBit,h2,h]at this;simp at this
  rw[h];generalize b &&& 2 ^ 63=z at hz ⊢;have:((z:Int) != 0)=true:=by simp; exact hz
  rw[this]; rfl
def AC {N:Nat} {b m:Nat} {i:Int} {s:Bool} (hpl:i<=971/\m<9007199254740992) (hb:W64 b) (k:Kx3) (E:Int) (hEi:i=E) (h5 : -1100<=E) (h6:E<=1100) (h0:m ≠ 0):G6 N (b:Int) 52 2047 1075 s (m:Int) E k=k s ((d8 64 m i).1:Int) (d8 64 m i).2 0:=by
 unfold G6;obtain⟨t,c,hm⟩:=yD m h0;have ht0:0<2 ^ t:=Zj t;have ht:t<64:=by
  rcases Z6 t 64 with g | g
  ·exact g
  ·have g2:2 ^ 64<=2 ^ t:=Zl (by decide) g;have g3:2 ^ t*1<=2 ^ t*(2*c+1):=Zc _ (by omega);have g4:(2:Nat) ^ 64=18446744073709551616:=by decide
   omega
 rw[hm,QR N (by rw[<- hm]; omega),Az 64 t c i ht,aa (Y5 (by omega)),aa Y3,Zb,show min t 64=t by omega];have e2:(2:Int) ^ t=((2 ^ t:Nat):Int):=by rw[aab]; rfl
 rw[e2,js,ZH _ ht0,hEi]
def EX {N:Nat} {b:Nat} (hb:W64 b) {s:Bool} {m:Nat} {i:Int} (h:Ieee.double.read b=.number s m i) (k:Kx3) :
  oT N (some b) k=if m=0 then k s 0 0 0 else k s ((d8 64 m i).1:Int) (d8 64 m i).2 0:=by
 obtain⟨h1,h2,h3⟩:=kI h;have hpl:=kH h;have hnn:isNaN b=false:=by rw[abJ]; intro hc; have:=(eA b).1 hc; omega
 have hcnb:cnb b=b:=by simp only[cnb,hnn]; rfl
 have hcls:=A1 b;rw[hcnb]at hcls;have hE:b / 4503599627370496%2048<2047:=by omega
 rw[if_neg (Nat.ne_of_lt hE)]at hcls;have hc:(b / 4503599627370496%2048=0/\b%4503599627370496=m/\cls b=(if m=0 then 3 else 4)/\i = -1074)\/(b / 4503599627370496%2048 ≠ 0/\m=4503599627370496+b%4503599627370496/\cls b=5/\i=((b / 4503599627370496%2048:Nat):Int) - 1075):=by
  rcases h3 with⟨g1,g2,g3⟩ | ⟨g1,g2,g3⟩
  ·have e0:b / 4503599627370496%2048=0:=by omega
   have e1:b%4503599627370496=m:=by omega
   rw[if_pos e0,e1]at hcls;exact .inl ⟨e0,e1,hcls,by omega⟩
  ·have e0:b / 4503599627370496%2048 ≠ 0:=by omega
   rw[if_neg e0]at hcls;exact .inr ⟨e0,by omega,hcls,by omega⟩
 generalize hx:b / 4503599627370496%2048=x at hE hc;generalize hy:b%4503599627370496=y at hc;have hylt:y<4503599627370496:=by omega
 have goal0:oT N (some b) k=(ai .i64 ((x:Int) - 1075)&&(cond ((cls b:Int)==1) (k false 0 0 4) (cond ((cls b:Int)==2) (k false 0 0 4) (cond ((cls b:Int)==3) (k s 0 0 0) (cond ((cls b:Int)==4) ((ai .i64 (((x:Int) - 1075)+1))&&(G6 N (b:Int) 52 2047 1075 s (y:Int) (((x:Int) - 1075)+1) k)) (kK N 52 2047 1075 (λ(Up:Int)=>(G6 N (b:Int) 52 2047 1075 s (aA .or .u64 (y:Int) Up) ((x:Int) - 1075) k)))))))):=by
  unfold oT xk;show Rk N (b:Int) 52 2047 1075 _=_
  (unfold Rk; rw[af]; unfold Pw)
  rw[Ar,hcnb,LN hb,<- h1,Aq,hx,hy]
 rw[goal0,aa Y3];clear goal0 hcls h1 h2 h3 hcnb hnn;rcases hc with⟨c1,c2,c3,c4⟩ | ⟨c1,c2,c3,c4⟩
 ·rw[c3];by_cases h0:m=0
  ·rw[if_pos h0,if_pos h0]; rfl
  ·rw[if_neg h0,if_neg h0,c2];show(ai .i64 (((x:Int) - 1075)+1)&&_)=_;rw[aa Y3];exact AC hpl hb k _ (by omega) (by omega) (by omega) h0
 ·have h0:m ≠ 0:=by omega
  rw[c3,if_neg h0];have eor:aA .or .u64 (y:Int) 4503599627370496=(m:Int):=by
   have p52:(2:Nat) ^ 52=4503599627370496:=by decide
   have:=cB y 1 52 (by omega) (by omega);rw[p52]at this;rw[show((4503599627370496*1:Nat):Int)=4503599627370496 from rfl]at this;rw[this]; omega
  rw[show((5:Int)==1)=false from rfl,Y7,show((5:Int)==2)=false from rfl,Y7,show((5:Int)==3)=false from rfl,Y7,show((5:Int)==4)=false from rfl,Y7,jo,eor];exact AC hpl hb k _ (by omega) (by omega) (by omega) h0
def Iz {z:Int}:(nS z==0)=decide (z=0):=by
 unfold nS;by_cases h:z=0
 ·rw[if_pos h,Y5 h]; rfl
 ·rw[if_neg h,Y6 h];by_cases hl:z<0
  ·rw[if_pos hl]; rfl
  ·rw[if_neg hl]; rfl
def oR (p:Int × Int):Rat:=if 0<=p.1 then mkRat (p.2*((2 ^ p.1.toNat:Nat):Int)) 1 else mkRat p.2 (2 ^ (-p.1).toNat)
def QM (a b:Int):imm true a b=max a b:=by
 unfold imm; simp only[Y8];by_cases h:a<=b
 ·have:max a b=b:=by omega
  rw[this];by_cases h2:b>a
  ·rw[Y5 h2]; rfl
  ·rw[Y6 h2,Y7]; omega
 ·have:max a b=a:=by omega
  rw[this,Y6 (by omega),Y7]
def Ou (n:Nat):¬((n:Nat):Int)<0:=by omega
def yB (g:Bool):(g != false)=g:=by cases g <;> rfl
def JO {B s n:Nat} (h:aK B n):aK (B+s) (n*2 ^ s):=oi h s
def xx {s:Nat}:aK (s+1) (2 ^ s):=by unfold aK; rw[Zh]; have:=Zj s; omega
def F2:aK 1 1:=by unfold aK; decide
def uI:ae 1=[1]:=ot (by decide) (by decide)
def QP {w:Int} (k:Kx5):kq (mkRat w 1) k=kr w 1 k:=by unfold kq;rw[Rat.mkRat_one,Rat.num_intCast,Rat.den_intCast]
def Gk {N:Nat} (hF:Fuel N) (x:Fl) (s:Bool) (M e z:Int) (he : -1100<=e) (he2:e<=1100) (hz:aK 53 z.natAbs) (k:Kx5) :
  cd N x s M e (decide (z<0)) (ae z.natAbs) k=kq (oR (e,z)) k:=by
 have hN:=hF.lt;unfold cd;have n1:=λkk=>qk (N:=N) (by omega) 1 (by decide) kk
 rw[show((1:Nat):Int)=1 from rfl]at n1;rw[n1,aa Y3,QM];obtain⟨t,ht⟩:∃ t:Nat,max e (0 - e)=(t:Int):=⟨(max e (0 - e)).toNat,by omega⟩
 have ew:IntKind.wrap .u64 (max e (0 - e))=(t:Int):=by rw[aq]; omega
 have htb:t<=1100:=by omega
 rw[ew,HI t false false 1 (by omega) (by rw[uI]; simp; omega) (by rw[uI]; simp)];unfold qi;have e1:aT false (1*2 ^ t)=((2 ^ t:Nat):Int):=by unfold aT; rw[aaC]; rfl
 rw[e1,Y6 (Ou (2 ^ t)),ZV];dsimp only;have hp:=Zj t;have hzb:aK 2000 z.natAbs:=bJ hz (by omega);have htb2:aK 2000 (2 ^ t):=bJ xx (by omega);by_cases hc:e<0
 ·rw[Y5 hc,Y8];unfold NA OV;rw[yB,vW hF (B:=2000) (by decide) _ hzb htb2 hp,gX];unfold oR;dsimp only;have:(-e).toNat=t:=by omega
  rw[if_neg (by omega),this]
 ·rw[Y6 hc,Y7];unfold SC RY;have hm:aK 4000 (z.natAbs*2 ^ t):=bJ (dd hzb htb2) (by omega);rw[rJ hF (by decide) hzb htb2,yB];rw[ma (decide (z<0)) _ _ (z.natAbs*2 ^ t) (λa b=>Rd N false false a b (λc8 s7 c9 s8=>k c8 s7 c9 s8))];rw[qj];obtain⟨w,hw⟩:∃ w:Int,w=z*((2 ^ t:Nat):Int):=⟨_,rfl⟩
  have hwb:aK 4000 w.natAbs:=by rw[hw,aaP,ZV]; exact hm
  rw[<- hw];unfold qi Rd RO;dsimp only;rw[oC (by decide) hwb];have er:oR (e,z)=mkRat w 1:=by
   unfold oR;dsimp only;have:e.toNat=t:=by omega
   rw[if_pos (by omega),this,hw]
  rw[er,QP]
  (unfold Sz; rw[af]; unfold Pt Iu Mq Oz NY kr)
  rw[uI];by_cases hl:w<0
  ·rw[Y5 hl];have h2:decide (((ae w.natAbs).length:Int)>0)=true:=by rw[nx]; exact Y5 (by omega)
   simp only[h2];rfl
  ·rw[Y6 hl]; rfl
def oD (N:Nat) (e:Int) (k0:Bool):cW N ((0:Int)==0) e k0=k0:=rfl
def De {N:Nat} (hF:Fuel N) {x:Fl} (hx:aL x=true) (hw:FW x) (k:Kx5):iZ N x k=kq (oR (ofE x)) k:=by
 have hN:=hF.lt;have hex:=mj hx;obtain⟨b,s,m,i,rfl,h⟩:=gz hx;have ho:=xd h
 (unfold iZ; rw[af]; unfold iS)
 have fin:∀(M:Nat) (e:Int),M<18446744073709551616->ofE (some b)=(e,aT s M) ->
   cW N ((0:Int)==0) 4 (NB N (M:Int) false (λ(Ui:Bool) (nsr:List Int)=>(cond s (NI N Ui nsr (λ(Us:Bool) (Uc:List Int)=>(cd N (some b) s (M:Int) e Us Uc k))) (cd N (some b) s (M:Int) e Ui nsr k))))=kq (oR (ofE (some b))) k:=by
  intro M e hM heq;rw[heq]at hex ⊢;have h1:=hex.1;have h2:=hex.2.1;have h3:=hex.2.2;dsimp only at h1 h2 h3;have hl:(ae M).length<=1099511627776:=by
   have:aK 64 M:=by unfold aK; omega
   have:=wL (B:=64) (by decide) this; omega
  rw[oD,KJ (by omega) M hM];cases s
  ·rw[Y7];have e1:aT false M=(M:Int):=rfl;rw[e1]at h3 ⊢;have:=Gk hF (some b) false (M:Int) e (M:Int) (by omega) (by omega) h3 k;rw[Y6 (by omega:¬(M:Int)<0),ZV]at this;exact this
  ·rw[Y8,HJ false M hl];have e1 : -(aT false M)=aT true M:=rfl;rw[e1];exact Gk hF (some b) true (M:Int) e (aT true M) (by omega) (by omega) h3 k
 rw[EX (hw b rfl) h];by_cases h0:m=0
 ·rw[if_pos h0];rw[if_pos h0]at ho;refine fin 0 0 (by decide) ?_;rw[ho];cases s <;> rfl
 ·rw[if_neg h0];rw[if_neg h0]at ho;have hpl:=kH h;have hm:m<2 ^ 64:=by
   have:(2:Nat) ^ 64=18446744073709551616:=by decide
   omega
  obtain⟨g1,g2,g3,g4⟩:=mi 64 m i h0 hm;exact fin _ _ (by omega) ho
def M9 (N:Nat) (k:Kz3):pA N k=k (ah 1):=by rw[Ka]; rfl
def Da {N:Nat} (hF:Fuel N) {z:Int} (hz:aK 30000 z.natAbs) (b1 b2:Bool) (k:Kx5) :
  ND N b1 b2 (decide (z<0)) (ah z.natAbs) k=kqR (mkRat z 1) k:=by
 unfold ND RJ;rw[M9,rG hF (B:=30000) (by decide) _ hz (bJ F2 (by decide)) (by decide),gX]
def HM {N:Nat} (hF:Fuel N) {x:Fl} (hx:aL x=true) (hw:FW x) (k:Kx5):qL N x k=kqR (oR (ofE x)) k:=by
 have hN:=hF.lt;have hex:=mj hx;unfold qL vv;rw[uT (by omega) hx hw];obtain⟨p,hp⟩:∃ p,p=ofE x:=⟨_,rfl⟩
 rw[<- hp]at hex ⊢;obtain⟨e,z⟩:=p;have h1:=hex.1;have h2:=hex.2.1;have h3:=hex.2.2;dsimp only at h1 h2 h3
 (unfold exK; unfold SB; rw[af]; unfold Pv)
 dsimp only;by_cases hc:e>=0
 ·rw[Y5 hc,Y8];have hl:=λk0 k1 h0 he2=>Bi (N:=N) (by omega) hex (e:=0) (by omega) (by decide) k0 k1 h0 he2
  dsimp only at hl;rw[hl]
  ·unfold mB;have hb:=qo hex (e:=0) (by omega);dsimp only;rw[Da hF (bJ hb (by decide))];unfold oR pp;dsimp only;rw[if_pos hc,Int.sub_zero,aab];rfl
  ·intro _; rfl
  ·intro h; omega
 ·rw[Y6 hc,Y7];have n1:=λkk=>sU (N:=N) 1 (by decide) (by have:=pu (B:=1) (n:=1) (by decide) (by unfold aK; decide);exact⟨by omega,by omega⟩) (by omega) kk
  rw[show((1:Nat):Int)=1 from rfl]at n1;rw[n1,aa Y3];obtain⟨t,ht⟩:∃ t:Nat,(0 - e)=(t:Int):=⟨(0 - e).toNat,by omega⟩
  have ew:IntKind.wrap .u64 (0 - e)=(t:Int):=by rw[aq]; omega
  rw[ew,Al t false false 1 (zS (B:=1) (by omega) (by omega) (by unfold aK; decide))];unfold mB;have e1:aT false (1*2 ^ t)=((2 ^ t:Nat):Int):=by unfold aT; rw[aaC]; rfl
  rw[e1,Y6 (Ou (2 ^ t)),ZV];dsimp only;have htp:=Zj t;have hzb:aK 2000 z.natAbs:=bJ h3 (by omega);have htb2:aK 2000 (2 ^ t):=bJ xx (by omega);unfold Sx RN;rw[yB,rG hF (B:=2000) (by decide) _ hzb htb2 (Nat.ne_of_gt htp),gX];unfold oR;dsimp only;have:(-e).toNat=t:=by omega
  rw[if_neg (by omega),this]
def tA {B:Nat} {z:Int} {d:Nat} (hz:aK B z.natAbs) (hd:aK B d) (h0:0<d):Bq B (mkRat z d):=by
 refine⟨?_,?_⟩
 ·rw[acm,if_neg (by omega)];have h1:((Nat.gcd z.natAbs d:Nat):Int)∣z:=Int.ofNat_dvd_left.2 (ZY _ _);rw[aan,Int.natAbs_ediv_of_dvd h1,ZV];exact bW hz
 ·rw[acn,if_neg (by omega)];exact bW hd
def Ns {x:Fl} (hx:aL x=true):Bq 1200 (oR (ofE x)):=by
 have hex:=mj hx;obtain⟨p,hp⟩:∃ p,p=ofE x:=⟨_,rfl⟩
 rw[<- hp]at hex ⊢;obtain⟨e,z⟩:=p;have h1:=hex.1;have h2:=hex.2.1;have h3:=hex.2.2;dsimp only at h1 h2 h3;unfold oR;dsimp only;split
 ·refine tA ?_ (bJ F2 (by decide)) (by decide);rw[aaP,ZV];exact bJ (JO h3) (by omega)
 ·exact tA (bJ h3 (by omega)) (bJ xx (by omega)) (Zj _)
def AQ {A B:Nat} {x y:Rat} (hx:Bq A x) (hy:Bq B y):Bq (A+B) (x*y):=by rw[Rat.mul_def'];refine tA ?_ (dd hx.2 hy.2) (aa9 x.den_pos y.den_pos);rw[aaP]; exact dd hx.1 hy.1
def ON {B:Nat} {y:Rat} (hy:Bq B y) (h:y.num ≠ 0):Bq B (y⁻¹):=by obtain⟨i1,i2,i3⟩:=yb h;exact⟨by rw[i1]; exact hy.2,by rw[i2]; exact hy.1⟩
def Ee {A B:Nat} {x y:Rat} (hx:Bq A x) (hy:Bq B y) (h:y.num ≠ 0):Bq (A+B) (x / y):=by rw[Rat.div_def]; exact AQ hx (ON hy h)
def OO {B:Nat} {y:Rat} (hy:Bq B y):Bq B (-y):=⟨by rw[Rat.neg_num,abo]; exact hy.1,hy.2⟩
def OM {A B:Nat} {x y:Rat} (hx:Bq A x) (hy:Bq B y):Bq (A+B+1) (x+y):=by rw[Rat.add_def'];refine tA (zR (rj hx.1 hy.2) ?_) (bJ (dd hx.2 hy.2) (by omega)) (aa9 x.den_pos y.den_pos);rw[aa4]; exact rj hy.1 hx.2
def IP {A B:Nat} {x y:Rat} (hx:Bq A x) (hy:Bq B y):Bq (A+B+1) (x - y):=by rw[Rat.sub_eq_add_neg]; exact OM hx (OO hy)
def FO {B:Nat}:Bq (B+1) 0:=⟨Zj _,by show 1<2 ^ (B+1); exact Nat.one_lt_two_pow (by omega)⟩
def enc (x:Rat):RY1:=((decide (x.num<0),ae x.num.natAbs),(false,ae x.den))
def du (x:Rat):RY2:=((decide (x.num<0),ah x.num.natAbs),(false,ah x.den))
def mat {α:Type} (g:Rat->α) (n:Nat) (f:Nat->Nat->Rat):List α:=(List.range (n*n)).map (λt=>g (f (t / n) (t%n)))
def oK {α:Type} (g:Rat->α) (n:Nat) (f:Nat->Nat->Rat):(mat g n f).length=n*n:=by unfold mat; rw[aa7,List.length_range]
def gd {n i j:Nat} (hi:i<n) (hj:j<n):i*n+j<n*n:=by have h1:(i+1)*n<=n*n:=Y9 _ hi;rw[Zw]at h1; omega
def wX {n i j:Nat} (hj:j<n):(i*n+j) / n=i:=by rw[Y_,ab_ (by omega),ZA hj,ZD]
def w8 {n i j:Nat} (hj:j<n):(i*n+j)%n=j:=by rw[Y_,abi,Zg hj]
def kD {α:Type} (g:Rat->α) (n:Nat) (f:Nat->Nat->Rat) {i j:Nat} (hi:i<n) (hj:j<n) (z:α):(mat g n f).getD (i*n+j) z=g (f i j):=by have h:=gd hi hj;unfold mat;rw[List.getD_eq_getElem?_getD,List.getElem?_map,List.getElem?_range h];simp only[aaz,ZT,wX hj,w8 hj]
def jc {α:Type} (g:Rat->α) (n:Nat) {f f':Nat->Nat->Rat} (h:∀ a b,a<n->b<n->f a b=f' a b):mat g n f=mat g n f':=by
 unfold mat;apply abZ;intro t ht;have ht:=List.mem_range.1 ht;have hn:0<n:=by
  rcases aat n with h0 | h0
  ·rw[h0]at ht; omega
  ·exact h0
 rw[h _ _ (aa5 ht) (Zm _ hn)]
def Gs {α:Type} (g:Rat->α) (n:Nat) (f:Nat->Nat->Rat) {i j:Nat} (hi:i<n) (hj:j<n) (v:Rat):(mat g n f).set (i*n+j) (g v)=mat g n (λa b=>if a=i/\b=j then v else f a b):=by
 have h:=gd hi hj;apply List.ext_getElem?;intro t;by_cases ht:t<n*n
 ·have hn:0<n:=by omega
  rw[List.getElem?_set];unfold mat;rw[List.getElem?_map,List.getElem?_map,List.getElem?_range ht];simp only[aa7,List.length_range,aaz];by_cases he:i*n+j=t
  ·rw[if_pos he,if_pos h,<- he,wX hj,w8 hj,if_pos ⟨rfl,rfl⟩]
  ·rw[if_neg he];have:¬(t / n=i/\t%n=j):=by rintro ⟨h1,h2⟩;apply he;rw[<- h1,<- h2,Y_];exact ZW t n
   rw[if_neg this]
 ·rw[List.getElem?_eq_none (by rw[ab2,oK]; omega),List.getElem?_eq_none (by rw[oK]; omega)]
def qS {n:Nat} (h:n<=1000):n*n<=1000000:=by have:n*n<=1000*1000:=ZZ h h;omega
def bg (i j n:Nat):(i:Int)*(n:Int)+(j:Int)=((i*n+j:Nat):Int):=by rw[Int.natCast_add,Zp]
def de {n i j:Nat} (hn:n<=1000) (hi:i<n) (hj:j<n):ai .i64 ((i:Int)*(n:Int))=true/\ai .i64 (((i*n+j:Nat):Int))=true:=by have h1:=qS hn;have h2:=gd hi hj;rw[<- Zp];exact⟨ac (by omega) (by omega),ac (by omega) (by omega)⟩
def oE {N n i j:Nat} (hn:n<=1000) (hi:i<n) (hj:j<n) (f:Nat->Nat->Rat) (k:Kx5) :
  bd N n n i j (mat enc n f) k=kq (f i j) k:=by
 obtain⟨h1,h2⟩:=de hn hi hj;have h3:=gd hi hj
 (unfold bd; rw[af]; unfold eh)
 rw[bg,aa h1,aa h2,oK,Zb,aa Y4,aa (Y5 h3),kD enc n f hi hj];rfl
def Na {N n i j:Nat} (hn:n<=1000) (hi:i<n) (hj:j<n) (f:Nat->Nat->Rat) (v:Rat) (k:List RY1->Bool) :
  eG N n n i j (decide (v.num<0)) (ae v.num.natAbs) false (ae v.den) (mat enc n f) k=k (mat enc n (λa b=>if a=i/\b=j then v else f a b)):=by
 obtain⟨h1,h2⟩:=de hn hi hj;have h3:=gd hi hj;unfold eG i5;rw[bg,aa h1,aa h2,oK,Zb,aa Y4,aa (Y5 h3)];exact acf k (Gs enc n f hi hj v)
def rE {N n i j:Nat} (hn:n<=1000) (hi:i<n) (hj:j<n) (f:Nat->Nat->Rat) (k:Kz1) :
  DM N n n i j (mat du n f) k=k (i*n+j):=by
 obtain⟨h1,h2⟩:=de hn hi hj;have h3:=gd hi hj;unfold DM RL;rw[bg,aa h1,aa h2,oK,Zb,aa Y4,aa (Y5 h3)]
def BK (l:List RY2) (i:Nat):List.set l i (((List.getD l i ((false,[]),(false,[]))).1.1,(List.getD l i ((false,[]),(false,[]))).1.2),((List.getD l i ((false,[]),(false,[]))).2.1,(List.getD l i ((false,[]),(false,[]))).2.2))=l:=by
 show List.set l i (List.getD l i ((false,[]),(false,[])))=l;apply List.ext_getElem?;intro t;rw[List.getElem?_set];by_cases h:i=t
 ·subst h;rw[if_pos rfl];by_cases hl:i<l.length
  ·rw[if_pos hl,List.getD_eq_getElem?_getD,List.getElem?_eq_getElem hl]; rfl
  ·rw[if_neg hl,List.getElem?_eq_none (by omega)]
 ·rw[if_neg h]
def sS {σ:Type} {step:σ->(σ->Bool)->Bool} (C:Nat->σ) (m n:Nat) (hmn:m<=n) {N:Nat} (hn:n<N) {out:Bool} (hs:∀ i,m<=i->i<n -> ∀ K:σ->Bool,step (C i) K=K (C (i+1))) (hx:∀ K,step (C n) K=out):am N step (C m)=out:=by have:=bR (step:=step) (λi=>C (m+i)) (n - m) (N:=N) (by omega) (out:=out) (λi hi K=>hs (m+i) (by omega) (by omega) K) (λK=>by show step (C (m+(n - m))) K=out; rw[show m+(n - m)=n by omega]; exact hx K);exact this
def uE (f:Nat->Nat->Rat) (i c:Nat) (x:Rat) (t:Nat):Nat->Nat->Rat:=λa b=>if a=i/\b<t then f i b+f c b*x else f a b
def eQ (f:Nat->Nat->Rat) (c m:Nat):Nat->Nat->Rat:=λa b=>if c<a/\a<m then f a b - f a c / f c c*f c b else f a b
def pj (B n:Nat) (f:Nat->Nat->Rat):Prop:=∀ a b,a<n->b<n->Bq B (f a b)
def KM {N B n i c:Nat} (hF:Fuel N) (hB:B<=300000000000) (hn:n<=1000) (hi:i<n) (hc:c<n) (hic:c ≠ i) {f:Nat->Nat->Rat} (hf:pj B n f) {x:Rat} (hx:Bq (2*B) x) (k:List RY1->Bool) :
  eF N n n i c (decide (x.num<0)) (ae x.num.natAbs) false (ae x.den) (mat enc n f) k=k (mat enc n (uE f i c x n)):=by
 have hN:=hF.lt
 (unfold eF; rw[af]; unfold eg)
 have h0:mat enc n f=mat enc n (uE f i c x 0):=jc _ _ (λa b _ _=>by unfold uE; rw[if_neg (by omega)]);rw[h0];refine bR (λt:Nat=>((t:Int),mat enc n (uE f i c x t))) n (by omega) ?_ ?_
 ·intro t ht K;unfold cz;dsimp only;rw[Y5 (by omega:(t:Int)<(n:Int)),Y8,oE hn hi ht];have e1:uE f i c x t i t=f i t:=by unfold uE; rw[if_neg (by omega)]
  have e2:uE f i c x t c t=f c t:=by unfold uE; rw[if_neg (by omega)]
  unfold kq kr;dsimp only;rw[oE hn hc ht,e1,e2];unfold kq kr;dsimp only;rw[M6 hF (B:=2*B) (by omega) ((hf c t hc ht).mono (by omega)) hx];unfold kq kr;dsimp only;rw[M5 hF (B:=3*B) (by omega) ((hf i t hi ht).mono (by omega)) ((AQ (hf c t hc ht) hx).mono (by omega))];unfold kq kr;dsimp only;rw[Na hn hi ht,aa Y3];have e3:mat enc n (λa b=>if a=i/\b=t then f i t+f c t*x else uE f i c x t a b)=mat enc n (uE f i c x (t+1)):=jc _ _ (λa b _ _=>by
   unfold uE;by_cases h:a=i/\b=t
   ·rw[if_pos h,if_pos (by omega),h.2]
   ·rw[if_neg h];by_cases h2:a=i/\b<t
    ·rw[if_pos h2,if_pos (by omega)]
    ·rw[if_neg h2,if_neg (by omega)])
  rw[e3];rfl
 ·intro K;unfold cz;dsimp only;rw[Y6 (by omega:¬(n:Int)<(n:Int)),Y7]
def mX (f:Nat->Nat->Rat) (i c:Nat) (r:Rat) (t:Nat):Nat->Nat->Rat:=λa b=>if a=i/\b<t then f i b - r*f c b else f a b
def HW {N B n i c:Nat} (hF:Fuel N) (hB:B<=300000000000) (hn:n<=1000) (hi:i<n) (hc:c<n) (hic:c ≠ i) {f:Nat->Nat->Rat} (hf:pj B n f) {r:Rat} (hx:Bq (2*B) r) (k:List RY2->Bool) :
  Rb N n n i c (mat du n f) (decide (r.num<0)) (ah r.num.natAbs) false (ah r.den) k=k (mat du n (mX f i c r n)):=by
 have hN:=hF.lt
 (unfold Rb; rw[af]; unfold O8)
 have h0:mat du n f=mat du n (mX f i c r 0):=jc _ _ (λa b _ _=>by unfold mX; rw[if_neg (by omega)]);rw[h0];refine bR (λt:Nat=>((t:Int),mat du n (mX f i c r t))) n (by omega) ?_ ?_
 ·intro t ht K;unfold BR;dsimp only;rw[Y5 (by omega:(t:Int)<(n:Int)),Y8,rE hn hi ht,rE hn hi ht,rE hn hc ht,BK];have e1:mX f i c r t i t=f i t:=by unfold mX; rw[if_neg (by omega)]
  have e2:mX f i c r t c t=f c t:=by unfold mX; rw[if_neg (by omega)]
  rw[kD du n _ hi ht,kD du n _ hc ht,e1,e2];unfold du;dsimp only;rw[KP hF (B:=2*B) (by omega) hx ((hf c t hc ht).mono (by omega))];unfold kqR krR;dsimp only;rw[aa (Y5 rfl),KX hF (B:=3*B) (by omega) ((hf i t hi ht).mono (by omega)) ((AQ hx (hf c t hc ht)).mono (by omega))];unfold kqR krR;dsimp only;rw[aa Y3];have e4:=Gs du n (mX f i c r t) hi ht (f i t - r*f c t);have e3:mat du n (λa b=>if a=i/\b=t then f i t - r*f c t else mX f i c r t a b)=mat du n (mX f i c r (t+1)):=jc _ _ (λa b _ _=>by
   unfold mX;by_cases h:a=i/\b=t
   ·rw[if_pos h,if_pos (by omega),h.2]
   ·rw[if_neg h];by_cases h2:a=i/\b<t
    ·rw[if_pos h2,if_pos (by omega)]
    ·rw[if_neg h2,if_neg (by omega)])
  rw[e3]at e4;exact acf (λl=>K ((t:Int)+1,l)) e4
 ·intro K;unfold BR;dsimp only;rw[Y6 (by omega:¬(n:Int)<(n:Int)),Y7]
def sG (g:Nat->Rat):Nat->Nat->Bool
 | i,0=>true
 | i,d+1=>decide (g i=0)&&sG g (i+1) d
def xw {g h:Nat->Rat}:∀ d i,(∀ j,i<=j->j<i+d->g j=h j)->sG g i d=sG h i d
 | 0,i,_=>rfl
 | d+1,i,e=>by unfold sG;rw[e i (Zi _) (by omega),xw d (i+1) (λj h1 h2=>e j (by omega) (by omega))]
def uo (n:Nat):Nat->Nat->Int->(Nat->Nat->Rat)->Int
 | 0,c,s,f=>s
 | d+1,c,s,f=>if (f c c).num<0 then 1 else if f c c=0 then(if sG (λi=>f i c) (c+1) d=true then uo n d (c+1) 2 f else 1)else uo n d (c+1) s (eQ f c n)
def DQ (z:Int):decide (nS z<0)=decide (z<0):=by
 unfold nS;by_cases h0:z=0
 ·rw[if_pos h0,h0]
 ·rw[if_neg h0];by_cases h:z<0
  ·rw[if_pos h,Y5 h]; rfl
  ·rw[if_neg h,Y6 h]; rfl
def qx {x:Rat}:(x.num=0)↔x=0:=Rat.num_eq_zero
def qP (x:Rat):(nS x.num==0)=decide (x=0):=by
 rw[Iz];by_cases h:x=0
 ·rw[Y5 h,Y5 (qx.2 h)]
 ·rw[Y6 h,Y6 (λg=>h (qx.1 g))]
def NS (x:Rat):(nS x.num != 0) = !decide (x=0):=by rw[<- qP]; rfl
def ru {B n c m:Nat} {f:Nat->Nat->Rat} (hf:pj B n f) (hc:c<n) (h0:f c c ≠ 0):pj (4*B+1) n (eQ f c m):=by
 intro a b ha hb;unfold eQ;split
 ·exact(IP (hf a b ha hb) (AQ (Ee (hf a c ha hc) (hf c c hc hc) (λh=>h0 (qx.1 h))) (hf c b hc hb))).mono (by omega)
 ·exact(hf a b ha hb).mono (by omega)
def xL (f:Nat->Nat->Rat) (c:Nat) {α:Type} (g:Rat->α) (n:Nat):mat g n (eQ f c (c+1))=mat g n f:=jc _ _ (λa b _ _=>by unfold eQ; rw[if_neg (by omega)])
def qg {f:Nat->Nat->Rat} {c i:Nat} (b:Nat):eQ f c i i b=f i b:=by unfold eQ; rw[if_neg (by omega)]
def xM {f:Nat->Nat->Rat} {c i:Nat} (b:Nat):eQ f c i c b=f c b:=by unfold eQ; rw[if_neg (by omega)]
def uK {f:Nat->Nat->Rat} {c i a b:Nat} (h:c<i):eQ f c (i+1) a b=if a=i then f i b - f i c / f c c*f c b else eQ f c i a b:=by
 unfold eQ;by_cases h1:a=i
 ·rw[if_pos h1,if_pos (by omega),h1]
 ·rw[if_neg h1];by_cases h2:c<a/\a<i
  ·rw[if_pos h2,if_pos (by omega)]
  ·rw[if_neg h2,if_neg (by omega)]
def Lh (x y p q:Rat):q+y*(0 - x / p)=q - x / p*y:=by grind
def Lg (p q y:Rat):q - 0 / p*y=q:=by grind
def Li (x y p:Rat):x / p*y=y / p*x:=by grind
def KU {N B n c:Nat} (hF:Fuel N) (hB:4*B+1<=300000000000) (hn:n<=1000) (hc:c<n) (s:Int) (t1 t2:Int) {f:Nat->Nat->Rat} (hf:pj B n f) (h0:f c c ≠ 0) (e0:Int->List RY1->Bool) (e1:List RY1->Bool) :
  am N (az N s (c:Int) t1 t2 (n:Int) (n:Int) (decide ((f c c).num<0)) (ae (f c c).num.natAbs) false (ae (f c c).den) e0 e1) (((c+1:Nat):Int),mat enc n f)=e1 (mat enc n (eQ f c n)):=by
 have hN:=hF.lt;rw[<- xL f c enc n];refine sS (λi:Nat=>((i:Int),mat enc n (eQ f c i))) (c+1) n (by omega) (by omega) ?_ ?_
 ·intro i hi1 hi2 K;unfold az;dsimp only;rw[Y5 (by omega:(i:Int)<(n:Int)),Y8,oE hn hi2 hc,qg];unfold kq kr;dsimp only;rw[kC,qP];by_cases hz:f i c=0
  ·rw[Y5 hz,Y8,aa Y3];have:mat enc n (eQ f c (i+1))=mat enc n (eQ f c i):=jc _ _ (λa b _ _=>by
    rw[uK (by omega)];by_cases h1:a=i
    ·rw[if_pos h1,h1,qg,hz,Lg]
    ·rw[if_neg h1])
   rw[this];rfl
  ·rw[Y6 hz,Y7,kC,qP,Y6 h0,Y7,Fe hF];unfold kq kr;dsimp only;have hp:(f c c).num ≠ 0:=λh=>h0 (qx.1 h)
   have bx:=hf i c hi2 hc;have bp:=hf c c hc hc;have bq:=Ee bx bp hp;rw[M_ hF (B:=B) (by omega) bx bp hp];unfold kq kr;dsimp only;have bz:Bq (B+B+1) 0:=FO;rw[Dg hF (B:=B+B+1) (by omega) bz (bq.mono (by omega))];unfold kq kr;dsimp only;have bs:Bq (2*(4*B+1)) (0 - f i c / f c c):=(IP (A:=1) (FO (B:=0)) bq).mono (by omega);rw[KM hF (B:=4*B+1) hB hn hi2 hc (by omega) (ru hf hc h0) bs,aa Y3];have:mat enc n (eQ f c (i+1))=mat enc n (uE (eQ f c i) i c (0 - f i c / f c c) n):=jc _ _ (λa b _ hb=>by
    rw[uK (by omega)];unfold uE;by_cases h1:a=i
    ·rw[if_pos h1,if_pos ⟨h1,hb⟩,qg,xM,Lh]
    ·rw[if_neg h1,if_neg (by omega)])
   rw[this];rfl
 ·intro K;unfold az;dsimp only;rw[Y6 (by omega:¬(n:Int)<(n:Int)),Y7]
def H3 {N n c:Nat} (hF:Fuel N) (hn:n<=1000) (hc:c<n) (s:Int) (t1 t2:Int) {f:Nat->Nat->Rat} (h0:f c c=0) (e0:Int->List RY1->Bool) (e1:List RY1->Bool):∀(d i M:Nat),i+d=n->d<M ->
  am M (az N s (c:Int) t1 t2 (n:Int) (n:Int) (decide ((f c c).num<0)) (ae (f c c).num.natAbs) false (ae (f c c).den) e0 e1) ((i:Int),mat enc n f)=if sG (λi=>f i c) i d=true then e1 (mat enc n f)else e0 1 (mat enc n f):=by
 intro d;induction d with
 | zero=>
  intro i M hi hM;cases M with
  | zero=>omega
  | succ M=>
   show az _ _ _ _ _ _ _ _ _ _ _ _ _ ((i:Int),mat enc n f) (am M _)=_;unfold az sG;dsimp only;rw[Y6 (by omega:¬(i:Int)<(n:Int)),Y7,if_pos rfl]
 | succ d ih=>
  intro i M hi hM;cases M with
  | zero=>omega
  | succ M=>
   have hi2:i<n:=by omega
   show az _ _ _ _ _ _ _ _ _ _ _ _ _ ((i:Int),mat enc n f) (am M _)=_;rw[az];rw[Y5 (by omega:(i:Int)<(n:Int)),Y8,oE hn hi2 hc];unfold kq kr;dsimp only;rw[kC,qP,sG];by_cases hz:f i c=0
   ·rw[Y5 hz,Y8,aa Y3,aac];exact ih (i+1) M (by omega) (by omega)
   ·rw[Y6 hz,Y7,kC,qP,Y5 h0,Y8,abK,if_neg (by decide)]
def Bp {N n:Nat} (hF:Fuel N) (hn:n<=1000) (k:Kz0):∀(d c B M:Nat) (s:Int) (f:Nat->Nat->Rat),c+d=n->d<M->pj B n f->(B+1)*4 ^ d<=100000000000 ->
  am M (aN N (n:Int) (n:Int) (n:Int) (λt _=>k t) (λt _=>k t)) (s,(c:Int),mat enc n f)=k (uo n d c s f):=by
 intro d;induction d with
 | zero=>
  intro c B M s f hc hM _ _;cases M with
  | zero=>omega
  | succ M=>
   show aN _ _ _ _ _ _ (s,(c:Int),mat enc n f) (am M _)=_;rw[aN];rw[Y6 (by omega:¬(c:Int)<(n:Int)),Y7];rfl
 | succ d ih=>
  intro c B M s f hc hM hf hB;cases M with
  | zero=>omega
  | succ M=>
   have hN:=hF.lt;have hcn:c<n:=by omega
   have h4:(4*B+1+1)*4 ^ d<=100000000000:=by
    have h1:(4*B+1+1)*4 ^ d<=(B+1)*4*4 ^ d:=Y9 _ (by omega);have h2:(B+1)*4*4 ^ d=(B+1)*4 ^ (d+1):=by rw[Zh,Zf,Y_ 4 (4 ^ d)]
    omega
   have hB2:4*B+1+1<=100000000000:=by have:0<4 ^ d:=aaf (by decide);have h1:(4*B+1+1)*1<=(4*B+1+1)*4 ^ d:=Zc _ this;omega
   show aN _ _ _ _ _ _ (s,(c:Int),mat enc n f) (am M _)=_;rw[aN];rw[Y5 (by omega:(c:Int)<(n:Int)),Y8,oE hn hcn hcn];unfold kq kr;dsimp only;rw[kC,DQ,uo];by_cases hneg:(f c c).num<0
   ·rw[Y5 hneg,Y8,if_pos hneg]
   ·rw[Y6 hneg,Y7,if_neg hneg,aa Y3];by_cases h0:f c c=0
    ·rw[if_pos h0];have hr:=λe0 e1=>H3 hF hn hcn s (n:Int) (c:Int) h0 e0 e1 d (c+1) N (by omega) (by omega)
     rw[Y6 hneg]at hr;rw[show(c:Int)+1=((c+1:Nat):Int) from rfl,hr];by_cases hz:sG (λi=>f i c) (c+1) d=true
     ·rw[if_pos hz,if_pos hz];have hs:=kC (N:=N) (f c c);rw[Y6 hneg]at hs;rw[hs,qP,Y5 h0,Y8,aa Y3];exact ih (c+1) B M 2 f (by omega) (by omega) hf (by have:(B+1)*4 ^ d<=(4*B+1+1)*4 ^ d:=Y9 _ (by omega);omega)
     ·rw[if_neg hz,if_neg hz]
    ·rw[if_neg h0];have hr:=λe0 e1=>KU hF (by omega) hn hcn s (n:Int) (c:Int) hf h0 e0 e1
     rw[Y6 hneg]at hr;rw[show(c:Int)+1=((c+1:Nat):Int) from rfl,hr];have hs:=kC (N:=N) (f c c);rw[Y6 hneg]at hs;rw[hs,qP,Y6 h0,Y7,aa Y3];exact ih (c+1) (4*B+1) M s (eQ f c n) (by omega) (by omega) (ru hf hcn h0) h4
def KY {N B n:Nat} (hF:Fuel N) (hB:B<=300000000000) (hn:n<=1000) {f:Nat->Nat->Rat} (hf:pj B n f) (hs:∀ a b,a<n->b<n->f a b=f b a) (k:Bool) :
  cT N n n (mat enc n f) k=k:=by
 have hN:=hF.lt
 (unfold cT; rw[af]; unfold cP)
 refine bR (λt:Nat=>(t:Int)) n (by omega) ?_ ?_
 ·intro i hi K;unfold bM;dsimp only;rw[Y5 (by omega:(i:Int)<(n:Int)),Y8];refine bR (λt:Nat=>(t:Int)) i (by omega) ?_ ?_
  ·intro j hj K';have hj2:j<n:=by omega
   unfold bN;dsimp only;rw[Y5 (by omega:(j:Int)<(i:Int)),Y8,oE hn hi hj2];unfold kq kr;dsimp only;rw[oE hn hj2 hi];unfold kq kr;dsimp only;rw[Dg hF (B:=B) (by omega) (hf i j hi hj2) (hf j i hj2 hi)];unfold kq kr;dsimp only;have e:nS (f i j - f j i).num=0:=by
    have:f i j - f j i=0:=by rw[hs i j hi hj2]; grind
    rw[this]; rfl
   rw[kC,e,oD,aa Y3];rfl
  ·intro K';unfold bN;dsimp only;rw[Y6 (by omega:¬(i:Int)<(i:Int)),Y7,aa Y3];rfl
 ·intro K;unfold bM;dsimp only;rw[Y6 (by omega:¬(n:Int)<(n:Int)),Y7]
def HT {N B n:Nat} (hF:Fuel N) (hn:n<=1000) {f:Nat->Nat->Rat} (hf:pj B n f) (hs:∀ a b,a<n->b<n->f a b=f b a) (hB:(B+1)*4 ^ n<=100000000000) (k:Kz0) :
  dQ N n n (mat enc n f) (λt _=>k t)=k (uo n n 0 3 f):=by
 have hN:=hF.lt;have hB2:B<=300000000000:=by have:0<4 ^ n:=aaf (by decide);have h1:(B+1)*1<=(B+1)*4 ^ n:=Zc _ this;omega
 unfold dQ ix;have e:((n:Int)==(n:Int))=((0:Int)==0):=by simp
 rw[e,oD,KY hF hB2 hn hf hs]
 (unfold fE; rw[af]; unfold cY)
 exact Bp hF hn k n 0 B N 3 f (by omega) (by omega) hf hB
def H4 {N B n c:Nat} (hF:Fuel N) (hB:4*B+1<=300000000000) (hn:n<=1000) (hc:c<n) (s:Int) {f:Nat->Nat->Rat} (hf:pj B n f) (h0:f c c ≠ 0) (e0:List RY2->Bool) :
  am N (yX N s (c:Int) (c*n+c) (n:Int) (n:Int) e0) (((c+1:Nat):Int),mat du n f)=e0 (mat du n (eQ f c n)):=by
 have hN:=hF.lt;rw[<- xL f c du n];refine sS (λi:Nat=>((i:Int),mat du n (eQ f c i))) (c+1) n (by omega) (by omega) ?_ ?_
 ·intro i hi1 hi2 K;unfold yX;dsimp only;have hne:¬(c*n+c=i*n+c):=by
   intro h;have:c*n=i*n:=by omega
   have:=aax (by omega) this;omega
  rw[Y5 (by omega:(i:Int)<(n:Int)),Y8,rE hn hi2 hc,Y6 hne,aa (a:=(!false&&true)) rfl,BK,BK,kD du n _ hi2 hc,kD du n _ hc hc,qg,xM];have hp:(f c c).num ≠ 0:=λh=>h0 (qx.1 h)
  have bx:=hf i c hi2 hc;have bp:=hf c c hc hc;have bq:=Ee bx bp hp;have hq:=λkk=>KT (N:=N) (b1:=false) (b2:=false) hF (B:=B) (by omega) bx bp hp kk
  have he:∀ x:Rat,du x=((decide (x.num<0),ah x.num.natAbs),(false,ah x.den)):=λx=>rfl
  rw[he (f i c),he (f c c)];dsimp only;rw[hq];unfold kqR krR;dsimp only;rw[HW hF (B:=4*B+1) hB hn hi2 hc (by omega) (ru hf hc h0) (bq.mono (by omega)),aa Y3];have:mat du n (eQ f c (i+1))=mat du n (mX (eQ f c i) i c (f i c / f c c) n):=jc _ _ (λa b _ hb=>by
   rw[uK (by omega)];unfold mX;by_cases h1:a=i
   ·rw[if_pos h1,if_pos ⟨h1,hb⟩,qg,xM]
   ·rw[if_neg h1,if_neg (by omega)])
  rw[this];rfl
 ·intro K;unfold yX;dsimp only;rw[Y6 (by omega:¬(n:Int)<(n:Int)),Y7]
def E_ {N n c:Nat} (hF:Fuel N) (hn:n<=1000) (hc:c<n) {f:Nat->Nat->Rat} (e0:Int->Bool) (e1:Bool):∀(d i M:Nat),i+d=n->d<M ->
  am M (yZ N (c:Int) (n:Int) (n:Int) (mat du n f) e0 e1) ((i:Int))=if sG (λi=>f c i) i d=true then e1 else e0 1:=by
 intro d;induction d with
 | zero=>
  intro i M hi hM;cases M with
  | zero=>omega
  | succ M=>
   show yZ _ _ _ _ _ _ _ (i:Int) (am M _)=_;unfold yZ sG;dsimp only;rw[Y6 (by omega:¬(i:Int)<(n:Int)),Y7,if_pos rfl]
 | succ d ih=>
  intro i M hi hM;cases M with
  | zero=>omega
  | succ M=>
   have hi2:i<n:=by omega
   show yZ _ _ _ _ _ _ _ (i:Int) (am M _)=_;rw[yZ];have he:∀ x:Rat,du x=((decide (x.num<0),ah x.num.natAbs),(false,ah x.den)):=λx=>rfl
   rw[Y5 (by omega:(i:Int)<(n:Int)),Y8,rE hn hc hi2,kD du n _ hc hi2,he (f c i)];dsimp only;rw[uX,NS,sG];by_cases hz:f c i=0
   ·rw[Y5 hz,Z0,Y7,aa Y3,aac];exact ih (i+1) M (by omega) (by omega)
   ·rw[Y6 hz,ZN,Y8,abK,if_neg (by decide)]
def Qx (n c:Nat) (f:Nat->Nat->Rat):Prop:=∀ a b,c<=a->c<=b->a<n->b<n->f a b=f b a
def Kc {n c:Nat} {f:Nat->Nat->Rat} (h:Qx n c f) (hc:c<n):Qx n (c+1) (eQ f c n):=by intro a b ha hb han hbn;unfold eQ;rw[if_pos ⟨by omega,han⟩,if_pos ⟨by omega,hbn⟩,h a b (by omega) (by omega) han hbn,h a c (by omega) (by omega) han hc,h c b (by omega) (by omega) hc hbn,Li]
def HN {N n:Nat} (hF:Fuel N) (hn:n<=1000) (k:Kz0):∀(d c B M:Nat) (s:Int) (f:Nat->Nat->Rat),c+d=n->d<M->pj B n f->Qx n c f->(B+1)*4 ^ d<=100000000000 ->
  am M (yY N (n:Int) (n:Int) (λt=>k t) (λt=>k t)) (s,(c:Int),mat du n f)=k (uo n d c s f):=by
 intro d;induction d with
 | zero=>
  intro c B M s f hc hM _ _ _;cases M with
  | zero=>omega
  | succ M=>
   show yY _ _ _ _ _ (s,(c:Int),mat du n f) (am M _)=_;rw[yY];rw[Y6 (by omega:¬(c:Int)<(n:Int)),Y7];rfl
 | succ d ih=>
  intro c B M s f hc hM hf hsy hB;cases M with
  | zero=>omega
  | succ M=>
   have hN:=hF.lt;have hcn:c<n:=by omega
   have h4:(4*B+1+1)*4 ^ d<=100000000000:=by
    have h1:(4*B+1+1)*4 ^ d<=(B+1)*4*4 ^ d:=Y9 _ (by omega);have h2:(B+1)*4*4 ^ d=(B+1)*4 ^ (d+1):=by rw[Zh,Zf,Y_ 4 (4 ^ d)]
    omega
   have hB2:4*B+1+1<=100000000000:=by have:0<4 ^ d:=aaf (by decide);have h1:(4*B+1+1)*1<=(4*B+1+1)*4 ^ d:=Zc _ this;omega
   have he:∀ x:Rat,du x=((decide (x.num<0),ah x.num.natAbs),(false,ah x.den)):=λx=>rfl
   show yY _ _ _ _ _ (s,(c:Int),mat du n f) (am M _)=_;rw[yY];rw[Y5 (by omega:(c:Int)<(n:Int)),Y8,rE hn hcn hcn,kD du n _ hcn hcn,he (f c c)];dsimp only;rw[uX,DQ,uo];by_cases hneg:(f c c).num<0
   ·rw[Y5 hneg,Y8,if_pos hneg]
   ·rw[if_neg hneg,uX,qP];rw[Y6 hneg,Y7];by_cases h0:f c c=0
    ·rw[if_pos h0,Y5 h0,Y8,aa Y3];rw[show(c:Int)+1=((c+1:Nat):Int) from rfl,E_ hF hn hcn _ _ d (c+1) N (by omega) (by omega)];have ez:sG (λi=>f c i) (c+1) d=sG (λi=>f i c) (c+1) d:=xw _ _ (λj h1 h2=>hsy c j (by omega) (by omega) hcn (by omega));rw[ez];by_cases hz:sG (λi=>f i c) (c+1) d=true
     ·rw[if_pos hz,if_pos hz,aa Y3];exact ih (c+1) B M 2 f (by omega) (by omega) hf (λa b ha hb=>hsy a b (by omega) (by omega)) (by have:(B+1)*4 ^ d<=(4*B+1+1)*4 ^ d:=Y9 _ (by omega);omega)
     ·rw[if_neg hz,if_neg hz]
    ·rw[if_neg h0,Y6 h0,Y7,aa Y3];rw[show(c:Int)+1=((c+1:Nat):Int) from rfl,H4 hF (by omega) hn hcn s hf h0,aa Y3];exact ih (c+1) (4*B+1) M s (eQ f c n) (by omega) (by omega) (ru hf hcn h0) (Kc hsy hcn) h4
end Go.Proofs.YtdinakfmablagaaGreatDoor
end
