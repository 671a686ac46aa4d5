/- Laws in plain Lean. Conditions: none. -/
import Derived.Test.YtbiingchhnlcnaaGreatDoorD1
import Derived.Test.YtbiingchhnlcnaaGreatDoorFlA
import Derived.Test.YtbiingchhnlcnaaGreatDoorC1
import Derived.Test.YtbiingchhnlcnaaGreatDoorGp
set_option linter.defProp false
set_option linter.unusedVariables false
section
namespace Go.Proofs.YtbiingchhnlcnaaGreatDoor
open Go Go.Mach Ieee
def My {N n j:Nat} (hN:1000<=N) (hj:j<=900) (h:n<4294967296 ^ j):fj N (aj n):=by have:=cl j n h;exact⟨by omega,by omega⟩
def pJ {N n:Nat} (hN:1000<=N) (h:n<18446744073709551616):fj N (aj n):=My (j:=2) hN (by decide) (by
 have:(4294967296:Nat) ^ 2=18446744073709551616:=by decide
 omega)
def Y5 (n:Nat):aA .and .u64 (n:Int) 2047=((n%2048:Nat):Int):=by have:=kI n 11 (by decide);simpa using this
def BL (s:Bool) (m:Nat) (i:Int):∃ r,Ieee.double.nearest s m i=Ieee.double.word s r/\r<=9218868437227405312:=by
 unfold Format.nearest;split
 ·exact⟨0,rfl,by omega⟩
 ·rw[mn]; exact⟨_,rfl,an8 _ _⟩
def GO (s:Bool) (m:Nat) (i:Int):W64 (Ieee.double.nearest s m i):=by obtain⟨r,h,hr⟩:=BL s m i;rw[h]; exact Cn s (by omega)
def WX {N:Nat} (hN:1000<=N) {n:Nat} (h:n<=48):cM N n:=⟨by omega,by omega⟩
def Og (b:Nat):bA (some b)=decide (b%9223372036854775808<9218868437227405312):=by
 unfold bA Format.read;simp only[iJ,ta,mn];by_cases h1:b%9223372036854775808<4503599627370496
 ·rw[if_pos h1,akP (by omega)]; rfl
 ·rw[if_neg h1];by_cases h2:b%9223372036854775808<9218868437227405312
  ·rw[if_pos h2,akP h2]; rfl
  ·rw[if_neg h2,akQ h2];split <;> rfl
def Nn (x:Fl):Prop:=∃ b,x=some b/\isNaN b=false
def Hz {x:Fl} (h:bA x=true):Nn x:=by
 cases x with
 | none=>cases h
 | some b=>
  rw[Og]at h;have:=akV h;refine⟨b,rfl,?_⟩;rw[anq];intro hc;have:=(eW b).1 hc;omega
def P9 (s:Bool) {r:Nat} (h:r<=9218868437227405312):Nn (some (Ieee.double.word s r)):=by
 refine⟨_,rfl,?_⟩;rw[anq];intro hc;have h1:=(eW _).1 hc;have hw:Ieee.double.word s r%9223372036854775808=r:=by unfold Format.word; rw[iJ]; cases s <;> simp <;> omega
 omega
def AC (s:Bool) (m:Nat) (i:Int):Nn (some (Ieee.double.nearest s m i)):=by obtain⟨r,h,hr⟩:=BL s m i;rw[h]; exact P9 s hr
abbrev K4:=Fl->Fl->Fl->Fl->Int->Bool
def f8:Nat->Nat->Int->Nat × Int
 | 0,m,e=>(m,e)
 | f+1,m,e=>if m%2=0 then f8 f (m / 2) (e+1)else(m,e)
def rq:∀ f m e,m ≠ 0->m<2 ^ f->e<=(f8 f m e).2/\(f8 f m e).2<=e+f/\(f8 f m e).1*2 ^ ((f8 f m e).2 - e).toNat=m/\(f8 f m e).1<=m
 | 0,m,e,h0,h=>by simp at h; omega
 | f+1,m,e,h0,h=>by
  unfold f8;split
  ·rename_i hm;obtain⟨h1,h2,h3,h4⟩:=rq f (m / 2) (e+1) (by omega) (by rw[ak2]at h; omega);refine⟨by omega,by omega,?_,by omega⟩;have:((f8 f (m / 2) (e+1)).2 - e).toNat=((f8 f (m / 2) (e+1)).2 - (e+1)).toNat+1:=by omega
   rw[this,ak2,<- ak1,h3]; omega
  ·refine⟨by omega,by omega,?_,ak3 _⟩;rw[Int.sub_self]; simp
def QF {N:Nat} (hN:1000<=N) {m:Nat} {e:Int} (h0:m ≠ 0) (hm:m<2 ^ 64) (he1 : -2000<=e) (he2:e<=2000) (k:Ky6) :
  qu N m e k=k ((f8 64 m e).1:Int) (f8 64 m e).2:=by
 (unfold qu; rw[ae]; unfold uB)
 have key:∀ f:Nat,f<=64 -> ∀(m:Nat) (e:Int),m ≠ 0->m<2 ^ f->m<2 ^ 64 -> -2000<=e->e+f<=3000 -> ∀ M:Nat,f<M->af M (lK N λa b=>k a b) ((m:Int),e)=k ((f8 f m e).1:Int) (f8 f m e).2:=by
  intro f;induction f with
  | zero=>intro _ m e h0 h; simp at h; omega
  | succ f ih=>
   intro hf m e h0 h h64 h1 h2 M hM;cases M with
   | zero=>omega
   | succ M=>
    show lK N _ ((m:Int),e) (af M _)=_;have e2:Int.tmod (m:Int) 2=((m%2:Nat):Int):=by rw[alL (by omega)]; rfl
    have e3:Int.tdiv (m:Int) 2=((m / 2:Nat):Int):=by rw[alU (by omega)]; rfl
    simp only[lK,f8,e2,e3];by_cases hm:m%2=0
    ·have:(((m%2:Nat):Int)==0)=true:=by rw[hm]; rfl
     have ew:IntKind.wrap .u64 ((m / 2:Nat):Int)=((m / 2:Nat):Int):=by
      rw[aq];have:(2:Nat) ^ 64=18446744073709551616:=by decide
      omega
     rw[this,akS,aa akN,if_pos hm,ew];exact ih (by omega) (m / 2) (e+1) (by omega) (by rw[ak2]at h; omega) (by omega) (by omega) (by omega) M (by omega)
    ·have:(((m%2:Nat):Int)==0)=false:=by
      have:m%2=1:=by omega
      rw[this]; rfl
     rw[this,akR,if_neg hm]
 have:((m:Int)==0)=false:=by simp; omega
 rw[this,akR];exact key 64 (ak3 _) m e h0 hm hm (by omega) (by omega) N (by omega)
def ON (N:Nat) (e:Int) (k:Ky6):qu N 0 e k=k 0 0:=by (unfold qu; rw[ae]; unfold uB); rfl
def ofE (x:Fl):Int × Int:=match x with
 | some b=>match Ieee.double.read b with
  | .number s m i=>if m=0 then(0,0)else((f8 64 m i).2,aU s (f8 64 m i).1)
  | _=>(0,0)
 | none=>(0,0)
def EH {b:Nat} {s:Bool} {m:Nat} {i:Int} (h:Ieee.double.read b=.number s m i):ofE (some b)=if m=0 then(0,0)else((f8 64 m i).2,aU s (f8 64 m i).1):=by unfold ofE; simp only[h]
def Lq {N:Nat} (hN:1000<=N) {b:Nat} (hb:W64 b) {s:Bool} {m:Nat} {i:Int} (h:Ieee.double.read b=.number s m i) (k:Kx5) :
    uf N (some b) k=if m=0 then k s 0 0 0 else k s ((f8 64 m i).1:Int) (f8 64 m i).2 0:=by
  obtain⟨h1,h2,h3⟩:=m_ h;have hpl:=qp h;have hnn:isNaN b=false:=by rw[anq]; intro hc; have:=(eW b).1 hc; omega
  have hbits:nx (some b)=b:=by simp only[nx,cnb,hnn]; rfl
  have hsg:(Int.fdiv (b:Int) (2 ^ 63)==1)=s:=by
    have e:(2:Int) ^ 63=((9223372036854775808:Nat):Int):=by decide
    rw[e,kY,h1];have hW:b / 9223372036854775808<2:=by have:=hb; omega
    have:b / 9223372036854775808=0\/b / 9223372036854775808=1:=by omega
    rcases this with h | h <;> rw[h] <;> rfl
  have fin:∀(e:Int),i=e - 1074 -> -1100<=e->e<=2100->mE N (some b) s e (m:Int) k=if m=0 then k s 0 0 0 else k s ((f8 64 m i).1:Int) (f8 64 m i).2 0:=by
    intro e he h5 h6;unfold mE;rw[aa akN,<- he];by_cases h0:m=0
    · subst h0; rw[if_pos rfl]; exact ON N i _
    · rw[if_neg h0,QF hN h0 (by have:(2:Nat) ^ 64=18446744073709551616:=(by decide); omega) (by omega) (by omega)]
  (unfold uf; rw[ae]; unfold sO)
  rw[Dk,hbits];rw[hsg];have n2047:(((b / 4503599627370496%2048:Nat):Int)==2047)=false:=by simp; omega
  rw[n2047,akR];rcases h3 with⟨g1,g2,g3⟩ | ⟨g1,g2,g3⟩
  · have e0:b / 4503599627370496%2048=0:=by omega
    have e1:b%4503599627370496=m:=by omega
    rw[e0,e1,akQ (by decide),akR];exact fin 0 (by omega) (by omega) (by omega)
  · have e0:0<b / 4503599627370496%2048:=by omega
    have e1:IntKind.wrap .u64 (((b%4503599627370496:Nat):Int)+4503599627370496)=(m:Int):=by rw[aq]; omega
    rw[akP (by omega:((b / 4503599627370496%2048:Nat):Int)>0),akS,aa akN,e1];exact fin _ (by omega) (by omega) (by omega)
def U6 {N:Nat} (hN:1000<=N) {x:Fl} (hx:bA x=true) (hw:FW x) (k:Int->Bool->List Int->Bool):BV N x k=exK (ofE x) k:=by
  obtain⟨b,s,m,i,rfl,h⟩:=mT hx;have hb:=hw b rfl
  (unfold BV; rw[ae]; unfold Aw)
  rw[Lq hN hb h,EH h];by_cases h0:m=0
  · rw[if_pos h0,if_pos h0]
    have:∀ κ,Rf N 0 false κ=κ false (aj 0):=λκ=>vG (N:=N) 0 (by decide) false (pJ hN (by decide)) (by omega) κ
    rw[this];cases s
    · rw[akR]; unfold exK; rfl
    · rw[akS,Dj _ _ (pJ hN (by decide))]; unfold exK vu; rfl
  · rw[if_neg h0,if_neg h0]
    have hpl:=qp h;obtain⟨g1,g2,g3,g4⟩:=rq 64 m i h0 (by have:(2:Nat) ^ 64=18446744073709551616:=(by decide); omega);have hs:=pJ (N:=N) (n:=(f8 64 m i).1) hN (by omega);rw[vG (N:=N) _ (by omega) false hs (by omega)];cases s
    · rw[akR]
      show _=k (f8 64 m i).2 (decide ((((f8 64 m i).1:Nat):Int)<0)) (aj (((f8 64 m i).1:Nat):Int).natAbs);rw[akQ (by omega),alN]
    · rw[akS,Dj _ _ hs]; rfl
def EV (x:Int × Int) (v:Int) (E:Nat):Prop:=0<=x.1+E/\x.2*2 ^ (x.1+E).toNat=v
def EV.up {x:Int × Int} {v:Int} {E:Nat} (h:EV x v E) (F:Nat):EV x (v*2 ^ F) (E+F):=by
 obtain⟨h1,h2⟩:=h;refine⟨by omega,?_⟩;have:(x.1+((E+F:Nat):Int)).toNat=(x.1+E).toNat+F:=by omega
 rw[this,Int.pow_add,<- Int.mul_assoc,h2]
def EV.mul {x y:Int × Int} {v w:Int} {E F:Nat} (h:EV x v E) (g:EV y w F):EV (zg x y) (v*w) (E+F):=by
 obtain⟨h1,h2⟩:=h;obtain⟨g1,g2⟩:=g;refine⟨by simp only[zg]; omega,?_⟩;have:((zg x y).1+((E+F:Nat):Int)).toNat=(x.1+E).toNat+(y.1+F).toNat:=by simp only[zg]; omega
 rw[this,Int.pow_add,<- h2,<- g2];simp only[zg];ac_rfl
def EV.neg {x:Int × Int} {v:Int} {E:Nat} (h:EV x v E):EV (RK x) (-v) E:=⟨h.1,by rw[<- h.2]; exact an3 _ _⟩
def Dc {x:Int × Int} {v:Int} {E:Nat} (h:EV x v E) {e:Int} (he:e<=x.1) (hE:0<=e+E):tB x e*2 ^ (e+E).toNat=v:=by unfold tB;rw[Int.mul_assoc,<- Int.pow_add,show(x.1 - e).toNat+(e+E).toNat=(x.1+E).toNat by omega];exact h.2
def EV.add {x y:Int × Int} {v w:Int} {E:Nat} (h:EV x v E) (g:EV y w E):EV (JH x y) (v+w) E:=by
 unfold JH;split
 ·rename_i h0;have:v=0:=by rw[<- h.2,h0,Int.zero_mul]
  rw[this,Int.zero_add]; exact g
 ·split
  ·rename_i h0;have:w=0:=by rw[<- g.2,h0,Int.zero_mul]
   rw[this,Int.add_zero]; exact h
  ·have hE:0<=min x.1 y.1+E:=by have:=h.1; have:=g.1; omega
   exact⟨hE,by rw[Int.add_mul,Dc h (by omega) hE,Dc g (by omega) hE]⟩
def EV.sgn {x:Int × Int} {v:Int} {E:Nat} (h:EV x v E):xG x.2=xG v:=by
 rw[<- h.2];have hp:=Pb (x.1+E).toNat;unfold xG;rcases Int.lt_trichotomy x.2 0 with h | h | h
 ·have:=Int.mul_neg_of_neg_of_pos h hp;rw[if_neg (by omega),if_pos h,if_neg (by omega),if_pos this]
 ·rw[h,Int.zero_mul]
 ·have:=Int.mul_pos h hp;rw[if_neg (by omega),if_neg (by omega),if_neg (by omega),if_neg (by omega)]
def Ex.mono {E B E' B':Nat} {x:Int × Int} (h:Ex E B x) (hE:E<=E') (hB:B<=B'):Ex E' B' x:=⟨by have:=h.1; omega,by have:=h.2.1; omega,bB h.2.2 hB⟩
def Ex.mul {E B E' B':Nat} {x y:Int × Int} (h:Ex E B x) (g:Ex E' B' y):Ex (E+E') (B+B') (zg x y):=
 ⟨by have:=h.1; have:=g.1; simp only[zg]; omega,by have:=h.2.1; have:=g.2.1; simp only[zg]; omega,by show aR _ (x.2*y.2).natAbs;rw[amD]; exact du h.2.2 g.2.2⟩
def Ex.neg {E B:Nat} {x:Int × Int} (h:Ex E B x):Ex E B (RK x):=⟨h.1,h.2.1,by show aR _ (-x.2).natAbs; rw[ans]; exact h.2.2⟩
def BG {E B:Nat} {x:Int × Int} (h:Ex E B x) {e:Int} (he : -(E:Int)<=e):aR (B+2*E) (tB x e).natAbs:=by unfold tB;rw[amD,Int.natAbs_pow];refine bB (we h.2.2 _) ?_;have:=h.2.1; omega
def Ex.add {E B:Nat} {x y:Int × Int} (h:Ex E B x) (g:Ex E B y):Ex E (B+2*E+1) (JH x y):=by
 unfold JH;split
 ·exact g.mono (ak3 _) (by omega)
 ·split
  ·exact h.mono (ak3 _) (by omega)
  ·refine⟨by have:=h.1; have:=g.1; show -(E:Int)<=min x.1 y.1; omega,by have:=h.2.1; show min x.1 y.1<=E; omega,?_⟩;have h1:=BG h (e:=min x.1 y.1) (by have:=h.1; have:=g.1; omega);have h2:=BG g (e:=min x.1 y.1) (by have:=h.1; have:=g.1; omega);exact mF (w9 h1 h2) (Int.natAbs_add_le _ _)
def QA {N:Nat} (hN:1000<=N) {E B:Nat} {x:Int × Int} (hx:Ex E B x) {e:Int} (he : -(E:Int)<=e) (hB:B+2*E<=30000) (k0:Bool) (k1:Bool->List Int->Bool) (h0:x.1<=e->k0=vu x.2 k1) (he2:x.1<=e->e=x.1) :
  Vy N x.1 e (decide (x.2<0)) (aj x.2.natAbs) k0 k1=vu (tB x e) k1:=by
 unfold Vy Wd;have hx1:=hx.1;have hx2:=hx.2.1;by_cases hc:x.1<=e
 ·rw[akP (by omega:e>=x.1),akS,h0 hc];have:tB x e=x.2:=by unfold tB;rw[he2 hc,Int.sub_self]; simp
  rw[this]
 ·rw[akQ (by omega:¬ e>=x.1),akR,aa akN];have ew:IntKind.wrap .u64 (x.1 - e)=(((x.1 - e).toNat:Nat):Int):=by rw[aq]; omega
  rw[ew,Di _ _ _ _ (C2 hN (by omega) hx.2.2)];congr 1;unfold tB aU;by_cases hz:x.2<0
  ·rw[akP hz,if_pos rfl,alb,ami,<- an3];congr 1; omega
  ·rw[akQ hz,if_neg (by decide),alb,ami];congr 1; omega
def IV {x:Fl} (hx:bA x=true):Ex 1100 53 (ofE x):=by
  obtain⟨b,s,m,i,rfl,h⟩:=mT hx;rw[EH h];have hpl:=qp h;have hpg:=GV h;by_cases h0:m=0
  · rw[if_pos h0]; exact⟨by decide,by decide,ak4 _⟩
  · rw[if_neg h0]
    obtain⟨g1,g2,g3,g4⟩:=rq 64 m i h0 (by have:(2:Nat) ^ 64=18446744073709551616:=(by decide); omega);refine⟨by show -((1100:Nat):Int)<=(f8 64 m i).2; omega,by show(f8 64 m i).2<=((1100:Nat):Int); omega,?_⟩;show aR 53 (aU s (f8 64 m i).1).natAbs;have:(aU s (f8 64 m i).1).natAbs=(f8 64 m i).1:=by unfold aU; cases s <;> simp
    rw[this];show _<2 ^ 53;have:(2:Nat) ^ 53=9007199254740992:=by decide
    omega
def Dz:∀(f t c:Nat) (e:Int),t<f->f8 f (2 ^ t*(2*c+1)) e=(2*c+1,e+t)
 | 0,t,c,e,h=>by omega
 | f+1,0,c,e,h=>by
  unfold f8;rw[amL,amR,if_neg (by omega)];simp
 | f+1,t+1,c,e,h=>by
  unfold f8;have e1:2 ^ (t+1)*(2*c+1)=2*(2 ^ t*(2*c+1)):=by rw[ak2]; ac_rfl
  rw[e1,if_pos (by omega),alr _ (by decide),Dz f t c (e+1) (by omega)];congr 1; omega
def PN {b:Nat} (hb:W64 b):(aA .and .u64 (b:Int) 9223372036854775808 != 0)=(b / 9223372036854775808%2==1):=by
 have e1:(9223372036854775808:Int)=((2 ^ 63:Nat):Int):=by decide
 have p63:(2:Nat) ^ 63=9223372036854775808:=by decide
 rw[e1,vz hb (by rw[p63]; omega)];have h1:b / 9223372036854775808%2=0\/b / 9223372036854775808%2=1:=by omega
 have h2:b.testBit 63=decide (b / 2 ^ 63%2=1):=Nat.testBit_eq_decide_div_mod_eq;rw[p63]at h2;rcases h1 with h | h
 ·have hz:b &&& 2 ^ 63=0:=by
   refine am5 (λj=>?_);rw[anO,amF,Nat.zero_testBit];by_cases hj:63=j
   ·subst hj; rw[h2,h]; rfl
   ·rw[akQ hj,Bool.and_false]
  rw[hz,h]; rfl
 ·have hz:b &&& 2 ^ 63 ≠ 0:=by intro hc;have:=an2 (λn=>n.testBit 63) hc;simp only[anO,amF,Nat.zero_testBit,h2,h]at this;simp at this
  rw[h];generalize b &&& 2 ^ 63=z at hz ⊢;have:((z:Int) != 0)=true:=by simp; exact hz
  rw[this]; rfl
def DC {N:Nat} {b m:Nat} {i:Int} {s:Bool} (hpl:i<=971/\m<9007199254740992) (hb:W64 b) (k:Kx5) (E:Int) (hEi:i=E) (h5 : -1100<=E) (h6:E<=1100) (h0:m ≠ 0):KN N (b:Int) 52 2047 1075 s (m:Int) E k=k s ((f8 64 m i).1:Int) (f8 64 m i).2 0:=by
 unfold KN;obtain⟨t,c,hm⟩:=BN m h0;have ht0:0<2 ^ t:=ak4 t;have ht:t<64:=by
  rcases alQ t 64 with g | g
  ·exact g
  ·have g2:2 ^ 64<=2 ^ t:=ak6 (by decide) g;have g3:2 ^ t*1<=2 ^ t*(2*c+1):=akX _ (by omega);have g4:(2:Nat) ^ 64=18446744073709551616:=by decide
   omega
 rw[hm,U7 N (by rw[<- hm]; omega),Dz 64 t c i ht,aa (akP (by omega)),aa akN,akW,show min t 64=t by omega];have e2:(2:Int) ^ t=((2 ^ t:Nat):Int):=by rw[ami]; rfl
 rw[e2,kY,alr _ ht0,hEi]
def Ip {N:Nat} {b:Nat} (hb:W64 b) {s:Bool} {m:Nat} {i:Int} (h:Ieee.double.read b=.number s m i) (k:Kx5) :
  rz N (some b) k=if m=0 then k s 0 0 0 else k s ((f8 64 m i).1:Int) (f8 64 m i).2 0:=by
 obtain⟨h1,h2,h3⟩:=m_ h;have hpl:=qp h;have hnn:isNaN b=false:=by rw[anq]; intro hc; have:=(eW b).1 hc; omega
 have hcnb:cnb b=b:=by simp only[cnb,hnn]; rfl
 have hcls:=D8 b;rw[hcnb]at hcls;have hE:b / 4503599627370496%2048<2047:=by omega
 rw[if_neg (Nat.ne_of_lt hE)]at hcls;have hc:(b / 4503599627370496%2048=0/\b%4503599627370496=m/\cls b=(if m=0 then 3 else 4)/\i = -1074)\/(b / 4503599627370496%2048 ≠ 0/\m=4503599627370496+b%4503599627370496/\cls b=5/\i=((b / 4503599627370496%2048:Nat):Int) - 1075):=by
  rcases h3 with⟨g1,g2,g3⟩ | ⟨g1,g2,g3⟩
  ·have e0:b / 4503599627370496%2048=0:=by omega
   have e1:b%4503599627370496=m:=by omega
   rw[if_pos e0,e1]at hcls;exact .inl ⟨e0,e1,hcls,by omega⟩
  ·have e0:b / 4503599627370496%2048 ≠ 0:=by omega
   rw[if_neg e0]at hcls;exact .inr ⟨e0,by omega,hcls,by omega⟩
 generalize hx:b / 4503599627370496%2048=x at hE hc;generalize hy:b%4503599627370496=y at hc;have hylt:y<4503599627370496:=by omega
 have goal0:rz N (some b) k=(ac .i64 ((x:Int) - 1075)&&(cond ((cls b:Int)==1) (k false 0 0 4) (cond ((cls b:Int)==2) (k false 0 0 4) (cond ((cls b:Int)==3) (k s 0 0 0) (cond ((cls b:Int)==4) ((ac .i64 (((x:Int) - 1075)+1))&&(KN N (b:Int) 52 2047 1075 s (y:Int) (((x:Int) - 1075)+1) k)) (ng N 52 2047 1075 (λ(Zt:Int)=>(KN N (b:Int) 52 2047 1075 s (aA .or .u64 (y:Int) Zt) ((x:Int) - 1075) k)))))))):=by
  unfold rz At;show VD N (b:Int) 52 2047 1075 _=_
  (unfold VD; rw[ae]; unfold SV)
  rw[Dr,hcnb,PN hb,<- h1,Dn,hx,hy]
 rw[goal0,aa akN];clear goal0 hcls h1 h2 h3 hcnb hnn;rcases hc with⟨c1,c2,c3,c4⟩ | ⟨c1,c2,c3,c4⟩
 ·rw[c3];by_cases h0:m=0
  ·rw[if_pos h0,if_pos h0]; rfl
  ·rw[if_neg h0,if_neg h0,c2];show(ac .i64 (((x:Int) - 1075)+1)&&_)=_;rw[aa akN];exact DC hpl hb k _ (by omega) (by omega) (by omega) h0
 ·have h0:m ≠ 0:=by omega
  rw[c3,if_neg h0];have eor:aA .or .u64 (y:Int) 4503599627370496=(m:Int):=by
   have p52:(2:Nat) ^ 52=4503599627370496:=by decide
   have:=cj y 1 52 (by omega) (by omega);rw[p52]at this;rw[show((4503599627370496*1:Nat):Int)=4503599627370496 from rfl]at this;rw[this]; omega
  rw[show((5:Int)==1)=false from rfl,akR,show((5:Int)==2)=false from rfl,akR,show((5:Int)==3)=false from rfl,akR,show((5:Int)==4)=false from rfl,akR,kV,eor];exact DC hpl hb k _ (by omega) (by omega) (by omega) h0
def Mw {z:Int}:(xG z==0)=decide (z=0):=by
 unfold xG;by_cases h:z=0
 ·rw[if_pos h,akP h]; rfl
 ·rw[if_neg h,akQ h];by_cases hl:z<0
  ·rw[if_pos hl]; rfl
  ·rw[if_neg hl]; rfl
def ru (p:Int × Int):Rat:=if 0<=p.1 then mkRat (p.2*((2 ^ p.1.toNat:Nat):Int)) 1 else mkRat p.2 (2 ^ (-p.1).toNat)
def U4 (a b:Int):imm true a b=max a b:=by
 unfold imm; simp only[akS];by_cases h:a<=b
 ·have:max a b=b:=by omega
  rw[this];by_cases h2:b>a
  ·rw[akP h2]; rfl
  ·rw[akQ h2,akR]; omega
 ·have:max a b=a:=by omega
  rw[this,akQ (by omega),akR]
def RU (n:Nat):¬((n:Nat):Int)<0:=by omega
def BM (g:Bool):(g != false)=g:=by cases g <;> rfl
def NM {B s n:Nat} (h:aR B n):aR (B+s) (n*2 ^ s):=we h s
def AL {s:Nat}:aR (s+1) (2 ^ s):=by unfold aR; rw[ak2]; have:=ak4 s; omega
def Jz:aR 1 1:=by unfold aR; decide
def ya:ah 1=[1]:=qU (by decide) (by decide)
def U5 {w:Int} (k:Kx6):kq (mkRat w 1) k=kr w 1 k:=by unfold kq;rw[Rat.mkRat_one,Rat.num_intCast,Rat.den_intCast]
def JP {N:Nat} (hF:Fuel N) (x:Fl) (s:Bool) (M e z:Int) (he : -1100<=e) (he2:e<=1100) (hz:aR 53 z.natAbs) (k:Kx6) :
  bW N x s M e (decide (z<0)) (ah z.natAbs) k=kq (ru (e,z)) k:=by
 have hN:=hF.lt;unfold bW;have n1:=λkk=>tG (N:=N) (by omega) 1 (by decide) kk
 rw[show((1:Nat):Int)=1 from rfl]at n1;rw[n1,aa akN,U4];obtain⟨t,ht⟩:∃ t:Nat,max e (0 - e)=(t:Int):=⟨(max e (0 - e)).toNat,by omega⟩
 have ew:IntKind.wrap .u64 (max e (0 - e))=(t:Int):=by rw[aq]; omega
 have htb:t<=1100:=by omega
 rw[ew,Ln t false false 1 (by omega) (by rw[ya]; simp; omega) (by rw[ya]; simp)];unfold tE;have e1:aU false (1*2 ^ t)=((2 ^ t:Nat):Int):=by unfold aU; rw[amR]; rfl
 rw[e1,akQ (RU (2 ^ t)),alN];dsimp only;have hp:=ak4 t;have hzb:aR 2000 z.natAbs:=bB hz (by omega);have htb2:aR 2000 (2 ^ t):=bB AL (by omega);by_cases hc:e<0
 ·rw[akP hc,akS];unfold sQ9 GQ9;rw[BM,zk hF (B:=2000) (by decide) _ hzb htb2 hp,iD];unfold ru;dsimp only;have:(-e).toNat=t:=by omega
  rw[if_neg (by omega),this]
 ·rw[akQ hc,akR];unfold WS Wh;have hm:aR 4000 (z.natAbs*2 ^ t):=bB (du hzb htb2) (by omega);rw[uV hF (by decide) hzb htb2,BM];rw[oK (decide (z<0)) _ _ (z.natAbs*2 ^ t) (λa b=>Vv N false false a b (λc8 s7 c9 s8=>k c8 s7 c9 s8))];rw[tF];obtain⟨w,hw⟩:∃ w:Int,w=z*((2 ^ t:Nat):Int):=⟨_,rfl⟩
  have hwb:aR 4000 w.natAbs:=by rw[hw,amD,alN]; exact hm
  rw[<- hw];unfold tE Vv V_;dsimp only;rw[ra (by decide) hwb];have er:ru (e,z)=mkRat w 1:=by
   unfold ru;dsimp only;have:e.toNat=t:=by omega
   rw[if_pos (by omega),this,hw]
  rw[er,U5]
  (unfold WP; rw[ae]; unfold SR Mo P5 RY Rr kr)
  rw[ya];by_cases hl:w<0
  ·rw[akP hl];have h2:decide (((ah w.natAbs).length:Int)>0)=true:=by rw[p9]; exact akP (by omega)
   simp only[h2];rfl
  ·rw[akQ hl]; rfl
def rb (N:Nat) (e:Int) (k0:Bool):cP N ((0:Int)==0) e k0=k0:=rfl
def Gu {N:Nat} (hF:Fuel N) {x:Fl} (hx:bA x=true) (hw:FW x) (k:Kx6):kc N x k=kq (ru (ofE x)) k:=by
 have hN:=hF.lt;have hex:=IV hx;obtain⟨b,s,m,i,rfl,h⟩:=mT hx;have ho:=EH h
 (unfold kc; rw[ae]; unfold j9)
 have fin:∀(M:Nat) (e:Int),M<18446744073709551616->ofE (some b)=(e,aU s M) ->
   cP N ((0:Int)==0) 4 (Q4 N (M:Int) false (λ(Zb:Bool) (nsr:List Int)=>(cond s (Q_ N Zb nsr (λ(ZE:Bool) (Y9:List Int)=>(bW N (some b) s (M:Int) e ZE Y9 k))) (bW N (some b) s (M:Int) e Zb nsr k))))=kq (ru (ofE (some b))) k:=by
  intro M e hM heq;rw[heq]at hex ⊢;have h1:=hex.1;have h2:=hex.2.1;have h3:=hex.2.2;dsimp only at h1 h2 h3;have hl:(ah M).length<=1099511627776:=by
   have:aR 64 M:=by unfold aR; omega
   have:=zZ (B:=64) (by decide) this; omega
  rw[rb,OD (by omega) M hM];cases s
  ·rw[akR];have e1:aU false M=(M:Int):=rfl;rw[e1]at h3 ⊢;have:=JP hF (some b) false (M:Int) e (M:Int) (by omega) (by omega) h3 k;rw[akQ (by omega:¬(M:Int)<0),alN]at this;exact this
  ·rw[akS,Lo false M hl];have e1 : -(aU false M)=aU true M:=rfl;rw[e1];exact JP hF (some b) true (M:Int) e (aU true M) (by omega) (by omega) h3 k
 rw[Ip (hw b rfl) h];by_cases h0:m=0
 ·rw[if_pos h0];rw[if_pos h0]at ho;refine fin 0 0 (by decide) ?_;rw[ho];cases s <;> rfl
 ·rw[if_neg h0];rw[if_neg h0]at ho;have hpl:=qp h;have hm:m<2 ^ 64:=by
   have:(2:Nat) ^ 64=18446744073709551616:=by decide
   omega
  obtain⟨g1,g2,g3,g4⟩:=rq 64 m i h0 hm;exact fin _ _ (by omega) ho
def QG (N:Nat) (k:List Int->Bool):sm N k=k (aj 1):=by rw[N5]; rfl
def Gl {N:Nat} (hF:Fuel N) {z:Int} (hz:aR 30000 z.natAbs) (b1 b2:Bool) (k:Kx6) :
  Q6 N b1 b2 (decide (z<0)) (aj z.natAbs) k=kqR (mkRat z 1) k:=by
 unfold Q6 V3;rw[QG,uT hF (B:=30000) (by decide) _ hz (bB Jz (by decide)) (by decide),iD]
def Lr {N:Nat} (hF:Fuel N) {x:Fl} (hx:bA x=true) (hw:FW x) (k:Kx6):uh N x k=kqR (ru (ofE x)) k:=by
 have hN:=hF.lt;have hex:=IV hx;unfold uh yN;rw[U6 (by omega) hx hw];obtain⟨p,hp⟩:∃ p,p=ofE x:=⟨_,rfl⟩
 rw[<- hp]at hex ⊢;obtain⟨e,z⟩:=p;have h1:=hex.1;have h2:=hex.2.1;have h3:=hex.2.2;dsimp only at h1 h2 h3
 (unfold exK; unfold WR; rw[ae]; unfold SU)
 dsimp only;by_cases hc:e>=0
 ·rw[akP hc,akS];have hl:=λk0 k1 h0 he2=>QA (N:=N) (by omega) hex (e:=0) (by omega) (by decide) k0 k1 h0 he2
  dsimp only at hl;rw[hl]
  ·unfold vu;have hb:=BG hex (e:=0) (by omega);dsimp only;rw[Gl hF (bB hb (by decide))];unfold ru tB;dsimp only;rw[if_pos hc,Int.sub_zero,ami];rfl
  ·intro _; rfl
  ·intro h; omega
 ·rw[akQ hc,akR];have n1:=λkk=>Bt (N:=N) 1 (by decide) (by have:=sf (B:=1) (n:=1) (by decide) (by unfold aR; decide);exact⟨by omega,by omega⟩) (by omega) kk
  rw[show((1:Nat):Int)=1 from rfl]at n1;rw[n1,aa akN];obtain⟨t,ht⟩:∃ t:Nat,(0 - e)=(t:Int):=⟨(0 - e).toNat,by omega⟩
  have ew:IntKind.wrap .u64 (0 - e)=(t:Int):=by rw[aq]; omega
  rw[ew,Di t false false 1 (C2 (B:=1) (by omega) (by omega) (by unfold aR; decide))];unfold vu;have e1:aU false (1*2 ^ t)=((2 ^ t:Nat):Int):=by unfold aU; rw[amR]; rfl
  rw[e1,akQ (RU (2 ^ t)),alN];dsimp only;have htp:=ak4 t;have hzb:aR 2000 z.natAbs:=bB h3 (by omega);have htb2:aR 2000 (2 ^ t):=bB AL (by omega);unfold WN V9;rw[BM,uT hF (B:=2000) (by decide) _ hzb htb2 (Nat.ne_of_gt htp),iD];unfold ru;dsimp only;have:(-e).toNat=t:=by omega
  rw[if_neg (by omega),this]
def wT {B:Nat} {z:Int} {d:Nat} (hz:aR B z.natAbs) (hd:aR B d) (h0:0<d):Bq B (mkRat z d):=by
 refine⟨?_,?_⟩
 ·rw[an4,if_neg (by omega)];have h1:((Nat.gcd z.natAbs d:Nat):Int)∣z:=Int.ofNat_dvd_left.2 (alI _ _);rw[al7,Int.natAbs_ediv_of_dvd h1,alN];exact bN hz
 ·rw[an5,if_neg (by omega)];exact bN hd
def QW {x:Fl} (hx:bA x=true):Bq 1200 (ru (ofE x)):=by
 have hex:=IV hx;obtain⟨p,hp⟩:∃ p,p=ofE x:=⟨_,rfl⟩
 rw[<- hp]at hex ⊢;obtain⟨e,z⟩:=p;have h1:=hex.1;have h2:=hex.2.1;have h3:=hex.2.2;dsimp only at h1 h2 h3;unfold ru;dsimp only;split
 ·refine wT ?_ (bB Jz (by decide)) (by decide);rw[amD,alN];exact bB (NM h3) (by omega)
 ·exact wT (bB h3 (by omega)) (bB AL (by omega)) (ak4 _)
def DU {A B:Nat} {x y:Rat} (hx:Bq A x) (hy:Bq B y):Bq (A+B) (x*y):=by rw[Rat.mul_def'];refine wT ?_ (du hx.2 hy.2) (amS x.den_pos y.den_pos);rw[amD]; exact du hx.1 hy.1
def Sg {B:Nat} {y:Rat} (hy:Bq B y) (h:y.num ≠ 0):Bq B (y⁻¹):=by obtain⟨i1,i2,i3⟩:=Bg h;exact⟨by rw[i1]; exact hy.2,by rw[i2]; exact hy.1⟩
def Hy {A B:Nat} {x y:Rat} (hx:Bq A x) (hy:Bq B y) (h:y.num ≠ 0):Bq (A+B) (x / y):=by rw[Rat.div_def]; exact DU hx (Sg hy h)
def Si {B:Nat} {y:Rat} (hy:Bq B y):Bq B (-y):=⟨by rw[Rat.neg_num,ans]; exact hy.1,hy.2⟩
def Sf {A B:Nat} {x y:Rat} (hx:Bq A x) (hy:Bq B y):Bq (A+B+1) (x+y):=by rw[Rat.add_def'];refine wT (C1 (uG hx.1 hy.2) ?_) (bB (du hx.2 hy.2) (by omega)) (amS x.den_pos y.den_pos);rw[amK]; exact uG hy.1 hx.2
def MJ {A B:Nat} {x y:Rat} (hx:Bq A x) (hy:Bq B y):Bq (A+B+1) (x - y):=by rw[Rat.sub_eq_add_neg]; exact Sf hx (Si hy)
def Ji {B:Nat}:Bq (B+1) 0:=⟨ak4 _,by show 1<2 ^ (B+1); exact Nat.one_lt_two_pow (by omega)⟩
def enc (x:Rat):RY1:=((decide (x.num<0),ah x.num.natAbs),(false,ah x.den))
def dx (x:Rat):RY2:=((decide (x.num<0),aj x.num.natAbs),(false,aj x.den))
def mat {α:Type} (g:Rat->α) (n:Nat) (f:Nat->Nat->Rat):List α:=(List.range (n*n)).map (λt=>g (f (t / n) (t%n)))
def rm {α:Type} (g:Rat->α) (n:Nat) (f:Nat->Nat->Rat):(mat g n f).length=n*n:=by unfold mat; rw[amO,List.length_range]
def kT {n i j:Nat} (hi:i<n) (hj:j<n):i*n+j<n*n:=by have h1:(i+1)*n<=n*n:=akU _ hi;rw[alj]at h1; omega
def Aj {n i j:Nat} (hj:j<n):(i*n+j) / n=i:=by rw[akT,anQ (by omega),alm hj,aln]
def Ak {n i j:Nat} (hj:j<n):(i*n+j)%n=j:=by rw[akT,am2,ak0 hj]
def m0 {α:Type} (g:Rat->α) (n:Nat) (f:Nat->Nat->Rat) {i j:Nat} (hi:i<n) (hj:j<n) (z:α):(mat g n f).getD (i*n+j) z=g (f i j):=by have h:=kT hi hj;unfold mat;rw[List.getD_eq_getElem?_getD,List.getElem?_map,List.getElem?_range h];simp only[aml,alD,Aj hj,Ak hj]
def ko {α:Type} (g:Rat->α) (n:Nat) {f f':Nat->Nat->Rat} (h:∀ a b,a<n->b<n->f a b=f' a b):mat g n f=mat g n f':=by
 unfold mat;apply anG;intro t ht;have ht:=List.mem_range.1 ht;have hn:0<n:=by
  rcases al_ n with h0 | h0
  ·rw[h0]at ht; omega
  ·exact h0
 rw[h _ _ (amM ht) (ak5 _ hn)]
def JZ {α:Type} (g:Rat->α) (n:Nat) (f:Nat->Nat->Rat) {i j:Nat} (hi:i<n) (hj:j<n) (v:Rat):(mat g n f).set (i*n+j) (g v)=mat g n (λa b=>if a=i/\b=j then v else f a b):=by
 have h:=kT hi hj;apply List.ext_getElem?;intro t;by_cases ht:t<n*n
 ·have hn:0<n:=by omega
  rw[List.getElem?_set];unfold mat;rw[List.getElem?_map,List.getElem?_map,List.getElem?_range ht];simp only[amO,List.length_range,aml];by_cases he:i*n+j=t
  ·rw[if_pos he,if_pos h,<- he,Aj hj,Ak hj,if_pos ⟨rfl,rfl⟩]
  ·rw[if_neg he];have:¬(t / n=i/\t%n=j):=by rintro ⟨h1,h2⟩;apply he;rw[<- h1,<- h2,akT];exact alM t n
   rw[if_neg this]
 ·rw[List.getElem?_eq_none (by rw[anI,rm]; omega),List.getElem?_eq_none (by rw[rm]; omega)]
def ur {n:Nat} (h:n<=1000):n*n<=1000000:=by have:n*n<=1000*1000:=alJ h h;omega
def jN (i j n:Nat):(i:Int)*(n:Int)+(j:Int)=((i*n+j:Nat):Int):=by rw[Int.natCast_add,alb]
def jO {n i j:Nat} (hn:n<=1000) (hi:i<n) (hj:j<n):ac .i64 ((i:Int)*(n:Int))=true/\ac .i64 (((i*n+j:Nat):Int))=true:=by have h1:=ur hn;have h2:=kT hi hj;rw[<- alb];exact⟨ab (by omega) (by omega),ab (by omega) (by omega)⟩
def re {N n i j:Nat} (hn:n<=1000) (hi:i<n) (hj:j<n) (f:Nat->Nat->Rat) (k:Kx6) :
  aX N n n i j (mat enc n f) k=kq (f i j) k:=by
 obtain⟨h1,h2⟩:=jO hn hi hj;have h3:=kT hi hj
 (unfold aX; rw[ae]; unfold eO)
 rw[jN,aa h1,aa h2,rm,akW,aa akO,aa (akP h3),m0 enc n f hi hj];rfl
def QI {N n i j:Nat} (hn:n<=1000) (hi:i<n) (hj:j<n) (f:Nat->Nat->Rat) (v:Rat) (k:List RY1->Bool) :
  fe N n n i j (decide (v.num<0)) (ah v.num.natAbs) false (ah v.den) (mat enc n f) k=k (mat enc n (λa b=>if a=i/\b=j then v else f a b)):=by
 obtain⟨h1,h2⟩:=jO hn hi hj;have h3:=kT hi hj;unfold fe ke;rw[jN,aa h1,aa h2,rm,akW,aa akO,aa (akP h3)];exact an2 k (JZ enc n f hi hj v)
def uR {N n i j:Nat} (hn:n<=1000) (hi:i<n) (hj:j<n) (f:Nat->Nat->Rat) (k:Kz8) :
  G7 N n n i j (mat dx n f) k=k (i*n+j):=by
 obtain⟨h1,h2⟩:=jO hn hi hj;have h3:=kT hi hj;unfold G7 V7;rw[jN,aa h1,aa h2,rm,akW,aa akO,aa (akP h3)]
def EU (l:List RY2) (i:Nat):List.set l i (((List.getD l i ((false,[]),(false,[]))).1.1,(List.getD l i ((false,[]),(false,[]))).1.2),((List.getD l i ((false,[]),(false,[]))).2.1,(List.getD l i ((false,[]),(false,[]))).2.2))=l:=by
 show List.set l i (List.getD l i ((false,[]),(false,[])))=l;apply List.ext_getElem?;intro t;rw[List.getElem?_set];by_cases h:i=t
 ·subst h;rw[if_pos rfl];by_cases hl:i<l.length
  ·rw[if_pos hl,List.getD_eq_getElem?_getD,List.getElem?_eq_getElem hl]; rfl
  ·rw[if_neg hl,List.getElem?_eq_none (by omega)]
 ·rw[if_neg h]
def wt {σ:Type} {step:σ->(σ->Bool)->Bool} (C:Nat->σ) (m n:Nat) (hmn:m<=n) {N:Nat} (hn:n<N) {out:Bool} (hs:∀ i,m<=i->i<n -> ∀ K:σ->Bool,step (C i) K=K (C (i+1))) (hx:∀ K,step (C n) K=out):af N step (C m)=out:=by have:=aC (step:=step) (λi=>C (m+i)) (n - m) (N:=N) (by omega) (out:=out) (λi hi K=>hs (m+i) (by omega) (by omega) K) (λK=>by show step (C (m+(n - m))) K=out; rw[show m+(n - m)=n by omega]; exact hx K);exact this
def xY (f:Nat->Nat->Rat) (i c:Nat) (x:Rat) (t:Nat):Nat->Nat->Rat:=λa b=>if a=i/\b<t then f i b+f c b*x else f a b
def fo (f:Nat->Nat->Rat) (c m:Nat):Nat->Nat->Rat:=λa b=>if c<a/\a<m then f a b - f a c / f c c*f c b else f a b
def rT (B n:Nat) (f:Nat->Nat->Rat):Prop:=∀ a b,a<n->b<n->Bq B (f a b)
def OG {N B n i c:Nat} (hF:Fuel N) (hB:B<=300000000000) (hn:n<=1000) (hi:i<n) (hc:c<n) (hic:c ≠ i) {f:Nat->Nat->Rat} (hf:rT B n f) {x:Rat} (hx:Bq (2*B) x) (k:List RY1->Bool) :
  fa N n n i c (decide (x.num<0)) (ah x.num.natAbs) false (ah x.den) (mat enc n f) k=k (mat enc n (xY f i c x n)):=by
 have hN:=hF.lt
 (unfold fa; rw[ae]; unfold eK)
 have h0:mat enc n f=mat enc n (xY f i c x 0):=ko _ _ (λa b _ _=>by unfold xY; rw[if_neg (by omega)]);rw[h0];refine aC (λt:Nat=>((t:Int),mat enc n (xY f i c x t))) n (by omega) ?_ ?_
 ·intro t ht K;unfold ce;dsimp only;rw[akP (by omega:(t:Int)<(n:Int)),akS,re hn hi ht];have e1:xY f i c x t i t=f i t:=by unfold xY; rw[if_neg (by omega)]
  have e2:xY f i c x t c t=f c t:=by unfold xY; rw[if_neg (by omega)]
  unfold kq kr;dsimp only;rw[re hn hc ht,e1,e2];unfold kq kr;dsimp only;rw[QD hF (B:=2*B) (by omega) ((hf c t hc ht).mono (by omega)) hx];unfold kq kr;dsimp only;rw[QB hF (B:=3*B) (by omega) ((hf i t hi ht).mono (by omega)) ((DU (hf c t hc ht) hx).mono (by omega))];unfold kq kr;dsimp only;rw[QI hn hi ht,aa akN];have e3:mat enc n (λa b=>if a=i/\b=t then f i t+f c t*x else xY f i c x t a b)=mat enc n (xY f i c x (t+1)):=ko _ _ (λa b _ _=>by
   unfold xY;by_cases h:a=i/\b=t
   ·rw[if_pos h,if_pos (by omega),h.2]
   ·rw[if_neg h];by_cases h2:a=i/\b<t
    ·rw[if_pos h2,if_pos (by omega)]
    ·rw[if_neg h2,if_neg (by omega)])
  rw[e3];rfl
 ·intro K;unfold ce;dsimp only;rw[akQ (by omega:¬(n:Int)<(n:Int)),akR]
def pz (f:Nat->Nat->Rat) (i c:Nat) (r:Rat) (t:Nat):Nat->Nat->Rat:=λa b=>if a=i/\b<t then f i b - r*f c b else f a b
def LB {N B n i c:Nat} (hF:Fuel N) (hB:B<=300000000000) (hn:n<=1000) (hi:i<n) (hc:c<n) (hic:c ≠ i) {f:Nat->Nat->Rat} (hf:rT B n f) {r:Rat} (hx:Bq (2*B) r) (k:List RY2->Bool) :
  Vu N n n i c (mat dx n f) (decide (r.num<0)) (aj r.num.natAbs) false (aj r.den) k=k (mat dx n (pz f i c r n)):=by
 have hN:=hF.lt
 (unfold Vu; rw[ae]; unfold Sy)
 have h0:mat dx n f=mat dx n (pz f i c r 0):=ko _ _ (λa b _ _=>by unfold pz; rw[if_neg (by omega)]);rw[h0];refine aC (λt:Nat=>((t:Int),mat dx n (pz f i c r t))) n (by omega) ?_ ?_
 ·intro t ht K;unfold E5;dsimp only;rw[akP (by omega:(t:Int)<(n:Int)),akS,uR hn hi ht,uR hn hi ht,uR hn hc ht,EU];have e1:pz f i c r t i t=f i t:=by unfold pz; rw[if_neg (by omega)]
  have e2:pz f i c r t c t=f c t:=by unfold pz; rw[if_neg (by omega)]
  rw[m0 dx n _ hi ht,m0 dx n _ hc ht,e1,e2];unfold dx;dsimp only;rw[OM hF (B:=2*B) (by omega) hx ((hf c t hc ht).mono (by omega))];unfold kqR krR;dsimp only;rw[aa (akP rfl),OY hF (B:=3*B) (by omega) ((hf i t hi ht).mono (by omega)) ((DU hx (hf c t hc ht)).mono (by omega))];unfold kqR krR;dsimp only;rw[aa akN];have e4:=JZ dx n (pz f i c r t) hi ht (f i t - r*f c t);have e3:mat dx n (λa b=>if a=i/\b=t then f i t - r*f c t else pz f i c r t a b)=mat dx n (pz f i c r (t+1)):=ko _ _ (λa b _ _=>by
   unfold pz;by_cases h:a=i/\b=t
   ·rw[if_pos h,if_pos (by omega),h.2]
   ·rw[if_neg h];by_cases h2:a=i/\b<t
    ·rw[if_pos h2,if_pos (by omega)]
    ·rw[if_neg h2,if_neg (by omega)])
  rw[e3]at e4;exact an2 (λl=>K ((t:Int)+1,l)) e4
 ·intro K;unfold E5;dsimp only;rw[akQ (by omega:¬(n:Int)<(n:Int)),akR]
def wc (g:Nat->Rat):Nat->Nat->Bool
 | i,0=>true
 | i,d+1=>decide (g i=0)&&wc g (i+1) d
def AH {g h:Nat->Rat}:∀ d i,(∀ j,i<=j->j<i+d->g j=h j)->wc g i d=wc h i d
 | 0,i,_=>rfl
 | d+1,i,e=>by unfold wc;rw[e i (ak3 _) (by omega),AH d (i+1) (λj h1 h2=>e j (by omega) (by omega))]
def xI (n:Nat):Nat->Nat->Int->(Nat->Nat->Rat)->Int
 | 0,c,s,f=>s
 | d+1,c,s,f=>if (f c c).num<0 then 1 else if f c c=0 then(if wc (λi=>f i c) (c+1) d=true then xI n d (c+1) 2 f else 1)else xI n d (c+1) s (fo f c n)
def Hb (z:Int):decide (xG z<0)=decide (z<0):=by
 unfold xG;by_cases h0:z=0
 ·rw[if_pos h0,h0]
 ·rw[if_neg h0];by_cases h:z<0
  ·rw[if_pos h,akP h]; rfl
  ·rw[if_neg h,akQ h]; rfl
def tQ {x:Rat}:(x.num=0)↔x=0:=Rat.num_eq_zero
def uq (x:Rat):(xG x.num==0)=decide (x=0):=by
 rw[Mw];by_cases h:x=0
 ·rw[akP h,akP (tQ.2 h)]
 ·rw[akQ h,akQ (λg=>h (tQ.1 g))]
def Ri (x:Rat):(xG x.num != 0) = !decide (x=0):=by rw[<- uq]; rfl
def uN {B n c m:Nat} {f:Nat->Nat->Rat} (hf:rT B n f) (hc:c<n) (h0:f c c ≠ 0):rT (4*B+1) n (fo f c m):=by
 intro a b ha hb;unfold fo;split
 ·exact(MJ (hf a b ha hb) (DU (Hy (hf a c ha hc) (hf c c hc hc) (λh=>h0 (tQ.1 h))) (hf c b hc hb))).mono (by omega)
 ·exact(hf a b ha hb).mono (by omega)
def A2 (f:Nat->Nat->Rat) (c:Nat) {α:Type} (g:Rat->α) (n:Nat):mat g n (fo f c (c+1))=mat g n f:=ko _ _ (λa b _ _=>by unfold fo; rw[if_neg (by omega)])
def tA {f:Nat->Nat->Rat} {c i:Nat} (b:Nat):fo f c i i b=f i b:=by unfold fo; rw[if_neg (by omega)]
def A3 {f:Nat->Nat->Rat} {c i:Nat} (b:Nat):fo f c i c b=f c b:=by unfold fo; rw[if_neg (by omega)]
def yc {f:Nat->Nat->Rat} {c i a b:Nat} (h:c<i):fo f c (i+1) a b=if a=i then f i b - f i c / f c c*f c b else fo f c i a b:=by
 unfold fo;by_cases h1:a=i
 ·rw[if_pos h1,if_pos (by omega),h1]
 ·rw[if_neg h1];by_cases h2:c<a/\a<i
  ·rw[if_pos h2,if_pos (by omega)]
  ·rw[if_neg h2,if_neg (by omega)]
def Pe (x y p q:Rat):q+y*(0 - x / p)=q - x / p*y:=by grind
def Pd (p q y:Rat):q - 0 / p*y=q:=by grind
def Pf (x y p:Rat):x / p*y=y / p*x:=by grind
def OU {N B n c:Nat} (hF:Fuel N) (hB:4*B+1<=300000000000) (hn:n<=1000) (hc:c<n) (s:Int) (t1 t2:Int) {f:Nat->Nat->Rat} (hf:rT B n f) (h0:f c c ≠ 0) (e0:Int->List RY1->Bool) (e1:List RY1->Bool) :
  af N (aB N s (c:Int) t1 t2 (n:Int) (n:Int) (decide ((f c c).num<0)) (ah (f c c).num.natAbs) false (ah (f c c).den) e0 e1) (((c+1:Nat):Int),mat enc n f)=e1 (mat enc n (fo f c n)):=by
 have hN:=hF.lt;rw[<- A2 f c enc n];refine wt (λi:Nat=>((i:Int),mat enc n (fo f c i))) (c+1) n (by omega) (by omega) ?_ ?_
 ·intro i hi1 hi2 K;unfold aB;dsimp only;rw[akP (by omega:(i:Int)<(n:Int)),akS,re hn hi2 hc,tA];unfold kq kr;dsimp only;rw[mZ,uq];by_cases hz:f i c=0
  ·rw[akP hz,akS,aa akN];have:mat enc n (fo f c (i+1))=mat enc n (fo f c i):=ko _ _ (λa b _ _=>by
    rw[yc (by omega)];by_cases h1:a=i
    ·rw[if_pos h1,h1,tA,hz,Pd]
    ·rw[if_neg h1])
   rw[this];rfl
  ·rw[akQ hz,akR,mZ,uq,akQ h0,akR,IG hF];unfold kq kr;dsimp only;have hp:(f c c).num ≠ 0:=λh=>h0 (tQ.1 h)
   have bx:=hf i c hi2 hc;have bp:=hf c c hc hc;have bq:=Hy bx bp hp;rw[QH hF (B:=B) (by omega) bx bp hp];unfold kq kr;dsimp only;have bz:Bq (B+B+1) 0:=Ji;rw[Gw hF (B:=B+B+1) (by omega) bz (bq.mono (by omega))];unfold kq kr;dsimp only;have bs:Bq (2*(4*B+1)) (0 - f i c / f c c):=(MJ (A:=1) (Ji (B:=0)) bq).mono (by omega);rw[OG hF (B:=4*B+1) hB hn hi2 hc (by omega) (uN hf hc h0) bs,aa akN];have:mat enc n (fo f c (i+1))=mat enc n (xY (fo f c i) i c (0 - f i c / f c c) n):=ko _ _ (λa b _ hb=>by
    rw[yc (by omega)];unfold xY;by_cases h1:a=i
    ·rw[if_pos h1,if_pos ⟨h1,hb⟩,tA,A3,Pe]
    ·rw[if_neg h1,if_neg (by omega)])
   rw[this];rfl
 ·intro K;unfold aB;dsimp only;rw[akQ (by omega:¬(n:Int)<(n:Int)),akR]
def LQ {N n c:Nat} (hF:Fuel N) (hn:n<=1000) (hc:c<n) (s:Int) (t1 t2:Int) {f:Nat->Nat->Rat} (h0:f c c=0) (e0:Int->List RY1->Bool) (e1:List RY1->Bool):∀(d i M:Nat),i+d=n->d<M ->
  af M (aB N s (c:Int) t1 t2 (n:Int) (n:Int) (decide ((f c c).num<0)) (ah (f c c).num.natAbs) false (ah (f c c).den) e0 e1) ((i:Int),mat enc n f)=if wc (λi=>f i c) i d=true then e1 (mat enc n f)else e0 1 (mat enc n f):=by
 intro d;induction d with
 | zero=>
  intro i M hi hM;cases M with
  | zero=>omega
  | succ M=>
   show aB _ _ _ _ _ _ _ _ _ _ _ _ _ ((i:Int),mat enc n f) (af M _)=_;unfold aB wc;dsimp only;rw[akQ (by omega:¬(i:Int)<(n:Int)),akR,if_pos rfl]
 | succ d ih=>
  intro i M hi hM;cases M with
  | zero=>omega
  | succ M=>
   have hi2:i<n:=by omega
   show aB _ _ _ _ _ _ _ _ _ _ _ _ _ ((i:Int),mat enc n f) (af M _)=_;rw[aB];rw[akP (by omega:(i:Int)<(n:Int)),akS,re hn hi2 hc];unfold kq kr;dsimp only;rw[mZ,uq,wc];by_cases hz:f i c=0
   ·rw[akP hz,akS,aa akN,alW];exact ih (i+1) M (by omega) (by omega)
   ·rw[akQ hz,akR,mZ,uq,akP h0,akS,anr,if_neg (by decide)]
def EB {N n:Nat} (hF:Fuel N) (hn:n<=1000) (k:Kz7):∀(d c B M:Nat) (s:Int) (f:Nat->Nat->Rat),c+d=n->d<M->rT B n f->(B+1)*4 ^ d<=100000000000 ->
  af M (aM N (n:Int) (n:Int) (n:Int) (λt _=>k t) (λt _=>k t)) (s,(c:Int),mat enc n f)=k (xI n d c s f):=by
 intro d;induction d with
 | zero=>
  intro c B M s f hc hM _ _;cases M with
  | zero=>omega
  | succ M=>
   show aM _ _ _ _ _ _ (s,(c:Int),mat enc n f) (af M _)=_;rw[aM];rw[akQ (by omega:¬(c:Int)<(n:Int)),akR];rfl
 | succ d ih=>
  intro c B M s f hc hM hf hB;cases M with
  | zero=>omega
  | succ M=>
   have hN:=hF.lt;have hcn:c<n:=by omega
   have h4:(4*B+1+1)*4 ^ d<=100000000000:=by
    have h1:(4*B+1+1)*4 ^ d<=(B+1)*4*4 ^ d:=akU _ (by omega);have h2:(B+1)*4*4 ^ d=(B+1)*4 ^ (d+1):=by rw[ak2,ak1,akT 4 (4 ^ d)]
    omega
   have hB2:4*B+1+1<=100000000000:=by have:0<4 ^ d:=alZ (by decide);have h1:(4*B+1+1)*1<=(4*B+1+1)*4 ^ d:=akX _ this;omega
   show aM _ _ _ _ _ _ (s,(c:Int),mat enc n f) (af M _)=_;rw[aM];rw[akP (by omega:(c:Int)<(n:Int)),akS,re hn hcn hcn];unfold kq kr;dsimp only;rw[mZ,Hb,xI];by_cases hneg:(f c c).num<0
   ·rw[akP hneg,akS,if_pos hneg]
   ·rw[akQ hneg,akR,if_neg hneg,aa akN];by_cases h0:f c c=0
    ·rw[if_pos h0];have hr:=λe0 e1=>LQ hF hn hcn s (n:Int) (c:Int) h0 e0 e1 d (c+1) N (by omega) (by omega)
     rw[akQ hneg]at hr;rw[show(c:Int)+1=((c+1:Nat):Int) from rfl,hr];by_cases hz:wc (λi=>f i c) (c+1) d=true
     ·rw[if_pos hz,if_pos hz];have hs:=mZ (N:=N) (f c c);rw[akQ hneg]at hs;rw[hs,uq,akP h0,akS,aa akN];exact ih (c+1) B M 2 f (by omega) (by omega) hf (by have:(B+1)*4 ^ d<=(4*B+1+1)*4 ^ d:=akU _ (by omega);omega)
     ·rw[if_neg hz,if_neg hz]
    ·rw[if_neg h0];have hr:=λe0 e1=>OU hF (by omega) hn hcn s (n:Int) (c:Int) hf h0 e0 e1
     rw[akQ hneg]at hr;rw[show(c:Int)+1=((c+1:Nat):Int) from rfl,hr];have hs:=mZ (N:=N) (f c c);rw[akQ hneg]at hs;rw[hs,uq,akQ h0,akR,aa akN];exact ih (c+1) (4*B+1) M s (fo f c n) (by omega) (by omega) (uN hf hcn h0) h4
def OZ {N B n:Nat} (hF:Fuel N) (hB:B<=300000000000) (hn:n<=1000) {f:Nat->Nat->Rat} (hf:rT B n f) (hs:∀ a b,a<n->b<n->f a b=f b a) (k:Bool) :
  cK N n n (mat enc n f) k=k:=by
 have hN:=hF.lt
 (unfold cK; rw[ae]; unfold cB)
 refine aC (λt:Nat=>(t:Int)) n (by omega) ?_ ?_
 ·intro i hi K;unfold br;dsimp only;rw[akP (by omega:(i:Int)<(n:Int)),akS];refine aC (λt:Nat=>(t:Int)) i (by omega) ?_ ?_
  ·intro j hj K';have hj2:j<n:=by omega
   unfold bt;dsimp only;rw[akP (by omega:(j:Int)<(i:Int)),akS,re hn hi hj2];unfold kq kr;dsimp only;rw[re hn hj2 hi];unfold kq kr;dsimp only;rw[Gw hF (B:=B) (by omega) (hf i j hi hj2) (hf j i hj2 hi)];unfold kq kr;dsimp only;have e:xG (f i j - f j i).num=0:=by
    have:f i j - f j i=0:=by rw[hs i j hi hj2]; grind
    rw[this]; rfl
   rw[mZ,e,rb,aa akN];rfl
  ·intro K';unfold bt;dsimp only;rw[akQ (by omega:¬(i:Int)<(i:Int)),akR,aa akN];rfl
 ·intro K;unfold br;dsimp only;rw[akQ (by omega:¬(n:Int)<(n:Int)),akR]
def Lx {N B n:Nat} (hF:Fuel N) (hn:n<=1000) {f:Nat->Nat->Rat} (hf:rT B n f) (hs:∀ a b,a<n->b<n->f a b=f b a) (hB:(B+1)*4 ^ n<=100000000000) (k:Kz7) :
  d8 N n n (mat enc n f) (λt _=>k t)=k (xI n n 0 3 f):=by
 have hN:=hF.lt;have hB2:B<=300000000000:=by have:0<4 ^ n:=alZ (by decide);have h1:(B+1)*1<=(B+1)*4 ^ n:=akX _ this;omega
 unfold d8 jl;have e:((n:Int)==(n:Int))=((0:Int)==0):=by simp
 rw[e,rb,OZ hF hB2 hn hf hs]
 (unfold f_; rw[ae]; unfold cR)
 exact EB hF hn k n 0 B N 3 f (by omega) (by omega) hf hB
def LR {N B n c:Nat} (hF:Fuel N) (hB:4*B+1<=300000000000) (hn:n<=1000) (hc:c<n) (s:Int) {f:Nat->Nat->Rat} (hf:rT B n f) (h0:f c c ≠ 0) (e0:List RY2->Bool) :
  af N (Cb N s (c:Int) (c*n+c) (n:Int) (n:Int) e0) (((c+1:Nat):Int),mat dx n f)=e0 (mat dx n (fo f c n)):=by
 have hN:=hF.lt;rw[<- A2 f c dx n];refine wt (λi:Nat=>((i:Int),mat dx n (fo f c i))) (c+1) n (by omega) (by omega) ?_ ?_
 ·intro i hi1 hi2 K;unfold Cb;dsimp only;have hne:¬(c*n+c=i*n+c):=by
   intro h;have:c*n=i*n:=by omega
   have:=amj (by omega) this;omega
  rw[akP (by omega:(i:Int)<(n:Int)),akS,uR hn hi2 hc,akQ hne,aa (a:=(!false&&true)) rfl,EU,EU,m0 dx n _ hi2 hc,m0 dx n _ hc hc,tA,A3];have hp:(f c c).num ≠ 0:=λh=>h0 (tQ.1 h)
  have bx:=hf i c hi2 hc;have bp:=hf c c hc hc;have bq:=Hy bx bp hp;have hq:=λkk=>OR (N:=N) (b1:=false) (b2:=false) hF (B:=B) (by omega) bx bp hp kk
  have he:∀ x:Rat,dx x=((decide (x.num<0),aj x.num.natAbs),(false,aj x.den)):=λx=>rfl
  rw[he (f i c),he (f c c)];dsimp only;rw[hq];unfold kqR krR;dsimp only;rw[LB hF (B:=4*B+1) hB hn hi2 hc (by omega) (uN hf hc h0) (bq.mono (by omega)),aa akN];have:mat dx n (fo f c (i+1))=mat dx n (pz (fo f c i) i c (f i c / f c c) n):=ko _ _ (λa b _ hb=>by
   rw[yc (by omega)];unfold pz;by_cases h1:a=i
   ·rw[if_pos h1,if_pos ⟨h1,hb⟩,tA,A3]
   ·rw[if_neg h1,if_neg (by omega)])
  rw[this];rfl
 ·intro K;unfold Cb;dsimp only;rw[akQ (by omega:¬(n:Int)<(n:Int)),akR]
def ID {N n c:Nat} (hF:Fuel N) (hn:n<=1000) (hc:c<n) {f:Nat->Nat->Rat} (e0:Int->Bool) (e1:Bool):∀(d i M:Nat),i+d=n->d<M ->
  af M (Ce N (c:Int) (n:Int) (n:Int) (mat dx n f) e0 e1) ((i:Int))=if wc (λi=>f c i) i d=true then e1 else e0 1:=by
 intro d;induction d with
 | zero=>
  intro i M hi hM;cases M with
  | zero=>omega
  | succ M=>
   show Ce _ _ _ _ _ _ _ (i:Int) (af M _)=_;unfold Ce wc;dsimp only;rw[akQ (by omega:¬(i:Int)<(n:Int)),akR,if_pos rfl]
 | succ d ih=>
  intro i M hi hM;cases M with
  | zero=>omega
  | succ M=>
   have hi2:i<n:=by omega
   show Ce _ _ _ _ _ _ _ (i:Int) (af M _)=_;rw[Ce];have he:∀ x:Rat,dx x=((decide (x.num<0),aj x.num.natAbs),(false,aj x.den)):=λx=>rfl
   rw[akP (by omega:(i:Int)<(n:Int)),akS,uR hn hc hi2,m0 dx n _ hc hi2,he (f c i)];dsimp only;rw[yp,Ri,wc];by_cases hz:f c i=0
   ·rw[akP hz,alK,akR,aa akN,alW];exact ih (i+1) M (by omega) (by omega)
   ·rw[akQ hz,alu,akS,anr,if_neg (by decide)]
def UR (n c:Nat) (f:Nat->Nat->Rat):Prop:=∀ a b,c<=a->c<=b->a<n->b<n->f a b=f b a
def N8 {n c:Nat} {f:Nat->Nat->Rat} (h:UR n c f) (hc:c<n):UR n (c+1) (fo f c n):=by intro a b ha hb han hbn;unfold fo;rw[if_pos ⟨by omega,han⟩,if_pos ⟨by omega,hbn⟩,h a b (by omega) (by omega) han hbn,h a c (by omega) (by omega) han hc,h c b (by omega) (by omega) hc hbn,Pf]
def Ls {N n:Nat} (hF:Fuel N) (hn:n<=1000) (k:Kz7):∀(d c B M:Nat) (s:Int) (f:Nat->Nat->Rat),c+d=n->d<M->rT B n f->UR n c f->(B+1)*4 ^ d<=100000000000 ->
  af M (Cd N (n:Int) (n:Int) (λt=>k t) (λt=>k t)) (s,(c:Int),mat dx n f)=k (xI n d c s f):=by
 intro d;induction d with
 | zero=>
  intro c B M s f hc hM _ _ _;cases M with
  | zero=>omega
  | succ M=>
   show Cd _ _ _ _ _ (s,(c:Int),mat dx n f) (af M _)=_;rw[Cd];rw[akQ (by omega:¬(c:Int)<(n:Int)),akR];rfl
 | succ d ih=>
  intro c B M s f hc hM hf hsy hB;cases M with
  | zero=>omega
  | succ M=>
   have hN:=hF.lt;have hcn:c<n:=by omega
   have h4:(4*B+1+1)*4 ^ d<=100000000000:=by
    have h1:(4*B+1+1)*4 ^ d<=(B+1)*4*4 ^ d:=akU _ (by omega);have h2:(B+1)*4*4 ^ d=(B+1)*4 ^ (d+1):=by rw[ak2,ak1,akT 4 (4 ^ d)]
    omega
   have hB2:4*B+1+1<=100000000000:=by have:0<4 ^ d:=alZ (by decide);have h1:(4*B+1+1)*1<=(4*B+1+1)*4 ^ d:=akX _ this;omega
   have he:∀ x:Rat,dx x=((decide (x.num<0),aj x.num.natAbs),(false,aj x.den)):=λx=>rfl
   show Cd _ _ _ _ _ (s,(c:Int),mat dx n f) (af M _)=_;rw[Cd];rw[akP (by omega:(c:Int)<(n:Int)),akS,uR hn hcn hcn,m0 dx n _ hcn hcn,he (f c c)];dsimp only;rw[yp,Hb,xI];by_cases hneg:(f c c).num<0
   ·rw[akP hneg,akS,if_pos hneg]
   ·rw[if_neg hneg,yp,uq];rw[akQ hneg,akR];by_cases h0:f c c=0
    ·rw[if_pos h0,akP h0,akS,aa akN];rw[show(c:Int)+1=((c+1:Nat):Int) from rfl,ID hF hn hcn _ _ d (c+1) N (by omega) (by omega)];have ez:wc (λi=>f c i) (c+1) d=wc (λi=>f i c) (c+1) d:=AH _ _ (λj h1 h2=>hsy c j (by omega) (by omega) hcn (by omega));rw[ez];by_cases hz:wc (λi=>f i c) (c+1) d=true
     ·rw[if_pos hz,if_pos hz,aa akN];exact ih (c+1) B M 2 f (by omega) (by omega) hf (λa b ha hb=>hsy a b (by omega) (by omega)) (by have:(B+1)*4 ^ d<=(4*B+1+1)*4 ^ d:=akU _ (by omega);omega)
     ·rw[if_neg hz,if_neg hz]
    ·rw[if_neg h0,akQ h0,akR,aa akN];rw[show(c:Int)+1=((c+1:Nat):Int) from rfl,LR hF (by omega) hn hcn s hf h0,aa akN];exact ih (c+1) (4*B+1) M s (fo f c n) (by omega) (by omega) (uN hf hcn h0) (N8 hsy hcn) h4
def fm (n:Nat) (l:List Fl):Nat->Nat->Rat:=λi j=>ru (ofE (l.getD (i*n+j) none))
def JX {α:Type} (g:Rat->α) {n:Nat} {l:List Fl} (h:l.length=n*n):l.map (λx=>g (ru (ofE x)))=mat g n (fm n l):=by
 apply List.ext_getElem?;intro t;by_cases ht:t<n*n
 ·unfold mat;rw[List.getElem?_map,List.getElem?_map,List.getElem?_range ht,List.getElem?_eq_getElem (by omega)];simp only[aml];unfold fm;have:t / n*n+t%n=t:=by rw[akT]; exact alM t n
  rw[this,List.getD_eq_getElem?_getD,List.getElem?_eq_getElem (by omega)];rfl
 ·rw[List.getElem?_eq_none (by rw[amO]; omega),List.getElem?_eq_none (by rw[rm]; omega)]
def oz {l:List Fl} (h:bg l=true) {i:Nat} (hi:i<l.length):bA (l.getD i none)=true:=by unfold bg at h;exact kH.1 h i hi
def AllW (l:List Fl):Prop:=∀ x,x ∈ l->FW x
def AllW.get {l:List Fl} (h:AllW l) {i:Nat} (hi:i<l.length):FW (l.getD i none):=by rw[List.getD_eq_getElem?_getD,List.getElem?_eq_getElem hi];exact h _ (al1 hi)
def Ed {n:Nat} {l:List Fl} (h:l.length=n*n) (hf:bg l=true):rT 1200 n (fm n l):=by intro a b ha hb;have:=kT ha hb;exact QW (oz hf (by omega))
def Kq {N:Nat} (x:Int) (k:Kz6):G_ N x k=k (decide (0<=x/\x<=12)):=by
 unfold G_ SX;by_cases h:x>=0
 ·rw[akP h,show(true==true)=true from rfl,akS];congr 1;by_cases h2:x<=12
  ·rw[akP h2,akP ⟨h,h2⟩]
  ·rw[akQ h2,akQ (by omega)]
 ·rw[akQ h,show(false==true)=false from rfl,akR,akQ (by omega)]
def J1 {a b:Int} (h1:0<=a/\a<=12) (h2:0<=b/\b<=12):0<=a*b/\a*b<=144:=by have h3:a*b<=12*b:=Int.mul_le_mul_of_nonneg_right h1.2 h2.1;have h4:0<=a*b:=Int.mul_nonneg h1.1 h2.1;omega
def q_ {N:Nat} (hN:1000<=N) (a b:Int) (l:List Fl) (k:Kz7):Mr N a b l k=k (chk a b l):=by
 (unfold Mr; rw[ae]; unfold SE chk)
 rw[Kq];by_cases h1:0<=a/\a<=12
 ·rw[akP h1,show((!true)==false)=true from rfl,akS,Kq];by_cases h2:0<=b/\b<=12
  ·have h3:=J1 h1 h2;rw[akP h2,if_pos ⟨h1,h2⟩,show(!true)=false from rfl,akR,aa akN];by_cases h4:(l.length:Int)=a*b
   ·have:(((l.length:Nat):Int) != a*b)=false:=by simp[h4]
    have h6:l.length<=144:=by rw[<- h4]at h3; omega
    rw[this,akR,if_pos h4,q9 l ⟨by omega,by omega⟩];cases h5:bg l
    ·rfl
    ·rfl
   ·have:(((l.length:Nat):Int) != a*b)=true:=by simp[h4]
    rw[this,akS,if_neg h4]
  ·rw[akQ h2,if_neg (λh=>h2 h.2),show(!false)=true from rfl,akS]
 ·rw[akQ h1,if_neg (λh=>h1 h.1)]; rfl
def HW {n:Nat} {l:List Fl} (hn:n<=12) (h:l.length=n*n) (hf:bg l=true):chk n n l=0:=
 pZ.2 ⟨⟨by omega,by omega⟩,by rw[h,alb],hf⟩
def vL {α:Type} (g:Fl->α) {l:List Fl} {t:Nat} (ht:t<l.length):(l.take (t+1)).map g=(l.take t).map g++[g (l.getD t none)]:=by rw[al9 ht,amH,List.getD_eq_getElem?_getD,List.getElem?_eq_getElem ht]; rfl
def Er {N n:Nat} (hF:Fuel N) {l:List Fl} (hn:n<=12) (h:l.length=n*n) (hf:bg l=true) (hw:AllW l) (k:List RY1->Bool) :
  ji N n n l k=k (mat enc n (fm n l)):=by
 have hN:=hF.lt;have hl:=ur (n:=n) (by omega)
 (unfold ji; rw[ae]; unfold jc)
 rw[q_ (by omega),HW hn h hf,rb,<- JX enc h];refine aC (λt:Nat=>((t:Int),(l.take t).map (λx=>enc (ru (ofE x))))) l.length (by omega) ?_ ?_
 ·intro t ht K;unfold de;dsimp only;rw[akP (by omega:(t:Int)<(l.length:Int)),akS,aa akO,akW,Gu hF (oz hf ht) (hw.get ht)];unfold kq kr;dsimp only;rw[vL _ ht,aa (akP (by rw[al4,amO,alx]; simp only[als,amY]; omega)),aa akN];rfl
 ·intro K;unfold de;dsimp only;rw[akQ (by omega:¬(l.length:Int)<(l.length:Int)),akR,alz]
def Lp {N n:Nat} (hF:Fuel N) {l:List Fl} (hn:n<=12) (h:l.length=n*n) (hf:bg l=true) (hw:AllW l) (a b:Int) (k:List RY2->Bool) :
  ug N a b l k=k (mat dx n (fm n l)):=by
 have hN:=hF.lt;have hl:=ur (n:=n) (by omega)
 (unfold ug; rw[ae]; unfold sQ)
 rw[<- JX dx h];refine aC (λt:Nat=>((t:Int),(l.take t).map (λx=>dx (ru (ofE x))))) l.length (by omega) ?_ ?_
 ·intro t ht K;unfold lL;dsimp only;rw[akP (by omega:(t:Int)<(l.length:Int)),akS,aa akO,akW,Lr hF (oz hf ht) (hw.get ht)];unfold kqR krR;dsimp only;rw[vL _ ht,aa (akP (by rw[amO,alx]; omega)),aa akN];rfl
 ·intro K;unfold lL;dsimp only;rw[akQ (by omega:¬(l.length:Int)<(l.length:Int)),akR,alz]
def Io {N n:Nat} (hF:Fuel N) (hn:n<=12) (k:List RY2->Bool):rF N n n k=k (List.replicate (n*n) ((false,[]),(false,[]))):=by
 have hN:=hF.lt;have hl:=ur (n:=n) (by omega)
 (unfold rF; rw[ae]; unfold qI)
 have h0:([]:List RY2)=List.replicate 0 ((false,[]),(false,[])):=rfl;rw[h0];refine aC (λt:Nat=>((t:Int),List.replicate t ((false,[]),(false,[])))) (n*n) (by omega) ?_ ?_
 ·intro t ht K;unfold jZ;dsimp only;rw[<- alb,aa akN,akP (by omega:(t:Int)<((n*n:Nat):Int)),akS,aa (akP (by rw[amb]; omega)),aa akN,amr];rfl
 ·intro K;unfold jZ;dsimp only;rw[<- alb,aa akN,akQ (by omega:¬((n*n:Nat):Int)<((n*n:Nat):Int)),akR]
def F3 {α:Type} (l:List α) (z:α) {t:Nat} (ht:t<=l.length):(l.take t++List.replicate (l.length - t) z).length=l.length:=by rw[al4,alx,amb]; omega
def F4 {α:Type} (l:List α) (z:α) {t:Nat} (ht:t<l.length):(l.take t++List.replicate (l.length - t) z).set t (l.getD t z)=l.take (t+1)++List.replicate (l.length - (t+1)) z:=by
 have h1:(l.take t).length=t:=by rw[alx]; omega
 have h2:l.length - t=(l.length - (t+1))+1:=by omega
 rw[am0 _ _ (by omega),h1,alq,h2,alB,List.set_cons_zero,al9 ht,ak8,List.getD_eq_getElem?_getD,List.getElem?_eq_getElem ht];rfl
def QL {α:Type} (g:Rat->α) (n:Nat) (f:Nat->Nat->Rat) {t:Nat} (ht:t<n*n) (z:α):∃ a b,a<n/\b<n/\(mat g n f).getD t z=g (f a b):=by
 have hn:0<n:=by
  rcases al_ n with h0 | h0
  ·rw[h0]at ht; omega
  ·exact h0
 refine⟨t / n,t%n,amM ht,ak5 _ hn,?_⟩;have:=m0 g n f (amM ht) (ak5 t hn) z;rw[show t / n*n+t%n=t from by rw[akT]; exact alM t n]at this;exact this
def Iu {N n B:Nat} (hF:Fuel N) (hB:B<=2000000000100) (hn:n<=12) {f:Nat->Nat->Rat} (hf:rT B n f) (k:List RY2->Bool) :
  VF N n n (mat dx n f) k=k (mat dx n f):=by
 have hN:=hF.lt;have hl:=ur (n:=n) (by omega)
 (unfold VF; rw[ae]; unfold SY)
 rw[Io hF hn];have hlen:=rm dx n f;have h0:List.replicate (n*n) (((false,[]),(false,[])):RY2)=(mat dx n f).take 0++List.replicate ((mat dx n f).length - 0) ((false,[]),(false,[])):=by rw[hlen]; rfl
 rw[h0];refine aC (λt:Nat=>((t:Int),(mat dx n f).take t++List.replicate ((mat dx n f).length - t) ((false,[]),(false,[])))) (mat dx n f).length (by omega) ?_ ?_
 ·intro t ht K;unfold E9;dsimp only;have hfl:=F3 (mat dx n f) (((false,[]),(false,[])):RY2) (t:=t) (by omega);rw[akP (by omega:(t:Int)<((mat dx n f).length:Int)),akS,akW,hfl,aa akO,aa (akP ht),aa akO];obtain⟨a,b,ha,hb,hm⟩:=QL dx n f (t:=t) (by omega) ((false,[]),(false,[]));have hs:=F4 (mat dx n f) (((false,[]),(false,[])):RY2) ht;rw[hm]at hs ⊢;have he:∀ x:Rat,dx x=((decide (x.num<0),aj x.num.natAbs),(false,aj x.den)):=λx=>rfl
  have hset:=λb1 b2 l1 l2 kk=>OC (N:=N) hF hB (hf a b ha hb) b1 b2 l1 l2 kk
  generalize List.take t (mat dx n f)++List.replicate ((mat dx n f).length - t) ((false,[]),false,[])=L at *;rw[he (f a b)];dsimp only;rw[hset];unfold kqR krR;dsimp only;rw[aa akN];exact an2 (λl=>K ((t:Int)+1,l)) hs
 ·intro K;unfold E9;dsimp only;rw[akQ (by omega),akR,alz,alq,alv,alp]
def zJ {n:Nat} (hn:n<=12):(1200+1)*4 ^ n<=100000000000:=by
 have h1:4 ^ n<=4 ^ 12:=ak6 (by decide) hn;have h2:(4:Nat) ^ 12=16777216:=by decide
 rw[h2]at h1;have h3:(1200+1)*4 ^ n<=(1200+1)*16777216:=akX _ h1;omega
def NF (n:Nat) (l:List Fl):Prop:=∀ a b,a<n->b<n->fm n l a b=fm n l b a
def CG (n:Nat) (l:List Fl):Bool:=xI n n 0 3 (fm n l)==3
def Gm {N n:Nat} (hF:Fuel N) {l:List Fl} (hn:n<=12) (h:l.length=n*n) (hf:bg l=true) (hw:AllW l) (hs:NF n l) (k:Ky6) :
  kb N n n l k=k (xI n n 0 3 (fm n l)) 0:=by
 (unfold kb; rw[ae]; unfold j8)
 rw[Er hF hn h hf hw];exact Lx hF (by omega) (Ed h hf) hs (zJ hn) (λt=>k t 0)
def xj {N n:Nat} (hF:Fuel N) {l:List Fl} (hn:n<=12) (h:l.length=n*n) (hf:bg l=true) (hw:AllW l) (hs:NF n l) (k:Kz6) :
  cO N n n l k=k (CG n l):=by
 unfold cO pb;rw[Gm hF hn h hf hw hs];rfl
def xh {N n:Nat} (hF:Fuel N) {l:List Fl} (hn:n<=12) (h:l.length=n*n) (hf:bg l=true) (hw:AllW l) (hs:NF n l) (k:Kz6) :
  Kj N n n l k=k (CG n l):=by
 have hN:=hF.lt;unfold Kj RB zF yQ;rw[Lp hF hn h hf hw];dsimp only
 (unfold R6; rw[ae]; unfold M4)
 rw[Iu (B:=1200) hF (by decide) hn (Ed h hf)];exact Ls hF (by omega) (λt=>k (t==3)) n 0 1200 N 3 (fm n l) (by omega) (by omega) (Ed h hf) (λa b _ _=>hs a b) (zJ hn)
def OB (N:Nat) (a b:Nat) (k:Kz6):sQ6 N a b k=k (decide (cn (some a)=cn (some b))):=by unfold sQ6 GQ6;simp only[EQ,vb,DV,Dm];rw[<- NW a b (.inr trivial)];rfl
end Go.Proofs.YtbiingchhnlcnaaGreatDoor
end
section
namespace Go.Proofs.YtbiingchhnlcnaaGreatDoor
open Go Go.Mach Ieee
set_option maxRecDepth 100000
def Dl {N:Nat} (hN:1000<=N) (k:Kz6):PC N k=k true:=by
 obtain⟨M,rfl⟩:∃ M,N=M+1000:=⟨N - 1000,by omega⟩
 kernel_rfl
def RS {N:Nat} (hN:1000<=N) (k:Ky5):nY N 1 k=k false (aj 1):=Bt (N:=N) 1 (by decide) (pJ hN (by decide)) (by omega) k
def Y6 (a b:Nat):flt (some a) (some b)=((Ieee.double.read a).order (Ieee.double.read b)==some .lt):=rfl
def RM (a b:Nat):feq (some a) (some b)=((Ieee.double.read a).order (Ieee.double.read b)==some .eq):=rfl
def Wt (a b:Nat):fgt (some a) (some b)=((Ieee.double.read a).order (Ieee.double.read b)==some .gt):=rfl
def NJ {b:Nat} (hb:W64 b) {s:Bool} {m:Nat} {i:Int} (h:Ieee.double.read b=.number s m i):∃ c,Cv (some b)=some c/\W64 c/\Ieee.double.read c=.number false m i:=by
 have e:Ieee.double.read (b%9223372036854775808)=.number false m i:=by
  obtain⟨hs,hlt,h⟩:=m_ h;unfold Format.read;simp only[iJ,ta,mn,xl];have e1:b%9223372036854775808%9223372036854775808=b%9223372036854775808:=by omega
  have e2:(b%9223372036854775808 / 9223372036854775808%2==1)=false:=by rw[beq_eq_false_iff_ne]; omega
  rw[e1,e2];rcases h with⟨h1,rfl,rfl⟩ | ⟨h1,rfl,rfl⟩
  ·rw[if_pos h1]
  ·rw[if_neg (by omega),if_pos hlt]
 have hn:isNaN (b%9223372036854775808)=false:=by unfold isNaN; rw[e]; rfl
 refine⟨b%9223372036854775808,?_,by unfold W64 at *; omega,e⟩;show js _=_;unfold js; rw[hn]; rfl
def CB (N:Nat) {x:Fl} (hx:bA x=true) (hw:FW x) (k:Kz6):vK N x 0 k=k false:=by
 obtain⟨b,s,m,i,rfl,h⟩:=mT hx;obtain⟨c,hc,hcw,hcr⟩:=NJ (hw b rfl) h;have hp:=qp hcr;have hg:=GV hcr
 (unfold vK; rw[ae]; unfold Jo)
 show k (fgt (Cv (some b)) (some 9218868437227405311))=_;rw[hc];congr 1;have hr:Ieee.double.read 9218868437227405311=.number false 9007199254740991 971:=by decide
 rw[Wt,hcr,hr];simp only[Datum.order];have hmin:min i 971=i:=by omega
 have e0:(i - i).toNat=0:=by omega
 rw[hmin,e0];have s1:signed false m 0=((m:Nat):Int):=rfl;have s2:signed false 9007199254740991 (971 - i).toNat=((9007199254740991 <<< (971 - i).toNat:Nat):Int):=rfl;rw[s1,s2,Nat.shiftLeft_eq];have hpw:0<2 ^ (971 - i).toNat:=ak4 _;have hle:9007199254740991<=9007199254740991*2 ^ (971 - i).toNat:=alE _ hpw;generalize 9007199254740991*2 ^ (971 - i).toNat=q at hle;have:compare (m:Int) (q:Int) ≠ .gt:=λe=>by have:=Int.compare_eq_gt.1 e; omega
 cases e:compare (m:Int) (q:Int)with
 | gt=>exact absurd e this
 | eq=>rfl
 | lt=>rfl
def MH (d:Datum):W64 (Ieee.double.write d):=by
 cases d with
 | number s m i=>exact GO s m i
 | infinity s=>
  have:Ieee.double.write (.infinity s)=Ieee.double.word s 9218868437227405312:=by rw[<- mn]; rfl
  rw[this]; exact Cn s (by decide)
 | nan s f=>
  have:Ieee.double.write (.nan s f)=Ieee.double.word s (9218868437227405312+f%4503599627370496):=by rw[<- mn,<- ta]; rfl
  rw[this]; exact Cn s (by omega)
def JW {o:Option Datum}:FW (o.map Ieee.double.write):=by
 intro b hb;cases o with
 | none=>cases hb
 | some d=>cases hb; exact MH d
def ML {f:Nat->Nat->Option Nat} (hf:∀ a b c,f a b=some c->W64 c) (x y:Fl):FW (F2 f x y):=by
 intro c hc;cases x with
 | none=>cases hc
 | some a=>cases y with
  | none=>cases hc
  | some b=>exact hf a b c hc
def Jj (x y:Fl):FW (cV x y):=ML (λa b c h=>JW c h) x y
def P3 (x y:Fl):FW (ay x y):=ML (λa b c h=>JW c h) x y
def WB (xs:List Fl):Nat->Fl
 | 0=>some 0
 | n+1=>fmm true (WB xs n) (Cv (xs.getD n none))
def GE1 (x:Fl):Prop:=∃ b,x=some b/\W64 b/\(Ieee.double.read b=.infinity false \/ ∃ m i,Ieee.double.read b=.number false m i/\4503599627370496<=m/\m<9007199254740992 /\ -52<=i)
def Dv (x:Fl):Prop:=∃ b,x=some b/\(Ieee.double.read b=.infinity false \/ ∃ m i,Ieee.double.read b=.number false m i/\m ≠ 0)
def Y7 (a b c:Fl):Int:=cond (!bg [a,b,c]) 4 (cond (feq a (some 0)&&(feq b (some 0)&&feq c (some 0))) 251 0)
def Y4 (f g:K4->Bool):Prop:=∃ a b c d n,(a.isSome=true/\b.isSome=true/\c.isSome=true/\d.isSome=true)/\(∀ κ,f κ=κ a b c d n)/\(∀ κ,g κ=κ a b c d n)
set_option maxRecDepth 4000
def WC {a0 a1 a2 a3 a4 a5 a6 a7 a8:Fl} (h:bg [a0,a1,a2,a3,a4,a5,a6,a7,a8]=true):chk 3 3 [a0,a1,a2,a3,a4,a5,a6,a7,a8]=0:=pZ.2 ⟨by decide,rfl,h⟩
set_option maxRecDepth 4000
def Lg {b:Nat} (hb:W64 b) {s:Bool} (h:Ieee.double.read b=.infinity s):Cv (some b)=some 9218868437227405312:=by
 unfold Format.read at h;simp only[iJ,ta,mn]at h;unfold W64 at hb;split at h
 ·cases h
 ·split at h
  ·cases h
  ·split at h
   ·rename_i h1 h2 h3;show js (b%9223372036854775808)=_;have:b%9223372036854775808=9218868437227405312:=by omega
    rw[this]; decide
   ·cases h
def Qd {N:Nat} {x:Fl} (hw:FW x) (o:Bool) (k:Kz6):cond ((!feq x x)==false) (vK N x 0 (λcr=>cond cr (k true) (k o))) (k true)=k (o || !bA x):=by
 cases hf:bA x with
 | true=>rw[Oe hf,CB N hf hw]; cases o <;> rfl
 | false=>
  rw[alu,Bool.or_true];cases x with
  | none=>rfl
  | some b=>
   cases hr:Ieee.double.read b with
   | number s m i=>rw[Ec hr]at hf; cases hf
   | nan s f=>
    have:feq (some b) (some b)=false:=by rw[RM,hr]; rfl
    rw[this]; rfl
   | infinity s=>
    have h1:feq (some b) (some b)=true:=by rw[RM,hr]; cases s <;> rfl
    rw[h1];show vK N (some b) 0 _=_
    (unfold vK; rw[ae]; unfold Jo)
    rw[show((0:Int)==0)=true from rfl,akS];simp only[vh];rw[Lg (hw b rfl) hr];have h2:fgt (some 9218868437227405312) (some 9218868437227405311)=true:=by decide
    rw[h2,akS]
def Gn {N:Nat} {x:Fl} (hw:FW x) (o:Bool) (k:Kz6):zE N x o k=k (o || !bA x):=by
 (unfold zE; rw[ae]; unfold Ng)
 exact Qd hw o k
def Am (N:Nat) (x y:Fl) (o:Bool) (k:Kz6):zE N (cV x y) o k=k (o || !bA (cV x y)):=Gn (Jj x y) o k
def Ep (N:Nat) (x y:Fl) (o:Bool) (k:Ky7):nd N x y o k=k (ay x y) (o || !bA (ay x y)):=by
 (unfold nd; rw[ae]; unfold sF)
 rw[Gn (P3 x y)]
def W3 {x y:Fl} (hx:bA x=true) (hy:Dv y):Nn (fdiv x y):=by
 obtain⟨a,s,m,i,rfl,ha⟩:=mT hx;obtain⟨b,rfl,hb⟩:=hy;show Nn (((Ieee.double.read a).quotient (Ieee.double.fractionBits+2) (Ieee.double.read b)).map Ieee.double.write);rw[ha];rcases hb with hb | ⟨n,j,hb,hn⟩
 ·rw[hb]; exact AC _ _ _
 ·rw[hb]; simp only[Datum.quotient,if_neg hn]; exact AC _ _ _
end Go.Proofs.YtbiingchhnlcnaaGreatDoor
end
