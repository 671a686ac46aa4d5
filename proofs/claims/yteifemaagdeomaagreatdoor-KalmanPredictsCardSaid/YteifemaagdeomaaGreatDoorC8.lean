/- Laws in plain Lean. Conditions: none. -/
import Derived.Test.YteifemaagdeomaaGreatDoorD1
import Derived.Test.YteifemaagdeomaaGreatDoorFlA
set_option linter.defProp false
set_option linter.unusedVariables false
section
namespace Go.Proofs.YteifemaagdeomaaGreatDoor
open Go Go.Mach Ieee
def X7 {N n j:Nat} (hN:1000<=N) (hj:j<=900) (h:n<4294967296 ^ j):kj N (am n):=by have:=gl j n h;exact⟨by omega,by omega⟩
def vz {N n:Nat} (hN:1000<=N) (h:n<18446744073709551616):kj N (am n):=X7 (j:=2) hN (by decide) (by
 have:(4294967296:Nat) ^ 2=18446744073709551616:=by decide
 omega)
def at2 (n:Nat):aF .and .u64 (n:Int) 2047=((n%2048:Nat):Int):=by have:=ou n 11 (by decide);simpa using this
def JI (s:Bool) (m:Nat) (i:Int):∃ r,Ieee.double.nearest s m i=Ieee.double.word s r/\r<=9218868437227405312:=by
 unfold Format.nearest;split
 ·exact⟨0,rfl,by omega⟩
 ·rw[qh]; exact⟨_,rfl,aJ4 _ _⟩
def PQ (s:Bool) (m:Nat) (i:Int):W64 (Ieee.double.nearest s m i):=by obtain⟨r,h,hr⟩:=JI s m i;rw[h]; exact Kn s (by omega)
def as0 {N:Nat} (hN:1000<=N) {n:Nat} (h:n<=48):kl N n:=⟨by omega,by omega⟩
def abI (b:Nat):iY (some b)=decide (b%9223372036854775808<9218868437227405312):=by
 unfold iY Format.read;simp only[mJ,zl,qh];by_cases h1:b%9223372036854775808<4503599627370496
 ·rw[if_pos h1,aGQ (by omega)]; rfl
 ·rw[if_neg h1];by_cases h2:b%9223372036854775808<9218868437227405312
  ·rw[if_pos h2,aGQ h2]; rfl
  ·rw[if_neg h2,aGR h2];split <;> rfl
def Nn (x:Fl):Prop:=∃ b,x=some b/\isNaN b=false
def QS {x:Fl} (h:iY x=true):Nn x:=by
 cases x with
 | none=>cases h
 | some b=>
  rw[abI]at h;have:=aGW h;refine⟨b,rfl,?_⟩;rw[aJr];intro hc;have:=(kd b).1 hc;omega
def ahw (s:Bool) {r:Nat} (h:r<=9218868437227405312):Nn (some (Ieee.double.word s r)):=by
 refine⟨_,rfl,?_⟩;rw[aJr];intro hc;have h1:=(kd _).1 hc;have hw:Ieee.double.word s r%9223372036854775808=r:=by unfold Format.word; rw[mJ]; cases s <;> simp <;> omega
 omega
def Hb (s:Bool) (m:Nat) (i:Int):Nn (some (Ieee.double.nearest s m i)):=by obtain⟨r,h,hr⟩:=JI s m i;rw[h]; exact ahw s hr
abbrev K4:=Fl->Fl->Fl->Fl->Int->Bool
def kW:Nat->Nat->Int->Nat × Int
 | 0,m,e=>(m,e)
 | f+1,m,e=>if m%2=0 then kW f (m / 2) (e+1)else(m,e)
def yb:∀ f m e,m ≠ 0->m<2 ^ f->e<=(kW f m e).2/\(kW f m e).2<=e+f/\(kW f m e).1*2 ^ ((kW f m e).2 - e).toNat=m/\(kW f m e).1<=m
 | 0,m,e,h0,h=>by simp at h; omega
 | f+1,m,e,h0,h=>by
  unfold kW;split
  ·rename_i hm;obtain⟨h1,h2,h3,h4⟩:=yb f (m / 2) (e+1) (by omega) (by rw[aG3]at h; omega);refine⟨by omega,by omega,?_,by omega⟩;have:((kW f (m / 2) (e+1)).2 - e).toNat=((kW f (m / 2) (e+1)).2 - (e+1)).toNat+1:=by omega
   rw[this,aG3,<- aG2,h3]; omega
  ·refine⟨by omega,by omega,?_,aG4 _⟩;rw[Int.sub_self]; simp
def ajh {N:Nat} (hN:1000<=N) {m:Nat} {e:Int} (h0:m ≠ 0) (hm:m<2 ^ 64) (he1 : -2000<=e) (he2:e<=2000) (k:Ky3) :
  JX N m e k=k ((kW 64 m e).1:Int) (kW 64 m e).2:=by
 unfold JX UB;have key:∀ f:Nat,f<=64 -> ∀(m:Nat) (e:Int),m ≠ 0->m<2 ^ f->m<2 ^ 64 -> -2000<=e->e+f<=3000 -> ∀ M:Nat,f<M->ah M (pe N λa b=>k a b) ((m:Int),e)=k ((kW f m e).1:Int) (kW f m e).2:=by
  intro f;induction f with
  | zero=>intro _ m e h0 h; simp at h; omega
  | succ f ih=>
   intro hf m e h0 h h64 h1 h2 M hM;cases M with
   | zero=>omega
   | succ M=>
    show pe N _ ((m:Int),e) (ah M _)=_;have e2:Int.tmod (m:Int) 2=((m%2:Nat):Int):=by rw[aHL (by omega)]; rfl
    have e3:Int.tdiv (m:Int) 2=((m / 2:Nat):Int):=by rw[aHT (by omega)]; rfl
    simp only[pe,kW,e2,e3];by_cases hm:m%2=0
    ·have:(((m%2:Nat):Int)==0)=true:=by rw[hm]; rfl
     have ew:IntKind.wrap .u64 ((m / 2:Nat):Int)=((m / 2:Nat):Int):=by
      rw[au];have:(2:Nat) ^ 64=18446744073709551616:=by decide
      omega
     rw[this,aGT,ac aGO,if_pos hm,ew];exact ih (by omega) (m / 2) (e+1) (by omega) (by rw[aG3]at h; omega) (by omega) (by omega) (by omega) M (by omega)
    ·have:(((m%2:Nat):Int)==0)=false:=by
      have:m%2=1:=by omega
      rw[this]; rfl
     rw[this,aGS,if_neg hm]
 have:((m:Int)==0)=false:=by simp; omega
 rw[this,aGS];exact key 64 (aG4 _) m e h0 hm hm (by omega) (by omega) N (by omega)
def ad4 (N:Nat) (e:Int) (k:Ky3):JX N 0 e k=k 0 0:=by unfold JX UB; rfl
def ofE (x:Fl):Int × Int:=match x with
 | some b=>match Ieee.double.read b with
  | .number s m i=>if m=0 then(0,0)else((kW 64 m i).2,bB s (kW 64 m i).1)
  | _=>(0,0)
 | none=>(0,0)
def M0 {b:Nat} {s:Bool} {m:Nat} {i:Int} (h:Ieee.double.read b=.number s m i):ofE (some b)=if m=0 then(0,0)else((kW 64 m i).2,bB s (kW 64 m i).1):=by unfold ofE; simp only[h]
def Xj {N:Nat} (hN:1000<=N) {b:Nat} (hb:W64 b) {s:Bool} {m:Nat} {i:Int} (h:Ieee.double.read b=.number s m i) (k:Kx5) :
    V1 N (some b) k=if m=0 then k s 0 0 0 else k s ((kW 64 m i).1:Int) (kW 64 m i).2 0:=by
  obtain⟨h1,h2,h3⟩:=re h;have hpl:=w5 h;have hnn:isNaN b=false:=by rw[aJr]; intro hc; have:=(kd b).1 hc; omega
  have hbits:sk (some b)=b:=by simp only[sk,cnb,hnn]; rfl
  have hsg:(Int.fdiv (b:Int) (2 ^ 63)==1)=s:=by
    have e:(2:Int) ^ 63=((9223372036854775808:Nat):Int):=by decide
    rw[e,oS,h1];have hW:b / 9223372036854775808<2:=by have:=hb; omega
    have:b / 9223372036854775808=0\/b / 9223372036854775808=1:=by omega
    rcases this with h | h <;> rw[h] <;> rfl
  have fin:∀(e:Int),i=e - 1074 -> -1100<=e->e<=2100->Ob N (L5 N) (JX N) (some b) s e (m:Int) k=if m=0 then k s 0 0 0 else k s ((kW 64 m i).1:Int) (kW 64 m i).2 0:=by
    intro e he h5 h6;unfold Ob;rw[ac aGO,<- he];by_cases h0:m=0
    · subst h0; rw[if_pos rfl]; exact ad4 N i _
    · rw[if_neg h0,ajh hN h0 (by have:(2:Nat) ^ 64=18446744073709551616:=(by decide); omega) (by omega) (by omega)]
  unfold V1 K0;rw[LC,hbits];rw[hsg];have n2047:(((b / 4503599627370496%2048:Nat):Int)==2047)=false:=by simp; omega
  rw[n2047,aGS];rcases h3 with⟨g1,g2,g3⟩ | ⟨g1,g2,g3⟩
  · have e0:b / 4503599627370496%2048=0:=by omega
    have e1:b%4503599627370496=m:=by omega
    rw[e0,e1,aGR (by decide),aGS];exact fin 0 (by omega) (by omega) (by omega)
  · have e0:0<b / 4503599627370496%2048:=by omega
    have e1:IntKind.wrap .u64 (((b%4503599627370496:Nat):Int)+4503599627370496)=(m:Int):=by rw[au]; omega
    rw[aGQ (by omega:((b / 4503599627370496%2048:Nat):Int)>0),aGT,ac aGO,e1];exact fin _ (by omega) (by omega) (by omega)
def apl {N:Nat} (hN:1000<=N) {x:Fl} (hx:iY x=true) (hw:FW x) (k:Int->Bool->List Int->Bool):Wc N x k=exK (ofE x) k:=by
  obtain⟨b,s,m,i,rfl,h⟩:=wB hx;have hb:=hw b rfl;unfold Wc aaz;rw[Xj hN hb h,M0 h];by_cases h0:m=0
  · rw[if_pos h0,if_pos h0]
    have:∀ κ,P6 N 0 false κ=κ false (am 0):=λκ=>BA (N:=N) 0 (by decide) false (vz hN (by decide)) (by omega) κ
    rw[this];cases s
    · rw[aGS]; unfold exK; rfl
    · rw[aGT,LB _ _ (vz hN (by decide))]; unfold exK Bd; rfl
  · rw[if_neg h0,if_neg h0]
    have hpl:=w5 h;obtain⟨g1,g2,g3,g4⟩:=yb 64 m i h0 (by have:(2:Nat) ^ 64=18446744073709551616:=(by decide); omega);have hs:=vz (N:=N) (n:=(kW 64 m i).1) hN (by omega);rw[BA (N:=N) _ (by omega) false hs (by omega)];cases s
    · rw[aGS]
      show _=k (kW 64 m i).2 (decide ((((kW 64 m i).1:Nat):Int)<0)) (am (((kW 64 m i).1:Nat):Int).natAbs);rw[aGR (by omega),aHO]
    · rw[aGT,LB _ _ hs]; rfl
def EV (x:Int × Int) (v:Int) (E:Nat):Prop:=0<=x.1+E/\x.2*2 ^ (x.1+E).toNat=v
def EV.up {x:Int × Int} {v:Int} {E:Nat} (h:EV x v E) (F:Nat):EV x (v*2 ^ F) (E+F):=by
 obtain⟨h1,h2⟩:=h;refine⟨by omega,?_⟩;have:(x.1+((E+F:Nat):Int)).toNat=(x.1+E).toNat+F:=by omega
 rw[this,Int.pow_add,<- Int.mul_assoc,h2]
def EV.mul {x y:Int × Int} {v w:Int} {E F:Nat} (h:EV x v E) (g:EV y w F):EV (FV x y) (v*w) (E+F):=by
 obtain⟨h1,h2⟩:=h;obtain⟨g1,g2⟩:=g;refine⟨by simp only[FV]; omega,?_⟩;have:((FV x y).1+((E+F:Nat):Int)).toNat=(x.1+E).toNat+(y.1+F).toNat:=by simp only[FV]; omega
 rw[this,Int.pow_add,<- h2,<- g2];simp only[FV];ac_rfl
def EV.neg {x:Int × Int} {v:Int} {E:Nat} (h:EV x v E):EV (alB x) (-v) E:=⟨h.1,by rw[<- h.2]; exact aJZ _ _⟩
def Lt {x:Int × Int} {v:Int} {E:Nat} (h:EV x v E) {e:Int} (he:e<=x.1) (hE:0<=e+E):zz x e*2 ^ (e+E).toNat=v:=by unfold zz;rw[Int.mul_assoc,<- Int.pow_add,show(x.1 - e).toNat+(e+E).toNat=(x.1+E).toNat by omega];exact h.2
def EV.add {x y:Int × Int} {v w:Int} {E:Nat} (h:EV x v E) (g:EV y w E):EV (UW x y) (v+w) E:=by
 unfold UW;split
 ·rename_i h0;have:v=0:=by rw[<- h.2,h0,Int.zero_mul]
  rw[this,Int.zero_add]; exact g
 ·split
  ·rename_i h0;have:w=0:=by rw[<- g.2,h0,Int.zero_mul]
   rw[this,Int.add_zero]; exact h
  ·have hE:0<=min x.1 y.1+E:=by have:=h.1; have:=g.1; omega
   exact⟨hE,by rw[Int.add_mul,Lt h (by omega) hE,Lt g (by omega) hE]⟩
def EV.sgn {x:Int × Int} {v:Int} {E:Nat} (h:EV x v E):Ec x.2=Ec v:=by
 rw[<- h.2];have hp:=aeo (x.1+E).toNat;unfold Ec;rcases Int.lt_trichotomy x.2 0 with h | h | h
 ·have:=Int.mul_neg_of_neg_of_pos h hp;rw[if_neg (by omega),if_pos h,if_neg (by omega),if_pos this]
 ·rw[h,Int.zero_mul]
 ·have:=Int.mul_pos h hp;rw[if_neg (by omega),if_neg (by omega),if_neg (by omega),if_neg (by omega)]
def Ex.mono {E B E' B':Nat} {x:Int × Int} (h:Ex E B x) (hE:E<=E') (hB:B<=B'):Ex E' B' x:=⟨by have:=h.1; omega,by have:=h.2.1; omega,dE h.2.2 hB⟩
def Ex.mul {E B E' B':Nat} {x y:Int × Int} (h:Ex E B x) (g:Ex E' B' y):Ex (E+E') (B+B') (FV x y):=
 ⟨by have:=h.1; have:=g.1; simp only[FV]; omega,by have:=h.2.1; have:=g.2.1; simp only[FV]; omega,by show bg _ (x.2*y.2).natAbs;rw[aIE]; exact iV h.2.2 g.2.2⟩
def Ex.neg {E B:Nat} {x:Int × Int} (h:Ex E B x):Ex E B (alB x):=⟨h.1,h.2.1,by show bg _ (-x.2).natAbs; rw[aJt]; exact h.2.2⟩
def JE {E B:Nat} {x:Int × Int} (h:Ex E B x) {e:Int} (he : -(E:Int)<=e):bg (B+2*E) (zz x e).natAbs:=by unfold zz;rw[aIE,Int.natAbs_pow];refine dE (Ck h.2.2 _) ?_;have:=h.2.1; omega
def Ex.add {E B:Nat} {x y:Int × Int} (h:Ex E B x) (g:Ex E B y):Ex E (B+2*E+1) (UW x y):=by
 unfold UW;split
 ·exact g.mono (aG4 _) (by omega)
 ·split
  ·exact h.mono (aG4 _) (by omega)
  ·refine⟨by have:=h.1; have:=g.1; show -(E:Int)<=min x.1 y.1; omega,by have:=h.2.1; show min x.1 y.1<=E; omega,?_⟩;have h1:=JE h (e:=min x.1 y.1) (by have:=h.1; have:=g.1; omega);have h2:=JE g (e:=min x.1 y.1) (by have:=h.1; have:=g.1; omega);exact qz (Dr h1 h2) (Int.natAbs_add_le _ _)
def ajc {N:Nat} (hN:1000<=N) {E B:Nat} {x:Int × Int} (hx:Ex E B x) {e:Int} (he : -(E:Int)<=e) (hB:B+2*E<=30000) (k0:Bool) (k1:Bool->List Int->Bool) (h0:x.1<=e->k0=Bd x.2 k1) (he2:x.1<=e->e=x.1) :
  VE N x.1 e (decide (x.2<0)) (am x.2.natAbs) k0 k1=Bd (zz x e) k1:=by
 unfold VE Zw;have hx1:=hx.1;have hx2:=hx.2.1;by_cases hc:x.1<=e
 ·rw[aGQ (by omega:e>=x.1),aGT,h0 hc];have:zz x e=x.2:=by unfold zz;rw[he2 hc,Int.sub_self]; simp
  rw[this]
 ·rw[aGR (by omega:¬ e>=x.1),aGS,ac aGO];have ew:IntKind.wrap .u64 (x.1 - e)=(((x.1 - e).toNat:Nat):Int):=by rw[au]; omega
  rw[ew,LA _ _ _ _ (Ld hN (by omega) hx.2.2)];congr 1;unfold zz bB;by_cases hz:x.2<0
  ·rw[aGQ hz,if_pos rfl,aHa,aIi,<- aJZ];congr 1; omega
  ·rw[aGR hz,if_neg (by decide),aHa,aIi];congr 1; omega
def SK {x:Fl} (hx:iY x=true):Ex 1100 53 (ofE x):=by
  obtain⟨b,s,m,i,rfl,h⟩:=wB hx;rw[M0 h];have hpl:=w5 h;have hpg:=PV h;by_cases h0:m=0
  · rw[if_pos h0]; exact⟨by decide,by decide,aG5 _⟩
  · rw[if_neg h0]
    obtain⟨g1,g2,g3,g4⟩:=yb 64 m i h0 (by have:(2:Nat) ^ 64=18446744073709551616:=(by decide); omega);refine⟨by show -((1100:Nat):Int)<=(kW 64 m i).2; omega,by show(kW 64 m i).2<=((1100:Nat):Int); omega,?_⟩;show bg 53 (bB s (kW 64 m i).1).natAbs;have:(bB s (kW 64 m i).1).natAbs=(kW 64 m i).1:=by unfold bB; cases s <;> simp
    rw[this];show _<2 ^ 53;have:(2:Nat) ^ 53=9007199254740992:=by decide
    omega
def LU:∀(f t c:Nat) (e:Int),t<f->kW f (2 ^ t*(2*c+1)) e=(2*c+1,e+t)
 | 0,t,c,e,h=>by omega
 | f+1,0,c,e,h=>by
  unfold kW;rw[aIK,aIS,if_neg (by omega)];simp
 | f+1,t+1,c,e,h=>by
  unfold kW;have e1:2 ^ (t+1)*(2*c+1)=2*(2 ^ t*(2*c+1)):=by rw[aG3]; ac_rfl
  rw[e1,if_pos (by omega),aHs _ (by decide),LU f t c (e+1) (by omega)];congr 1; omega
def ae5 {b:Nat} (hb:W64 b):(aF .and .u64 (b:Int) 9223372036854775808 != 0)=(b / 9223372036854775808%2==1):=by
 have e1:(9223372036854775808:Int)=((2 ^ 63:Nat):Int):=by decide
 have p63:(2:Nat) ^ 63=9223372036854775808:=by decide
 rw[e1,Br hb (by rw[p63]; omega)];have h1:b / 9223372036854775808%2=0\/b / 9223372036854775808%2=1:=by omega
 have h2:b.testBit 63=decide (b / 2 ^ 63%2=1):=Nat.testBit_eq_decide_div_mod_eq;rw[p63]at h2;rcases h1 with h | h
 ·have hz:b &&& 2 ^ 63=0:=by
   refine aI5 (λj=>?_);rw[aJL,aIG,Nat.zero_testBit];by_cases hj:63=j
   ·subst hj; rw[h2,h]; rfl
   ·rw[aGR hj,Bool.and_false]
  rw[hz,h]; rfl
 ·have hz:b &&& 2 ^ 63 ≠ 0:=by intro hc;have:=aJS (λn=>n.testBit 63) hc;simp only[aJL,aIG,Nat.zero_testBit,h2,h]at this;simp at this
  rw[h];generalize b &&& 2 ^ 63=z at hz ⊢;have:((z:Int) != 0)=true:=by simp; exact hz
  rw[this]; rfl
def LW {N:Nat} {b m:Nat} {i:Int} {s:Bool} (hpl:i<=971/\m<9007199254740992) (hb:W64 b) (k:Kx5) (E:Int) (hEi:i=E) (h5 : -1100<=E) (h6:E<=1100) (h0:m ≠ 0):Ha N (Qn N) (Qm N) (D9 N) (Tc N) (b:Int) 52 2047 1075 s (m:Int) E k=k s ((kW 64 m i).1:Int) (kW 64 m i).2 0:=by
 unfold Ha;obtain⟨t,c,hm⟩:=JK m h0;have ht0:0<2 ^ t:=aG5 t;have ht:t<64:=by
  rcases aHN t 64 with g | g
  ·exact g
  ·have g2:2 ^ 64<=2 ^ t:=aG7 (by decide) g;have g3:2 ^ t*1<=2 ^ t*(2*c+1):=aGZ _ (by omega);have g4:(2:Nat) ^ 64=18446744073709551616:=by decide
   omega
 rw[hm,apm N (by rw[<- hm]; omega),LU 64 t c i ht,ac (aGQ (by omega)),ac aGO,aGU,show min t 64=t by omega];have e2:(2:Int) ^ t=((2 ^ t:Nat):Int):=by rw[aIi]; rfl
 rw[e2,oS,aHs _ ht0,hEi]
def R5 {N:Nat} {b:Nat} (hb:W64 b) {s:Bool} {m:Nat} {i:Int} (h:Ieee.double.read b=.number s m i) (k:Kx5) :
  Gg N (some b) k=if m=0 then k s 0 0 0 else k s ((kW 64 m i).1:Int) (kW 64 m i).2 0:=by
 obtain⟨h1,h2,h3⟩:=re h;have hpl:=w5 h;have hnn:isNaN b=false:=by rw[aJr]; intro hc; have:=(kd b).1 hc; omega
 have hcnb:cnb b=b:=by simp only[cnb,hnn]; rfl
 have hcls:=Mp b;rw[hcnb]at hcls;have hE:b / 4503599627370496%2048<2047:=by omega
 rw[if_neg (Nat.ne_of_lt hE)]at hcls;have hc:(b / 4503599627370496%2048=0/\b%4503599627370496=m/\cls b=(if m=0 then 3 else 4)/\i = -1074)\/(b / 4503599627370496%2048 ≠ 0/\m=4503599627370496+b%4503599627370496/\cls b=5/\i=((b / 4503599627370496%2048:Nat):Int) - 1075):=by
  rcases h3 with⟨g1,g2,g3⟩ | ⟨g1,g2,g3⟩
  ·have e0:b / 4503599627370496%2048=0:=by omega
   have e1:b%4503599627370496=m:=by omega
   rw[if_pos e0,e1]at hcls;exact .inl ⟨e0,e1,hcls,by omega⟩
  ·have e0:b / 4503599627370496%2048 ≠ 0:=by omega
   rw[if_neg e0]at hcls;exact .inr ⟨e0,by omega,hcls,by omega⟩
 generalize hx:b / 4503599627370496%2048=x at hE hc;generalize hy:b%4503599627370496=y at hc;have hylt:y<4503599627370496:=by omega
 have goal0:Gg N (some b) k=(aj .i64 ((x:Int) - 1075)&&(cond ((cls b:Int)==1) (k false 0 0 4) (cond ((cls b:Int)==2) (k false 0 0 4) (cond ((cls b:Int)==3) (k s 0 0 0) (cond ((cls b:Int)==4) ((aj .i64 (((x:Int) - 1075)+1))&&(Ha N (Qn N) (Qm N) (D9 N) (Tc N) (b:Int) 52 2047 1075 s (y:Int) (((x:Int) - 1075)+1) k)) (D9 N 52 2047 1075 (λ(avw:Int)=>(Ha N (Qn N) (Qm N) (D9 N) (Tc N) (b:Int) 52 2047 1075 s (aF .or .u64 (y:Int) avw) ((x:Int) - 1075) k)))))))):=by unfold Gg aag;show VJ N (b:Int) 52 2047 1075 _=_;unfold VJ KW;rw[LN,hcnb,ae5 hb,<- h1,LJ,hx,hy]
 rw[goal0,ac aGO];clear goal0 hcls h1 h2 h3 hcnb hnn;rcases hc with⟨c1,c2,c3,c4⟩ | ⟨c1,c2,c3,c4⟩
 ·rw[c3];by_cases h0:m=0
  ·rw[if_pos h0,if_pos h0]; rfl
  ·rw[if_neg h0,if_neg h0,c2];show(aj .i64 (((x:Int) - 1075)+1)&&_)=_;rw[ac aGO];exact LW hpl hb k _ (by omega) (by omega) (by omega) h0
 ·have h0:m ≠ 0:=by omega
  rw[c3,if_neg h0];have eor:aF .or .u64 (y:Int) 4503599627370496=(m:Int):=by
   have p52:(2:Nat) ^ 52=4503599627370496:=by decide
   have:=gj y 1 52 (by omega) (by omega);rw[p52]at this;rw[show((4503599627370496*1:Nat):Int)=4503599627370496 from rfl]at this;rw[this]; omega
  rw[show((5:Int)==1)=false from rfl,aGS,show((5:Int)==2)=false from rfl,aGS,show((5:Int)==3)=false from rfl,aGS,show((5:Int)==4)=false from rfl,aGS,oO,eor];exact LW hpl hb k _ (by omega) (by omega) (by omega) h0
def X4 {z:Int}:(Ec z==0)=decide (z=0):=by
 unfold Ec;by_cases h:z=0
 ·rw[if_pos h,aGQ h]; rfl
 ·rw[if_neg h,aGR h];by_cases hl:z<0
  ·rw[if_pos hl]; rfl
  ·rw[if_neg hl]; rfl
def yd (p:Int × Int):Rat:=if 0<=p.1 then mkRat (p.2*((2 ^ p.1.toNat:Nat):Int)) 1 else mkRat p.2 (2 ^ (-p.1).toNat)
def aoX (a b:Int):imm true a b=max a b:=by
 unfold imm; simp only[aGT];by_cases h:a<=b
 ·have:max a b=b:=by omega
  rw[this];by_cases h2:b>a
  ·rw[aGQ h2]; rfl
  ·rw[aGR h2,aGS]; omega
 ·have:max a b=a:=by omega
  rw[this,aGR (by omega),aGS]
def al0 (n:Nat):¬((n:Nat):Int)<0:=by omega
def JJ (g:Bool):(g != false)=g:=by cases g <;> rfl
def aa4 {B s n:Nat} (h:bg B n):bg (B+s) (n*2 ^ s):=Ck h s
def IF {s:Nat}:bg (s+1) (2 ^ s):=by unfold bg; rw[aG3]; have:=aG5 s; omega
def UH:bg 1 1:=by unfold bg; decide
def ES:ai 1=[1]:=xy (by decide) (by decide)
def aph {w:Int} (k:Kx6):kq (mkRat w 1) k=kr w 1 k:=by unfold kq;rw[Rat.mkRat_one,Rat.num_intCast,Rat.den_intCast]
def U8 {N:Nat} (hF:Fuel N) (x:Fl) (s:Bool) (M e z:Int) (he : -1100<=e) (he2:e<=1100) (hz:bg 53 z.natAbs) (k:Kx6) :
  dA N (Gg N) (cG N) (Ql N) (Qo N) (Ge N) (Tf N) (Qh N) (X2 N) (Td N) x s M e (decide (z<0)) (ai z.natAbs) k=kq (yd (e,z)) k:=by
 have hN:=hF.lt;unfold dA;have n1:=λkk=>zQ (N:=N) (by omega) 1 (by decide) kk
 rw[show((1:Nat):Int)=1 from rfl]at n1;rw[n1,ac aGO,aoX];obtain⟨t,ht⟩:∃ t:Nat,max e (0 - e)=(t:Int):=⟨(max e (0 - e)).toNat,by omega⟩
 have ew:IntKind.wrap .u64 (max e (0 - e))=(t:Int):=by rw[au]; omega
 have htb:t<=1100:=by omega
 rw[ew,Xg t false false 1 (by omega) (by rw[ES]; simp; omega) (by rw[ES]; simp)];unfold zN;have e1:bB false (1*2 ^ t)=((2 ^ t:Nat):Int):=by unfold bB; rw[aIS]; rfl
 rw[e1,aGR (al0 (2 ^ t)),aHO];dsimp only;have hp:=aG5 t;have hzb:bg 2000 z.natAbs:=dE hz (by omega);have htb2:bg 2000 (2 ^ t):=dE IF (by omega);by_cases hc:e<0
 ·rw[aGQ hc,aGT];unfold Qh ahq;rw[JJ,F0 hF (B:=2000) (by decide) _ hzb htb2 hp,mz];unfold yd;dsimp only;have:(-e).toNat=t:=by omega
  rw[if_neg (by omega),this]
 ·rw[aGR hc,aGS];unfold X2 anZ;have hm:bg 4000 (z.natAbs*2 ^ t):=dE (iV hzb htb2) (by omega);rw[AM hF (by decide) hzb htb2,JJ];rw[un (decide (z<0)) _ _ (z.natAbs*2 ^ t) (λa b=>Td N false false a b (λc8 s7 c9 s8=>k c8 s7 c9 s8))];rw[zO];obtain⟨w,hw⟩:∃ w:Int,w=z*((2 ^ t:Nat):Int):=⟨_,rfl⟩
  have hwb:bg 4000 w.natAbs:=by rw[hw,aIE,aHO]; exact hm
  rw[<- hw];unfold zN Td anO;dsimp only;rw[xT (by decide) hwb];have er:yd (e,z)=mkRat w 1:=by
   unfold yd;dsimp only;have:e.toNat=t:=by omega
   rw[if_pos (by omega),this,hw]
  rw[er,aph];unfold aex ZA Qj aaB aew Zx kr;rw[ES];by_cases hl:w<0
  ·rw[aGQ hl];have h2:decide (((ai w.natAbs).length:Int)>0)=true:=by rw[wz]; exact aGQ (by omega)
   simp only[h2];rfl
  ·rw[aGR hl]; rfl
def xU (N:Nat) (e:Int) (k0:Bool):cG N ((0:Int)==0) e k0=k0:=rfl
def PC {N:Nat} (hF:Fuel N) {x:Fl} (hx:iY x=true) (hw:FW x) (k:Kx6):kK N x k=kq (yd (ofE x)) k:=by
 have hN:=hF.lt;have hex:=SK hx;obtain⟨b,s,m,i,rfl,h⟩:=wB hx;have ho:=M0 h;unfold kK gG;have fin:∀(M:Nat) (e:Int),M<18446744073709551616->ofE (some b)=(e,bB s M) ->
   cG N ((0:Int)==0) 4 (Ql N (M:Int) false (λ(auN:Bool) (nsr:List Int)=>(cond s (Qo N auN nsr (λ(avT:Bool) (auo:List Int)=>(dA N (Gg N) (cG N) (Ql N) (Qo N) (Ge N) (Tf N) (Qh N) (X2 N) (Td N) (some b) s (M:Int) e avT auo k))) (dA N (Gg N) (cG N) (Ql N) (Qo N) (Ge N) (Tf N) (Qh N) (X2 N) (Td N) (some b) s (M:Int) e auN nsr k))))=kq (yd (ofE (some b))) k:=by
  intro M e hM heq;rw[heq]at hex ⊢;have h1:=hex.1;have h2:=hex.2.1;have h3:=hex.2.2;dsimp only at h1 h2 h3;have hl:(ai M).length<=1099511627776:=by
   have:bg 64 M:=by unfold bg; omega
   have:=GG (B:=64) (by decide) this; omega
  rw[xU,adY (by omega) M hM];cases s
  ·rw[aGS];have e1:bB false M=(M:Int):=rfl;rw[e1]at h3 ⊢;have:=U8 hF (some b) false (M:Int) e (M:Int) (by omega) (by omega) h3 k;rw[aGR (by omega:¬(M:Int)<0),aHO]at this;exact this
  ·rw[aGT,Xh false M hl];have e1 : -(bB false M)=bB true M:=rfl;rw[e1];exact U8 hF (some b) true (M:Int) e (bB true M) (by omega) (by omega) h3 k
 rw[R5 (hw b rfl) h];by_cases h0:m=0
 ·rw[if_pos h0];rw[if_pos h0]at ho;refine fin 0 0 (by decide) ?_;rw[ho];cases s <;> rfl
 ·rw[if_neg h0];rw[if_neg h0]at ho;have hpl:=w5 h;have hm:m<2 ^ 64:=by
   have:(2:Nat) ^ 64=18446744073709551616:=by decide
   omega
  obtain⟨g1,g2,g3,g4⟩:=yb 64 m i h0 hm;exact fin _ _ (by omega) ho
def aji (N:Nat) (k:Kz5):rh N k=k (am 1):=by rw[abw]; rfl
def Pv {N:Nat} (hF:Fuel N) {z:Int} (hz:bg 30000 z.natAbs) (b1 b2:Bool) (k:Kx6) :
  Vw N b1 b2 (decide (z<0)) (am z.natAbs) k=kqR (mkRat z 1) k:=by
 unfold Vw Zg;rw[aji,AK hF (B:=30000) (by decide) _ hz (dE UH (by decide)) (by decide),mz]
def Xk {N:Nat} (hF:Fuel N) {x:Fl} (hx:iY x=true) (hw:FW x) (k:Kx6):VX N x k=kqR (yd (ofE x)) k:=by
 have hN:=hF.lt;have hex:=SK hx;unfold VX aab;rw[apl (by omega) hx hw];obtain⟨p,hp⟩:∃ p,p=ofE x:=⟨_,rfl⟩
 rw[<- hp]at hex ⊢;obtain⟨e,z⟩:=p;have h1:=hex.1;have h2:=hex.2.1;have h3:=hex.2.2;dsimp only at h1 h2 h3;unfold exK aez ZC;dsimp only;by_cases hc:e>=0
 ·rw[aGQ hc,aGT];have hl:=λk0 k1 h0 he2=>ajc (N:=N) (by omega) hex (e:=0) (by omega) (by decide) k0 k1 h0 he2
  dsimp only at hl;rw[hl]
  ·unfold Bd;have hb:=JE hex (e:=0) (by omega);dsimp only;rw[Pv hF (dE hb (by decide))];unfold yd zz;dsimp only;rw[if_pos hc,Int.sub_zero,aIi];rfl
  ·intro _; rfl
  ·intro h; omega
 ·rw[aGR hc,aGS];have n1:=λkk=>Jt (N:=N) 1 (by decide) (by have:=yx (B:=1) (n:=1) (by decide) (by unfold bg; decide);exact⟨by omega,by omega⟩) (by omega) kk
  rw[show((1:Nat):Int)=1 from rfl]at n1;rw[n1,ac aGO];obtain⟨t,ht⟩:∃ t:Nat,(0 - e)=(t:Int):=⟨(0 - e).toNat,by omega⟩
  have ew:IntKind.wrap .u64 (0 - e)=(t:Int):=by rw[au]; omega
  rw[ew,LA t false false 1 (Ld (B:=1) (by omega) (by omega) (by unfold bg; decide))];unfold Bd;have e1:bB false (1*2 ^ t)=((2 ^ t:Nat):Int):=by unfold bB; rw[aIS]; rfl
  rw[e1,aGR (al0 (2 ^ t)),aHO];dsimp only;have htp:=aG5 t;have hzb:bg 2000 z.natAbs:=dE h3 (by omega);have htb2:bg 2000 (2 ^ t):=dE IF (by omega);unfold apx an4;rw[JJ,AK hF (B:=2000) (by decide) _ hzb htb2 (Nat.ne_of_gt htp),mz];unfold yd;dsimp only;have:(-e).toNat=t:=by omega
  rw[if_neg (by omega),this]
def C7 {B:Nat} {z:Int} {d:Nat} (hz:bg B z.natAbs) (hd:bg B d) (h0:0<d):Bq B (mkRat z d):=by
 refine⟨?_,?_⟩
 ·rw[aJ0,if_neg (by omega)];have h1:((Nat.gcd z.natAbs d:Nat):Int)∣z:=Int.ofNat_dvd_left.2 (aHI _ _);rw[aH7,Int.natAbs_ediv_of_dvd h1,aHO];exact eE hz
 ·rw[aJ1,if_neg (by omega)];exact eE hd
def aju {x:Fl} (hx:iY x=true):Bq 1200 (yd (ofE x)):=by
 have hex:=SK hx;obtain⟨p,hp⟩:∃ p,p=ofE x:=⟨_,rfl⟩
 rw[<- hp]at hex ⊢;obtain⟨e,z⟩:=p;have h1:=hex.1;have h2:=hex.2.1;have h3:=hex.2.2;dsimp only at h1 h2 h3;unfold yd;dsimp only;split
 ·refine C7 ?_ (dE UH (by decide)) (by decide);rw[aIE,aHO];exact dE (aa4 h3) (by omega)
 ·exact C7 (dE h3 (by omega)) (dE IF (by omega)) (aG5 _)
def Mg {A B:Nat} {x y:Rat} (hx:Bq A x) (hy:Bq B y):Bq (A+B) (x*y):=by rw[Rat.mul_def'];refine C7 ?_ (iV hx.2 hy.2) (aIO x.den_pos y.den_pos);rw[aIE]; exact iV hx.1 hy.1
def ane {B:Nat} {y:Rat} (hy:Bq B y) (h:y.num ≠ 0):Bq B (y⁻¹):=by obtain⟨i1,i2,i3⟩:=Jg h;exact⟨by rw[i1]; exact hy.2,by rw[i2]; exact hy.1⟩
def QL {A B:Nat} {x y:Rat} (hx:Bq A x) (hy:Bq B y) (h:y.num ≠ 0):Bq (A+B) (x / y):=by rw[Rat.div_def]; exact Mg hx (ane hy h)
def anf {B:Nat} {y:Rat} (hy:Bq B y):Bq B (-y):=⟨by rw[Rat.neg_num,aJt]; exact hy.1,hy.2⟩
def anc {A B:Nat} {x y:Rat} (hx:Bq A x) (hy:Bq B y):Bq (A+B+1) (x+y):=by rw[Rat.add_def'];refine C7 (Lc (Aw hx.1 hy.2) ?_) (dE (iV hx.2 hy.2) (by omega)) (aIO x.den_pos y.den_pos);rw[aIJ]; exact Aw hy.1 hx.2
def Yi {A B:Nat} {x y:Rat} (hx:Bq A x) (hy:Bq B y):Bq (A+B+1) (x - y):=by rw[Rat.sub_eq_add_neg]; exact anc hx (anf hy)
def TF {B:Nat}:Bq (B+1) 0:=⟨aG5 _,by show 1<2 ^ (B+1); exact Nat.one_lt_two_pow (by omega)⟩
def enc (x:Rat):RY1:=((decide (x.num<0),ai x.num.natAbs),(false,ai x.den))
def iX (x:Rat):RY2:=((decide (x.num<0),am x.num.natAbs),(false,am x.den))
def mat {α:Type} (g:Rat->α) (n:Nat) (f:Nat->Nat->Rat):List α:=(List.range (n*n)).map (λt=>g (f (t / n) (t%n)))
def x_ {α:Type} (g:Rat->α) (n:Nat) (f:Nat->Nat->Rat):(mat g n f).length=n*n:=by unfold mat; rw[aIn,List.length_range]
def qA {n i j:Nat} (hi:i<n) (hj:j<n):i*n+j<n*n:=by have h1:(i+1)*n<=n*n:=aGX _ hi;rw[aHf]at h1; omega
def GT {n i j:Nat} (hj:j<n):(i*n+j) / n=i:=by rw[aGV,aJN (by omega),aHm hj,aHo]
def GU {n i j:Nat} (hj:j<n):(i*n+j)%n=j:=by rw[aGV,aI1,aG1 hj]
def q_ {α:Type} (g:Rat->α) (n:Nat) (f:Nat->Nat->Rat) {i j:Nat} (hi:i<n) (hj:j<n) (z:α):(mat g n f).getD (i*n+j) z=g (f i j):=by have h:=qA hi hj;unfold mat;rw[List.getD_eq_getElem?_getD,List.getElem?_map,List.getElem?_range h];simp only[aId,aHz,GT hj,GU hj]
def oc {α:Type} (g:Rat->α) (n:Nat) {f f':Nat->Nat->Rat} (h:∀ a b,a<n->b<n->f a b=f' a b):mat g n f=mat g n f':=by
 unfold mat;apply aJc;intro t ht;have ht:=List.mem_range.1 ht;have hn:0<n:=by
  rcases aHY n with h0 | h0
  ·rw[h0]at ht; omega
  ·exact h0
 rw[h _ _ (aIm ht) (aG6 _ hn)]
def Vh {α:Type} (g:Rat->α) (n:Nat) (f:Nat->Nat->Rat) {i j:Nat} (hi:i<n) (hj:j<n) (v:Rat):(mat g n f).set (i*n+j) (g v)=mat g n (λa b=>if a=i/\b=j then v else f a b):=by
 have h:=qA hi hj;apply List.ext_getElem?;intro t;by_cases ht:t<n*n
 ·have hn:0<n:=by omega
  rw[List.getElem?_set];unfold mat;rw[List.getElem?_map,List.getElem?_map,List.getElem?_range ht];simp only[aIn,List.length_range,aId];by_cases he:i*n+j=t
  ·rw[if_pos he,if_pos h,<- he,GT hj,GU hj,if_pos ⟨rfl,rfl⟩]
  ·rw[if_neg he];have:¬(t / n=i/\t%n=j):=by rintro ⟨h1,h2⟩;apply he;rw[<- h1,<- h2,aGV];exact aHF t n
   rw[if_neg this]
 ·rw[List.getElem?_eq_none (by rw[aIX,x_]; omega),List.getElem?_eq_none (by rw[x_]; omega)]
def Ac {n:Nat} (h:n<=1000):n*n<=1000000:=by have:n*n<=1000*1000:=aHC h h;omega
def oL (i j n:Nat):(i:Int)*(n:Int)+(j:Int)=((i*n+j:Nat):Int):=by rw[Int.natCast_add,aHa]
def oM {n i j:Nat} (hn:n<=1000) (hi:i<n) (hj:j<n):aj .i64 ((i:Int)*(n:Int))=true/\aj .i64 (((i*n+j:Nat):Int))=true:=by have h1:=Ac hn;have h2:=qA hi hj;rw[<- aHa];exact⟨af (by omega) (by omega),af (by omega) (by omega)⟩
def xV {N n i j:Nat} (hn:n<=1000) (hi:i<n) (hj:j<n) (f:Nat->Nat->Rat) (k:Kx6) :
  bw N n n i j (mat enc n f) k=kq (f i j) k:=by
 obtain⟨h1,h2⟩:=oM hn hi hj;have h3:=qA hi hj;unfold bw j_;rw[oL,ac h1,ac h2,x_,aGU,ac aGP,ac (aGQ h3),q_ enc n f hi hj];rfl
def ajk {N n i j:Nat} (hn:n<=1000) (hi:i<n) (hj:j<n) (f:Nat->Nat->Rat) (v:Rat) (k:List RY1->Bool) :
  ik N n n i j (decide (v.num<0)) (ai v.num.natAbs) false (ai v.den) (mat enc n f) k=k (mat enc n (λa b=>if a=i/\b=j then v else f a b)):=by
 obtain⟨h1,h2⟩:=oM hn hi hj;have h3:=qA hi hj;unfold ik ka;rw[oL,ac h1,ac h2,x_,aGU,ac aGP,ac (aGQ h3)];exact aJS k (Vh enc n f hi hj v)
def AH {N n i j:Nat} (hn:n<=1000) (hi:i<n) (hj:j<n) (f:Nat->Nat->Rat) (k:Kz2) :
  Qi N n n i j (mat iX n f) k=k (i*n+j):=by
 obtain⟨h1,h2⟩:=oM hn hi hj;have h3:=qA hi hj;unfold Qi anz;rw[oL,ac h1,ac h2,x_,aGU,ac aGP,ac (aGQ h3)]
def Na (l:List RY2) (i:Nat):List.set l i (((List.getD l i ((false,[]),(false,[]))).1.1,(List.getD l i ((false,[]),(false,[]))).1.2),((List.getD l i ((false,[]),(false,[]))).2.1,(List.getD l i ((false,[]),(false,[]))).2.2))=l:=by
 show List.set l i (List.getD l i ((false,[]),(false,[])))=l;apply List.ext_getElem?;intro t;rw[List.getElem?_set];by_cases h:i=t
 ·subst h;rw[if_pos rfl];by_cases hl:i<l.length
  ·rw[if_pos hl,List.getD_eq_getElem?_getD,List.getElem?_eq_getElem hl]; rfl
  ·rw[if_neg hl,List.getElem?_eq_none (by omega)]
 ·rw[if_neg h]
def CH {σ:Type} {step:σ->(σ->Bool)->Bool} (C:Nat->σ) (m n:Nat) (hmn:m<=n) {N:Nat} (hn:n<N) {out:Bool} (hs:∀ i,m<=i->i<n -> ∀ K:σ->Bool,step (C i) K=K (C (i+1))) (hx:∀ K,step (C n) K=out):ah N step (C m)=out:=by have:=bc (step:=step) (λi=>C (m+i)) (n - m) (N:=N) (by omega) (out:=out) (λi hi K=>hs (m+i) (by omega) (by omega) K) (λK=>by show step (C (m+(n - m))) K=out; rw[show m+(n - m)=n by omega]; exact hx K);exact this
def EO (f:Nat->Nat->Rat) (i c:Nat) (x:Rat) (t:Nat):Nat->Nat->Rat:=λa b=>if a=i/\b<t then f i b+f c b*x else f a b
def kn (f:Nat->Nat->Rat) (c m:Nat):Nat->Nat->Rat:=λa b=>if c<a/\a<m then f a b - f a c / f c c*f c b else f a b
def yo (B n:Nat) (f:Nat->Nat->Rat):Prop:=∀ a b,a<n->b<n->Bq B (f a b)
def ad0 {N B n i c:Nat} (hF:Fuel N) (hB:B<=300000000000) (hn:n<=1000) (hi:i<n) (hc:c<n) (hic:c ≠ i) {f:Nat->Nat->Rat} (hf:yo B n f) {x:Rat} (hx:Bq (2*B) x) (k:List RY1->Bool) :
  cB N n n i c (decide (x.num<0)) (ai x.num.natAbs) false (ai x.den) (mat enc n f) k=k (mat enc n (EO f i c x n)):=by
 have hN:=hF.lt;unfold cB j9;have h0:mat enc n f=mat enc n (EO f i c x 0):=oc _ _ (λa b _ _=>by unfold EO; rw[if_neg (by omega)]);rw[h0];refine bc (λt:Nat=>((t:Int),mat enc n (EO f i c x t))) n (by omega) ?_ ?_
 ·intro t ht K;unfold dD;dsimp only;rw[aGQ (by omega:(t:Int)<(n:Int)),aGT,xV hn hi ht];have e1:EO f i c x t i t=f i t:=by unfold EO; rw[if_neg (by omega)]
  have e2:EO f i c x t c t=f c t:=by unfold EO; rw[if_neg (by omega)]
  unfold kq kr;dsimp only;rw[xV hn hc ht,e1,e2];unfold kq kr;dsimp only;rw[ajf hF (B:=2*B) (by omega) ((hf c t hc ht).mono (by omega)) hx];unfold kq kr;dsimp only;rw[ajd hF (B:=3*B) (by omega) ((hf i t hi ht).mono (by omega)) ((Mg (hf c t hc ht) hx).mono (by omega))];unfold kq kr;dsimp only;rw[ajk hn hi ht,ac aGO];have e3:mat enc n (λa b=>if a=i/\b=t then f i t+f c t*x else EO f i c x t a b)=mat enc n (EO f i c x (t+1)):=oc _ _ (λa b _ _=>by
   unfold EO;by_cases h:a=i/\b=t
   ·rw[if_pos h,if_pos (by omega),h.2]
   ·rw[if_neg h];by_cases h2:a=i/\b<t
    ·rw[if_pos h2,if_pos (by omega)]
    ·rw[if_neg h2,if_neg (by omega)])
  rw[e3];rfl
 ·intro K;unfold dD;dsimp only;rw[aGR (by omega:¬(n:Int)<(n:Int)),aGS]
def vx (f:Nat->Nat->Rat) (i c:Nat) (r:Rat) (t:Nat):Nat->Nat->Rat:=λa b=>if a=i/\b<t then f i b - r*f c b else f a b
def Xu {N B n i c:Nat} (hF:Fuel N) (hB:B<=300000000000) (hn:n<=1000) (hi:i<n) (hc:c<n) (hic:c ≠ i) {f:Nat->Nat->Rat} (hf:yo B n f) {r:Rat} (hx:Bq (2*B) r) (k:List RY2->Bool) :
  SW N n n i c (mat iX n f) (decide (r.num<0)) (am r.num.natAbs) false (am r.den) k=k (mat iX n (vx f i c r n)):=by
 have hN:=hF.lt;unfold SW anw;have h0:mat iX n f=mat iX n (vx f i c r 0):=oc _ _ (λa b _ _=>by unfold vx; rw[if_neg (by omega)]);rw[h0];refine bc (λt:Nat=>((t:Int),mat iX n (vx f i c r t))) n (by omega) ?_ ?_
 ·intro t ht K;unfold Kd;dsimp only;rw[aGQ (by omega:(t:Int)<(n:Int)),aGT,AH hn hi ht,AH hn hi ht,AH hn hc ht,Na];have e1:vx f i c r t i t=f i t:=by unfold vx; rw[if_neg (by omega)]
  have e2:vx f i c r t c t=f c t:=by unfold vx; rw[if_neg (by omega)]
  rw[q_ iX n _ hi ht,q_ iX n _ hc ht,e1,e2];unfold iX;dsimp only;rw[ad3 hF (B:=2*B) (by omega) hx ((hf c t hc ht).mono (by omega))];unfold kqR krR;dsimp only;rw[ac (aGQ rfl),aeb hF (B:=3*B) (by omega) ((hf i t hi ht).mono (by omega)) ((Mg hx (hf c t hc ht)).mono (by omega))];unfold kqR krR;dsimp only;rw[ac aGO];have e4:=Vh iX n (vx f i c r t) hi ht (f i t - r*f c t);have e3:mat iX n (λa b=>if a=i/\b=t then f i t - r*f c t else vx f i c r t a b)=mat iX n (vx f i c r (t+1)):=oc _ _ (λa b _ _=>by
   unfold vx;by_cases h:a=i/\b=t
   ·rw[if_pos h,if_pos (by omega),h.2]
   ·rw[if_neg h];by_cases h2:a=i/\b<t
    ·rw[if_pos h2,if_pos (by omega)]
    ·rw[if_neg h2,if_neg (by omega)])
  rw[e3]at e4;exact aJS (λl=>K ((t:Int)+1,l)) e4
 ·intro K;unfold Kd;dsimp only;rw[aGR (by omega:¬(n:Int)<(n:Int)),aGS]
def Cf (g:Nat->Rat):Nat->Nat->Bool
 | i,0=>true
 | i,d+1=>decide (g i=0)&&Cf g (i+1) d
def Iq {g h:Nat->Rat}:∀ d i,(∀ j,i<=j->j<i+d->g j=h j)->Cf g i d=Cf h i d
 | 0,i,_=>rfl
 | d+1,i,e=>by unfold Cf;rw[e i (aG4 _) (by omega),Iq d (i+1) (λj h1 h2=>e j (by omega) (by omega))]
def En (n:Nat):Nat->Nat->Int->(Nat->Nat->Rat)->Int
 | 0,c,s,f=>s
 | d+1,c,s,f=>if (f c c).num<0 then 1 else if f c c=0 then(if Cf (λi=>f i c) (c+1) d=true then En n d (c+1) 2 f else 1)else En n d (c+1) s (kn f c n)
def Qp (z:Int):decide (Ec z<0)=decide (z<0):=by
 unfold Ec;by_cases h0:z=0
 ·rw[if_pos h0,h0]
 ·rw[if_neg h0];by_cases h:z<0
  ·rw[if_pos h,aGQ h]; rfl
  ·rw[if_neg h,aGR h]; rfl
def z7 {x:Rat}:(x.num=0)↔x=0:=Rat.num_eq_zero
def Ab (x:Rat):(Ec x.num==0)=decide (x=0):=by
 rw[X4];by_cases h:x=0
 ·rw[aGQ h,aGQ (z7.2 h)]
 ·rw[aGR h,aGR (λg=>h (z7.1 g))]
def ajM (x:Rat):(Ec x.num != 0) = !decide (x=0):=by rw[<- Ab]; rfl
def AC {B n c m:Nat} {f:Nat->Nat->Rat} (hf:yo B n f) (hc:c<n) (h0:f c c ≠ 0):yo (4*B+1) n (kn f c m):=by
 intro a b ha hb;unfold kn;split
 ·exact(Yi (hf a b ha hb) (Mg (QL (hf a c ha hc) (hf c c hc hc) (λh=>h0 (z7.1 h))) (hf c b hc hb))).mono (by omega)
 ·exact(hf a b ha hb).mono (by omega)
def IZ (f:Nat->Nat->Rat) (c:Nat) {α:Type} (g:Rat->α) (n:Nat):mat g n (kn f c (c+1))=mat g n f:=oc _ _ (λa b _ _=>by unfold kn; rw[if_neg (by omega)])
def zy {f:Nat->Nat->Rat} {c i:Nat} (b:Nat):kn f c i i b=f i b:=by unfold kn; rw[if_neg (by omega)]
def I0 {f:Nat->Nat->Rat} {c i:Nat} (b:Nat):kn f c i c b=f c b:=by unfold kn; rw[if_neg (by omega)]
def EU {f:Nat->Nat->Rat} {c i a b:Nat} (h:c<i):kn f c (i+1) a b=if a=i then f i b - f i c / f c c*f c b else kn f c i a b:=by
 unfold kn;by_cases h1:a=i
 ·rw[if_pos h1,if_pos (by omega),h1]
 ·rw[if_neg h1];by_cases h2:c<a/\a<i
  ·rw[if_pos h2,if_pos (by omega)]
  ·rw[if_neg h2,if_neg (by omega)]
def aer (x y p q:Rat):q+y*(0 - x / p)=q - x / p*y:=by grind
def aeq (p q y:Rat):q - 0 / p*y=q:=by grind
def aes (x y p:Rat):x / p*y=y / p*x:=by grind
def ad9 {N B n c:Nat} (hF:Fuel N) (hB:4*B+1<=300000000000) (hn:n<=1000) (hc:c<n) (s:Int) (t1 t2:Int) {f:Nat->Nat->Rat} (hf:yo B n f) (h0:f c c ≠ 0) (e0:Int->List RY1->Bool) (e1:List RY1->Bool) :
  ah N (aE N (bw N) (bD N) (gI N) (ce N) (bC N) (cB N) s (c:Int) t1 t2 (n:Int) (n:Int) (decide ((f c c).num<0)) (ai (f c c).num.natAbs) false (ai (f c c).den) e0 e1) (((c+1:Nat):Int),mat enc n f)=e1 (mat enc n (kn f c n)):=by
 have hN:=hF.lt;rw[<- IZ f c enc n];refine CH (λi:Nat=>((i:Int),mat enc n (kn f c i))) (c+1) n (by omega) (by omega) ?_ ?_
 ·intro i hi1 hi2 K;unfold aE;dsimp only;rw[aGQ (by omega:(i:Int)<(n:Int)),aGT,xV hn hi2 hc,zy];unfold kq kr;dsimp only;rw[q9,Ab];by_cases hz:f i c=0
  ·rw[aGQ hz,aGT,ac aGO];have:mat enc n (kn f c (i+1))=mat enc n (kn f c i):=oc _ _ (λa b _ _=>by
    rw[EU (by omega)];by_cases h1:a=i
    ·rw[if_pos h1,h1,zy,hz,aeq]
    ·rw[if_neg h1])
   rw[this];rfl
  ·rw[aGR hz,aGS,q9,Ab,aGR h0,aGS,Sn hF];unfold kq kr;dsimp only;have hp:(f c c).num ≠ 0:=λh=>h0 (z7.1 h)
   have bx:=hf i c hi2 hc;have bp:=hf c c hc hc;have bq:=QL bx bp hp;rw[ajj hF (B:=B) (by omega) bx bp hp];unfold kq kr;dsimp only;have bz:Bq (B+B+1) 0:=TF;rw[PE hF (B:=B+B+1) (by omega) bz (bq.mono (by omega))];unfold kq kr;dsimp only;have bs:Bq (2*(4*B+1)) (0 - f i c / f c c):=(Yi (A:=1) (TF (B:=0)) bq).mono (by omega);rw[ad0 hF (B:=4*B+1) hB hn hi2 hc (by omega) (AC hf hc h0) bs,ac aGO];have:mat enc n (kn f c (i+1))=mat enc n (EO (kn f c i) i c (0 - f i c / f c c) n):=oc _ _ (λa b _ hb=>by
    rw[EU (by omega)];unfold EO;by_cases h1:a=i
    ·rw[if_pos h1,if_pos ⟨h1,hb⟩,zy,I0,aer]
    ·rw[if_neg h1,if_neg (by omega)])
   rw[this];rfl
 ·intro K;unfold aE;dsimp only;rw[aGR (by omega:¬(n:Int)<(n:Int)),aGS]
def XB {N n c:Nat} (hF:Fuel N) (hn:n<=1000) (hc:c<n) (s:Int) (t1 t2:Int) {f:Nat->Nat->Rat} (h0:f c c=0) (e0:Int->List RY1->Bool) (e1:List RY1->Bool):∀(d i M:Nat),i+d=n->d<M ->
  ah M (aE N (bw N) (bD N) (gI N) (ce N) (bC N) (cB N) s (c:Int) t1 t2 (n:Int) (n:Int) (decide ((f c c).num<0)) (ai (f c c).num.natAbs) false (ai (f c c).den) e0 e1) ((i:Int),mat enc n f)=if Cf (λi=>f i c) i d=true then e1 (mat enc n f)else e0 1 (mat enc n f):=by
 intro d;induction d with
 | zero=>
  intro i M hi hM;cases M with
  | zero=>omega
  | succ M=>
   show aE _ _ _ _ _ _ _ _ _ _ _ _ _ _ _ _ _ _ _ ((i:Int),mat enc n f) (ah M _)=_;unfold aE Cf;dsimp only;rw[aGR (by omega:¬(i:Int)<(n:Int)),aGS,if_pos rfl]
 | succ d ih=>
  intro i M hi hM;cases M with
  | zero=>omega
  | succ M=>
   have hi2:i<n:=by omega
   show aE _ _ _ _ _ _ _ _ _ _ _ _ _ _ _ _ _ _ _ ((i:Int),mat enc n f) (ah M _)=_;rw[aE];rw[aGQ (by omega:(i:Int)<(n:Int)),aGT,xV hn hi2 hc];unfold kq kr;dsimp only;rw[q9,Ab,Cf];by_cases hz:f i c=0
   ·rw[aGQ hz,aGT,ac aGO,aHV];exact ih (i+1) M (by omega) (by omega)
   ·rw[aGR hz,aGS,q9,Ab,aGQ h0,aGT,aJs,if_neg (by decide)]
def MO {N n:Nat} (hF:Fuel N) (hn:n<=1000) (k:Kz1):∀(d c B M:Nat) (s:Int) (f:Nat->Nat->Rat),c+d=n->d<M->yo B n f->(B+1)*4 ^ d<=100000000000 ->
  ah M (aO N (bw N) (bD N) (gI N) (ce N) (bC N) (cB N) (n:Int) (n:Int) (n:Int) (λt _=>k t) (λt _=>k t)) (s,(c:Int),mat enc n f)=k (En n d c s f):=by
 intro d;induction d with
 | zero=>
  intro c B M s f hc hM _ _;cases M with
  | zero=>omega
  | succ M=>
   show aO _ _ _ _ _ _ _ _ _ _ _ _ (s,(c:Int),mat enc n f) (ah M _)=_;rw[aO];rw[aGR (by omega:¬(c:Int)<(n:Int)),aGS];rfl
 | succ d ih=>
  intro c B M s f hc hM hf hB;cases M with
  | zero=>omega
  | succ M=>
   have hN:=hF.lt;have hcn:c<n:=by omega
   have h4:(4*B+1+1)*4 ^ d<=100000000000:=by
    have h1:(4*B+1+1)*4 ^ d<=(B+1)*4*4 ^ d:=aGX _ (by omega);have h2:(B+1)*4*4 ^ d=(B+1)*4 ^ (d+1):=by rw[aG3,aG2,aGV 4 (4 ^ d)]
    omega
   have hB2:4*B+1+1<=100000000000:=by have:0<4 ^ d:=aH1 (by decide);have h1:(4*B+1+1)*1<=(4*B+1+1)*4 ^ d:=aGZ _ this;omega
   show aO _ _ _ _ _ _ _ _ _ _ _ _ (s,(c:Int),mat enc n f) (ah M _)=_;rw[aO];rw[aGQ (by omega:(c:Int)<(n:Int)),aGT,xV hn hcn hcn];unfold kq kr;dsimp only;rw[q9,Qp,En];by_cases hneg:(f c c).num<0
   ·rw[aGQ hneg,aGT,if_pos hneg]
   ·rw[aGR hneg,aGS,if_neg hneg,ac aGO];by_cases h0:f c c=0
    ·rw[if_pos h0];have hr:=λe0 e1=>XB hF hn hcn s (n:Int) (c:Int) h0 e0 e1 d (c+1) N (by omega) (by omega)
     rw[aGR hneg]at hr;rw[show(c:Int)+1=((c+1:Nat):Int) from rfl,hr];by_cases hz:Cf (λi=>f i c) (c+1) d=true
     ·rw[if_pos hz,if_pos hz];have hs:=q9 (N:=N) (f c c);rw[aGR hneg]at hs;rw[hs,Ab,aGQ h0,aGT,ac aGO];exact ih (c+1) B M 2 f (by omega) (by omega) hf (by have:(B+1)*4 ^ d<=(4*B+1+1)*4 ^ d:=aGX _ (by omega);omega)
     ·rw[if_neg hz,if_neg hz]
    ·rw[if_neg h0];have hr:=λe0 e1=>ad9 hF (by omega) hn hcn s (n:Int) (c:Int) hf h0 e0 e1
     rw[aGR hneg]at hr;rw[show(c:Int)+1=((c+1:Nat):Int) from rfl,hr];have hs:=q9 (N:=N) (f c c);rw[aGR hneg]at hs;rw[hs,Ab,aGR h0,aGS,ac aGO];exact ih (c+1) (4*B+1) M s (kn f c n) (by omega) (by omega) (AC hf hcn h0) h4
def aec {N B n:Nat} (hF:Fuel N) (hB:B<=300000000000) (hn:n<=1000) {f:Nat->Nat->Rat} (hf:yo B n f) (hs:∀ a b,a<n->b<n->f a b=f b a) (k:Bool) :
  d7 N n n (mat enc n f) k=k:=by
 have hN:=hF.lt;unfold d7 gZ;refine bc (λt:Nat=>(t:Int)) n (by omega) ?_ ?_
 ·intro i hi K;unfold cb;dsimp only;rw[aGQ (by omega:(i:Int)<(n:Int)),aGT];refine bc (λt:Nat=>(t:Int)) i (by omega) ?_ ?_
  ·intro j hj K';have hj2:j<n:=by omega
   unfold cd;dsimp only;rw[aGQ (by omega:(j:Int)<(i:Int)),aGT,xV hn hi hj2];unfold kq kr;dsimp only;rw[xV hn hj2 hi];unfold kq kr;dsimp only;rw[PE hF (B:=B) (by omega) (hf i j hi hj2) (hf j i hj2 hi)];unfold kq kr;dsimp only;have e:Ec (f i j - f j i).num=0:=by
    have:f i j - f j i=0:=by rw[hs i j hi hj2]; grind
    rw[this]; rfl
   rw[q9,e,xU,ac aGO];rfl
  ·intro K';unfold cd;dsimp only;rw[aGR (by omega:¬(i:Int)<(i:Int)),aGS,ac aGO];rfl
 ·intro K;unfold cb;dsimp only;rw[aGR (by omega:¬(n:Int)<(n:Int)),aGS]
def Xq {N B n:Nat} (hF:Fuel N) (hn:n<=1000) {f:Nat->Nat->Rat} (hf:yo B n f) (hs:∀ a b,a<n->b<n->f a b=f b a) (hB:(B+1)*4 ^ n<=100000000000) (k:Kz1) :
  gU N n n (mat enc n f) (λt _=>k t)=k (En n n 0 3 f):=by
 have hN:=hF.lt;have hB2:B<=300000000000:=by have:0<4 ^ n:=aH1 (by decide);have h1:(B+1)*1<=(B+1)*4 ^ n:=aGZ _ this;omega
 unfold gU jD;have e:((n:Int)==(n:Int))=((0:Int)==0):=by simp
 rw[e,xU,aec hF hB2 hn hf hs];unfold iv iq;exact MO hF hn k n 0 B N 3 f (by omega) (by omega) hf hB
def XC {N B n c:Nat} (hF:Fuel N) (hB:4*B+1<=300000000000) (hn:n<=1000) (hc:c<n) (s:Int) {f:Nat->Nat->Rat} (hf:yo B n f) (h0:f c c ≠ 0) (e0:List RY2->Bool) :
  ah N (Fu N (S_ N) (Qi N) (Tg N) (SU N) (SW N) s (c:Int) (c*n+c) (n:Int) (n:Int) e0) (((c+1:Nat):Int),mat iX n f)=e0 (mat iX n (kn f c n)):=by
 have hN:=hF.lt;rw[<- IZ f c iX n];refine CH (λi:Nat=>((i:Int),mat iX n (kn f c i))) (c+1) n (by omega) (by omega) ?_ ?_
 ·intro i hi1 hi2 K;unfold Fu;dsimp only;have hne:¬(c*n+c=i*n+c):=by
   intro h;have:c*n=i*n:=by omega
   have:=aIk (by omega) this;omega
  rw[aGQ (by omega:(i:Int)<(n:Int)),aGT,AH hn hi2 hc,aGR hne,ac (a:=(!false&&true)) rfl,Na,Na,q_ iX n _ hi2 hc,q_ iX n _ hc hc,zy,I0];have hp:(f c c).num ≠ 0:=λh=>h0 (z7.1 h)
  have bx:=hf i c hi2 hc;have bp:=hf c c hc hc;have bq:=QL bx bp hp;have hq:=λkk=>ad7 (N:=N) (b1:=false) (b2:=false) hF (B:=B) (by omega) bx bp hp kk
  have he:∀ x:Rat,iX x=((decide (x.num<0),am x.num.natAbs),(false,am x.den)):=λx=>rfl
  rw[he (f i c),he (f c c)];dsimp only;rw[hq];unfold kqR krR;dsimp only;rw[Xu hF (B:=4*B+1) hB hn hi2 hc (by omega) (AC hf hc h0) (bq.mono (by omega)),ac aGO];have:mat iX n (kn f c (i+1))=mat iX n (vx (kn f c i) i c (f i c / f c c) n):=oc _ _ (λa b _ hb=>by
   rw[EU (by omega)];unfold vx;by_cases h1:a=i
   ·rw[if_pos h1,if_pos ⟨h1,hb⟩,zy,I0]
   ·rw[if_neg h1,if_neg (by omega)])
  rw[this];rfl
 ·intro K;unfold Fu;dsimp only;rw[aGR (by omega:¬(n:Int)<(n:Int)),aGS]
def Sk {N n c:Nat} (hF:Fuel N) (hn:n<=1000) (hc:c<n) {f:Nat->Nat->Rat} (e0:Int->Bool) (e1:Bool):∀(d i M:Nat),i+d=n->d<M ->
  ah M (Ae N (S_ N) (Qi N) (Tg N) (SU N) (SW N) (c:Int) (n:Int) (n:Int) (mat iX n f) e0 e1) ((i:Int))=if Cf (λi=>f c i) i d=true then e1 else e0 1:=by
 intro d;induction d with
 | zero=>
  intro i M hi hM;cases M with
  | zero=>omega
  | succ M=>
   show Ae _ _ _ _ _ _ _ _ _ _ _ _ (i:Int) (ah M _)=_;unfold Ae Cf;dsimp only;rw[aGR (by omega:¬(i:Int)<(n:Int)),aGS,if_pos rfl]
 | succ d ih=>
  intro i M hi hM;cases M with
  | zero=>omega
  | succ M=>
   have hi2:i<n:=by omega
   show Ae _ _ _ _ _ _ _ _ _ _ _ _ (i:Int) (ah M _)=_;rw[Ae];have he:∀ x:Rat,iX x=((decide (x.num<0),am x.num.natAbs),(false,am x.den)):=λx=>rfl
   rw[aGQ (by omega:(i:Int)<(n:Int)),aGT,AH hn hc hi2,q_ iX n _ hc hi2,he (f c i)];dsimp only;rw[Fi,ajM,Cf];by_cases hz:f c i=0
   ·rw[aGQ hz,aHK,aGS,ac aGO,aHV];exact ih (i+1) M (by omega) (by omega)
   ·rw[aGR hz,aHt,aGT,aJs,if_neg (by decide)]
def aog (n c:Nat) (f:Nat->Nat->Rat):Prop:=∀ a b,c<=a->c<=b->a<n->b<n->f a b=f b a
def abz {n c:Nat} {f:Nat->Nat->Rat} (h:aog n c f) (hc:c<n):aog n (c+1) (kn f c n):=by intro a b ha hb han hbn;unfold kn;rw[if_pos ⟨by omega,han⟩,if_pos ⟨by omega,hbn⟩,h a b (by omega) (by omega) han hbn,h a c (by omega) (by omega) han hc,h c b (by omega) (by omega) hc hbn,aes]
def Xl {N n:Nat} (hF:Fuel N) (hn:n<=1000) (k:Kz1):∀(d c B M:Nat) (s:Int) (f:Nat->Nat->Rat),c+d=n->d<M->yo B n f->aog n c f->(B+1)*4 ^ d<=100000000000 ->
  ah M (Ad N (S_ N) (Qi N) (Tg N) (SU N) (SW N) (n:Int) (n:Int) (λt=>k t) (λt=>k t)) (s,(c:Int),mat iX n f)=k (En n d c s f):=by
 intro d;induction d with
 | zero=>
  intro c B M s f hc hM _ _ _;cases M with
  | zero=>omega
  | succ M=>
   show Ad _ _ _ _ _ _ _ _ _ _ (s,(c:Int),mat iX n f) (ah M _)=_;rw[Ad];rw[aGR (by omega:¬(c:Int)<(n:Int)),aGS];rfl
 | succ d ih=>
  intro c B M s f hc hM hf hsy hB;cases M with
  | zero=>omega
  | succ M=>
   have hN:=hF.lt;have hcn:c<n:=by omega
   have h4:(4*B+1+1)*4 ^ d<=100000000000:=by
    have h1:(4*B+1+1)*4 ^ d<=(B+1)*4*4 ^ d:=aGX _ (by omega);have h2:(B+1)*4*4 ^ d=(B+1)*4 ^ (d+1):=by rw[aG3,aG2,aGV 4 (4 ^ d)]
    omega
   have hB2:4*B+1+1<=100000000000:=by have:0<4 ^ d:=aH1 (by decide);have h1:(4*B+1+1)*1<=(4*B+1+1)*4 ^ d:=aGZ _ this;omega
   have he:∀ x:Rat,iX x=((decide (x.num<0),am x.num.natAbs),(false,am x.den)):=λx=>rfl
   show Ad _ _ _ _ _ _ _ _ _ _ (s,(c:Int),mat iX n f) (ah M _)=_;rw[Ad];rw[aGQ (by omega:(c:Int)<(n:Int)),aGT,AH hn hcn hcn,q_ iX n _ hcn hcn,he (f c c)];dsimp only;rw[Fi,Qp,En];by_cases hneg:(f c c).num<0
   ·rw[aGQ hneg,aGT,if_pos hneg]
   ·rw[if_neg hneg,Fi,Ab];rw[aGR hneg,aGS];by_cases h0:f c c=0
    ·rw[if_pos h0,aGQ h0,aGT,ac aGO];rw[show(c:Int)+1=((c+1:Nat):Int) from rfl,Sk hF hn hcn _ _ d (c+1) N (by omega) (by omega)];have ez:Cf (λi=>f c i) (c+1) d=Cf (λi=>f i c) (c+1) d:=Iq _ _ (λj h1 h2=>hsy c j (by omega) (by omega) hcn (by omega));rw[ez];by_cases hz:Cf (λi=>f i c) (c+1) d=true
     ·rw[if_pos hz,if_pos hz,ac aGO];exact ih (c+1) B M 2 f (by omega) (by omega) hf (λa b ha hb=>hsy a b (by omega) (by omega)) (by have:(B+1)*4 ^ d<=(4*B+1+1)*4 ^ d:=aGX _ (by omega);omega)
     ·rw[if_neg hz,if_neg hz]
    ·rw[if_neg h0,aGR h0,aGS,ac aGO];rw[show(c:Int)+1=((c+1:Nat):Int) from rfl,XC hF (by omega) hn hcn s hf h0,ac aGO];exact ih (c+1) (4*B+1) M s (kn f c n) (by omega) (by omega) (AC hf hcn h0) (abz hsy hcn) h4
def fm (n:Nat) (l:List Fl):Nat->Nat->Rat:=λi j=>yd (ofE (l.getD (i*n+j) none))
def Vf {α:Type} (g:Rat->α) {n:Nat} {l:List Fl} (h:l.length=n*n):l.map (λx=>g (yd (ofE x)))=mat g n (fm n l):=by
 apply List.ext_getElem?;intro t;by_cases ht:t<n*n
 ·unfold mat;rw[List.getElem?_map,List.getElem?_map,List.getElem?_range ht,List.getElem?_eq_getElem (by omega)];simp only[aId];unfold fm;have:t / n*n+t%n=t:=by rw[aGV]; exact aHF t n
  rw[this,List.getD_eq_getElem?_getD,List.getElem?_eq_getElem (by omega)];rfl
 ·rw[List.getElem?_eq_none (by rw[aIn]; omega),List.getElem?_eq_none (by rw[x_]; omega)]
def tR {l:List Fl} (h:fP l=true) {i:Nat} (hi:i<l.length):iY (l.getD i none)=true:=by unfold fP at h;exact wl.1 h i hi
def AllW (l:List Fl):Prop:=∀ x,x ∈ l->FW x
def AllW.get {l:List Fl} (h:AllW l) {i:Nat} (hi:i<l.length):FW (l.getD i none):=by rw[List.getD_eq_getElem?_getD,List.getElem?_eq_getElem hi];exact h _ (aH_ hi)
def Mu {n:Nat} {l:List Fl} (h:l.length=n*n) (hf:fP l=true):yo 1200 n (fm n l):=by intro a b ha hb;have:=qA ha hb;exact aju (tR hf (by omega))
def Wn {N:Nat} (x:Int) (k:Kz0):VY N x k=k (decide (0<=x/\x<=12)):=by
 unfold VY aac;by_cases h:x>=0
 ·rw[aGQ h,show(true==true)=true from rfl,aGT];congr 1;by_cases h2:x<=12
  ·rw[aGQ h2,aGQ ⟨h,h2⟩]
  ·rw[aGR h2,aGR (by omega)]
 ·rw[aGR h,show(false==true)=false from rfl,aGS,aGR (by omega)]
def Vk {a b:Int} (h1:0<=a/\a<=12) (h2:0<=b/\b<=12):0<=a*b/\a*b<=144:=by have h3:a*b<=12*b:=Int.mul_le_mul_of_nonneg_right h1.2 h2.1;have h4:0<=a*b:=Int.mul_nonneg h1.1 h2.1;omega
def xS {N:Nat} (hN:1000<=N) (a b:Int) (l:List Fl) (k:Kz1):SZ N a b l k=k (chk a b l):=by
 unfold SZ anC chk;rw[Wn];by_cases h1:0<=a/\a<=12
 ·rw[aGQ h1,show((!true)==false)=true from rfl,aGT,Wn];by_cases h2:0<=b/\b<=12
  ·have h3:=Vk h1 h2;rw[aGQ h2,if_pos ⟨h1,h2⟩,show(!true)=false from rfl,aGS,ac aGO];by_cases h4:(l.length:Int)=a*b
   ·have:(((l.length:Nat):Int) != a*b)=false:=by simp[h4]
    have h6:l.length<=144:=by rw[<- h4]at h3; omega
    rw[this,aGS,if_pos h4,Jq l ⟨by omega,by omega⟩];cases h5:fP l
    ·rfl
    ·rfl
   ·have:(((l.length:Nat):Int) != a*b)=true:=by simp[h4]
    rw[this,aGT,if_neg h4]
  ·rw[aGR h2,if_neg (λh=>h2 h.2),show(!false)=true from rfl,aGT]
 ·rw[aGR h1,if_neg (λh=>h1 h.1)]; rfl
def Rx {n:Nat} {l:List Fl} (hn:n<=12) (h:l.length=n*n) (hf:fP l=true):chk n n l=0:=
 wo.2 ⟨⟨by omega,by omega⟩,by rw[h,aHa],hf⟩
def BI {α:Type} (g:Fl->α) {l:List Fl} {t:Nat} (ht:t<l.length):(l.take (t+1)).map g=(l.take t).map g++[g (l.getD t none)]:=by rw[aHJ ht,aIL,List.getD_eq_getElem?_getD,List.getElem?_eq_getElem ht]; rfl
def MH {N n:Nat} (hF:Fuel N) {l:List Fl} (hn:n<=12) (h:l.length=n*n) (hf:fP l=true) (hw:AllW l) (k:List RY1->Bool) :
  jW N n n l k=k (mat enc n (fm n l)):=by
 have hN:=hF.lt;have hl:=Ac (n:=n) (by omega);unfold jW nc;rw[xS (by omega),Rx hn h hf,xU,<- Vf enc h];refine bc (λt:Nat=>((t:Int),(l.take t).map (λx=>enc (yd (ofE x))))) l.length (by omega) ?_ ?_
 ·intro t ht K;unfold gf;dsimp only;rw[aGQ (by omega:(t:Int)<(l.length:Int)),aGT,ac aGP,aGU,PC hF (tR hf ht) (hw.get ht)];unfold kq kr;dsimp only;rw[BI _ ht,ac (aGQ (by rw[aH5,aIn,aHl]; simp only[aHv,aIU]; omega)),ac aGO];rfl
 ·intro K;unfold gf;dsimp only;rw[aGR (by omega:¬(l.length:Int)<(l.length:Int)),aGS,aHw]
def Xi {N n:Nat} (hF:Fuel N) {l:List Fl} (hn:n<=12) (h:l.length=n*n) (hf:fP l=true) (hw:AllW l) (a b:Int) (k:List RY2->Bool) :
  V3 N a b l k=k (mat iX n (fm n l)):=by
 have hN:=hF.lt;have hl:=Ac (n:=n) (by omega);unfold V3 aal;rw[<- Vf iX h];refine bc (λt:Nat=>((t:Int),(l.take t).map (λx=>iX (yd (ofE x))))) l.length (by omega) ?_ ?_
 ·intro t ht K;unfold mg;dsimp only;rw[aGQ (by omega:(t:Int)<(l.length:Int)),aGT,ac aGP,aGU,Xk hF (tR hf ht) (hw.get ht)];unfold kqR krR;dsimp only;rw[BI _ ht,ac (aGQ (by rw[aIn,aHl]; omega)),ac aGO];rfl
 ·intro K;unfold mg;dsimp only;rw[aGR (by omega:¬(l.length:Int)<(l.length:Int)),aGS,aHw]
def R4 {N n:Nat} (hF:Fuel N) (hn:n<=12) (k:List RY2->Bool):VS N n n k=k (List.replicate (n*n) ((false,[]),(false,[]))):=by
 have hN:=hF.lt;have hl:=Ac (n:=n) (by omega);unfold VS Z2;have h0:([]:List RY2)=List.replicate 0 ((false,[]),(false,[])):=rfl;rw[h0];refine bc (λt:Nat=>((t:Int),List.replicate t ((false,[]),(false,[])))) (n*n) (by omega) ?_ ?_
 ·intro t ht K;unfold kY;dsimp only;rw[<- aHa,ac aGO,aGQ (by omega:(t:Int)<((n*n:Nat):Int)),aGT,ac (aGQ (by rw[aHW]; omega)),ac aGO,aIv];rfl
 ·intro K;unfold kY;dsimp only;rw[<- aHa,ac aGO,aGR (by omega:¬((n*n:Nat):Int)<((n*n:Nat):Int)),aGS]
def Pb {α:Type} (l:List α) (z:α) {t:Nat} (ht:t<=l.length):(l.take t++List.replicate (l.length - t) z).length=l.length:=by rw[aH5,aHl,aHW]; omega
def Pc {α:Type} (l:List α) (z:α) {t:Nat} (ht:t<l.length):(l.take t++List.replicate (l.length - t) z).set t (l.getD t z)=l.take (t+1)++List.replicate (l.length - (t+1)) z:=by
 have h1:(l.take t).length=t:=by rw[aHl]; omega
 have h2:l.length - t=(l.length - (t+1))+1:=by omega
 rw[aIZ _ _ (by omega),h1,aHq,h2,aHA,List.set_cons_zero,aHJ ht,aG9,List.getD_eq_getElem?_getD,List.getElem?_eq_getElem ht];rfl
def ajm {α:Type} (g:Rat->α) (n:Nat) (f:Nat->Nat->Rat) {t:Nat} (ht:t<n*n) (z:α):∃ a b,a<n/\b<n/\(mat g n f).getD t z=g (f a b):=by
 have hn:0<n:=by
  rcases aHY n with h0 | h0
  ·rw[h0]at ht; omega
  ·exact h0
 refine⟨t / n,t%n,aIm ht,aG6 _ hn,?_⟩;have:=q_ g n f (aIm ht) (aG6 t hn) z;rw[show t / n*n+t%n=t from by rw[aGV]; exact aHF t n]at this;exact this
def R_ {N n B:Nat} (hF:Fuel N) (hB:B<=2000000000100) (hn:n<=12) {f:Nat->Nat->Rat} (hf:yo B n f) (k:List RY2->Bool) :
  S_ N n n (mat iX n f) k=k (mat iX n f):=by
 have hN:=hF.lt;have hl:=Ac (n:=n) (by omega);unfold S_ anF;rw[R4 hF hn];have hlen:=x_ iX n f;have h0:List.replicate (n*n) (((false,[]),(false,[])):RY2)=(mat iX n f).take 0++List.replicate ((mat iX n f).length - 0) ((false,[]),(false,[])):=by rw[hlen]; rfl
 rw[h0];refine bc (λt:Nat=>((t:Int),(mat iX n f).take t++List.replicate ((mat iX n f).length - t) ((false,[]),(false,[])))) (mat iX n f).length (by omega) ?_ ?_
 ·intro t ht K;unfold Ke;dsimp only;have hfl:=Pb (mat iX n f) (((false,[]),(false,[])):RY2) (t:=t) (by omega);rw[aGQ (by omega:(t:Int)<((mat iX n f).length:Int)),aGT,aGU,hfl,ac aGP,ac (aGQ ht),ac aGP];obtain⟨a,b,ha,hb,hm⟩:=ajm iX n f (t:=t) (by omega) ((false,[]),(false,[]));have hs:=Pc (mat iX n f) (((false,[]),(false,[])):RY2) ht;rw[hm]at hs ⊢;have he:∀ x:Rat,iX x=((decide (x.num<0),am x.num.natAbs),(false,am x.den)):=λx=>rfl
  have hset:=λb1 b2 l1 l2 kk=>adX (N:=N) hF hB (hf a b ha hb) b1 b2 l1 l2 kk
  generalize List.take t (mat iX n f)++List.replicate ((mat iX n f).length - t) ((false,[]),false,[])=L at *;rw[he (f a b)];dsimp only;rw[hset];unfold kqR krR;dsimp only;rw[ac aGO];exact aJS (λl=>K ((t:Int)+1,l)) hs
 ·intro K;unfold Ke;dsimp only;rw[aGR (by omega),aGS,aHw,aHq,aHp,aHn]
def Gj {n:Nat} (hn:n<=12):(1200+1)*4 ^ n<=100000000000:=by
 have h1:4 ^ n<=4 ^ 12:=aG7 (by decide) hn;have h2:(4:Nat) ^ 12=16777216:=by decide
 rw[h2]at h1;have h3:(1200+1)*4 ^ n<=(1200+1)*16777216:=aGZ _ h1;omega
def aaI (n:Nat) (l:List Fl):Prop:=∀ a b,a<n->b<n->fm n l a b=fm n l b a
def M3 (n:Nat) (l:List Fl):Bool:=En n n 0 3 (fm n l)==3
def Pw {N n:Nat} (hF:Fuel N) {l:List Fl} (hn:n<=12) (h:l.length=n*n) (hf:fP l=true) (hw:AllW l) (hs:aaI n l) (k:Ky3) :
  kJ N n n l k=k (En n n 0 3 (fm n l)) 0:=by
 unfold kJ kw;rw[MH hF hn h hf hw];exact Xq hF (by omega) (Mu h hf) hs (Gj hn) (λt=>k t 0)
def DT {N n:Nat} (hF:Fuel N) {l:List Fl} (hn:n<=12) (h:l.length=n*n) (hf:fP l=true) (hw:AllW l) (hs:aaI n l) (k:Kz0) :
  f7 N n n l k=k (M3 n l):=by
 unfold f7 om;rw[Pw hF hn h hf hw hs];rfl
def DR {N n:Nat} (hF:Fuel N) {l:List Fl} (hn:n<=12) (h:l.length=n*n) (hf:fP l=true) (hw:AllW l) (hs:aaI n l) (k:Kz0) :
  P8 N n n l k=k (M3 n l):=by
 have hN:=hF.lt;unfold P8 ZT aeO aap;rw[Xi hF hn h hf hw];dsimp only;unfold aeA ZN;rw[R_ (B:=1200) hF (by decide) hn (Mu h hf)];exact Xl hF (by omega) (λt=>k (t==3)) n 0 1200 N 3 (fm n l) (by omega) (by omega) (Mu h hf) (λa b _ _=>hs a b) (Gj hn)
end Go.Proofs.YteifemaagdeomaaGreatDoor
end
