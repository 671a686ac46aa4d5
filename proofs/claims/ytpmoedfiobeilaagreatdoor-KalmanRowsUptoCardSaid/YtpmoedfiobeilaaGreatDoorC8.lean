/- Laws in plain Lean. Conditions: none. -/
import Derived.Test.YtpmoedfiobeilaaGreatDoorD1
import Derived.Test.YtpmoedfiobeilaaGreatDoorFlA
import Derived.Test.YtpmoedfiobeilaaGreatDoorC1
import Derived.Test.YtpmoedfiobeilaaGreatDoorGp
set_option linter.defProp false
set_option linter.unusedVariables false
section
namespace Go.Proofs.YtpmoedfiobeilaaGreatDoor
open Go Go.Mach Ieee
def Jg {N n j:Nat} (hN:1000<=N) (hj:j<=900) (h:n<4294967296 ^ j):fB N (aj n):=by have:=ct j n h;exact⟨by omega,by omega⟩
def nH {N n:Nat} (hN:1000<=N) (h:n<18446744073709551616):fB N (aj n):=Jg (j:=2) hN (by decide) (by
 have:(4294967296:Nat) ^ 2=18446744073709551616:=by decide
 omega)
def Vl (n:Nat):aA .and .u64 (n:Int) 2047=((n%2048:Nat):Int):=by have:=jJ n 11 (by decide);simpa using this
def zi (s:Bool) (m:Nat) (i:Int):∃ r,Ieee.double.nearest s m i=Ieee.double.word s r/\r<=9218868437227405312:=by
 unfold Format.nearest;split
 ·exact⟨0,rfl,by omega⟩
 ·rw[kE]; exact⟨_,rfl,agE _ _⟩
def DQ (s:Bool) (m:Nat) (i:Int):W64 (Ieee.double.nearest s m i):=by obtain⟨r,h,hr⟩:=zi s m i;rw[h]; exact zT s (by omega)
def TD {N:Nat} (hN:1000<=N) {n:Nat} (h:n<=48):bJ N n:=⟨by omega,by omega⟩
def K6 (b:Nat):bb (some b)=decide (b%9223372036854775808<9218868437227405312):=by
 unfold bb Format.read;simp only[iz,qD,kE];by_cases h1:b%9223372036854775808<4503599627370496
 ·rw[if_pos h1,adk (by omega)]; rfl
 ·rw[if_neg h1];by_cases h2:b%9223372036854775808<9218868437227405312
  ·rw[if_pos h2,adk h2]; rfl
  ·rw[if_neg h2,adl h2];split <;> rfl
def Nn (x:Fl):Prop:=∃ b,x=some b/\isNaN b=false
def oP {x:Fl} (h:bb x=true):Nn x:=by
 cases x with
 | none=>cases h
 | some b=>
  rw[K6]at h;have:=adq h;refine⟨b,rfl,?_⟩;rw[afW];intro hc;have:=(fk b).1 hc;omega
def Ni (s:Bool) {r:Nat} (h:r<=9218868437227405312):Nn (some (Ieee.double.word s r)):=by
 refine⟨_,rfl,?_⟩;rw[afW];intro hc;have h1:=(fk _).1 hc;have hw:Ieee.double.word s r%9223372036854775808=r:=by unfold Format.word; rw[iz]; cases s <;> simp <;> omega
 omega
def xW (s:Bool) (m:Nat) (i:Int):Nn (some (Ieee.double.nearest s m i)):=by obtain⟨r,h,hr⟩:=zi s m i;rw[h]; exact Ni s hr
abbrev K4:=Fl->Fl->Fl->Fl->Int->Bool
def gf:Nat->Nat->Int->Nat × Int
 | 0,m,e=>(m,e)
 | f+1,m,e=>if m%2=0 then gf f (m / 2) (e+1)else(m,e)
def pq:∀ f m e,m ≠ 0->m<2 ^ f->e<=(gf f m e).2/\(gf f m e).2<=e+f/\(gf f m e).1*2 ^ ((gf f m e).2 - e).toNat=m/\(gf f m e).1<=m
 | 0,m,e,h0,h=>by simp at h; omega
 | f+1,m,e,h0,h=>by
  unfold gf;split
  ·rename_i hm;obtain⟨h1,h2,h3,h4⟩:=pq f (m / 2) (e+1) (by omega) (by rw[ady]at h; omega);refine⟨by omega,by omega,?_,by omega⟩;have:((gf f (m / 2) (e+1)).2 - e).toNat=((gf f (m / 2) (e+1)).2 - (e+1)).toNat+1:=by omega
   rw[this,ady,<- adw,h3]; omega
  ·refine⟨by omega,by omega,?_,adx _⟩;rw[Int.sub_self]; simp
def NS {N:Nat} (hN:1000<=N) {m:Nat} {e:Int} (h0:m ≠ 0) (hm:m<2 ^ 64) (he1 : -2000<=e) (he2:e<=2000) (k:Ky4) :
  oy N m e k=k ((gf 64 m e).1:Int) (gf 64 m e).2:=by
 (unfold oy; rw[ac]; unfold rN)
 have key:∀ f:Nat,f<=64 -> ∀(m:Nat) (e:Int),m ≠ 0->m<2 ^ f->m<2 ^ 64 -> -2000<=e->e+f<=3000 -> ∀ M:Nat,f<M->ai M (kn N λa b=>k a b) ((m:Int),e)=k ((gf f m e).1:Int) (gf f m e).2:=by
  intro f;induction f with
  | zero=>intro _ m e h0 h; simp at h; omega
  | succ f ih=>
   intro hf m e h0 h h64 h1 h2 M hM;cases M with
   | zero=>omega
   | succ M=>
    show kn N _ ((m:Int),e) (ai M _)=_;have e2:Int.tmod (m:Int) 2=((m%2:Nat):Int):=by rw[aeg (by omega)]; rfl
    have e3:Int.tdiv (m:Int) 2=((m / 2:Nat):Int):=by rw[aer (by omega)]; rfl
    simp only[kn,gf,e2,e3];by_cases hm:m%2=0
    ·have:(((m%2:Nat):Int)==0)=true:=by rw[hm]; rfl
     have ew:IntKind.wrap .u64 ((m / 2:Nat):Int)=((m / 2:Nat):Int):=by
      rw[am];have:(2:Nat) ^ 64=18446744073709551616:=by decide
      omega
     rw[this,adn,aa adi,if_pos hm,ew];exact ih (by omega) (m / 2) (e+1) (by omega) (by rw[ady]at h; omega) (by omega) (by omega) (by omega) M (by omega)
    ·have:(((m%2:Nat):Int)==0)=false:=by
      have:m%2=1:=by omega
      rw[this]; rfl
     rw[this,adm,if_neg hm]
 have:((m:Int)==0)=false:=by simp; omega
 rw[this,adm];exact key 64 (adx _) m e h0 hm hm (by omega) (by omega) N (by omega)
def LA (N:Nat) (e:Int) (k:Ky4):oy N 0 e k=k 0 0:=by (unfold oy; rw[ac]; unfold rN); rfl
def ofE (x:Fl):Int × Int:=match x with
 | some b=>match Ieee.double.read b with
  | .number s m i=>if m=0 then(0,0)else((gf 64 m i).2,aT s (gf 64 m i).1)
  | _=>(0,0)
 | none=>(0,0)
def BU {b:Nat} {s:Bool} {m:Nat} {i:Int} (h:Ieee.double.read b=.number s m i):ofE (some b)=if m=0 then(0,0)else((gf 64 m i).2,aT s (gf 64 m i).1):=by unfold ofE; simp only[h]
def Io {N:Nat} (hN:1000<=N) {b:Nat} (hb:W64 b) {s:Bool} {m:Nat} {i:Int} (h:Ieee.double.read b=.number s m i) (k:Kx6) :
    rq N (some b) k=if m=0 then k s 0 0 0 else k s ((gf 64 m i).1:Int) (gf 64 m i).2 0:=by
  obtain⟨h1,h2,h3⟩:=lE h;have hpl:=ou h;have hnn:isNaN b=false:=by rw[afW]; intro hc; have:=(fk b).1 hc; omega
  have hbits:lN (some b)=b:=by simp only[lN,cnb,hnn]; rfl
  have hsg:(Int.fdiv (b:Int) (2 ^ 63)==1)=s:=by
    have e:(2:Int) ^ 63=((9223372036854775808:Nat):Int):=by decide
    rw[e,j6,h1];have hW:b / 9223372036854775808<2:=by have:=hb; omega
    have:b / 9223372036854775808=0\/b / 9223372036854775808=1:=by omega
    rcases this with h | h <;> rw[h] <;> rfl
  have fin:∀(e:Int),i=e - 1074 -> -1100<=e->e<=2100->kS N (some b) s e (m:Int) k=if m=0 then k s 0 0 0 else k s ((gf 64 m i).1:Int) (gf 64 m i).2 0:=by
    intro e he h5 h6;unfold kS;rw[aa adi,<- he];by_cases h0:m=0
    · subst h0; rw[if_pos rfl]; exact LA N i _
    · rw[if_neg h0,NS hN h0 (by have:(2:Nat) ^ 64=18446744073709551616:=(by decide); omega) (by omega) (by omega)]
  (unfold rq; rw[ac]; unfold qu)
  rw[AN,hbits];rw[hsg];have n2047:(((b / 4503599627370496%2048:Nat):Int)==2047)=false:=by simp; omega
  rw[n2047,adm];rcases h3 with⟨g1,g2,g3⟩ | ⟨g1,g2,g3⟩
  · have e0:b / 4503599627370496%2048=0:=by omega
    have e1:b%4503599627370496=m:=by omega
    rw[e0,e1,adl (by decide),adm];exact fin 0 (by omega) (by omega) (by omega)
  · have e0:0<b / 4503599627370496%2048:=by omega
    have e1:IntKind.wrap .u64 (((b%4503599627370496:Nat):Int)+4503599627370496)=(m:Int):=by rw[am]; omega
    rw[adk (by omega:((b / 4503599627370496%2048:Nat):Int)>0),adn,aa adi,e1];exact fin _ (by omega) (by omega) (by omega)
def RX {N:Nat} (hN:1000<=N) {x:Fl} (hx:bb x=true) (hw:FW x) (k:Int->Bool->List Int->Bool):zB N x k=exK (ofE x) k:=by
  obtain⟨b,s,m,i,rfl,h⟩:=mz hx;have hb:=hw b rfl
  (unfold zB; rw[ac]; unfold xR)
  rw[Io hN hb h,BU h];by_cases h0:m=0
  · rw[if_pos h0,if_pos h0]
    have:∀ κ,Ox N 0 false κ=κ false (aj 0):=λκ=>tg (N:=N) 0 (by decide) false (nH hN (by decide)) (by omega) κ
    rw[this];cases s
    · rw[adm]; unfold exK; rfl
    · rw[adn,AM _ _ (nH hN (by decide))]; unfold exK sR; rfl
  · rw[if_neg h0,if_neg h0]
    have hpl:=ou h;obtain⟨g1,g2,g3,g4⟩:=pq 64 m i h0 (by have:(2:Nat) ^ 64=18446744073709551616:=(by decide); omega);have hs:=nH (N:=N) (n:=(gf 64 m i).1) hN (by omega);rw[tg (N:=N) _ (by omega) false hs (by omega)];cases s
    · rw[adm]
      show _=k (gf 64 m i).2 (decide ((((gf 64 m i).1:Nat):Int)<0)) (aj (((gf 64 m i).1:Nat):Int).natAbs);rw[adl (by omega),aei]
    · rw[adn,AM _ _ hs]; rfl
def EV (x:Int × Int) (v:Int) (E:Nat):Prop:=0<=x.1+E/\x.2*2 ^ (x.1+E).toNat=v
def EV.up {x:Int × Int} {v:Int} {E:Nat} (h:EV x v E) (F:Nat):EV x (v*2 ^ F) (E+F):=by
 obtain⟨h1,h2⟩:=h;refine⟨by omega,?_⟩;have:(x.1+((E+F:Nat):Int)).toNat=(x.1+E).toNat+F:=by omega
 rw[this,Int.pow_add,<- Int.mul_assoc,h2]
def EV.mul {x y:Int × Int} {v w:Int} {E F:Nat} (h:EV x v E) (g:EV y w F):EV (wO x y) (v*w) (E+F):=by
 obtain⟨h1,h2⟩:=h;obtain⟨g1,g2⟩:=g;refine⟨by simp only[wO]; omega,?_⟩;have:((wO x y).1+((E+F:Nat):Int)).toNat=(x.1+E).toNat+(y.1+F).toNat:=by simp only[wO]; omega
 rw[this,Int.pow_add,<- h2,<- g2];simp only[wO];ac_rfl
def EV.neg {x:Int × Int} {v:Int} {E:Nat} (h:EV x v E):EV (O2 x) (-v) E:=⟨h.1,by rw[<- h.2]; exact agz _ _⟩
def AB {x:Int × Int} {v:Int} {E:Nat} (h:EV x v E) {e:Int} (he:e<=x.1) (hE:0<=e+E):qQ x e*2 ^ (e+E).toNat=v:=by unfold qQ;rw[Int.mul_assoc,<- Int.pow_add,show(x.1 - e).toNat+(e+E).toNat=(x.1+E).toNat by omega];exact h.2
def EV.add {x y:Int × Int} {v w:Int} {E:Nat} (h:EV x v E) (g:EV y w E):EV (GJ x y) (v+w) E:=by
 unfold GJ;split
 ·rename_i h0;have:v=0:=by rw[<- h.2,h0,Int.zero_mul]
  rw[this,Int.zero_add]; exact g
 ·split
  ·rename_i h0;have:w=0:=by rw[<- g.2,h0,Int.zero_mul]
   rw[this,Int.add_zero]; exact h
  ·have hE:0<=min x.1 y.1+E:=by have:=h.1; have:=g.1; omega
   exact⟨hE,by rw[Int.add_mul,AB h (by omega) hE,AB g (by omega) hE]⟩
def EV.sgn {x:Int × Int} {v:Int} {E:Nat} (h:EV x v E):vg x.2=vg v:=by
 rw[<- h.2];have hp:=Mc (x.1+E).toNat;unfold vg;rcases Int.lt_trichotomy x.2 0 with h | h | h
 ·have:=Int.mul_neg_of_neg_of_pos h hp;rw[if_neg (by omega),if_pos h,if_neg (by omega),if_pos this]
 ·rw[h,Int.zero_mul]
 ·have:=Int.mul_pos h hp;rw[if_neg (by omega),if_neg (by omega),if_neg (by omega),if_neg (by omega)]
def Ex.mono {E B E' B':Nat} {x:Int × Int} (h:Ex E B x) (hE:E<=E') (hB:B<=B'):Ex E' B' x:=⟨by have:=h.1; omega,by have:=h.2.1; omega,bK h.2.2 hB⟩
def Ex.mul {E B E' B':Nat} {x y:Int × Int} (h:Ex E B x) (g:Ex E' B' y):Ex (E+E') (B+B') (wO x y):=
 ⟨by have:=h.1; have:=g.1; simp only[wO]; omega,by have:=h.2.1; have:=g.2.1; simp only[wO]; omega,by show aQ _ (x.2*y.2).natAbs;rw[afa]; exact dC h.2.2 g.2.2⟩
def Ex.neg {E B:Nat} {x:Int × Int} (h:Ex E B x):Ex E B (O2 x):=⟨h.1,h.2.1,by show aQ _ (-x.2).natAbs; rw[afY]; exact h.2.2⟩
def ze {E B:Nat} {x:Int × Int} (h:Ex E B x) {e:Int} (he : -(E:Int)<=e):aQ (B+2*E) (qQ x e).natAbs:=by unfold qQ;rw[afa,Int.natAbs_pow];refine bK (tH h.2.2 _) ?_;have:=h.2.1; omega
def Ex.add {E B:Nat} {x y:Int × Int} (h:Ex E B x) (g:Ex E B y):Ex E (B+2*E+1) (GJ x y):=by
 unfold GJ;split
 ·exact g.mono (adx _) (by omega)
 ·split
  ·exact h.mono (adx _) (by omega)
  ·refine⟨by have:=h.1; have:=g.1; show -(E:Int)<=min x.1 y.1; omega,by have:=h.2.1; show min x.1 y.1<=E; omega,?_⟩;have h1:=ze h (e:=min x.1 y.1) (by have:=h.1; have:=g.1; omega);have h2:=ze g (e:=min x.1 y.1) (by have:=h.1; have:=g.1; omega);exact kT (uz h1 h2) (Int.natAbs_add_le _ _)
def NM {N:Nat} (hN:1000<=N) {E B:Nat} {x:Int × Int} (hx:Ex E B x) {e:Int} (he : -(E:Int)<=e) (hB:B+2*E<=30000) (k0:Bool) (k1:Bool->List Int->Bool) (h0:x.1<=e->k0=sR x.2 k1) (he2:x.1<=e->e=x.1) :
  Sw N x.1 e (decide (x.2<0)) (aj x.2.natAbs) k0 k1=sR (qQ x e) k1:=by
 unfold Sw S5;have hx1:=hx.1;have hx2:=hx.2.1;by_cases hc:x.1<=e
 ·rw[adk (by omega:e>=x.1),adn,h0 hc];have:qQ x e=x.2:=by unfold qQ;rw[he2 hc,Int.sub_self]; simp
  rw[this]
 ·rw[adl (by omega:¬ e>=x.1),adm,aa adi];have ew:IntKind.wrap .u64 (x.1 - e)=(((x.1 - e).toNat:Nat):Int):=by rw[am]; omega
  rw[ew,AL _ _ _ _ (Ar hN (by omega) hx.2.2)];congr 1;unfold qQ aT;by_cases hz:x.2<0
  ·rw[adk hz,if_pos rfl,adH,aeP,<- agz];congr 1; omega
  ·rw[adl hz,if_neg (by decide),adH,aeP];congr 1; omega
def FX {x:Fl} (hx:bb x=true):Ex 1100 53 (ofE x):=by
  obtain⟨b,s,m,i,rfl,h⟩:=mz hx;rw[BU h];have hpl:=ou h;have hpg:=DW h;by_cases h0:m=0
  · rw[if_pos h0]; exact⟨by decide,by decide,adz _⟩
  · rw[if_neg h0]
    obtain⟨g1,g2,g3,g4⟩:=pq 64 m i h0 (by have:(2:Nat) ^ 64=18446744073709551616:=(by decide); omega);refine⟨by show -((1100:Nat):Int)<=(gf 64 m i).2; omega,by show(gf 64 m i).2<=((1100:Nat):Int); omega,?_⟩;show aQ 53 (aT s (gf 64 m i).1).natAbs;have:(aT s (gf 64 m i).1).natAbs=(gf 64 m i).1:=by unfold aT; cases s <;> simp
    rw[this];show _<2 ^ 53;have:(2:Nat) ^ 53=9007199254740992:=by decide
    omega
def A1:∀(f t c:Nat) (e:Int),t<f->gf f (2 ^ t*(2*c+1)) e=(2*c+1,e+t)
 | 0,t,c,e,h=>by omega
 | f+1,0,c,e,h=>by
  unfold gf;rw[afh,afn,if_neg (by omega)];simp
 | f+1,t+1,c,e,h=>by
  unfold gf;have e1:2 ^ (t+1)*(2*c+1)=2*(2 ^ t*(2*c+1)):=by rw[ady]; ac_rfl
  rw[e1,if_pos (by omega),adY _ (by decide),A1 f t c (e+1) (by omega)];congr 1; omega
def MJ {b:Nat} (hb:W64 b):(aA .and .u64 (b:Int) 9223372036854775808 != 0)=(b / 9223372036854775808%2==1):=by
 have e1:(9223372036854775808:Int)=((2 ^ 63:Nat):Int):=by decide
 have p63:(2:Nat) ^ 63=9223372036854775808:=by decide
 rw[e1,sV hb (by rw[p63]; omega)];have h1:b / 9223372036854775808%2=0\/b / 9223372036854775808%2=1:=by omega
 have h2:b.testBit 63=decide (b / 2 ^ 63%2=1):=Nat.testBit_eq_decide_div_mod_eq;rw[p63]at h2;rcases h1 with h | h
 ·have hz:b &&& 2 ^ 63=0:=by
   refine afC (λj=>?_);rw[agk,afc,Nat.zero_testBit];by_cases hj:63=j
   ·subst hj; rw[h2,h]; rfl
   ·rw[adl hj,Bool.and_false]
  rw[hz,h]; rfl
 ·have hz:b &&& 2 ^ 63 ≠ 0:=by intro hc;have:=agy (λn=>n.testBit 63) hc;simp only[agk,afc,Nat.zero_testBit,h2,h]at this;simp at this
  rw[h];generalize b &&& 2 ^ 63=z at hz ⊢;have:((z:Int) != 0)=true:=by simp; exact hz
  rw[this]; rfl
def A4 {N:Nat} {b m:Nat} {i:Int} {s:Bool} (hpl:i<=971/\m<9007199254740992) (hb:W64 b) (k:Kx6) (E:Int) (hEi:i=E) (h5 : -1100<=E) (h6:E<=1100) (h0:m ≠ 0):HN N (b:Int) 52 2047 1075 s (m:Int) E k=k s ((gf 64 m i).1:Int) (gf 64 m i).2 0:=by
 unfold HN;obtain⟨t,c,hm⟩:=zk m h0;have ht0:0<2 ^ t:=adz t;have ht:t<64:=by
  rcases aen t 64 with g | g
  ·exact g
  ·have g2:2 ^ 64<=2 ^ t:=adB (by decide) g;have g3:2 ^ t*1<=2 ^ t*(2*c+1):=ads _ (by omega);have g4:(2:Nat) ^ 64=18446744073709551616:=by decide
   omega
 rw[hm,RY N (by rw[<- hm]; omega),A1 64 t c i ht,aa (adk (by omega)),aa adi,adr,show min t 64=t by omega];have e2:(2:Int) ^ t=((2 ^ t:Nat):Int):=by rw[aeP]; rfl
 rw[e2,j6,adY _ ht0,hEi]
def Ft {N:Nat} {b:Nat} (hb:W64 b) {s:Bool} {m:Nat} {i:Int} (h:Ieee.double.read b=.number s m i) (k:Kx6) :
  px N (some b) k=if m=0 then k s 0 0 0 else k s ((gf 64 m i).1:Int) (gf 64 m i).2 0:=by
 obtain⟨h1,h2,h3⟩:=lE h;have hpl:=ou h;have hnn:isNaN b=false:=by rw[afW]; intro hc; have:=(fk b).1 hc; omega
 have hcnb:cnb b=b:=by simp only[cnb,hnn]; rfl
 have hcls:=Bs b;rw[hcnb]at hcls;have hE:b / 4503599627370496%2048<2047:=by omega
 rw[if_neg (Nat.ne_of_lt hE)]at hcls;have hc:(b / 4503599627370496%2048=0/\b%4503599627370496=m/\cls b=(if m=0 then 3 else 4)/\i = -1074)\/(b / 4503599627370496%2048 ≠ 0/\m=4503599627370496+b%4503599627370496/\cls b=5/\i=((b / 4503599627370496%2048:Nat):Int) - 1075):=by
  rcases h3 with⟨g1,g2,g3⟩ | ⟨g1,g2,g3⟩
  ·have e0:b / 4503599627370496%2048=0:=by omega
   have e1:b%4503599627370496=m:=by omega
   rw[if_pos e0,e1]at hcls;exact .inl ⟨e0,e1,hcls,by omega⟩
  ·have e0:b / 4503599627370496%2048 ≠ 0:=by omega
   rw[if_neg e0]at hcls;exact .inr ⟨e0,by omega,hcls,by omega⟩
 generalize hx:b / 4503599627370496%2048=x at hE hc;generalize hy:b%4503599627370496=y at hc;have hylt:y<4503599627370496:=by omega
 have goal0:px N (some b) k=(ah .i64 ((x:Int) - 1075)&&(cond ((cls b:Int)==1) (k false 0 0 4) (cond ((cls b:Int)==2) (k false 0 0 4) (cond ((cls b:Int)==3) (k s 0 0 0) (cond ((cls b:Int)==4) ((ah .i64 (((x:Int) - 1075)+1))&&(HN N (b:Int) 52 2047 1075 s (y:Int) (((x:Int) - 1075)+1) k)) (lG N 52 2047 1075 (λ(VR:Int)=>(HN N (b:Int) 52 2047 1075 s (aA .or .u64 (y:Int) VR) ((x:Int) - 1075) k)))))))):=by
  unfold px xO;show SA N (b:Int) 52 2047 1075 _=_
  (unfold SA; rw[ac]; unfold Qi)
  rw[AU,hcnb,MJ hb,<- h1,AP,hx,hy]
 rw[goal0,aa adi];clear goal0 hcls h1 h2 h3 hcnb hnn;rcases hc with⟨c1,c2,c3,c4⟩ | ⟨c1,c2,c3,c4⟩
 ·rw[c3];by_cases h0:m=0
  ·rw[if_pos h0,if_pos h0]; rfl
  ·rw[if_neg h0,if_neg h0,c2];show(ah .i64 (((x:Int) - 1075)+1)&&_)=_;rw[aa adi];exact A4 hpl hb k _ (by omega) (by omega) (by omega) h0
 ·have h0:m ≠ 0:=by omega
  rw[c3,if_neg h0];have eor:aA .or .u64 (y:Int) 4503599627370496=(m:Int):=by
   have p52:(2:Nat) ^ 52=4503599627370496:=by decide
   have:=cl y 1 52 (by omega) (by omega);rw[p52]at this;rw[show((4503599627370496*1:Nat):Int)=4503599627370496 from rfl]at this;rw[this]; omega
  rw[show((5:Int)==1)=false from rfl,adm,show((5:Int)==2)=false from rfl,adm,show((5:Int)==3)=false from rfl,adm,show((5:Int)==4)=false from rfl,adm,jX,eor];exact A4 hpl hb k _ (by omega) (by omega) (by omega) h0
def Je {z:Int}:(vg z==0)=decide (z=0):=by
 unfold vg;by_cases h:z=0
 ·rw[if_pos h,adk h]; rfl
 ·rw[if_neg h,adl h];by_cases hl:z<0
  ·rw[if_pos hl]; rfl
  ·rw[if_neg hl]; rfl
def pu (p:Int × Int):Rat:=if 0<=p.1 then mkRat (p.2*((2 ^ p.1.toNat:Nat):Int)) 1 else mkRat p.2 (2 ^ (-p.1).toNat)
def RU (a b:Int):imm true a b=max a b:=by
 unfold imm; simp only[adn];by_cases h:a<=b
 ·have:max a b=b:=by omega
  rw[this];by_cases h2:b>a
  ·rw[adk h2]; rfl
  ·rw[adl h2,adm]; omega
 ·have:max a b=a:=by omega
  rw[this,adl (by omega),adm]
def O9 (n:Nat):¬((n:Nat):Int)<0:=by omega
def zj (g:Bool):(g != false)=g:=by cases g <;> rfl
def Kz {B s n:Nat} (h:aQ B n):aQ (B+s) (n*2 ^ s):=tH h s
def yd {s:Nat}:aQ (s+1) (2 ^ s):=by unfold aQ; rw[ady]; have:=adz s; omega
def GA:aQ 1 1:=by unfold aQ; decide
def vD:ae 1=[1]:=oY (by decide) (by decide)
def RV {w:Int} (k:Kx8):kq (mkRat w 1) k=kr w 1 k:=by unfold kq;rw[Rat.mkRat_one,Rat.num_intCast,Rat.den_intCast]
def GR {N:Nat} (hF:Fuel N) (x:Fl) (s:Bool) (M e z:Int) (he : -1100<=e) (he2:e<=1100) (hz:aQ 53 z.natAbs) (k:Kx8) :
  bX N x s M e (decide (z<0)) (ae z.natAbs) k=kq (pu (e,z)) k:=by
 have hN:=hF.lt;unfold bX;have n1:=λkk=>qW (N:=N) (by omega) 1 (by decide) kk
 rw[show((1:Nat):Int)=1 from rfl]at n1;rw[n1,aa adi,RU];obtain⟨t,ht⟩:∃ t:Nat,max e (0 - e)=(t:Int):=⟨(max e (0 - e)).toNat,by omega⟩
 have ew:IntKind.wrap .u64 (max e (0 - e))=(t:Int):=by rw[am]; omega
 have htb:t<=1100:=by omega
 rw[ew,Ik t false false 1 (by omega) (by rw[vD]; simp; omega) (by rw[vD]; simp)];unfold qT;have e1:aT false (1*2 ^ t)=((2 ^ t:Nat):Int):=by unfold aT; rw[afn]; rfl
 rw[e1,adl (O9 (2 ^ t)),aei];dsimp only;have hp:=adz t;have hzb:aQ 2000 z.natAbs:=bK hz (by omega);have htb2:aQ 2000 (2 ^ t):=bK yd (by omega);by_cases hc:e<0
 ·rw[adk hc,adn];unfold Oi PD;rw[zj,wR hF (B:=2000) (by decide) _ hzb htb2 hp,iv];unfold pu;dsimp only;have:(-e).toNat=t:=by omega
  rw[if_neg (by omega),this]
 ·rw[adl hc,adm];unfold Pd OL;have hm:aQ 4000 (z.natAbs*2 ^ t):=bK (dC hzb htb2) (by omega);rw[sy hF (by decide) hzb htb2,zj];rw[mJ (decide (z<0)) _ _ (z.natAbs*2 ^ t) (λa b=>So N false false a b (λc8 s7 c9 s8=>k c8 s7 c9 s8))];rw[qU];obtain⟨w,hw⟩:∃ w:Int,w=z*((2 ^ t:Nat):Int):=⟨_,rfl⟩
  have hwb:aQ 4000 w.natAbs:=by rw[hw,afa,aei]; exact hm
  rw[<- hw];unfold qT So S0;dsimp only;rw[pd (by decide) hwb];have er:pu (e,z)=mkRat w 1:=by
   unfold pu;dsimp only;have:e.toNat=t:=by omega
   rw[if_pos (by omega),this,hw]
  rw[er,RV]
  (unfold Tv; rw[ac]; unfold Qf I7 Nd Pf OM kr)
  rw[vD];by_cases hl:w<0
  ·rw[adk hl];have h2:decide (((ae w.natAbs).length:Int)>0)=true:=by rw[nX]; exact adk (by omega)
   simp only[h2];rfl
  ·rw[adl hl]; rfl
def pe (N:Nat) (e:Int) (k0:Bool):dc N ((0:Int)==0) e k0=k0:=rfl
def Dw {N:Nat} (hF:Fuel N) {x:Fl} (hx:bb x=true) (hw:FW x) (k:Kx8):jp N x k=kq (pu (ofE x)) k:=by
 have hN:=hF.lt;have hex:=FX hx;obtain⟨b,s,m,i,rfl,h⟩:=mz hx;have ho:=BU h
 (unfold jp; rw[ac]; unfold jk)
 have fin:∀(M:Nat) (e:Int),M<18446744073709551616->ofE (some b)=(e,aT s M) ->
   dc N ((0:Int)==0) 4 (Oj N (M:Int) false (λ(Vr:Bool) (nsr:List Int)=>(cond s (Ot N Vr nsr (λ(VH:Bool) (Vp:List Int)=>(bX N (some b) s (M:Int) e VH Vp k))) (bX N (some b) s (M:Int) e Vr nsr k))))=kq (pu (ofE (some b))) k:=by
  intro M e hM heq;rw[heq]at hex ⊢;have h1:=hex.1;have h2:=hex.2.1;have h3:=hex.2.2;dsimp only at h1 h2 h3;have hl:(ae M).length<=1099511627776:=by
   have:aQ 64 M:=by unfold aQ; omega
   have:=xu (B:=64) (by decide) this; omega
  rw[pe,Ls (by omega) M hM];cases s
  ·rw[adm];have e1:aT false M=(M:Int):=rfl;rw[e1]at h3 ⊢;have:=GR hF (some b) false (M:Int) e (M:Int) (by omega) (by omega) h3 k;rw[adl (by omega:¬(M:Int)<0),aei]at this;exact this
  ·rw[adn,Il false M hl];have e1 : -(aT false M)=aT true M:=rfl;rw[e1];exact GR hF (some b) true (M:Int) e (aT true M) (by omega) (by omega) h3 k
 rw[Ft (hw b rfl) h];by_cases h0:m=0
 ·rw[if_pos h0];rw[if_pos h0]at ho;refine fin 0 0 (by decide) ?_;rw[ho];cases s <;> rfl
 ·rw[if_neg h0];rw[if_neg h0]at ho;have hpl:=ou h;have hm:m<2 ^ 64:=by
   have:(2:Nat) ^ 64=18446744073709551616:=by decide
   omega
  obtain⟨g1,g2,g3,g4⟩:=pq 64 m i h0 hm;exact fin _ _ (by omega) ho
def NT (N:Nat) (k:Kz7):qg N k=k (aj 1):=by rw[KU]; rfl
def Dr {N:Nat} (hF:Fuel N) {z:Int} (hz:aQ 30000 z.natAbs) (b1 b2:Bool) (k:Kx8) :
  Om N b1 b2 (decide (z<0)) (aj z.natAbs) k=kqR (mkRat z 1) k:=by
 unfold Om SS;rw[NT,sq hF (B:=30000) (by decide) _ hz (bK GA (by decide)) (by decide),iv]
def Ip {N:Nat} (hF:Fuel N) {x:Fl} (hx:bb x=true) (hw:FW x) (k:Kx8):rv N x k=kqR (pu (ofE x)) k:=by
 have hN:=hF.lt;have hex:=FX hx;unfold rv wt;rw[RX (by omega) hx hw];obtain⟨p,hp⟩:∃ p,p=ofE x:=⟨_,rfl⟩
 rw[<- hp]at hex ⊢;obtain⟨e,z⟩:=p;have h1:=hex.1;have h2:=hex.2.1;have h3:=hex.2.2;dsimp only at h1 h2 h3
 (unfold exK; unfold Tx; rw[ac]; unfold Qh)
 dsimp only;by_cases hc:e>=0
 ·rw[adk hc,adn];have hl:=λk0 k1 h0 he2=>NM (N:=N) (by omega) hex (e:=0) (by omega) (by decide) k0 k1 h0 he2
  dsimp only at hl;rw[hl]
  ·unfold sR;have hb:=ze hex (e:=0) (by omega);dsimp only;rw[Dr hF (bK hb (by decide))];unfold pu qQ;dsimp only;rw[if_pos hc,Int.sub_zero,aeP];rfl
  ·intro _; rfl
  ·intro h; omega
 ·rw[adl hc,adm];have n1:=λkk=>yS (N:=N) 1 (by decide) (by have:=p9 (B:=1) (n:=1) (by decide) (by unfold aQ; decide);exact⟨by omega,by omega⟩) (by omega) kk
  rw[show((1:Nat):Int)=1 from rfl]at n1;rw[n1,aa adi];obtain⟨t,ht⟩:∃ t:Nat,(0 - e)=(t:Int):=⟨(0 - e).toNat,by omega⟩
  have ew:IntKind.wrap .u64 (0 - e)=(t:Int):=by rw[am]; omega
  rw[ew,AL t false false 1 (Ar (B:=1) (by omega) (by omega) (by unfold aQ; decide))];unfold sR;have e1:aT false (1*2 ^ t)=((2 ^ t:Nat):Int):=by unfold aT; rw[afn]; rfl
  rw[e1,adl (O9 (2 ^ t)),aei];dsimp only;have htp:=adz t;have hzb:aQ 2000 z.natAbs:=bK h3 (by omega);have htb2:aQ 2000 (2 ^ t):=bK yd (by omega);unfold Tt SZ;rw[zj,sq hF (B:=2000) (by decide) _ hzb htb2 (Nat.ne_of_gt htp),iv];unfold pu;dsimp only;have:(-e).toNat=t:=by omega
  rw[if_neg (by omega),this]
def ur {B:Nat} {z:Int} {d:Nat} (hz:aQ B z.natAbs) (hd:aQ B d) (h0:0<d):Bq B (mkRat z d):=by
 refine⟨?_,?_⟩
 ·rw[agA,if_neg (by omega)];have h1:((Nat.gcd z.natAbs d:Nat):Int)∣z:=Int.ofNat_dvd_left.2 (aed _ _);rw[aeE,Int.natAbs_ediv_of_dvd h1,aei];exact bP hz
 ·rw[agB,if_neg (by omega)];exact bP hd
def Oa {x:Fl} (hx:bb x=true):Bq 1200 (pu (ofE x)):=by
 have hex:=FX hx;obtain⟨p,hp⟩:∃ p,p=ofE x:=⟨_,rfl⟩
 rw[<- hp]at hex ⊢;obtain⟨e,z⟩:=p;have h1:=hex.1;have h2:=hex.2.1;have h3:=hex.2.2;dsimp only at h1 h2 h3;unfold pu;dsimp only;split
 ·refine ur ?_ (bK GA (by decide)) (by decide);rw[afa,aei];exact bK (Kz h3) (by omega)
 ·exact ur (bK h3 (by omega)) (bK yd (by omega)) (adz _)
def Bg {A B:Nat} {x y:Rat} (hx:Bq A x) (hy:Bq B y):Bq (A+B) (x*y):=by rw[Rat.mul_def'];refine ur ?_ (dC hx.2 hy.2) (afo x.den_pos y.den_pos);rw[afa]; exact dC hx.1 hy.1
def Py {B:Nat} {y:Rat} (hy:Bq B y) (h:y.num ≠ 0):Bq B (y⁻¹):=by obtain⟨i1,i2,i3⟩:=yH h;exact⟨by rw[i1]; exact hy.2,by rw[i2]; exact hy.1⟩
def EJ {A B:Nat} {x y:Rat} (hx:Bq A x) (hy:Bq B y) (h:y.num ≠ 0):Bq (A+B) (x / y):=by rw[Rat.div_def]; exact Bg hx (Py hy h)
def Pz {B:Nat} {y:Rat} (hy:Bq B y):Bq B (-y):=⟨by rw[Rat.neg_num,afY]; exact hy.1,hy.2⟩
def Px {A B:Nat} {x y:Rat} (hx:Bq A x) (hy:Bq B y):Bq (A+B+1) (x+y):=by rw[Rat.add_def'];refine ur (Aq (rU hx.1 hy.2) ?_) (bK (dC hx.2 hy.2) (by omega)) (afo x.den_pos y.den_pos);rw[afg]; exact rU hy.1 hx.2
def Ju {A B:Nat} {x y:Rat} (hx:Bq A x) (hy:Bq B y):Bq (A+B+1) (x - y):=by rw[Rat.sub_eq_add_neg]; exact Px hx (Pz hy)
def Gk {B:Nat}:Bq (B+1) 0:=⟨adz _,by show 1<2 ^ (B+1); exact Nat.one_lt_two_pow (by omega)⟩
def enc (x:Rat):RY1:=((decide (x.num<0),ae x.num.natAbs),(false,ae x.den))
def dE (x:Rat):RY2:=((decide (x.num<0),aj x.num.natAbs),(false,aj x.den))
def mat {α:Type} (g:Rat->α) (n:Nat) (f:Nat->Nat->Rat):List α:=(List.range (n*n)).map (λt=>g (f (t / n) (t%n)))
def po {α:Type} (g:Rat->α) (n:Nat) (f:Nat->Nat->Rat):(mat g n f).length=n*n:=by unfold mat; rw[afk,List.length_range]
def kU {n i j:Nat} (hi:i<n) (hj:j<n):i*n+j<n*n:=by have h1:(i+1)*n<=n*n:=adp _ hi;rw[adQ]at h1; omega
def xF {n i j:Nat} (hj:j<n):(i*n+j) / n=i:=by rw[ado,agm (by omega),adS hj,adU]
def xG {n i j:Nat} (hj:j<n):(i*n+j)%n=j:=by rw[ado,afy,adv hj]
def ly {α:Type} (g:Rat->α) (n:Nat) (f:Nat->Nat->Rat) {i j:Nat} (hi:i<n) (hj:j<n) (z:α):(mat g n f).getD (i*n+j) z=g (f i j):=by have h:=kU hi hj;unfold mat;rw[List.getD_eq_getElem?_getD,List.getElem?_map,List.getElem?_range h];simp only[aeS,ad_,xF hj,xG hj]
def jz {α:Type} (g:Rat->α) (n:Nat) {f f':Nat->Nat->Rat} (h:∀ a b,a<n->b<n->f a b=f' a b):mat g n f=mat g n f':=by
 unfold mat;apply agb;intro t ht;have ht:=List.mem_range.1 ht;have hn:0<n:=by
  rcases aeI n with h0 | h0
  ·rw[h0]at ht; omega
  ·exact h0
 rw[h _ _ (afi ht) (adA _ hn)]
def G2 {α:Type} (g:Rat->α) (n:Nat) (f:Nat->Nat->Rat) {i j:Nat} (hi:i<n) (hj:j<n) (v:Rat):(mat g n f).set (i*n+j) (g v)=mat g n (λa b=>if a=i/\b=j then v else f a b):=by
 have h:=kU hi hj;apply List.ext_getElem?;intro t;by_cases ht:t<n*n
 ·have hn:0<n:=by omega
  rw[List.getElem?_set];unfold mat;rw[List.getElem?_map,List.getElem?_map,List.getElem?_range ht];simp only[afk,List.length_range,aeS];by_cases he:i*n+j=t
  ·rw[if_pos he,if_pos h,<- he,xF hj,xG hj,if_pos ⟨rfl,rfl⟩]
  ·rw[if_neg he];have:¬(t / n=i/\t%n=j):=by rintro ⟨h1,h2⟩;apply he;rw[<- h1,<- h2,ado];exact aeh t n
   rw[if_neg this]
 ·rw[List.getElem?_eq_none (by rw[agd,po]; omega),List.getElem?_eq_none (by rw[po]; omega)]
def rC {n:Nat} (h:n<=1000):n*n<=1000000:=by have:n*n<=1000*1000:=aee h h;omega
def jS (i j n:Nat):(i:Int)*(n:Int)+(j:Int)=((i*n+j:Nat):Int):=by rw[Int.natCast_add,adH]
def jT {n i j:Nat} (hn:n<=1000) (hi:i<n) (hj:j<n):ah .i64 ((i:Int)*(n:Int))=true/\ah .i64 (((i*n+j:Nat):Int))=true:=by have h1:=rC hn;have h2:=kU hi hj;rw[<- adH];exact⟨ab (by omega) (by omega),ab (by omega) (by omega)⟩
def pg {N n i j:Nat} (hn:n<=1000) (hi:i<n) (hj:j<n) (f:Nat->Nat->Rat) (k:Kx8) :
  aW N n n i j (mat enc n f) k=kq (f i j) k:=by
 obtain⟨h1,h2⟩:=jT hn hi hj;have h3:=kU hi hj
 (unfold aW; rw[ac]; unfold e_)
 rw[jS,aa h1,aa h2,po,adr,aa adj,aa (adk h3),ly enc n f hi hj];rfl
def NW {N n i j:Nat} (hn:n<=1000) (hi:i<n) (hj:j<n) (f:Nat->Nat->Rat) (v:Rat) (k:List RY1->Bool) :
  fw N n n i j (decide (v.num<0)) (ae v.num.natAbs) false (ae v.den) (mat enc n f) k=k (mat enc n (λa b=>if a=i/\b=j then v else f a b)):=by
 obtain⟨h1,h2⟩:=jT hn hi hj;have h3:=kU hi hj;unfold fw jr;rw[jS,aa h1,aa h2,po,adr,aa adj,aa (adk h3)];exact agy k (G2 enc n f hi hj v)
def si {N n i j:Nat} (hn:n<=1000) (hi:i<n) (hj:j<n) (f:Nat->Nat->Rat) (k:Kz4) :
  Eb N n n i j (mat dE n f) k=k (i*n+j):=by
 obtain⟨h1,h2⟩:=jT hn hi hj;have h3:=kU hi hj;unfold Eb SX;rw[jS,aa h1,aa h2,po,adr,aa adj,aa (adk h3)]
def B5 (l:List RY2) (i:Nat):List.set l i (((List.getD l i ((false,[]),(false,[]))).1.1,(List.getD l i ((false,[]),(false,[]))).1.2),((List.getD l i ((false,[]),(false,[]))).2.1,(List.getD l i ((false,[]),(false,[]))).2.2))=l:=by
 show List.set l i (List.getD l i ((false,[]),(false,[])))=l;apply List.ext_getElem?;intro t;rw[List.getElem?_set];by_cases h:i=t
 ·subst h;rw[if_pos rfl];by_cases hl:i<l.length
  ·rw[if_pos hl,List.getD_eq_getElem?_getD,List.getElem?_eq_getElem hl]; rfl
  ·rw[if_neg hl,List.getElem?_eq_none (by omega)]
 ·rw[if_neg h]
def tR {σ:Type} {step:σ->(σ->Bool)->Bool} (C:Nat->σ) (m n:Nat) (hmn:m<=n) {N:Nat} (hn:n<N) {out:Bool} (hs:∀ i,m<=i->i<n -> ∀ K:σ->Bool,step (C i) K=K (C (i+1))) (hx:∀ K,step (C n) K=out):ai N step (C m)=out:=by have:=aD (step:=step) (λi=>C (m+i)) (n - m) (N:=N) (by omega) (out:=out) (λi hi K=>hs (m+i) (by omega) (by omega) K) (λK=>by show step (C (m+(n - m))) K=out; rw[show m+(n - m)=n by omega]; exact hx K);exact this
def vx (f:Nat->Nat->Rat) (i c:Nat) (x:Rat) (t:Nat):Nat->Nat->Rat:=λa b=>if a=i/\b<t then f i b+f c b*x else f a b
def fE (f:Nat->Nat->Rat) (c m:Nat):Nat->Nat->Rat:=λa b=>if c<a/\a<m then f a b - f a c / f c c*f c b else f a b
def pU (B n:Nat) (f:Nat->Nat->Rat):Prop:=∀ a b,a<n->b<n->Bq B (f a b)
def Lv {N B n i c:Nat} (hF:Fuel N) (hB:B<=300000000000) (hn:n<=1000) (hi:i<n) (hc:c<n) (hic:c ≠ i) {f:Nat->Nat->Rat} (hf:pU B n f) {x:Rat} (hx:Bq (2*B) x) (k:List RY1->Bool) :
  fv N n n i c (decide (x.num<0)) (ae x.num.natAbs) false (ae x.den) (mat enc n f) k=k (mat enc n (vx f i c x n)):=by
 have hN:=hF.lt
 (unfold fv; rw[ac]; unfold e9)
 have h0:mat enc n f=mat enc n (vx f i c x 0):=jz _ _ (λa b _ _=>by unfold vx; rw[if_neg (by omega)]);rw[h0];refine aD (λt:Nat=>((t:Int),mat enc n (vx f i c x t))) n (by omega) ?_ ?_
 ·intro t ht K;unfold cj;dsimp only;rw[adk (by omega:(t:Int)<(n:Int)),adn,pg hn hi ht];have e1:vx f i c x t i t=f i t:=by unfold vx; rw[if_neg (by omega)]
  have e2:vx f i c x t c t=f c t:=by unfold vx; rw[if_neg (by omega)]
  unfold kq kr;dsimp only;rw[pg hn hc ht,e1,e2];unfold kq kr;dsimp only;rw[NQ hF (B:=2*B) (by omega) ((hf c t hc ht).mono (by omega)) hx];unfold kq kr;dsimp only;rw[NO hF (B:=3*B) (by omega) ((hf i t hi ht).mono (by omega)) ((Bg (hf c t hc ht) hx).mono (by omega))];unfold kq kr;dsimp only;rw[NW hn hi ht,aa adi];have e3:mat enc n (λa b=>if a=i/\b=t then f i t+f c t*x else vx f i c x t a b)=mat enc n (vx f i c x (t+1)):=jz _ _ (λa b _ _=>by
   unfold vx;by_cases h:a=i/\b=t
   ·rw[if_pos h,if_pos (by omega),h.2]
   ·rw[if_neg h];by_cases h2:a=i/\b<t
    ·rw[if_pos h2,if_pos (by omega)]
    ·rw[if_neg h2,if_neg (by omega)])
  rw[e3];rfl
 ·intro K;unfold cj;dsimp only;rw[adl (by omega:¬(n:Int)<(n:Int)),adm]
def nz (f:Nat->Nat->Rat) (i c:Nat) (r:Rat) (t:Nat):Nat->Nat->Rat:=λa b=>if a=i/\b<t then f i b - r*f c b else f a b
def Iz {N B n i c:Nat} (hF:Fuel N) (hB:B<=300000000000) (hn:n<=1000) (hi:i<n) (hc:c<n) (hic:c ≠ i) {f:Nat->Nat->Rat} (hf:pU B n f) {r:Rat} (hx:Bq (2*B) r) (k:List RY2->Bool) :
  Sn N n n i c (mat dE n f) (decide (r.num<0)) (aj r.num.natAbs) false (aj r.den) k=k (mat dE n (nz f i c r n)):=by
 have hN:=hF.lt
 (unfold Sn; rw[ac]; unfold PT)
 have h0:mat dE n f=mat dE n (nz f i c r 0):=jz _ _ (λa b _ _=>by unfold nz; rw[if_neg (by omega)]);rw[h0];refine aD (λt:Nat=>((t:Int),mat dE n (nz f i c r t))) n (by omega) ?_ ?_
 ·intro t ht K;unfold Cd;dsimp only;rw[adk (by omega:(t:Int)<(n:Int)),adn,si hn hi ht,si hn hi ht,si hn hc ht,B5];have e1:nz f i c r t i t=f i t:=by unfold nz; rw[if_neg (by omega)]
  have e2:nz f i c r t c t=f c t:=by unfold nz; rw[if_neg (by omega)]
  rw[ly dE n _ hi ht,ly dE n _ hc ht,e1,e2];unfold dE;dsimp only;rw[Lz hF (B:=2*B) (by omega) hx ((hf c t hc ht).mono (by omega))];unfold kqR krR;dsimp only;rw[aa (adk rfl),LN hF (B:=3*B) (by omega) ((hf i t hi ht).mono (by omega)) ((Bg hx (hf c t hc ht)).mono (by omega))];unfold kqR krR;dsimp only;rw[aa adi];have e4:=G2 dE n (nz f i c r t) hi ht (f i t - r*f c t);have e3:mat dE n (λa b=>if a=i/\b=t then f i t - r*f c t else nz f i c r t a b)=mat dE n (nz f i c r (t+1)):=jz _ _ (λa b _ _=>by
   unfold nz;by_cases h:a=i/\b=t
   ·rw[if_pos h,if_pos (by omega),h.2]
   ·rw[if_neg h];by_cases h2:a=i/\b<t
    ·rw[if_pos h2,if_pos (by omega)]
    ·rw[if_neg h2,if_neg (by omega)])
  rw[e3]at e4;exact agy (λl=>K ((t:Int)+1,l)) e4
 ·intro K;unfold Cd;dsimp only;rw[adl (by omega:¬(n:Int)<(n:Int)),adm]
def tG (g:Nat->Rat):Nat->Nat->Bool
 | i,0=>true
 | i,d+1=>decide (g i=0)&&tG g (i+1) d
def yb {g h:Nat->Rat}:∀ d i,(∀ j,i<=j->j<i+d->g j=h j)->tG g i d=tG h i d
 | 0,i,_=>rfl
 | d+1,i,e=>by unfold tG;rw[e i (adx _) (by omega),yb d (i+1) (λj h1 h2=>e j (by omega) (by omega))]
def vi (n:Nat):Nat->Nat->Int->(Nat->Nat->Rat)->Int
 | 0,c,s,f=>s
 | d+1,c,s,f=>if (f c c).num<0 then 1 else if f c c=0 then(if tG (λi=>f i c) (c+1) d=true then vi n d (c+1) 2 f else 1)else vi n d (c+1) s (fE f c n)
def Ed (z:Int):decide (vg z<0)=decide (z<0):=by
 unfold vg;by_cases h0:z=0
 ·rw[if_pos h0,h0]
 ·rw[if_neg h0];by_cases h:z<0
  ·rw[if_pos h,adk h]; rfl
  ·rw[if_neg h,adl h]; rfl
def ra {x:Rat}:(x.num=0)↔x=0:=Rat.num_eq_zero
def rB (x:Rat):(vg x.num==0)=decide (x=0):=by
 rw[Je];by_cases h:x=0
 ·rw[adk h,adk (ra.2 h)]
 ·rw[adl h,adl (λg=>h (ra.1 g))]
def OB (x:Rat):(vg x.num != 0) = !decide (x=0):=by rw[<- rB]; rfl
def r_ {B n c m:Nat} {f:Nat->Nat->Rat} (hf:pU B n f) (hc:c<n) (h0:f c c ≠ 0):pU (4*B+1) n (fE f c m):=by
 intro a b ha hb;unfold fE;split
 ·exact(Ju (hf a b ha hb) (Bg (EJ (hf a c ha hc) (hf c c hc hc) (λh=>h0 (ra.1 h))) (hf c b hc hb))).mono (by omega)
 ·exact(hf a b ha hb).mono (by omega)
def yr (f:Nat->Nat->Rat) (c:Nat) {α:Type} (g:Rat->α) (n:Nat):mat g n (fE f c (c+1))=mat g n f:=jz _ _ (λa b _ _=>by unfold fE; rw[if_neg (by omega)])
def qP {f:Nat->Nat->Rat} {c i:Nat} (b:Nat):fE f c i i b=f i b:=by unfold fE; rw[if_neg (by omega)]
def yu {f:Nat->Nat->Rat} {c i:Nat} (b:Nat):fE f c i c b=f c b:=by unfold fE; rw[if_neg (by omega)]
def vG {f:Nat->Nat->Rat} {c i a b:Nat} (h:c<i):fE f c (i+1) a b=if a=i then f i b - f i c / f c c*f c b else fE f c i a b:=by
 unfold fE;by_cases h1:a=i
 ·rw[if_pos h1,if_pos (by omega),h1]
 ·rw[if_neg h1];by_cases h2:c<a/\a<i
  ·rw[if_pos h2,if_pos (by omega)]
  ·rw[if_neg h2,if_neg (by omega)]
def Mf (x y p q:Rat):q+y*(0 - x / p)=q - x / p*y:=by grind
def Me (p q y:Rat):q - 0 / p*y=q:=by grind
def Mg (x y p:Rat):x / p*y=y / p*x:=by grind
def LH {N B n c:Nat} (hF:Fuel N) (hB:4*B+1<=300000000000) (hn:n<=1000) (hc:c<n) (s:Int) (t1 t2:Int) {f:Nat->Nat->Rat} (hf:pU B n f) (h0:f c c ≠ 0) (e0:Int->List RY1->Bool) (e1:List RY1->Bool) :
  ai N (az N s (c:Int) t1 t2 (n:Int) (n:Int) (decide ((f c c).num<0)) (ae (f c c).num.natAbs) false (ae (f c c).den) e0 e1) (((c+1:Nat):Int),mat enc n f)=e1 (mat enc n (fE f c n)):=by
 have hN:=hF.lt;rw[<- yr f c enc n];refine tR (λi:Nat=>((i:Int),mat enc n (fE f c i))) (c+1) n (by omega) (by omega) ?_ ?_
 ·intro i hi1 hi2 K;unfold az;dsimp only;rw[adk (by omega:(i:Int)<(n:Int)),adn,pg hn hi2 hc,qP];unfold kq kr;dsimp only;rw[lw,rB];by_cases hz:f i c=0
  ·rw[adk hz,adn,aa adi];have:mat enc n (fE f c (i+1))=mat enc n (fE f c i):=jz _ _ (λa b _ _=>by
    rw[vG (by omega)];by_cases h1:a=i
    ·rw[if_pos h1,h1,qP,hz,Me]
    ·rw[if_neg h1])
   rw[this];rfl
  ·rw[adl hz,adm,lw,rB,adl h0,adm,FL hF];unfold kq kr;dsimp only;have hp:(f c c).num ≠ 0:=λh=>h0 (ra.1 h)
   have bx:=hf i c hi2 hc;have bp:=hf c c hc hc;have bq:=EJ bx bp hp;rw[NU hF (B:=B) (by omega) bx bp hp];unfold kq kr;dsimp only;have bz:Bq (B+B+1) 0:=Gk;rw[Dz hF (B:=B+B+1) (by omega) bz (bq.mono (by omega))];unfold kq kr;dsimp only;have bs:Bq (2*(4*B+1)) (0 - f i c / f c c):=(Ju (A:=1) (Gk (B:=0)) bq).mono (by omega);rw[Lv hF (B:=4*B+1) hB hn hi2 hc (by omega) (r_ hf hc h0) bs,aa adi];have:mat enc n (fE f c (i+1))=mat enc n (vx (fE f c i) i c (0 - f i c / f c c) n):=jz _ _ (λa b _ hb=>by
    rw[vG (by omega)];unfold vx;by_cases h1:a=i
    ·rw[if_pos h1,if_pos ⟨h1,hb⟩,qP,yu,Mf]
    ·rw[if_neg h1,if_neg (by omega)])
   rw[this];rfl
 ·intro K;unfold az;dsimp only;rw[adl (by omega:¬(n:Int)<(n:Int)),adm]
def IG {N n c:Nat} (hF:Fuel N) (hn:n<=1000) (hc:c<n) (s:Int) (t1 t2:Int) {f:Nat->Nat->Rat} (h0:f c c=0) (e0:Int->List RY1->Bool) (e1:List RY1->Bool):∀(d i M:Nat),i+d=n->d<M ->
  ai M (az N s (c:Int) t1 t2 (n:Int) (n:Int) (decide ((f c c).num<0)) (ae (f c c).num.natAbs) false (ae (f c c).den) e0 e1) ((i:Int),mat enc n f)=if tG (λi=>f i c) i d=true then e1 (mat enc n f)else e0 1 (mat enc n f):=by
 intro d;induction d with
 | zero=>
  intro i M hi hM;cases M with
  | zero=>omega
  | succ M=>
   show az _ _ _ _ _ _ _ _ _ _ _ _ _ ((i:Int),mat enc n f) (ai M _)=_;unfold az tG;dsimp only;rw[adl (by omega:¬(i:Int)<(n:Int)),adm,if_pos rfl]
 | succ d ih=>
  intro i M hi hM;cases M with
  | zero=>omega
  | succ M=>
   have hi2:i<n:=by omega
   show az _ _ _ _ _ _ _ _ _ _ _ _ _ ((i:Int),mat enc n f) (ai M _)=_;rw[az];rw[adk (by omega:(i:Int)<(n:Int)),adn,pg hn hi2 hc];unfold kq kr;dsimp only;rw[lw,rB,tG];by_cases hz:f i c=0
   ·rw[adk hz,adn,aa adi,aet];exact ih (i+1) M (by omega) (by omega)
   ·rw[adl hz,adm,lw,rB,adk h0,adn,afX,if_neg (by decide)]
def BP {N n:Nat} (hF:Fuel N) (hn:n<=1000) (k:Kz3):∀(d c B M:Nat) (s:Int) (f:Nat->Nat->Rat),c+d=n->d<M->pU B n f->(B+1)*4 ^ d<=100000000000 ->
  ai M (aL N (n:Int) (n:Int) (n:Int) (λt _=>k t) (λt _=>k t)) (s,(c:Int),mat enc n f)=k (vi n d c s f):=by
 intro d;induction d with
 | zero=>
  intro c B M s f hc hM _ _;cases M with
  | zero=>omega
  | succ M=>
   show aL _ _ _ _ _ _ (s,(c:Int),mat enc n f) (ai M _)=_;rw[aL];rw[adl (by omega:¬(c:Int)<(n:Int)),adm];rfl
 | succ d ih=>
  intro c B M s f hc hM hf hB;cases M with
  | zero=>omega
  | succ M=>
   have hN:=hF.lt;have hcn:c<n:=by omega
   have h4:(4*B+1+1)*4 ^ d<=100000000000:=by
    have h1:(4*B+1+1)*4 ^ d<=(B+1)*4*4 ^ d:=adp _ (by omega);have h2:(B+1)*4*4 ^ d=(B+1)*4 ^ (d+1):=by rw[ady,adw,ado 4 (4 ^ d)]
    omega
   have hB2:4*B+1+1<=100000000000:=by have:0<4 ^ d:=aew (by decide);have h1:(4*B+1+1)*1<=(4*B+1+1)*4 ^ d:=ads _ this;omega
   show aL _ _ _ _ _ _ (s,(c:Int),mat enc n f) (ai M _)=_;rw[aL];rw[adk (by omega:(c:Int)<(n:Int)),adn,pg hn hcn hcn];unfold kq kr;dsimp only;rw[lw,Ed,vi];by_cases hneg:(f c c).num<0
   ·rw[adk hneg,adn,if_pos hneg]
   ·rw[adl hneg,adm,if_neg hneg,aa adi];by_cases h0:f c c=0
    ·rw[if_pos h0];have hr:=λe0 e1=>IG hF hn hcn s (n:Int) (c:Int) h0 e0 e1 d (c+1) N (by omega) (by omega)
     rw[adl hneg]at hr;rw[show(c:Int)+1=((c+1:Nat):Int) from rfl,hr];by_cases hz:tG (λi=>f i c) (c+1) d=true
     ·rw[if_pos hz,if_pos hz];have hs:=lw (N:=N) (f c c);rw[adl hneg]at hs;rw[hs,rB,adk h0,adn,aa adi];exact ih (c+1) B M 2 f (by omega) (by omega) hf (by have:(B+1)*4 ^ d<=(4*B+1+1)*4 ^ d:=adp _ (by omega);omega)
     ·rw[if_neg hz,if_neg hz]
    ·rw[if_neg h0];have hr:=λe0 e1=>LH hF (by omega) hn hcn s (n:Int) (c:Int) hf h0 e0 e1
     rw[adl hneg]at hr;rw[show(c:Int)+1=((c+1:Nat):Int) from rfl,hr];have hs:=lw (N:=N) (f c c);rw[adl hneg]at hs;rw[hs,rB,adl h0,adm,aa adi];exact ih (c+1) (4*B+1) M s (fE f c n) (by omega) (by omega) (r_ hf hcn h0) h4
def LO {N B n:Nat} (hF:Fuel N) (hB:B<=300000000000) (hn:n<=1000) {f:Nat->Nat->Rat} (hf:pU B n f) (hs:∀ a b,a<n->b<n->f a b=f b a) (k:Bool) :
  cY N n n (mat enc n f) k=k:=by
 have hN:=hF.lt
 (unfold cY; rw[ac]; unfold cP)
 refine aD (λt:Nat=>(t:Int)) n (by omega) ?_ ?_
 ·intro i hi K;unfold bF;dsimp only;rw[adk (by omega:(i:Int)<(n:Int)),adn];refine aD (λt:Nat=>(t:Int)) i (by omega) ?_ ?_
  ·intro j hj K';have hj2:j<n:=by omega
   unfold bG;dsimp only;rw[adk (by omega:(j:Int)<(i:Int)),adn,pg hn hi hj2];unfold kq kr;dsimp only;rw[pg hn hj2 hi];unfold kq kr;dsimp only;rw[Dz hF (B:=B) (by omega) (hf i j hi hj2) (hf j i hj2 hi)];unfold kq kr;dsimp only;have e:vg (f i j - f j i).num=0:=by
    have:f i j - f j i=0:=by rw[hs i j hi hj2]; grind
    rw[this]; rfl
   rw[lw,e,pe,aa adi];rfl
  ·intro K';unfold bG;dsimp only;rw[adl (by omega:¬(i:Int)<(i:Int)),adm,aa adi];rfl
 ·intro K;unfold bF;dsimp only;rw[adl (by omega:¬(n:Int)<(n:Int)),adm]
def Iw {N B n:Nat} (hF:Fuel N) (hn:n<=1000) {f:Nat->Nat->Rat} (hf:pU B n f) (hs:∀ a b,a<n->b<n->f a b=f b a) (hB:(B+1)*4 ^ n<=100000000000) (k:Kz3) :
  eB N n n (mat enc n f) (λt _=>k t)=k (vi n n 0 3 f):=by
 have hN:=hF.lt;have hB2:B<=300000000000:=by have:0<4 ^ n:=aew (by decide);have h1:(B+1)*1<=(B+1)*4 ^ n:=ads _ this;omega
 unfold eB iS;have e:((n:Int)==(n:Int))=((0:Int)==0):=by simp
 rw[e,pe,LO hF hB2 hn hf hs]
 (unfold gj; rw[ac]; unfold dh)
 exact BP hF hn k n 0 B N 3 f (by omega) (by omega) hf hB
def IH {N B n c:Nat} (hF:Fuel N) (hB:4*B+1<=300000000000) (hn:n<=1000) (hc:c<n) (s:Int) {f:Nat->Nat->Rat} (hf:pU B n f) (h0:f c c ≠ 0) (e0:List RY2->Bool) :
  ai N (zJ N s (c:Int) (c*n+c) (n:Int) (n:Int) e0) (((c+1:Nat):Int),mat dE n f)=e0 (mat dE n (fE f c n)):=by
 have hN:=hF.lt;rw[<- yr f c dE n];refine tR (λi:Nat=>((i:Int),mat dE n (fE f c i))) (c+1) n (by omega) (by omega) ?_ ?_
 ·intro i hi1 hi2 K;unfold zJ;dsimp only;have hne:¬(c*n+c=i*n+c):=by
   intro h;have:c*n=i*n:=by omega
   have:=aeQ (by omega) this;omega
  rw[adk (by omega:(i:Int)<(n:Int)),adn,si hn hi2 hc,adl hne,aa (a:=(!false&&true)) rfl,B5,B5,ly dE n _ hi2 hc,ly dE n _ hc hc,qP,yu];have hp:(f c c).num ≠ 0:=λh=>h0 (ra.1 h)
  have bx:=hf i c hi2 hc;have bp:=hf c c hc hc;have bq:=EJ bx bp hp;have hq:=λkk=>LD (N:=N) (b1:=false) (b2:=false) hF (B:=B) (by omega) bx bp hp kk
  have he:∀ x:Rat,dE x=((decide (x.num<0),aj x.num.natAbs),(false,aj x.den)):=λx=>rfl
  rw[he (f i c),he (f c c)];dsimp only;rw[hq];unfold kqR krR;dsimp only;rw[Iz hF (B:=4*B+1) hB hn hi2 hc (by omega) (r_ hf hc h0) (bq.mono (by omega)),aa adi];have:mat dE n (fE f c (i+1))=mat dE n (nz (fE f c i) i c (f i c / f c c) n):=jz _ _ (λa b _ hb=>by
   rw[vG (by omega)];unfold nz;by_cases h1:a=i
   ·rw[if_pos h1,if_pos ⟨h1,hb⟩,qP,yu]
   ·rw[if_neg h1,if_neg (by omega)])
  rw[this];rfl
 ·intro K;unfold zJ;dsimp only;rw[adl (by omega:¬(n:Int)<(n:Int)),adm]
def FG {N n c:Nat} (hF:Fuel N) (hn:n<=1000) (hc:c<n) {f:Nat->Nat->Rat} (e0:Int->Bool) (e1:Bool):∀(d i M:Nat),i+d=n->d<M ->
  ai M (ui N (c:Int) (n:Int) (n:Int) (mat dE n f) e0 e1) ((i:Int))=if tG (λi=>f c i) i d=true then e1 else e0 1:=by
 intro d;induction d with
 | zero=>
  intro i M hi hM;cases M with
  | zero=>omega
  | succ M=>
   show ui _ _ _ _ _ _ _ (i:Int) (ai M _)=_;unfold ui tG;dsimp only;rw[adl (by omega:¬(i:Int)<(n:Int)),adm,if_pos rfl]
 | succ d ih=>
  intro i M hi hM;cases M with
  | zero=>omega
  | succ M=>
   have hi2:i<n:=by omega
   show ui _ _ _ _ _ _ _ (i:Int) (ai M _)=_;rw[ui];have he:∀ x:Rat,dE x=((decide (x.num<0),aj x.num.natAbs),(false,aj x.den)):=λx=>rfl
   rw[adk (by omega:(i:Int)<(n:Int)),adn,si hn hc hi2,ly dE n _ hc hi2,he (f c i)];dsimp only;rw[vR,OB,tG];by_cases hz:f c i=0
   ·rw[adk hz,aef,adm,aa adi,aet];exact ih (i+1) M (by omega) (by omega)
   ·rw[adl hz,ad4,adn,afX,if_neg (by decide)]
def RG (n c:Nat) (f:Nat->Nat->Rat):Prop:=∀ a b,c<=a->c<=b->a<n->b<n->f a b=f b a
def KX {n c:Nat} {f:Nat->Nat->Rat} (h:RG n c f) (hc:c<n):RG n (c+1) (fE f c n):=by intro a b ha hb han hbn;unfold fE;rw[if_pos ⟨by omega,han⟩,if_pos ⟨by omega,hbn⟩,h a b (by omega) (by omega) han hbn,h a c (by omega) (by omega) han hc,h c b (by omega) (by omega) hc hbn,Mg]
def Iq {N n:Nat} (hF:Fuel N) (hn:n<=1000) (k:Kz3):∀(d c B M:Nat) (s:Int) (f:Nat->Nat->Rat),c+d=n->d<M->pU B n f->RG n c f->(B+1)*4 ^ d<=100000000000 ->
  ai M (uh N (n:Int) (n:Int) (λt=>k t) (λt=>k t)) (s,(c:Int),mat dE n f)=k (vi n d c s f):=by
 intro d;induction d with
 | zero=>
  intro c B M s f hc hM _ _ _;cases M with
  | zero=>omega
  | succ M=>
   show uh _ _ _ _ _ (s,(c:Int),mat dE n f) (ai M _)=_;rw[uh];rw[adl (by omega:¬(c:Int)<(n:Int)),adm];rfl
 | succ d ih=>
  intro c B M s f hc hM hf hsy hB;cases M with
  | zero=>omega
  | succ M=>
   have hN:=hF.lt;have hcn:c<n:=by omega
   have h4:(4*B+1+1)*4 ^ d<=100000000000:=by
    have h1:(4*B+1+1)*4 ^ d<=(B+1)*4*4 ^ d:=adp _ (by omega);have h2:(B+1)*4*4 ^ d=(B+1)*4 ^ (d+1):=by rw[ady,adw,ado 4 (4 ^ d)]
    omega
   have hB2:4*B+1+1<=100000000000:=by have:0<4 ^ d:=aew (by decide);have h1:(4*B+1+1)*1<=(4*B+1+1)*4 ^ d:=ads _ this;omega
   have he:∀ x:Rat,dE x=((decide (x.num<0),aj x.num.natAbs),(false,aj x.den)):=λx=>rfl
   show uh _ _ _ _ _ (s,(c:Int),mat dE n f) (ai M _)=_;rw[uh];rw[adk (by omega:(c:Int)<(n:Int)),adn,si hn hcn hcn,ly dE n _ hcn hcn,he (f c c)];dsimp only;rw[vR,Ed,vi];by_cases hneg:(f c c).num<0
   ·rw[adk hneg,adn,if_pos hneg]
   ·rw[if_neg hneg,vR,rB];rw[adl hneg,adm];by_cases h0:f c c=0
    ·rw[if_pos h0,adk h0,adn,aa adi];rw[show(c:Int)+1=((c+1:Nat):Int) from rfl,FG hF hn hcn _ _ d (c+1) N (by omega) (by omega)];have ez:tG (λi=>f c i) (c+1) d=tG (λi=>f i c) (c+1) d:=yb _ _ (λj h1 h2=>hsy c j (by omega) (by omega) hcn (by omega));rw[ez];by_cases hz:tG (λi=>f i c) (c+1) d=true
     ·rw[if_pos hz,if_pos hz,aa adi];exact ih (c+1) B M 2 f (by omega) (by omega) hf (λa b ha hb=>hsy a b (by omega) (by omega)) (by have:(B+1)*4 ^ d<=(4*B+1+1)*4 ^ d:=adp _ (by omega);omega)
     ·rw[if_neg hz,if_neg hz]
    ·rw[if_neg h0,adl h0,adm,aa adi];rw[show(c:Int)+1=((c+1:Nat):Int) from rfl,IH hF (by omega) hn hcn s hf h0,aa adi];exact ih (c+1) (4*B+1) M s (fE f c n) (by omega) (by omega) (r_ hf hcn h0) (KX hsy hcn) h4
def fm (n:Nat) (l:List Fl):Nat->Nat->Rat:=λi j=>pu (ofE (l.getD (i*n+j) none))
def GZ {α:Type} (g:Rat->α) {n:Nat} {l:List Fl} (h:l.length=n*n):l.map (λx=>g (pu (ofE x)))=mat g n (fm n l):=by
 apply List.ext_getElem?;intro t;by_cases ht:t<n*n
 ·unfold mat;rw[List.getElem?_map,List.getElem?_map,List.getElem?_range ht,List.getElem?_eq_getElem (by omega)];simp only[aeS];unfold fm;have:t / n*n+t%n=t:=by rw[ado]; exact aeh t n
  rw[this,List.getD_eq_getElem?_getD,List.getElem?_eq_getElem (by omega)];rfl
 ·rw[List.getElem?_eq_none (by rw[afk]; omega),List.getElem?_eq_none (by rw[po]; omega)]
def mq {l:List Fl} (h:bw l=true) {i:Nat} (hi:i<l.length):bb (l.getD i none)=true:=by unfold bw at h;exact jI.1 h i hi
def AllW (l:List Fl):Prop:=∀ x,x ∈ l->FW x
def AllW.get {l:List Fl} (h:AllW l) {i:Nat} (hi:i<l.length):FW (l.getD i none):=by rw[List.getD_eq_getElem?_getD,List.getElem?_eq_getElem hi];exact h _ (aey hi)
def Bw {n:Nat} {l:List Fl} (h:l.length=n*n) (hf:bw l=true):pU 1200 n (fm n l):=by intro a b ha hb;have:=kU ha hb;exact Oa (mq hf (by omega))
def Ht {N:Nat} (x:Int) (k:Kz2):Hk N x k=k (decide (0<=x/\x<=12)):=by
 unfold Hk OP;by_cases h:x>=0
 ·rw[adk h,show(true==true)=true from rfl,adn];congr 1;by_cases h2:x<=12
  ·rw[adk h2,adk ⟨h,h2⟩]
  ·rw[adl h2,adl (by omega)]
 ·rw[adl h,show(false==true)=false from rfl,adm,adl (by omega)]
def G7 {a b:Int} (h1:0<=a/\a<=12) (h2:0<=b/\b<=12):0<=a*b/\a*b<=144:=by have h3:a*b<=12*b:=Int.mul_le_mul_of_nonneg_right h1.2 h2.1;have h4:0<=a*b:=Int.mul_nonneg h1.1 h2.1;omega
def mI {N:Nat} (hN:1000<=N) (a b:Int) (l:List Fl) (k:Kz3):F7 N a b l k=k (chk a b l):=by
 (unfold F7; rw[ac]; unfold PV chk)
 rw[Ht];by_cases h1:0<=a/\a<=12
 ·rw[adk h1,show((!true)==false)=true from rfl,adn,Ht];by_cases h2:0<=b/\b<=12
  ·have h3:=G7 h1 h2;rw[adk h2,if_pos ⟨h1,h2⟩,show(!true)=false from rfl,adm,aa adi];by_cases h4:(l.length:Int)=a*b
   ·have:(((l.length:Nat):Int) != a*b)=false:=by simp[h4]
    have h6:l.length<=144:=by rw[<- h4]at h3; omega
    rw[this,adm,if_pos h4,mH l ⟨by omega,by omega⟩];cases h5:bw l
    ·rfl
    ·rfl
   ·have:(((l.length:Nat):Int) != a*b)=true:=by simp[h4]
    rw[this,adn,if_neg h4]
  ·rw[adl h2,if_neg (λh=>h2 h.2),show(!false)=true from rfl,adn]
 ·rw[adl h1,if_neg (λh=>h1 h.1)]; rfl
def Br {n:Nat} {l:List Fl} (hn:n<=12) (h:l.length=n*n) (hf:bw l=true):chk n n l=0:=
 mv.2 ⟨⟨by omega,by omega⟩,by rw[h,adH],hf⟩
def tn {α:Type} (g:Fl->α) {l:List Fl} {t:Nat} (ht:t<l.length):(l.take (t+1)).map g=(l.take t).map g++[g (l.getD t none)]:=by rw[aeG ht,ae4,List.getD_eq_getElem?_getD,List.getElem?_eq_getElem ht]; rfl
def BJ {N n:Nat} (hF:Fuel N) {l:List Fl} (hn:n<=12) (h:l.length=n*n) (hf:bw l=true) (hw:AllW l) (k:List RY1->Bool) :
  iP N n n l k=k (mat enc n (fm n l)):=by
 have hN:=hF.lt;have hl:=rC (n:=n) (by omega)
 (unfold iP; rw[ac]; unfold iJ)
 rw[mI (by omega),Br hn h hf,pe,<- GZ enc h];refine aD (λt:Nat=>((t:Int),(l.take t).map (λx=>enc (pu (ofE x))))) l.length (by omega) ?_ ?_
 ·intro t ht K;unfold dw;dsimp only;rw[adk (by omega:(t:Int)<(l.length:Int)),adn,aa adj,adr,Dw hF (mq hf ht) (hw.get ht)];unfold kq kr;dsimp only;rw[tn _ ht,aa (adk (by rw[aeB,afk,ad3]; simp only[adZ,afu]; omega)),aa adi];rfl
 ·intro K;unfold dw;dsimp only;rw[adl (by omega:¬(l.length:Int)<(l.length:Int)),adm,ad6]
def Im {N n:Nat} (hF:Fuel N) {l:List Fl} (hn:n<=12) (h:l.length=n*n) (hf:bw l=true) (hw:AllW l) (a b:Int) (k:List RY2->Bool) :
  ru N a b l k=k (mat dE n (fm n l)):=by
 have hN:=hF.lt;have hl:=rC (n:=n) (by omega)
 (unfold ru; rw[ac]; unfold qw)
 rw[<- GZ dE h];refine aD (λt:Nat=>((t:Int),(l.take t).map (λx=>dE (pu (ofE x))))) l.length (by omega) ?_ ?_
 ·intro t ht K;unfold ko;dsimp only;rw[adk (by omega:(t:Int)<(l.length:Int)),adn,aa adj,adr,Ip hF (mq hf ht) (hw.get ht)];unfold kqR krR;dsimp only;rw[tn _ ht,aa (adk (by rw[afk,ad3]; omega)),aa adi];rfl
 ·intro K;unfold ko;dsimp only;rw[adl (by omega:¬(l.length:Int)<(l.length:Int)),adm,ad6]
def Fr {N n:Nat} (hF:Fuel N) (hn:n<=12) (k:List RY2->Bool):pG N n n k=k (List.replicate (n*n) ((false,[]),(false,[]))):=by
 have hN:=hF.lt;have hl:=rC (n:=n) (by omega)
 (unfold pG; rw[ac]; unfold oJ)
 have h0:([]:List RY2)=List.replicate 0 ((false,[]),(false,[])):=rfl;rw[h0];refine aD (λt:Nat=>((t:Int),List.replicate t ((false,[]),(false,[])))) (n*n) (by omega) ?_ ?_
 ·intro t ht K;unfold je;dsimp only;rw[<- adH,aa adi,adk (by omega:(t:Int)<((n*n:Nat):Int)),adn,aa (adk (by rw[aeJ]; omega)),aa adi,aeY];rfl
 ·intro K;unfold je;dsimp only;rw[<- adH,aa adi,adl (by omega:¬((n*n:Nat):Int)<((n*n:Nat):Int)),adm]
def Da {α:Type} (l:List α) (z:α) {t:Nat} (ht:t<=l.length):(l.take t++List.replicate (l.length - t) z).length=l.length:=by rw[aeB,ad3,aeJ]; omega
def Db {α:Type} (l:List α) (z:α) {t:Nat} (ht:t<l.length):(l.take t++List.replicate (l.length - t) z).set t (l.getD t z)=l.take (t+1)++List.replicate (l.length - (t+1)) z:=by
 have h1:(l.take t).length=t:=by rw[ad3]; omega
 have h2:l.length - t=(l.length - (t+1))+1:=by omega
 rw[afw _ _ (by omega),h1,adX,h2,ad8,List.set_cons_zero,aeG ht,adD,List.getD_eq_getElem?_getD,List.getElem?_eq_getElem ht];rfl
def NY {α:Type} (g:Rat->α) (n:Nat) (f:Nat->Nat->Rat) {t:Nat} (ht:t<n*n) (z:α):∃ a b,a<n/\b<n/\(mat g n f).getD t z=g (f a b):=by
 have hn:0<n:=by
  rcases aeI n with h0 | h0
  ·rw[h0]at ht; omega
  ·exact h0
 refine⟨t / n,t%n,afi ht,adA _ hn,?_⟩;have:=ly g n f (afi ht) (adA t hn) z;rw[show t / n*n+t%n=t from by rw[ado]; exact aeh t n]at this;exact this
def Fy {N n B:Nat} (hF:Fuel N) (hB:B<=2000000000100) (hn:n<=12) {f:Nat->Nat->Rat} (hf:pU B n f) (k:List RY2->Bool) :
  Mj N n n (mat dE n f) k=k (mat dE n f):=by
 have hN:=hF.lt;have hl:=rC (n:=n) (by omega)
 (unfold Mj; rw[ac]; unfold Jw)
 rw[Fr hF hn];have hlen:=po dE n f;have h0:List.replicate (n*n) (((false,[]),(false,[])):RY2)=(mat dE n f).take 0++List.replicate ((mat dE n f).length - 0) ((false,[]),(false,[])):=by rw[hlen]; rfl
 rw[h0];refine aD (λt:Nat=>((t:Int),(mat dE n f).take t++List.replicate ((mat dE n f).length - t) ((false,[]),(false,[])))) (mat dE n f).length (by omega) ?_ ?_
 ·intro t ht K;unfold Cj;dsimp only;have hfl:=Da (mat dE n f) (((false,[]),(false,[])):RY2) (t:=t) (by omega);rw[adk (by omega:(t:Int)<((mat dE n f).length:Int)),adn,adr,hfl,aa adj,aa (adk ht),aa adj];obtain⟨a,b,ha,hb,hm⟩:=NY dE n f (t:=t) (by omega) ((false,[]),(false,[]));have hs:=Db (mat dE n f) (((false,[]),(false,[])):RY2) ht;rw[hm]at hs ⊢;have he:∀ x:Rat,dE x=((decide (x.num<0),aj x.num.natAbs),(false,aj x.den)):=λx=>rfl
  have hset:=λb1 b2 l1 l2 kk=>Lr (N:=N) hF hB (hf a b ha hb) b1 b2 l1 l2 kk
  generalize List.take t (mat dE n f)++List.replicate ((mat dE n f).length - t) ((false,[]),false,[])=L at *;rw[he (f a b)];dsimp only;rw[hset];unfold kqR krR;dsimp only;rw[aa adi];exact agy (λl=>K ((t:Int)+1,l)) hs
 ·intro K;unfold Cj;dsimp only;rw[adl (by omega),adm,ad6,adX,ad0,adW]
def xi {n:Nat} (hn:n<=12):(1200+1)*4 ^ n<=100000000000:=by
 have h1:4 ^ n<=4 ^ 12:=adB (by decide) hn;have h2:(4:Nat) ^ 12=16777216:=by decide
 rw[h2]at h1;have h3:(1200+1)*4 ^ n<=(1200+1)*16777216:=ads _ h1;omega
def Kt (n:Nat) (l:List Fl):Prop:=∀ a b,a<n->b<n->fm n l a b=fm n l b a
def uZ (n:Nat) (l:List Fl):Bool:=vi n n 0 3 (fm n l)==3
def Ds {N n:Nat} (hF:Fuel N) {l:List Fl} (hn:n<=12) (h:l.length=n*n) (hf:bw l=true) (hw:AllW l) (hs:Kt n l) (k:Ky4) :
  jo N n n l k=k (vi n n 0 3 (fm n l)) 0:=by
 (unfold jo; rw[ac]; unfold jj)
 rw[BJ hF hn h hf hw];exact Iw hF (by omega) (Bw h hf) hs (xi hn) (λt=>k t 0)
def uO {N n:Nat} (hF:Fuel N) {l:List Fl} (hn:n<=12) (h:l.length=n*n) (hf:bw l=true) (hw:AllW l) (hs:Kt n l) (k:Kz2) :
  eu N n n l k=k (uZ n l):=by
 unfold eu nd;rw[Ds hF hn h hf hw hs];rfl
def uM {N n:Nat} (hF:Fuel N) {l:List Fl} (hn:n<=12) (h:l.length=n*n) (hf:bw l=true) (hw:AllW l) (hs:Kt n l) (k:Kz2) :
  Ho N n n l k=k (uZ n l):=by
 have hN:=hF.lt;unfold Ho OV xf ww;rw[Im hF hn h hf hw];dsimp only
 (unfold Pm; rw[ac]; unfold J3)
 rw[Fy (B:=1200) hF (by decide) hn (Bw h hf)];exact Iq hF (by omega) (λt=>k (t==3)) n 0 1200 N 3 (fm n l) (by omega) (by omega) (Bw h hf) (λa b _ _=>hs a b) (xi hn)
def Lq (N:Nat) (a b:Nat) (k:Kz2):sQ9 N a b k=k (decide (cn (some a)=cn (some b))):=by unfold sQ9 GQ9;simp only[B3,sH,Bj,AO];rw[<- KK a b (.inr trivial)];rfl
end Go.Proofs.YtpmoedfiobeilaaGreatDoor
end
section
namespace Go.Proofs.YtpmoedfiobeilaaGreatDoor
open Go Go.Mach Ieee
set_option maxRecDepth 100000
def sj {N:Nat} (hN:1000<=N) (k:Kz2):Su N k=k true:=by
 obtain⟨M,rfl⟩:∃ M,N=M+1000:=⟨N - 1000,by omega⟩
 kernel_rfl
end Go.Proofs.YtpmoedfiobeilaaGreatDoor
end
