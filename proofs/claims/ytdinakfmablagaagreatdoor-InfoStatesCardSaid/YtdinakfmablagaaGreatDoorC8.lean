/- Laws in plain Lean. Conditions: none. -/
import Derived.Test.YtdinakfmablagaaGreatDoorD1
import Derived.Test.YtdinakfmablagaaGreatDoorFlA
set_option linter.unusedVariables false
section
namespace Go.Proofs.YtdinakfmablagaaGreatDoor
open Go Go.Mach Ieee
theorem LR {N n j:Nat} (hN:1000<=N) (hj:j<=900) (h:n<4294967296 ^ j):fK N (aj n):=by have:=cu j n h;exact⟨by omega,by omega⟩
theorem o_ {N n:Nat} (hN:1000<=N) (h:n<18446744073709551616):fK N (aj n):=LR (j:=2) hN (by decide) (by
 have:(4294967296:Nat) ^ 2=18446744073709551616:=by decide
 omega)
theorem Zi (n:Nat):aB .and .u64 (n:Int) 2047=((n%2048:Nat):Int):=by have:=kw n 11 (by decide);simpa using this
theorem Bi (s:Bool) (m:Nat) (i:Int):∃ r,Ieee.double.nearest s m i=Ieee.double.word s r/\r<=9218868437227405312:=by
 unfold Format.nearest;split
 ·exact⟨0,rfl,by omega⟩
 ·rw[lQ]; exact⟨_,rfl,ai4 _ _⟩
theorem F_ (s:Bool) (m:Nat) (i:Int):W64 (Ieee.double.nearest s m i):=by obtain⟨r,h,hr⟩:=Bi s m i;rw[h]; exact B0 s (by omega)
theorem Xf {N:Nat} (hN:1000<=N) {n:Nat} (h:n<=48):ji N n:=⟨by omega,by omega⟩
theorem NY (b:Nat):bC (some b)=decide (b%9223372036854775808<9218868437227405312):=by
 unfold bC Format.read;simp only[i5,sm,lQ];by_cases h1:b%9223372036854775808<4503599627370496
 ·rw[if_pos h1,afO (by omega)]; rfl
 ·rw[if_neg h1];by_cases h2:b%9223372036854775808<9218868437227405312
  ·rw[if_pos h2,afO h2]; rfl
  ·rw[if_neg h2,afP h2];split <;> rfl
def Nn (x:Fl):Prop:=∃ b,x=some b/\isNaN b=false
theorem U4 {x:Fl} (h:bC x=true):Nn x:=by
 cases x with
 | none=>cases h
 | some b=>
  rw[NY]at h;have:=afU h;refine⟨b,rfl,?_⟩;rw[aiq];intro hc;have:=(fv b).1 hc;omega
theorem P0 (s:Bool) {r:Nat} (h:r<=9218868437227405312):Nn (some (Ieee.double.word s r)):=by
 refine⟨_,rfl,?_⟩;rw[aiq];intro hc;have h1:=(fv _).1 hc;have hw:Ieee.double.word s r%9223372036854775808=r:=by unfold Format.word; rw[i5]; cases s <;> simp <;> omega
 omega
theorem z7 (s:Bool) (m:Nat) (i:Int):Nn (some (Ieee.double.nearest s m i)):=by obtain⟨r,h,hr⟩:=Bi s m i;rw[h]; exact P0 s hr
abbrev K4:=Fl->Fl->Fl->Fl->Int->Bool
def gD:Nat->Nat->Int->Nat × Int
 | 0,m,e=>(m,e)
 | f+1,m,e=>if m%2=0 then gD f (m / 2) (e+1)else(m,e)
theorem qN:∀ f m e,m ≠ 0->m<2 ^ f->e<=(gD f m e).2/\(gD f m e).2<=e+f/\(gD f m e).1*2 ^ ((gD f m e).2 - e).toNat=m/\(gD f m e).1<=m
 | 0,m,e,h0,h=>by simp at h; omega
 | f+1,m,e,h0,h=>by
  unfold gD;split
  ·rename_i hm;obtain⟨h1,h2,h3,h4⟩:=qN f (m / 2) (e+1) (by omega) (by rw[af2]at h; omega);refine⟨by omega,by omega,?_,by omega⟩;have:((gD f (m / 2) (e+1)).2 - e).toNat=((gD f (m / 2) (e+1)).2 - (e+1)).toNat+1:=by omega
   rw[this,af2,<- af0,h3]; omega
  ·refine⟨by omega,by omega,?_,af1 _⟩;rw[Int.sub_self]; simp
theorem QH {N:Nat} (hN:1000<=N) {m:Nat} {e:Int} (h0:m ≠ 0) (hm:m<2 ^ 64) (he1 : -2000<=e) (he2:e<=2000) (k:Ky5) :
  pT N m e k=k ((gD 64 m e).1:Int) (gD 64 m e).2:=by
 (unfold pT; rw[ac]; unfold tR)
 have key:∀ f:Nat,f<=64 -> ∀(m:Nat) (e:Int),m ≠ 0->m<2 ^ f->m<2 ^ 64 -> -2000<=e->e+f<=3000 -> ∀ M:Nat,f<M->ai M (lm N λa b=>k a b) ((m:Int),e)=k ((gD f m e).1:Int) (gD f m e).2:=by
  intro f;induction f with
  | zero=>intro _ m e h0 h; simp at h; omega
  | succ f ih=>
   intro hf m e h0 h h64 h1 h2 M hM;cases M with
   | zero=>omega
   | succ M=>
    show lm N _ ((m:Int),e) (ai M _)=_;have e2:Int.tmod (m:Int) 2=((m%2:Nat):Int):=by rw[agI (by omega)]; rfl
    have e3:Int.tdiv (m:Int) 2=((m / 2:Nat):Int):=by rw[agU (by omega)]; rfl
    simp only[lm,gD,e2,e3];by_cases hm:m%2=0
    ·have:(((m%2:Nat):Int)==0)=true:=by rw[hm]; rfl
     have ew:IntKind.wrap .u64 ((m / 2:Nat):Int)=((m / 2:Nat):Int):=by
      rw[am];have:(2:Nat) ^ 64=18446744073709551616:=by decide
      omega
     rw[this,afR,aa afM,if_pos hm,ew];exact ih (by omega) (m / 2) (e+1) (by omega) (by rw[af2]at h; omega) (by omega) (by omega) (by omega) M (by omega)
    ·have:(((m%2:Nat):Int)==0)=false:=by
      have:m%2=1:=by omega
      rw[this]; rfl
     rw[this,afQ,if_neg hm]
 have:((m:Int)==0)=false:=by simp; omega
 rw[this,afQ];exact key 64 (af1 _) m e h0 hm hm (by omega) (by omega) N (by omega)
theorem OD (N:Nat) (e:Int) (k:Ky5):pT N 0 e k=k 0 0:=by (unfold pT; rw[ac]; unfold tR); rfl
def ofE (x:Fl):Int × Int:=match x with
 | some b=>match Ieee.double.read b with
  | .number s m i=>if m=0 then(0,0)else((gD 64 m i).2,aY s (gD 64 m i).1)
  | _=>(0,0)
 | none=>(0,0)
theorem D8 {b:Nat} {s:Bool} {m:Nat} {i:Int} (h:Ieee.double.read b=.number s m i):ofE (some b)=if m=0 then(0,0)else((gD 64 m i).2,aY s (gD 64 m i).1):=by unfold ofE; simp only[h]
theorem KS {N:Nat} (hN:1000<=N) {b:Nat} (hb:W64 b) {s:Bool} {m:Nat} {i:Int} (h:Ieee.double.read b=.number s m i) (k:Kx4) :
    tv N (some b) k=if m=0 then k s 0 0 0 else k s ((gD 64 m i).1:Int) (gD 64 m i).2 0:=by
  obtain⟨h1,h2,h3⟩:=mJ h;have hpl:=pQ h;have hnn:isNaN b=false:=by rw[aiq]; intro hc; have:=(fv b).1 hc; omega
  have hbits:mY (some b)=b:=by simp only[mY,cnb,hnn]; rfl
  have hsg:(Int.fdiv (b:Int) (2 ^ 63)==1)=s:=by
    have e:(2:Int) ^ 63=((9223372036854775808:Nat):Int):=by decide
    rw[e,kH,h1];have hW:b / 9223372036854775808<2:=by have:=hb; omega
    have:b / 9223372036854775808=0\/b / 9223372036854775808=1:=by omega
    rcases this with h | h <;> rw[h] <;> rfl
  have fin:∀(e:Int),i=e - 1074 -> -1100<=e->e<=2100->l9 N (some b) s e (m:Int) k=if m=0 then k s 0 0 0 else k s ((gD 64 m i).1:Int) (gD 64 m i).2 0:=by
    intro e he h5 h6;unfold l9;rw[aa afM,<- he];by_cases h0:m=0
    · subst h0; rw[if_pos rfl]; exact OD N i _
    · rw[if_neg h0,QH hN h0 (by have:(2:Nat) ^ 64=18446744073709551616:=(by decide); omega) (by omega) (by omega)]
  (unfold tv; rw[ac]; unfold r_)
  rw[CR,hbits];rw[hsg];have n2047:(((b / 4503599627370496%2048:Nat):Int)==2047)=false:=by simp; omega
  rw[n2047,afQ];rcases h3 with⟨g1,g2,g3⟩ | ⟨g1,g2,g3⟩
  · have e0:b / 4503599627370496%2048=0:=by omega
    have e1:b%4503599627370496=m:=by omega
    rw[e0,e1,afP (by decide),afQ];exact fin 0 (by omega) (by omega) (by omega)
  · have e0:0<b / 4503599627370496%2048:=by omega
    have e1:IntKind.wrap .u64 (((b%4503599627370496:Nat):Int)+4503599627370496)=(m:Int):=by rw[am]; omega
    rw[afO (by omega:((b / 4503599627370496%2048:Nat):Int)>0),afR,aa afM,e1];exact fin _ (by omega) (by omega) (by omega)
theorem Vm {N:Nat} (hN:1000<=N) {x:Fl} (hx:bC x=true) (hw:FW x) (k:Int->Bool->List Int->Bool):BB N x k=exK (ofE x) k:=by
  obtain⟨b,s,m,i,rfl,h⟩:=pA hx;have hb:=hw b rfl
  (unfold BB; rw[ac]; unfold zY)
  rw[KS hN hb h,D8 h];by_cases h0:m=0
  · rw[if_pos h0,if_pos h0]
    have:∀ κ,Rx N 0 false κ=κ false (aj 0):=λκ=>uM (N:=N) 0 (by decide) false (o_ hN (by decide)) (by omega) κ
    rw[this];cases s
    · rw[afQ]; unfold exK; rfl
    · rw[afR,CQ _ _ (o_ hN (by decide))]; unfold exK uB; rfl
  · rw[if_neg h0,if_neg h0]
    have hpl:=pQ h;obtain⟨g1,g2,g3,g4⟩:=qN 64 m i h0 (by have:(2:Nat) ^ 64=18446744073709551616:=(by decide); omega);have hs:=o_ (N:=N) (n:=(gD 64 m i).1) hN (by omega);rw[uM (N:=N) _ (by omega) false hs (by omega)];cases s
    · rw[afQ]
      show _=k (gD 64 m i).2 (decide ((((gD 64 m i).1:Nat):Int)<0)) (aj (((gD 64 m i).1:Nat):Int).natAbs);rw[afP (by omega),agK]
    · rw[afR,CQ _ _ hs]; rfl
def EV (x:Int × Int) (v:Int) (E:Nat):Prop:=0<=x.1+E/\x.2*2 ^ (x.1+E).toNat=v
theorem EV.up {x:Int × Int} {v:Int} {E:Nat} (h:EV x v E) (F:Nat):EV x (v*2 ^ F) (E+F):=by
 obtain⟨h1,h2⟩:=h;refine⟨by omega,?_⟩;have:(x.1+((E+F:Nat):Int)).toNat=(x.1+E).toNat+F:=by omega
 rw[this,Int.pow_add,<- Int.mul_assoc,h2]
theorem EV.mul {x y:Int × Int} {v w:Int} {E F:Nat} (h:EV x v E) (g:EV y w F):EV (yD x y) (v*w) (E+F):=by
 obtain⟨h1,h2⟩:=h;obtain⟨g1,g2⟩:=g;refine⟨by simp only[yD]; omega,?_⟩;have:((yD x y).1+((E+F:Nat):Int)).toNat=(x.1+E).toNat+(y.1+F).toNat:=by simp only[yD]; omega
 rw[this,Int.pow_add,<- h2,<- g2];simp only[yD];ac_rfl
theorem EV.neg {x:Int × Int} {v:Int} {E:Nat} (h:EV x v E):EV (R5 x) (-v) E:=⟨h.1,by rw[<- h.2]; exact aiZ _ _⟩
theorem CF {x:Int × Int} {v:Int} {E:Nat} (h:EV x v E) {e:Int} (he:e<=x.1) (hE:0<=e+E):sD x e*2 ^ (e+E).toNat=v:=by unfold sD;rw[Int.mul_assoc,<- Int.pow_add,show(x.1 - e).toNat+(e+E).toNat=(x.1+E).toNat by omega];exact h.2
theorem EV.add {x y:Int × Int} {v w:Int} {E:Nat} (h:EV x v E) (g:EV y w E):EV (I_ x y) (v+w) E:=by
 unfold I_;split
 ·rename_i h0;have:v=0:=by rw[<- h.2,h0,Int.zero_mul]
  rw[this,Int.zero_add]; exact g
 ·split
  ·rename_i h0;have:w=0:=by rw[<- g.2,h0,Int.zero_mul]
   rw[this,Int.add_zero]; exact h
  ·have hE:0<=min x.1 y.1+E:=by have:=h.1; have:=g.1; omega
   exact⟨hE,by rw[Int.add_mul,CF h (by omega) hE,CF g (by omega) hE]⟩
theorem EV.sgn {x:Int × Int} {v:Int} {E:Nat} (h:EV x v E):w8 x.2=w8 v:=by
 rw[<- h.2];have hp:=OY (x.1+E).toNat;unfold w8;rcases Int.lt_trichotomy x.2 0 with h | h | h
 ·have:=Int.mul_neg_of_neg_of_pos h hp;rw[if_neg (by omega),if_pos h,if_neg (by omega),if_pos this]
 ·rw[h,Int.zero_mul]
 ·have:=Int.mul_pos h hp;rw[if_neg (by omega),if_neg (by omega),if_neg (by omega),if_neg (by omega)]
theorem Ex.mono {E B E' B':Nat} {x:Int × Int} (h:Ex E B x) (hE:E<=E') (hB:B<=B'):Ex E' B' x:=⟨by have:=h.1; omega,by have:=h.2.1; omega,bK h.2.2 hB⟩
theorem Ex.mul {E B E' B':Nat} {x y:Int × Int} (h:Ex E B x) (g:Ex E' B' y):Ex (E+E') (B+B') (yD x y):=
 ⟨by have:=h.1; have:=g.1; simp only[yD]; omega,by have:=h.2.1; have:=g.2.1; simp only[yD]; omega,by show aT _ (x.2*y.2).natAbs;rw[ahE]; exact dw h.2.2 g.2.2⟩
theorem Ex.neg {E B:Nat} {x:Int × Int} (h:Ex E B x):Ex E B (R5 x):=⟨h.1,h.2.1,by show aT _ (-x.2).natAbs; rw[ais]; exact h.2.2⟩
theorem Bf {E B:Nat} {x:Int × Int} (h:Ex E B x) {e:Int} (he : -(E:Int)<=e):aT (B+2*E) (sD x e).natAbs:=by unfold sD;rw[ahE,Int.natAbs_pow];refine bK (vl h.2.2 _) ?_;have:=h.2.1; omega
theorem Ex.add {E B:Nat} {x y:Int × Int} (h:Ex E B x) (g:Ex E B y):Ex E (B+2*E+1) (I_ x y):=by
 unfold I_;split
 ·exact g.mono (af1 _) (by omega)
 ·split
  ·exact h.mono (af1 _) (by omega)
  ·refine⟨by have:=h.1; have:=g.1; show -(E:Int)<=min x.1 y.1; omega,by have:=h.2.1; show min x.1 y.1<=E; omega,?_⟩;have h1:=Bf h (e:=min x.1 y.1) (by have:=h.1; have:=g.1; omega);have h2:=Bf g (e:=min x.1 y.1) (by have:=h.1; have:=g.1; omega);exact l_ (wl h1 h2) (Int.natAbs_add_le _ _)
theorem Qz {N:Nat} (hN:1000<=N) {E B:Nat} {x:Int × Int} (hx:Ex E B x) {e:Int} (he : -(E:Int)<=e) (hB:B+2*E<=30000) (k0:Bool) (k1:Bool->List Int->Bool) (h0:x.1<=e->k0=uB x.2 k1) (he2:x.1<=e->e=x.1) :
  VR N x.1 e (decide (x.2<0)) (aj x.2.natAbs) k0 k1=uB (sD x e) k1:=by
 unfold VR Wy;have hx1:=hx.1;have hx2:=hx.2.1;by_cases hc:x.1<=e
 ·rw[afO (by omega:e>=x.1),afR,h0 hc];have:sD x e=x.2:=by unfold sD;rw[he2 hc,Int.sub_self]; simp
  rw[this]
 ·rw[afP (by omega:¬ e>=x.1),afQ,aa afM];have ew:IntKind.wrap .u64 (x.1 - e)=(((x.1 - e).toNat:Nat):Int):=by rw[am]; omega
  rw[ew,CP _ _ _ _ (Ct hN (by omega) hx.2.2)];congr 1;unfold sD aY;by_cases hz:x.2<0
  ·rw[afO hz,if_pos rfl,aga,ahg,<- aiZ];congr 1; omega
  ·rw[afP hz,if_neg (by decide),aga,ahg];congr 1; omega
theorem Ik {x:Fl} (hx:bC x=true):Ex 1100 53 (ofE x):=by
  obtain⟨b,s,m,i,rfl,h⟩:=pA hx;rw[D8 h];have hpl:=pQ h;have hpg:=Gg h;by_cases h0:m=0
  · rw[if_pos h0]; exact⟨by decide,by decide,af3 _⟩
  · rw[if_neg h0]
    obtain⟨g1,g2,g3,g4⟩:=qN 64 m i h0 (by have:(2:Nat) ^ 64=18446744073709551616:=(by decide); omega);refine⟨by show -((1100:Nat):Int)<=(gD 64 m i).2; omega,by show(gD 64 m i).2<=((1100:Nat):Int); omega,?_⟩;show aT 53 (aY s (gD 64 m i).1).natAbs;have:(aY s (gD 64 m i).1).natAbs=(gD 64 m i).1:=by unfold aY; cases s <;> simp
    rw[this];show _<2 ^ 53;have:(2:Nat) ^ 53=9007199254740992:=by decide
    omega
theorem C6:∀(f t c:Nat) (e:Int),t<f->gD f (2 ^ t*(2*c+1)) e=(2*c+1,e+t)
 | 0,t,c,e,h=>by omega
 | f+1,0,c,e,h=>by
  unfold gD;rw[ahL,ahQ,if_neg (by omega)];simp
 | f+1,t+1,c,e,h=>by
  unfold gD;have e1:2 ^ (t+1)*(2*c+1)=2*(2 ^ t*(2*c+1)):=by rw[af2]; ac_rfl
  rw[e1,if_pos (by omega),agr _ (by decide),C6 f t c (e+1) (by omega)];congr 1; omega
theorem Pz {b:Nat} (hb:W64 b):(aB .and .u64 (b:Int) 9223372036854775808 != 0)=(b / 9223372036854775808%2==1):=by
 have e1:(9223372036854775808:Int)=((2 ^ 63:Nat):Int):=by decide
 have p63:(2:Nat) ^ 63=9223372036854775808:=by decide
 rw[e1,uE hb (by rw[p63]; omega)];have h1:b / 9223372036854775808%2=0\/b / 9223372036854775808%2=1:=by omega
 have h2:b.testBit 63=decide (b / 2 ^ 63%2=1):=Nat.testBit_eq_decide_div_mod_eq;rw[p63]at h2;rcases h1 with h | h
 ·have hz:b &&& 2 ^ 63=0:=by
   refine ah5 (λj=>?_);rw[aiK,ahH,Nat.zero_testBit];by_cases hj:63=j
   ·subst hj; rw[h2,h]; rfl
   ·rw[afP hj,Bool.and_false]
  rw[hz,h]; rfl
 ·have hz:b &&& 2 ^ 63 ≠ 0:=by intro hc;have:=aiY (λn=>n.testBit 63) hc;simp only[aiK,ahH,Nat.zero_testBit,h2,h]at this;simp at this
  rw[h];generalize b &&& 2 ^ 63=z at hz ⊢;have:((z:Int) != 0)=true:=by simp; exact hz
  rw[this]; rfl
theorem C_ {N:Nat} {b m:Nat} {i:Int} {s:Bool} (hpl:i<=971/\m<9007199254740992) (hb:W64 b) (k:Kx4) (E:Int) (hEi:i=E) (h5 : -1100<=E) (h6:E<=1100) (h0:m ≠ 0):Kg N (b:Int) 52 2047 1075 s (m:Int) E k=k s ((gD 64 m i).1:Int) (gD 64 m i).2 0:=by
 unfold Kg;obtain⟨t,c,hm⟩:=Bl m h0;have ht0:0<2 ^ t:=af3 t;have ht:t<64:=by
  rcases agP t 64 with g | g
  ·exact g
  ·have g2:2 ^ 64<=2 ^ t:=af5 (by decide) g;have g3:2 ^ t*1<=2 ^ t*(2*c+1):=afW _ (by omega);have g4:(2:Nat) ^ 64=18446744073709551616:=by decide
   omega
 rw[hm,Vn N (by rw[<- hm]; omega),C6 64 t c i ht,aa (afO (by omega)),aa afM,afV,show min t 64=t by omega];have e2:(2:Int) ^ t=((2 ^ t:Nat):Int):=by rw[ahg]; rfl
 rw[e2,kH,agr _ ht0,hEi]
theorem HQ {N:Nat} {b:Nat} (hb:W64 b) {s:Bool} {m:Nat} {i:Int} (h:Ieee.double.read b=.number s m i) (k:Kx4) :
  qS N (some b) k=if m=0 then k s 0 0 0 else k s ((gD 64 m i).1:Int) (gD 64 m i).2 0:=by
 obtain⟨h1,h2,h3⟩:=mJ h;have hpl:=pQ h;have hnn:isNaN b=false:=by rw[aiq]; intro hc; have:=(fv b).1 hc; omega
 have hcnb:cnb b=b:=by simp only[cnb,hnn]; rfl
 have hcls:=Dz b;rw[hcnb]at hcls;have hE:b / 4503599627370496%2048<2047:=by omega
 rw[if_neg (Nat.ne_of_lt hE)]at hcls;have hc:(b / 4503599627370496%2048=0/\b%4503599627370496=m/\cls b=(if m=0 then 3 else 4)/\i = -1074)\/(b / 4503599627370496%2048 ≠ 0/\m=4503599627370496+b%4503599627370496/\cls b=5/\i=((b / 4503599627370496%2048:Nat):Int) - 1075):=by
  rcases h3 with⟨g1,g2,g3⟩ | ⟨g1,g2,g3⟩
  ·have e0:b / 4503599627370496%2048=0:=by omega
   have e1:b%4503599627370496=m:=by omega
   rw[if_pos e0,e1]at hcls;exact .inl ⟨e0,e1,hcls,by omega⟩
  ·have e0:b / 4503599627370496%2048 ≠ 0:=by omega
   rw[if_neg e0]at hcls;exact .inr ⟨e0,by omega,hcls,by omega⟩
 generalize hx:b / 4503599627370496%2048=x at hE hc;generalize hy:b%4503599627370496=y at hc;have hylt:y<4503599627370496:=by omega
 have goal0:qS N (some b) k=(af .i64 ((x:Int) - 1075)&&(cond ((cls b:Int)==1) (k false 0 0 4) (cond ((cls b:Int)==2) (k false 0 0 4) (cond ((cls b:Int)==3) (k s 0 0 0) (cond ((cls b:Int)==4) ((af .i64 (((x:Int) - 1075)+1))&&(Kg N (b:Int) 52 2047 1075 s (y:Int) (((x:Int) - 1075)+1) k)) (mO N 52 2047 1075 (λ(ZF:Int)=>(Kg N (b:Int) 52 2047 1075 s (aB .or .u64 (y:Int) ZF) ((x:Int) - 1075) k)))))))):=by
  unfold qS zU;show VW N (b:Int) 52 2047 1075 _=_
  (unfold VW; rw[ac]; unfold Td)
  rw[CZ,hcnb,Pz hb,<- h1,CV,hx,hy]
 rw[goal0,aa afM];clear goal0 hcls h1 h2 h3 hcnb hnn;rcases hc with⟨c1,c2,c3,c4⟩ | ⟨c1,c2,c3,c4⟩
 ·rw[c3];by_cases h0:m=0
  ·rw[if_pos h0,if_pos h0]; rfl
  ·rw[if_neg h0,if_neg h0,c2];show(af .i64 (((x:Int) - 1075)+1)&&_)=_;rw[aa afM];exact C_ hpl hb k _ (by omega) (by omega) (by omega) h0
 ·have h0:m ≠ 0:=by omega
  rw[c3,if_neg h0];have eor:aB .or .u64 (y:Int) 4503599627370496=(m:Int):=by
   have p52:(2:Nat) ^ 52=4503599627370496:=by decide
   have:=co y 1 52 (by omega) (by omega);rw[p52]at this;rw[show((4503599627370496*1:Nat):Int)=4503599627370496 from rfl]at this;rw[this]; omega
  rw[show((5:Int)==1)=false from rfl,afQ,show((5:Int)==2)=false from rfl,afQ,show((5:Int)==3)=false from rfl,afQ,show((5:Int)==4)=false from rfl,afQ,kE,eor];exact C_ hpl hb k _ (by omega) (by omega) (by omega) h0
theorem LP {z:Int}:(w8 z==0)=decide (z=0):=by
 unfold w8;by_cases h:z=0
 ·rw[if_pos h,afO h]; rfl
 ·rw[if_neg h,afP h];by_cases hl:z<0
  ·rw[if_pos hl]; rfl
  ·rw[if_neg hl]; rfl
def qP (p:Int × Int):Rat:=if 0<=p.1 then mkRat (p.2*((2 ^ p.1.toNat:Nat):Int)) 1 else mkRat p.2 (2 ^ (-p.1).toNat)
theorem Vj (a b:Int):imm true a b=max a b:=by
 unfold imm; simp only[afR];by_cases h:a<=b
 ·have:max a b=b:=by omega
  rw[this];by_cases h2:b>a
  ·rw[afO h2]; rfl
  ·rw[afP h2,afQ]; omega
 ·have:max a b=a:=by omega
  rw[this,afP (by omega),afQ]
theorem Sc (n:Nat):¬((n:Nat):Int)<0:=by omega
theorem Bj (g:Bool):(g != false)=g:=by cases g <;> rfl
theorem Np {B s n:Nat} (h:aT B n):aT (B+s) (n*2 ^ s):=vl h s
theorem Ad {s:Nat}:aT (s+1) (2 ^ s):=by unfold aT; rw[af2]; have:=af3 s; omega
theorem IZ:aT 1 1:=by unfold aT; decide
theorem xq:ae 1=[1]:=qu (by decide) (by decide)
theorem Vk {w:Int} (k:Kx5):kq (mkRat w 1) k=kr w 1 k:=by unfold kq;rw[Rat.mkRat_one,Rat.num_intCast,Rat.den_intCast]
theorem Jk {N:Nat} (hF:Fuel N) (x:Fl) (s:Bool) (M e z:Int) (he : -1100<=e) (he2:e<=1100) (hz:aT 53 z.natAbs) (k:Kx5) :
  ca N x s M e (decide (z<0)) (ae z.natAbs) k=kq (qP (e,z)) k:=by
 have hN:=hF.lt;unfold ca;have n1:=λkk=>sI (N:=N) (by omega) 1 (by decide) kk
 rw[show((1:Nat):Int)=1 from rfl]at n1;rw[n1,aa afM,Vj];obtain⟨t,ht⟩:∃ t:Nat,max e (0 - e)=(t:Int):=⟨(max e (0 - e)).toNat,by omega⟩
 have ew:IntKind.wrap .u64 (max e (0 - e))=(t:Int):=by rw[am]; omega
 have htb:t<=1100:=by omega
 rw[ew,KP t false false 1 (by omega) (by rw[xq]; simp; omega) (by rw[xq]; simp)];unfold sG;have e1:aY false (1*2 ^ t)=((2 ^ t:Nat):Int):=by unfold aY; rw[ahQ]; rfl
 rw[e1,afP (Sc (2 ^ t)),agK];dsimp only;have hp:=af3 t;have hzb:aT 2000 z.natAbs:=bK hz (by omega);have htb2:aT 2000 (2 ^ t):=bK Ad (by omega);by_cases hc:e<0
 ·rw[afO hc,afR];unfold Rk SE;rw[Bj,yI hF (B:=2000) (by decide) _ hzb htb2 hp,iU];unfold qP;dsimp only;have:(-e).toNat=t:=by omega
  rw[if_neg (by omega),this]
 ·rw[afP hc,afQ];unfold W9 WC;have hm:aT 4000 (z.natAbs*2 ^ t):=bK (dw hzb htb2) (by omega);rw[um hF (by decide) hzb htb2,Bj];rw[ob (decide (z<0)) _ _ (z.natAbs*2 ^ t) (λa b=>VM N false false a b (λc8 s7 c9 s8=>k c8 s7 c9 s8))];rw[sH];obtain⟨w,hw⟩:∃ w:Int,w=z*((2 ^ t:Nat):Int):=⟨_,rfl⟩
  have hwb:aT 4000 w.natAbs:=by rw[hw,ahE,agK]; exact hm
  rw[<- hw];unfold sG VM Ws;dsimp only;rw[qD (by decide) hwb];have er:qP (e,z)=mkRat w 1:=by
   unfold qP;dsimp only;have:e.toNat=t:=by omega
   rw[if_pos (by omega),this,hw]
  rw[er,Vk]
  (unfold W6; rw[ac]; unfold Ta LD PU Xa WD kr)
  rw[xq];by_cases hl:w<0
  ·rw[afO hl];have h2:decide (((ae w.natAbs).length:Int)>0)=true:=by rw[pw]; exact afO (by omega)
   simp only[h2];rfl
  ·rw[afP hl]; rfl
theorem qE (N:Nat) (e:Int) (k0:Bool):cX N ((0:Int)==0) e k0=k0:=rfl
theorem FR {N:Nat} (hF:Fuel N) {x:Fl} (hx:bC x=true) (hw:FW x) (k:Kx5):kd N x k=kq (qP (ofE x)) k:=by
 have hN:=hF.lt;have hex:=Ik hx;obtain⟨b,s,m,i,rfl,h⟩:=pA hx;have ho:=D8 h
 (unfold kd; rw[ac]; unfold j_)
 have fin:∀(M:Nat) (e:Int),M<18446744073709551616->ofE (some b)=(e,aY s M) ->
   cX N ((0:Int)==0) 4 (Rl N (M:Int) false (λ(Zp:Bool) (nsr:List Int)=>(cond s (Rs N Zp nsr (λ(ZG:Bool) (Zm:List Int)=>(ca N (some b) s (M:Int) e ZG Zm k))) (ca N (some b) s (M:Int) e Zp nsr k))))=kq (qP (ofE (some b))) k:=by
  intro M e hM heq;rw[heq]at hex ⊢;have h1:=hex.1;have h2:=hex.2.1;have h3:=hex.2.2;dsimp only at h1 h2 h3;have hl:(ae M).length<=1099511627776:=by
   have:aT 64 M:=by unfold aT; omega
   have:=zq (B:=64) (by decide) this; omega
  rw[qE,On (by omega) M hM];cases s
  ·rw[afQ];have e1:aY false M=(M:Int):=rfl;rw[e1]at h3 ⊢;have:=Jk hF (some b) false (M:Int) e (M:Int) (by omega) (by omega) h3 k;rw[afP (by omega:¬(M:Int)<0),agK]at this;exact this
  ·rw[afR,KQ false M hl];have e1 : -(aY false M)=aY true M:=rfl;rw[e1];exact Jk hF (some b) true (M:Int) e (aY true M) (by omega) (by omega) h3 k
 rw[HQ (hw b rfl) h];by_cases h0:m=0
 ·rw[if_pos h0];rw[if_pos h0]at ho;refine fin 0 0 (by decide) ?_;rw[ho];cases s <;> rfl
 ·rw[if_neg h0];rw[if_neg h0]at ho;have hpl:=pQ h;have hm:m<2 ^ 64:=by
   have:(2:Nat) ^ 64=18446744073709551616:=by decide
   omega
  obtain⟨g1,g2,g3,g4⟩:=qN 64 m i h0 hm;exact fin _ _ (by omega) ho
theorem QI (N:Nat) (k:Kz9):rI N k=k (aj 1):=by rw[NL]; rfl
theorem FM {N:Nat} (hF:Fuel N) {z:Int} (hz:aT 30000 z.natAbs) (b1 b2:Bool) (k:Kx5) :
  Rn N b1 b2 (decide (z<0)) (aj z.natAbs) k=kqR (mkRat z 1) k:=by
 unfold Rn Wn;rw[QI,uj hF (B:=30000) (by decide) _ hz (bK IZ (by decide)) (by decide),iU]
theorem KT {N:Nat} (hF:Fuel N) {x:Fl} (hx:bC x=true) (hw:FW x) (k:Kx5):tx N x k=kqR (qP (ofE x)) k:=by
 have hN:=hF.lt;have hex:=Ik hx;unfold tx yi;rw[Vm (by omega) hx hw];obtain⟨p,hp⟩:∃ p,p=ofE x:=⟨_,rfl⟩
 rw[<- hp]at hex ⊢;obtain⟨e,z⟩:=p;have h1:=hex.1;have h2:=hex.2.1;have h3:=hex.2.2;dsimp only at h1 h2 h3
 (unfold exK; unfold W8; rw[ac]; unfold Tc)
 dsimp only;by_cases hc:e>=0
 ·rw[afO hc,afR];have hl:=λk0 k1 h0 he2=>Qz (N:=N) (by omega) hex (e:=0) (by omega) (by decide) k0 k1 h0 he2
  dsimp only at hl;rw[hl]
  ·unfold uB;have hb:=Bf hex (e:=0) (by omega);dsimp only;rw[FM hF (bK hb (by decide))];unfold qP sD;dsimp only;rw[if_pos hc,Int.sub_zero,ahg];rfl
  ·intro _; rfl
  ·intro h; omega
 ·rw[afP hc,afQ];have n1:=λkk=>A0 (N:=N) 1 (by decide) (by have:=rC (B:=1) (n:=1) (by decide) (by unfold aT; decide);exact⟨by omega,by omega⟩) (by omega) kk
  rw[show((1:Nat):Int)=1 from rfl]at n1;rw[n1,aa afM];obtain⟨t,ht⟩:∃ t:Nat,(0 - e)=(t:Int):=⟨(0 - e).toNat,by omega⟩
  have ew:IntKind.wrap .u64 (0 - e)=(t:Int):=by rw[am]; omega
  rw[ew,CP t false false 1 (Ct (B:=1) (by omega) (by omega) (by unfold aT; decide))];unfold uB;have e1:aY false (1*2 ^ t)=((2 ^ t:Nat):Int):=by unfold aY; rw[ahQ]; rfl
  rw[e1,afP (Sc (2 ^ t)),agK];dsimp only;have htp:=af3 t;have hzb:aT 2000 z.natAbs:=bK h3 (by omega);have htb2:aT 2000 (2 ^ t):=bK Ad (by omega);unfold W4 Wr;rw[Bj,uj hF (B:=2000) (by decide) _ hzb htb2 (Nat.ne_of_gt htp),iU];unfold qP;dsimp only;have:(-e).toNat=t:=by omega
  rw[if_neg (by omega),this]
theorem vZ {B:Nat} {z:Int} {d:Nat} (hz:aT B z.natAbs) (hd:aT B d) (h0:0<d):Bq B (mkRat z d):=by
 refine⟨?_,?_⟩
 ·rw[ai0,if_neg (by omega)];have h1:((Nat.gcd z.natAbs d:Nat):Int)∣z:=Int.ofNat_dvd_left.2 (agF _ _);rw[ag6,Int.natAbs_ediv_of_dvd h1,agK];exact bR hz
 ·rw[ai1,if_neg (by omega)];exact bR hd
theorem Rd {x:Fl} (hx:bC x=true):Bq 1200 (qP (ofE x)):=by
 have hex:=Ik hx;obtain⟨p,hp⟩:∃ p,p=ofE x:=⟨_,rfl⟩
 rw[<- hp]at hex ⊢;obtain⟨e,z⟩:=p;have h1:=hex.1;have h2:=hex.2.1;have h3:=hex.2.2;dsimp only at h1 h2 h3;unfold qP;dsimp only;split
 ·refine vZ ?_ (bK IZ (by decide)) (by decide);rw[ahE,agK];exact bK (Np h3) (by omega)
 ·exact vZ (bK h3 (by omega)) (bK Ad (by omega)) (af3 _)
theorem Do {A B:Nat} {x y:Rat} (hx:Bq A x) (hy:Bq B y):Bq (A+B) (x*y):=by rw[Rat.mul_def'];refine vZ ?_ (dw hx.2 hy.2) (ahR x.den_pos y.den_pos);rw[ahE]; exact dw hx.1 hy.1
theorem Sz {B:Nat} {y:Rat} (hy:Bq B y) (h:y.num ≠ 0):Bq B (y⁻¹):=by obtain⟨i1,i2,i3⟩:=AN h;exact⟨by rw[i1]; exact hy.2,by rw[i2]; exact hy.1⟩
theorem G4 {A B:Nat} {x y:Rat} (hx:Bq A x) (hy:Bq B y) (h:y.num ≠ 0):Bq (A+B) (x / y):=by rw[Rat.div_def]; exact Do hx (Sz hy h)
theorem SA {B:Nat} {y:Rat} (hy:Bq B y):Bq B (-y):=⟨by rw[Rat.neg_num,ais]; exact hy.1,hy.2⟩
theorem Sy {A B:Nat} {x y:Rat} (hx:Bq A x) (hy:Bq B y):Bq (A+B+1) (x+y):=by rw[Rat.add_def'];refine vZ (Cs (tX hx.1 hy.2) ?_) (bK (dw hx.2 hy.2) (by omega)) (ahR x.den_pos y.den_pos);rw[ahK]; exact tX hy.1 hx.2
theorem Me {A B:Nat} {x y:Rat} (hx:Bq A x) (hy:Bq B y):Bq (A+B+1) (x - y):=by rw[Rat.sub_eq_add_neg]; exact Sy hx (SA hy)
theorem IH {B:Nat}:Bq (B+1) 0:=⟨af3 _,by show 1<2 ^ (B+1); exact Nat.one_lt_two_pow (by omega)⟩
def enc (x:Rat):RY1:=((decide (x.num<0),ae x.num.natAbs),(false,ae x.den))
def dy (x:Rat):RY2:=((decide (x.num<0),aj x.num.natAbs),(false,aj x.den))
def mat {α:Type} (g:Rat->α) (n:Nat) (f:Nat->Nat->Rat):List α:=(List.range (n*n)).map (λt=>g (f (t / n) (t%n)))
theorem qK {α:Type} (g:Rat->α) (n:Nat) (f:Nat->Nat->Rat):(mat g n f).length=n*n:=by unfold mat; rw[ahO,List.length_range]
theorem ma {n i j:Nat} (hi:i<n) (hj:j<n):i*n+j<n*n:=by have h1:(i+1)*n<=n*n:=afT _ hi;rw[agk]at h1; omega
theorem zF {n i j:Nat} (hj:j<n):(i*n+j) / n=i:=by rw[afS,aiM (by omega),agm hj,agn]
theorem zG {n i j:Nat} (hj:j<n):(i*n+j)%n=j:=by rw[afS,ah1,afZ hj]
theorem mF {α:Type} (g:Rat->α) (n:Nat) (f:Nat->Nat->Rat) {i j:Nat} (hi:i<n) (hj:j<n) (z:α):(mat g n f).getD (i*n+j) z=g (f i j):=by have h:=ma hi hj;unfold mat;rw[List.getD_eq_getElem?_getD,List.getElem?_map,List.getElem?_range h];simp only[ahk,agC,zF hj,zG hj]
theorem ko {α:Type} (g:Rat->α) (n:Nat) {f f':Nat->Nat->Rat} (h:∀ a b,a<n->b<n->f a b=f' a b):mat g n f=mat g n f':=by
 unfold mat;apply aib;intro t ht;have ht:=List.mem_range.1 ht;have hn:0<n:=by
  rcases ag_ n with h0 | h0
  ·rw[h0]at ht; omega
  ·exact h0
 rw[h _ _ (ahM ht) (af4 _ hn)]
theorem Ju {α:Type} (g:Rat->α) (n:Nat) (f:Nat->Nat->Rat) {i j:Nat} (hi:i<n) (hj:j<n) (v:Rat):(mat g n f).set (i*n+j) (g v)=mat g n (λa b=>if a=i/\b=j then v else f a b):=by
 have h:=ma hi hj;apply List.ext_getElem?;intro t;by_cases ht:t<n*n
 ·have hn:0<n:=by omega
  rw[List.getElem?_set];unfold mat;rw[List.getElem?_map,List.getElem?_map,List.getElem?_range ht];simp only[ahO,List.length_range,ahk];by_cases he:i*n+j=t
  ·rw[if_pos he,if_pos h,<- he,zF hj,zG hj,if_pos ⟨rfl,rfl⟩]
  ·rw[if_neg he];have:¬(t / n=i/\t%n=j):=by rintro ⟨h1,h2⟩;apply he;rw[<- h1,<- h2,afS];exact agJ t n
   rw[if_neg this]
 ·rw[List.getElem?_eq_none (by rw[aij,qK]; omega),List.getElem?_eq_none (by rw[qK]; omega)]
theorem tG {n:Nat} (h:n<=1000):n*n<=1000000:=by have:n*n<=1000*1000:=agG h h;omega
theorem cI (i j n:Nat):(i:Int)*(n:Int)+(j:Int)=((i*n+j:Nat):Int):=by rw[Int.natCast_add,aga]
theorem cJ {n i j:Nat} (hn:n<=1000) (hi:i<n) (hj:j<n):af .i64 ((i:Int)*(n:Int))=true/\af .i64 (((i*n+j:Nat):Int))=true:=by have h1:=tG hn;have h2:=ma hi hj;rw[<- aga];exact⟨ab (by omega) (by omega),ab (by omega) (by omega)⟩
theorem qF {N n i j:Nat} (hn:n<=1000) (hi:i<n) (hj:j<n) (f:Nat->Nat->Rat) (k:Kx5) :
  bd N n n i j (mat enc n f) k=kq (f i j) k:=by
 obtain⟨h1,h2⟩:=cJ hn hi hj;have h3:=ma hi hj
 (unfold bd; rw[ac]; unfold eW)
 rw[cI,aa h1,aa h2,qK,afV,aa afN,aa (afO h3),mF enc n f hi hj];rfl
theorem QQ {N n i j:Nat} (hn:n<=1000) (hi:i<n) (hj:j<n) (f:Nat->Nat->Rat) (v:Rat) (k:List RY1->Bool) :
  fC N n n i j (decide (v.num<0)) (ae v.num.natAbs) false (ae v.den) (mat enc n f) k=k (mat enc n (λa b=>if a=i/\b=j then v else f a b)):=by
 obtain⟨h1,h2⟩:=cJ hn hi hj;have h3:=ma hi hj;unfold fC ke;rw[cI,aa h1,aa h2,qK,afV,aa afN,aa (afO h3)];exact aiY k (Ju enc n f hi hj v)
theorem uh {N n i j:Nat} (hn:n<=1000) (hi:i<n) (hj:j<n) (f:Nat->Nat->Rat) (k:Kz6) :
  Gz N n n i j (mat dy n f) k=k (i*n+j):=by
 obtain⟨h1,h2⟩:=cJ hn hi hj;have h3:=ma hi hj;unfold Gz Wp;rw[cI,aa h1,aa h2,qK,afV,aa afN,aa (afO h3)]
theorem Eh (l:List RY2) (i:Nat):List.set l i (((List.getD l i ((false,[]),(false,[]))).1.1,(List.getD l i ((false,[]),(false,[]))).1.2),((List.getD l i ((false,[]),(false,[]))).2.1,(List.getD l i ((false,[]),(false,[]))).2.2))=l:=by
 show List.set l i (List.getD l i ((false,[]),(false,[])))=l;apply List.ext_getElem?;intro t;rw[List.getElem?_set];by_cases h:i=t
 ·subst h;rw[if_pos rfl];by_cases hl:i<l.length
  ·rw[if_pos hl,List.getD_eq_getElem?_getD,List.getElem?_eq_getElem hl]; rfl
  ·rw[if_neg hl,List.getElem?_eq_none (by omega)]
 ·rw[if_neg h]
theorem vz {σ:Type} {step:σ->(σ->Bool)->Bool} (C:Nat->σ) (m n:Nat) (hmn:m<=n) {N:Nat} (hn:n<N) {out:Bool} (hs:∀ i,m<=i->i<n -> ∀ K:σ->Bool,step (C i) K=K (C (i+1))) (hx:∀ K,step (C n) K=out):ai N step (C m)=out:=by have:=ax (step:=step) (λi=>C (m+i)) (n - m) (N:=N) (by omega) (out:=out) (λi hi K=>hs (m+i) (by omega) (by omega) K) (λK=>by show step (C (m+(n - m))) K=out; rw[show m+(n - m)=n by omega]; exact hx K);exact this
def xm (f:Nat->Nat->Rat) (i c:Nat) (x:Rat) (t:Nat):Nat->Nat->Rat:=λa b=>if a=i/\b<t then f i b+f c b*x else f a b
def fN (f:Nat->Nat->Rat) (c m:Nat):Nat->Nat->Rat:=λa b=>if c<a/\a<m then f a b - f a c / f c c*f c b else f a b
def rm (B n:Nat) (f:Nat->Nat->Rat):Prop:=∀ a b,a<n->b<n->Bq B (f a b)
theorem Oq {N B n i c:Nat} (hF:Fuel N) (hB:B<=300000000000) (hn:n<=1000) (hi:i<n) (hc:c<n) (hic:c ≠ i) {f:Nat->Nat->Rat} (hf:rm B n f) {x:Rat} (hx:Bq (2*B) x) (k:List RY1->Bool) :
  fA N n n i c (decide (x.num<0)) (ae x.num.natAbs) false (ae x.den) (mat enc n f) k=k (mat enc n (xm f i c x n)):=by
 have hN:=hF.lt
 (unfold fA; rw[ac]; unfold eV)
 have h0:mat enc n f=mat enc n (xm f i c x 0):=ko _ _ (λa b _ _=>by unfold xm; rw[if_neg (by omega)]);rw[h0];refine ax (λt:Nat=>((t:Int),mat enc n (xm f i c x t))) n (by omega) ?_ ?_
 ·intro t ht K;unfold ck;dsimp only;rw[afO (by omega:(t:Int)<(n:Int)),afR,qF hn hi ht];have e1:xm f i c x t i t=f i t:=by unfold xm; rw[if_neg (by omega)]
  have e2:xm f i c x t c t=f c t:=by unfold xm; rw[if_neg (by omega)]
  unfold kq kr;dsimp only;rw[qF hn hc ht,e1,e2];unfold kq kr;dsimp only;rw[QF hF (B:=2*B) (by omega) ((hf c t hc ht).mono (by omega)) hx];unfold kq kr;dsimp only;rw[QA hF (B:=3*B) (by omega) ((hf i t hi ht).mono (by omega)) ((Do (hf c t hc ht) hx).mono (by omega))];unfold kq kr;dsimp only;rw[QQ hn hi ht,aa afM];have e3:mat enc n (λa b=>if a=i/\b=t then f i t+f c t*x else xm f i c x t a b)=mat enc n (xm f i c x (t+1)):=ko _ _ (λa b _ _=>by
   unfold xm;by_cases h:a=i/\b=t
   ·rw[if_pos h,if_pos (by omega),h.2]
   ·rw[if_neg h];by_cases h2:a=i/\b<t
    ·rw[if_pos h2,if_pos (by omega)]
    ·rw[if_neg h2,if_neg (by omega)])
  rw[e3];rfl
 ·intro K;unfold ck;dsimp only;rw[afP (by omega:¬(n:Int)<(n:Int)),afQ]
def oU (f:Nat->Nat->Rat) (i c:Nat) (r:Rat) (t:Nat):Nat->Nat->Rat:=λa b=>if a=i/\b<t then f i b - r*f c b else f a b
theorem K6 {N B n i c:Nat} (hF:Fuel N) (hB:B<=300000000000) (hn:n<=1000) (hi:i<n) (hc:c<n) (hic:c ≠ i) {f:Nat->Nat->Rat} (hf:rm B n f) {r:Rat} (hx:Bq (2*B) r) (k:List RY2->Bool) :
  VL N n n i c (mat dy n f) (decide (r.num<0)) (aj r.num.natAbs) false (aj r.den) k=k (mat dy n (oU f i c r n)):=by
 have hN:=hF.lt
 (unfold VL; rw[ac]; unfold SR)
 have h0:mat dy n f=mat dy n (oU f i c r 0):=ko _ _ (λa b _ _=>by unfold oU; rw[if_neg (by omega)]);rw[h0];refine ax (λt:Nat=>((t:Int),mat dy n (oU f i c r t))) n (by omega) ?_ ?_
 ·intro t ht K;unfold Eo;dsimp only;rw[afO (by omega:(t:Int)<(n:Int)),afR,uh hn hi ht,uh hn hi ht,uh hn hc ht,Eh];have e1:oU f i c r t i t=f i t:=by unfold oU; rw[if_neg (by omega)]
  have e2:oU f i c r t c t=f c t:=by unfold oU; rw[if_neg (by omega)]
  rw[mF dy n _ hi ht,mF dy n _ hc ht,e1,e2];unfold dy;dsimp only;rw[OC hF (B:=2*B) (by omega) hx ((hf c t hc ht).mono (by omega))];unfold kqR krR;dsimp only;rw[aa (afO rfl),OO hF (B:=3*B) (by omega) ((hf i t hi ht).mono (by omega)) ((Do hx (hf c t hc ht)).mono (by omega))];unfold kqR krR;dsimp only;rw[aa afM];have e4:=Ju dy n (oU f i c r t) hi ht (f i t - r*f c t);have e3:mat dy n (λa b=>if a=i/\b=t then f i t - r*f c t else oU f i c r t a b)=mat dy n (oU f i c r (t+1)):=ko _ _ (λa b _ _=>by
   unfold oU;by_cases h:a=i/\b=t
   ·rw[if_pos h,if_pos (by omega),h.2]
   ·rw[if_neg h];by_cases h2:a=i/\b<t
    ·rw[if_pos h2,if_pos (by omega)]
    ·rw[if_neg h2,if_neg (by omega)])
  rw[e3]at e4;exact aiY (λl=>K ((t:Int)+1,l)) e4
 ·intro K;unfold Eo;dsimp only;rw[afP (by omega:¬(n:Int)<(n:Int)),afQ]
def vk (g:Nat->Rat):Nat->Nat->Bool
 | i,0=>true
 | i,d+1=>decide (g i=0)&&vk g (i+1) d
theorem Ab {g h:Nat->Rat}:∀ d i,(∀ j,i<=j->j<i+d->g j=h j)->vk g i d=vk h i d
 | 0,i,_=>rfl
 | d+1,i,e=>by unfold vk;rw[e i (af1 _) (by omega),Ab d (i+1) (λj h1 h2=>e j (by omega) (by omega))]
def w_ (n:Nat):Nat->Nat->Int->(Nat->Nat->Rat)->Int
 | 0,c,s,f=>s
 | d+1,c,s,f=>if (f c c).num<0 then 1 else if f c c=0 then(if vk (λi=>f i c) (c+1) d=true then w_ n d (c+1) 2 f else 1)else w_ n d (c+1) s (fN f c n)
theorem GC (z:Int):decide (w8 z<0)=decide (z<0):=by
 unfold w8;by_cases h0:z=0
 ·rw[if_pos h0,h0]
 ·rw[if_neg h0];by_cases h:z<0
  ·rw[if_pos h,afO h]; rfl
  ·rw[if_neg h,afP h]; rfl
theorem sW {x:Rat}:(x.num=0)↔x=0:=Rat.num_eq_zero
theorem tE (x:Rat):(w8 x.num==0)=decide (x=0):=by
 rw[LP];by_cases h:x=0
 ·rw[afO h,afO (sW.2 h)]
 ·rw[afP h,afP (λg=>h (sW.1 g))]
theorem RA (x:Rat):(w8 x.num != 0) = !decide (x=0):=by rw[<- tE]; rfl
theorem ub {B n c m:Nat} {f:Nat->Nat->Rat} (hf:rm B n f) (hc:c<n) (h0:f c c ≠ 0):rm (4*B+1) n (fN f c m):=by
 intro a b ha hb;unfold fN;split
 ·exact(Me (hf a b ha hb) (Do (G4 (hf a c ha hc) (hf c c hc hc) (λh=>h0 (sW.1 h))) (hf c b hc hb))).mono (by omega)
 ·exact(hf a b ha hb).mono (by omega)
theorem Au (f:Nat->Nat->Rat) (c:Nat) {α:Type} (g:Rat->α) (n:Nat):mat g n (fN f c (c+1))=mat g n f:=ko _ _ (λa b _ _=>by unfold fN; rw[if_neg (by omega)])
theorem sC {f:Nat->Nat->Rat} {c i:Nat} (b:Nat):fN f c i i b=f i b:=by unfold fN; rw[if_neg (by omega)]
theorem Av {f:Nat->Nat->Rat} {c i:Nat} (b:Nat):fN f c i c b=f c b:=by unfold fN; rw[if_neg (by omega)]
theorem xu {f:Nat->Nat->Rat} {c i a b:Nat} (h:c<i):fN f c (i+1) a b=if a=i then f i b - f i c / f c c*f c b else fN f c i a b:=by
 unfold fN;by_cases h1:a=i
 ·rw[if_pos h1,if_pos (by omega),h1]
 ·rw[if_neg h1];by_cases h2:c<a/\a<i
  ·rw[if_pos h2,if_pos (by omega)]
  ·rw[if_neg h2,if_neg (by omega)]
theorem O1 (x y p q:Rat):q+y*(0 - x / p)=q - x / p*y:=by grind
theorem O0 (p q y:Rat):q - 0 / p*y=q:=by grind
theorem O2 (x y p:Rat):x / p*y=y / p*x:=by grind
theorem OK {N B n c:Nat} (hF:Fuel N) (hB:4*B+1<=300000000000) (hn:n<=1000) (hc:c<n) (s:Int) (t1 t2:Int) {f:Nat->Nat->Rat} (hf:rm B n f) (h0:f c c ≠ 0) (e0:Int->List RY1->Bool) (e1:List RY1->Bool) :
  ai N (aA N s (c:Int) t1 t2 (n:Int) (n:Int) (decide ((f c c).num<0)) (ae (f c c).num.natAbs) false (ae (f c c).den) e0 e1) (((c+1:Nat):Int),mat enc n f)=e1 (mat enc n (fN f c n)):=by
 have hN:=hF.lt;rw[<- Au f c enc n];refine vz (λi:Nat=>((i:Int),mat enc n (fN f c i))) (c+1) n (by omega) (by omega) ?_ ?_
 ·intro i hi1 hi2 K;unfold aA;dsimp only;rw[afO (by omega:(i:Int)<(n:Int)),afR,qF hn hi2 hc,sC];unfold kq kr;dsimp only;rw[mE,tE];by_cases hz:f i c=0
  ·rw[afO hz,afR,aa afM];have:mat enc n (fN f c (i+1))=mat enc n (fN f c i):=ko _ _ (λa b _ _=>by
    rw[xu (by omega)];by_cases h1:a=i
    ·rw[if_pos h1,h1,sC,hz,O0]
    ·rw[if_neg h1])
   rw[this];rfl
  ·rw[afP hz,afQ,mE,tE,afP h0,afQ,H_ hF];unfold kq kr;dsimp only;have hp:(f c c).num ≠ 0:=λh=>h0 (sW.1 h)
   have bx:=hf i c hi2 hc;have bp:=hf c c hc hc;have bq:=G4 bx bp hp;rw[QJ hF (B:=B) (by omega) bx bp hp];unfold kq kr;dsimp only;have bz:Bq (B+B+1) 0:=IH;rw[FU hF (B:=B+B+1) (by omega) bz (bq.mono (by omega))];unfold kq kr;dsimp only;have bs:Bq (2*(4*B+1)) (0 - f i c / f c c):=(Me (A:=1) (IH (B:=0)) bq).mono (by omega);rw[Oq hF (B:=4*B+1) hB hn hi2 hc (by omega) (ub hf hc h0) bs,aa afM];have:mat enc n (fN f c (i+1))=mat enc n (xm (fN f c i) i c (0 - f i c / f c c) n):=ko _ _ (λa b _ hb=>by
    rw[xu (by omega)];unfold xm;by_cases h1:a=i
    ·rw[if_pos h1,if_pos ⟨h1,hb⟩,sC,Av,O1]
    ·rw[if_neg h1,if_neg (by omega)])
   rw[this];rfl
 ·intro K;unfold aA;dsimp only;rw[afP (by omega:¬(n:Int)<(n:Int)),afQ]
theorem Li {N n c:Nat} (hF:Fuel N) (hn:n<=1000) (hc:c<n) (s:Int) (t1 t2:Int) {f:Nat->Nat->Rat} (h0:f c c=0) (e0:Int->List RY1->Bool) (e1:List RY1->Bool):∀(d i M:Nat),i+d=n->d<M ->
  ai M (aA N s (c:Int) t1 t2 (n:Int) (n:Int) (decide ((f c c).num<0)) (ae (f c c).num.natAbs) false (ae (f c c).den) e0 e1) ((i:Int),mat enc n f)=if vk (λi=>f i c) i d=true then e1 (mat enc n f)else e0 1 (mat enc n f):=by
 intro d;induction d with
 | zero=>
  intro i M hi hM;cases M with
  | zero=>omega
  | succ M=>
   show aA _ _ _ _ _ _ _ _ _ _ _ _ _ ((i:Int),mat enc n f) (ai M _)=_;unfold aA vk;dsimp only;rw[afP (by omega:¬(i:Int)<(n:Int)),afQ,if_pos rfl]
 | succ d ih=>
  intro i M hi hM;cases M with
  | zero=>omega
  | succ M=>
   have hi2:i<n:=by omega
   show aA _ _ _ _ _ _ _ _ _ _ _ _ _ ((i:Int),mat enc n f) (ai M _)=_;rw[aA];rw[afO (by omega:(i:Int)<(n:Int)),afR,qF hn hi2 hc];unfold kq kr;dsimp only;rw[mE,tE,vk];by_cases hz:f i c=0
   ·rw[afO hz,afR,aa afM,agW];exact ih (i+1) M (by omega) (by omega)
   ·rw[afP hz,afQ,mE,tE,afO h0,afR,air,if_neg (by decide)]
theorem DZ {N n:Nat} (hF:Fuel N) (hn:n<=1000) (k:Kz5):∀(d c B M:Nat) (s:Int) (f:Nat->Nat->Rat),c+d=n->d<M->rm B n f->(B+1)*4 ^ d<=100000000000 ->
  ai M (aO N (n:Int) (n:Int) (n:Int) (λt _=>k t) (λt _=>k t)) (s,(c:Int),mat enc n f)=k (w_ n d c s f):=by
 intro d;induction d with
 | zero=>
  intro c B M s f hc hM _ _;cases M with
  | zero=>omega
  | succ M=>
   show aO _ _ _ _ _ _ (s,(c:Int),mat enc n f) (ai M _)=_;rw[aO];rw[afP (by omega:¬(c:Int)<(n:Int)),afQ];rfl
 | succ d ih=>
  intro c B M s f hc hM hf hB;cases M with
  | zero=>omega
  | succ M=>
   have hN:=hF.lt;have hcn:c<n:=by omega
   have h4:(4*B+1+1)*4 ^ d<=100000000000:=by
    have h1:(4*B+1+1)*4 ^ d<=(B+1)*4*4 ^ d:=afT _ (by omega);have h2:(B+1)*4*4 ^ d=(B+1)*4 ^ (d+1):=by rw[af2,af0,afS 4 (4 ^ d)]
    omega
   have hB2:4*B+1+1<=100000000000:=by have:0<4 ^ d:=agZ (by decide);have h1:(4*B+1+1)*1<=(4*B+1+1)*4 ^ d:=afW _ this;omega
   show aO _ _ _ _ _ _ (s,(c:Int),mat enc n f) (ai M _)=_;rw[aO];rw[afO (by omega:(c:Int)<(n:Int)),afR,qF hn hcn hcn];unfold kq kr;dsimp only;rw[mE,GC,w_];by_cases hneg:(f c c).num<0
   ·rw[afO hneg,afR,if_pos hneg]
   ·rw[afP hneg,afQ,if_neg hneg,aa afM];by_cases h0:f c c=0
    ·rw[if_pos h0];have hr:=λe0 e1=>Li hF hn hcn s (n:Int) (c:Int) h0 e0 e1 d (c+1) N (by omega) (by omega)
     rw[afP hneg]at hr;rw[show(c:Int)+1=((c+1:Nat):Int) from rfl,hr];by_cases hz:vk (λi=>f i c) (c+1) d=true
     ·rw[if_pos hz,if_pos hz];have hs:=mE (N:=N) (f c c);rw[afP hneg]at hs;rw[hs,tE,afO h0,afR,aa afM];exact ih (c+1) B M 2 f (by omega) (by omega) hf (by have:(B+1)*4 ^ d<=(4*B+1+1)*4 ^ d:=afT _ (by omega);omega)
     ·rw[if_neg hz,if_neg hz]
    ·rw[if_neg h0];have hr:=λe0 e1=>OK hF (by omega) hn hcn s (n:Int) (c:Int) hf h0 e0 e1
     rw[afP hneg]at hr;rw[show(c:Int)+1=((c+1:Nat):Int) from rfl,hr];have hs:=mE (N:=N) (f c c);rw[afP hneg]at hs;rw[hs,tE,afP h0,afQ,aa afM];exact ih (c+1) (4*B+1) M s (fN f c n) (by omega) (by omega) (ub hf hcn h0) h4
theorem OP {N B n:Nat} (hF:Fuel N) (hB:B<=300000000000) (hn:n<=1000) {f:Nat->Nat->Rat} (hf:rm B n f) (hs:∀ a b,a<n->b<n->f a b=f b a) (k:Bool) :
  cS N n n (mat enc n f) k=k:=by
 have hN:=hF.lt
 (unfold cS; rw[ac]; unfold cG)
 refine ax (λt:Nat=>(t:Int)) n (by omega) ?_ ?_
 ·intro i hi K;unfold bH;dsimp only;rw[afO (by omega:(i:Int)<(n:Int)),afR];refine ax (λt:Nat=>(t:Int)) i (by omega) ?_ ?_
  ·intro j hj K';have hj2:j<n:=by omega
   unfold bI;dsimp only;rw[afO (by omega:(j:Int)<(i:Int)),afR,qF hn hi hj2];unfold kq kr;dsimp only;rw[qF hn hj2 hi];unfold kq kr;dsimp only;rw[FU hF (B:=B) (by omega) (hf i j hi hj2) (hf j i hj2 hi)];unfold kq kr;dsimp only;have e:w8 (f i j - f j i).num=0:=by
    have:f i j - f j i=0:=by rw[hs i j hi hj2]; grind
    rw[this]; rfl
   rw[mE,e,qE,aa afM];rfl
  ·intro K';unfold bI;dsimp only;rw[afP (by omega:¬(i:Int)<(i:Int)),afQ,aa afM];rfl
 ·intro K;unfold bH;dsimp only;rw[afP (by omega:¬(n:Int)<(n:Int)),afQ]
theorem K2 {N B n:Nat} (hF:Fuel N) (hn:n<=1000) {f:Nat->Nat->Rat} (hf:rm B n f) (hs:∀ a b,a<n->b<n->f a b=f b a) (hB:(B+1)*4 ^ n<=100000000000) (k:Kz5) :
  eA N n n (mat enc n f) (λt _=>k t)=k (w_ n n 0 3 f):=by
 have hN:=hF.lt;have hB2:B<=300000000000:=by have:0<4 ^ n:=agZ (by decide);have h1:(B+1)*1<=(B+1)*4 ^ n:=afW _ this;omega
 unfold eA jy;have e:((n:Int)==(n:Int))=((0:Int)==0):=by simp
 rw[e,qE,OP hF hB2 hn hf hs]
 (unfold gG; rw[ac]; unfold db)
 exact DZ hF hn k n 0 B N 3 f (by omega) (by omega) hf hB
theorem Lj {N B n c:Nat} (hF:Fuel N) (hB:4*B+1<=300000000000) (hn:n<=1000) (hc:c<n) (s:Int) {f:Nat->Nat->Rat} (hf:rm B n f) (h0:f c c ≠ 0) (e0:List RY2->Bool) :
  ai N (BJ N s (c:Int) (c*n+c) (n:Int) (n:Int) e0) (((c+1:Nat):Int),mat dy n f)=e0 (mat dy n (fN f c n)):=by
 have hN:=hF.lt;rw[<- Au f c dy n];refine vz (λi:Nat=>((i:Int),mat dy n (fN f c i))) (c+1) n (by omega) (by omega) ?_ ?_
 ·intro i hi1 hi2 K;unfold BJ;dsimp only;have hne:¬(c*n+c=i*n+c):=by
   intro h;have:c*n=i*n:=by omega
   have:=ahi (by omega) this;omega
  rw[afO (by omega:(i:Int)<(n:Int)),afR,uh hn hi2 hc,afP hne,aa (a:=(!false&&true)) rfl,Eh,Eh,mF dy n _ hi2 hc,mF dy n _ hc hc,sC,Av];have hp:(f c c).num ≠ 0:=λh=>h0 (sW.1 h)
  have bx:=hf i c hi2 hc;have bp:=hf c c hc hc;have bq:=G4 bx bp hp;have hq:=λkk=>OH (N:=N) (b1:=false) (b2:=false) hF (B:=B) (by omega) bx bp hp kk
  have he:∀ x:Rat,dy x=((decide (x.num<0),aj x.num.natAbs),(false,aj x.den)):=λx=>rfl
  rw[he (f i c),he (f c c)];dsimp only;rw[hq];unfold kqR krR;dsimp only;rw[K6 hF (B:=4*B+1) hB hn hi2 hc (by omega) (ub hf hc h0) (bq.mono (by omega)),aa afM];have:mat dy n (fN f c (i+1))=mat dy n (oU (fN f c i) i c (f i c / f c c) n):=ko _ _ (λa b _ hb=>by
   rw[xu (by omega)];unfold oU;by_cases h1:a=i
   ·rw[if_pos h1,if_pos ⟨h1,hb⟩,sC,Av]
   ·rw[if_neg h1,if_neg (by omega)])
  rw[this];rfl
 ·intro K;unfold BJ;dsimp only;rw[afP (by omega:¬(n:Int)<(n:Int)),afQ]
theorem H7 {N n c:Nat} (hF:Fuel N) (hn:n<=1000) (hc:c<n) {f:Nat->Nat->Rat} (e0:Int->Bool) (e1:Bool):∀(d i M:Nat),i+d=n->d<M ->
  ai M (BO N (c:Int) (n:Int) (n:Int) (mat dy n f) e0 e1) ((i:Int))=if vk (λi=>f c i) i d=true then e1 else e0 1:=by
 intro d;induction d with
 | zero=>
  intro i M hi hM;cases M with
  | zero=>omega
  | succ M=>
   show BO _ _ _ _ _ _ _ (i:Int) (ai M _)=_;unfold BO vk;dsimp only;rw[afP (by omega:¬(i:Int)<(n:Int)),afQ,if_pos rfl]
 | succ d ih=>
  intro i M hi hM;cases M with
  | zero=>omega
  | succ M=>
   have hi2:i<n:=by omega
   show BO _ _ _ _ _ _ _ (i:Int) (ai M _)=_;rw[BO];have he:∀ x:Rat,dy x=((decide (x.num<0),aj x.num.natAbs),(false,aj x.den)):=λx=>rfl
   rw[afO (by omega:(i:Int)<(n:Int)),afR,uh hn hc hi2,mF dy n _ hc hi2,he (f c i)];dsimp only;rw[xL,RA,vk];by_cases hz:f c i=0
   ·rw[afO hz,agH,afQ,aa afM,agW];exact ih (i+1) M (by omega) (by omega)
   ·rw[afP hz,agw,afR,air,if_neg (by decide)]
def U7 (n c:Nat) (f:Nat->Nat->Rat):Prop:=∀ a b,c<=a->c<=b->a<n->b<n->f a b=f b a
theorem NN {n c:Nat} {f:Nat->Nat->Rat} (h:U7 n c f) (hc:c<n):U7 n (c+1) (fN f c n):=by intro a b ha hb han hbn;unfold fN;rw[if_pos ⟨by omega,han⟩,if_pos ⟨by omega,hbn⟩,h a b (by omega) (by omega) han hbn,h a c (by omega) (by omega) han hc,h c b (by omega) (by omega) hc hbn,O2]
theorem KU {N n:Nat} (hF:Fuel N) (hn:n<=1000) (k:Kz5):∀(d c B M:Nat) (s:Int) (f:Nat->Nat->Rat),c+d=n->d<M->rm B n f->U7 n c f->(B+1)*4 ^ d<=100000000000 ->
  ai M (BN N (n:Int) (n:Int) (λt=>k t) (λt=>k t)) (s,(c:Int),mat dy n f)=k (w_ n d c s f):=by
 intro d;induction d with
 | zero=>
  intro c B M s f hc hM _ _ _;cases M with
  | zero=>omega
  | succ M=>
   show BN _ _ _ _ _ (s,(c:Int),mat dy n f) (ai M _)=_;rw[BN];rw[afP (by omega:¬(c:Int)<(n:Int)),afQ];rfl
 | succ d ih=>
  intro c B M s f hc hM hf hsy hB;cases M with
  | zero=>omega
  | succ M=>
   have hN:=hF.lt;have hcn:c<n:=by omega
   have h4:(4*B+1+1)*4 ^ d<=100000000000:=by
    have h1:(4*B+1+1)*4 ^ d<=(B+1)*4*4 ^ d:=afT _ (by omega);have h2:(B+1)*4*4 ^ d=(B+1)*4 ^ (d+1):=by rw[af2,af0,afS 4 (4 ^ d)]
    omega
   have hB2:4*B+1+1<=100000000000:=by have:0<4 ^ d:=agZ (by decide);have h1:(4*B+1+1)*1<=(4*B+1+1)*4 ^ d:=afW _ this;omega
   have he:∀ x:Rat,dy x=((decide (x.num<0),aj x.num.natAbs),(false,aj x.den)):=λx=>rfl
   show BN _ _ _ _ _ (s,(c:Int),mat dy n f) (ai M _)=_;rw[BN];rw[afO (by omega:(c:Int)<(n:Int)),afR,uh hn hcn hcn,mF dy n _ hcn hcn,he (f c c)];dsimp only;rw[xL,GC,w_];by_cases hneg:(f c c).num<0
   ·rw[afO hneg,afR,if_pos hneg]
   ·rw[if_neg hneg,xL,tE];rw[afP hneg,afQ];by_cases h0:f c c=0
    ·rw[if_pos h0,afO h0,afR,aa afM];rw[show(c:Int)+1=((c+1:Nat):Int) from rfl,H7 hF hn hcn _ _ d (c+1) N (by omega) (by omega)];have ez:vk (λi=>f c i) (c+1) d=vk (λi=>f i c) (c+1) d:=Ab _ _ (λj h1 h2=>hsy c j (by omega) (by omega) hcn (by omega));rw[ez];by_cases hz:vk (λi=>f i c) (c+1) d=true
     ·rw[if_pos hz,if_pos hz,aa afM];exact ih (c+1) B M 2 f (by omega) (by omega) hf (λa b ha hb=>hsy a b (by omega) (by omega)) (by have:(B+1)*4 ^ d<=(4*B+1+1)*4 ^ d:=afT _ (by omega);omega)
     ·rw[if_neg hz,if_neg hz]
    ·rw[if_neg h0,afP h0,afQ,aa afM];rw[show(c:Int)+1=((c+1:Nat):Int) from rfl,Lj hF (by omega) hn hcn s hf h0,aa afM];exact ih (c+1) (4*B+1) M s (fN f c n) (by omega) (by omega) (ub hf hcn h0) (NN hsy hcn) h4
end Go.Proofs.YtdinakfmablagaaGreatDoor
end
