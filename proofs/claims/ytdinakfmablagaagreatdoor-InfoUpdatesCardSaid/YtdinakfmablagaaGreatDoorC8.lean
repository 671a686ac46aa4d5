/- Laws in plain Lean. Conditions: none. -/
import Derived.Test.YtdinakfmablagaaGreatDoorD1
import Derived.Test.YtdinakfmablagaaGreatDoorFlA
set_option linter.unusedVariables false
section
namespace Go.Proofs.YtdinakfmablagaaGreatDoor
open Go Go.Mach Ieee
theorem I5 {N n j:Nat} (hN:1000<=N) (hj:j<=900) (h:n<4294967296 ^ j):fo N (ai n):=by have:=cA j n h;exact⟨by omega,by omega⟩
theorem nj {N n:Nat} (hN:1000<=N) (h:n<18446744073709551616):fo N (ai n):=I5 (j:=2) hN (by decide) (by
 have:(4294967296:Nat) ^ 2=18446744073709551616:=by decide
 omega)
theorem UR (n:Nat):aB .and .u64 (n:Int) 2047=((n%2048:Nat):Int):=by have:=jw n 11 (by decide);simpa using this
theorem tu (s:Bool) (m:Nat) (i:Int):∃ r,Ieee.double.nearest s m i=Ieee.double.word s r/\r<=9218868437227405312:=by
 unfold Format.nearest;split
 ·exact⟨0,rfl,by omega⟩
 ·rw[dQ]; exact⟨_,rfl,ads _ _⟩
theorem BR (s:Bool) {r:Nat} (h:r<=9218868437227405312):Ieee.double.read (Ieee.double.word s r)=.infinity s \/ ∃ m i,Ieee.double.read (Ieee.double.word s r)=.number s m i:=by
 have hw:Ieee.double.word s r%9223372036854775808=r:=by unfold Format.word; rw[b_]; cases s <;> simp <;> omega
 have hs:(Ieee.double.word s r / 9223372036854775808%2==1)=s:=by
  unfold Format.word; rw[b_];cases s
  ·simp; omega
  ·have:(9223372036854775808+r) / 9223372036854775808=1:=by omega
   simp[this]
 unfold Format.read;simp only[b_,jv,dQ,hw,hs];split
 ·exact .inr ⟨_,_,rfl⟩
 ·split
  ·exact .inr ⟨_,_,rfl⟩
  ·split
   ·exact .inl rfl
   ·omega
theorem DJ (s:Bool) (m:Nat) (i:Int):W64 (Ieee.double.nearest s m i):=by obtain⟨r,h,hr⟩:=tu s m i;rw[h]; exact uI s (by omega)
theorem Tn {N:Nat} (hN:1000<=N) {n:Nat} (h:n<=48):bO N n:=⟨by omega,by omega⟩
theorem KQ (b:Nat):aG (some b)=decide (b%9223372036854775808<9218868437227405312):=by
 unfold aG Format.read;simp only[b_,jv,dQ];by_cases h1:b%9223372036854775808<4503599627370496
 ·rw[if_pos h1,Z7 (by omega)]; rfl
 ·rw[if_neg h1];by_cases h2:b%9223372036854775808<9218868437227405312
  ·rw[if_pos h2,Z7 h2]; rfl
  ·rw[if_neg h2,Z8 h2];split <;> rfl
def Nn (x:Fl):Prop:=∃ b,x=some b/\isNaN b=false
theorem Q9 {x:Fl} (h:aG x=true):Nn x:=by
 cases x with
 | none=>cases h
 | some b=>
  rw[KQ]at h;have:=aad h;refine⟨b,rfl,?_⟩;rw[acL];intro hc;have:=(eZ b).1 hc;omega
theorem MT (s:Bool) {r:Nat} (h:r<=9218868437227405312):Nn (some (Ieee.double.word s r)):=by
 refine⟨_,rfl,?_⟩;rw[acL];intro hc;have h1:=(eZ _).1 hc;have hw:Ieee.double.word s r%9223372036854775808=r:=by unfold Format.word; rw[b_]; cases s <;> simp <;> omega
 omega
theorem xJ (s:Bool) (m:Nat) (i:Int):Nn (some (Ieee.double.nearest s m i)):=by obtain⟨r,h,hr⟩:=tu s m i;rw[h]; exact MT s hr
abbrev K4:=Fl->Fl->Fl->Fl->Int->Bool
def f8:Nat->Nat->Int->Nat × Int
 | 0,m,e=>(m,e)
 | f+1,m,e=>if m%2=0 then f8 f (m / 2) (e+1)else(m,e)
theorem oS:∀ f m e,m ≠ 0->m<2 ^ f->e<=(f8 f m e).2/\(f8 f m e).2<=e+f/\(f8 f m e).1*2 ^ ((f8 f m e).2 - e).toNat=m/\(f8 f m e).1<=m
 | 0,m,e,h0,h=>by simp at h; omega
 | f+1,m,e,h0,h=>by
  unfold f8;split
  ·rename_i hm;obtain⟨h1,h2,h3,h4⟩:=oS f (m / 2) (e+1) (by omega) (by rw[aaj]at h; omega);refine⟨by omega,by omega,?_,by omega⟩;have:((f8 f (m / 2) (e+1)).2 - e).toNat=((f8 f (m / 2) (e+1)).2 - (e+1)).toNat+1:=by omega
   rw[this,aaj,<- aah,h3]; omega
  ·refine⟨by omega,by omega,?_,aak _⟩;rw[Int.sub_self]; simp
theorem Nz {N:Nat} (hN:1000<=N) {m:Nat} {e:Int} (h0:m ≠ 0) (hm:m<2 ^ 64) (he1 : -2000<=e) (he2:e<=2000) (k:Ky3) :
  nS N m e k=k ((f8 64 m e).1:Int) (f8 64 m e).2:=by
 (unfold nS; rw[ac]; unfold re)
 have key:∀ f:Nat,f<=64 -> ∀(m:Nat) (e:Int),m ≠ 0->m<2 ^ f->m<2 ^ 64 -> -2000<=e->e+f<=3000 -> ∀ M:Nat,f<M->aj M (kb N λa b=>k a b) ((m:Int),e)=k ((f8 f m e).1:Int) (f8 f m e).2:=by
  intro f;induction f with
  | zero=>intro _ m e h0 h; simp at h; omega
  | succ f ih=>
   intro hf m e h0 h h64 h1 h2 M hM;cases M with
   | zero=>omega
   | succ M=>
    show kb N _ ((m:Int),e) (aj M _)=_;have e2:Int.tmod (m:Int) 2=((m%2:Nat):Int):=by rw[aa3 (by omega)]; rfl
    have e3:Int.tdiv (m:Int) 2=((m / 2:Nat):Int):=by rw[abb (by omega)]; rfl
    simp only[kb,f8,e2,e3];by_cases hm:m%2=0
    ·have:(((m%2:Nat):Int)==0)=true:=by rw[hm]; rfl
     have ew:IntKind.wrap .u64 ((m / 2:Nat):Int)=((m / 2:Nat):Int):=by
      rw[am];have:(2:Nat) ^ 64=18446744073709551616:=by decide
      omega
     rw[this,Z_,aa Z5,if_pos hm,ew];exact ih (by omega) (m / 2) (e+1) (by omega) (by rw[aaj]at h; omega) (by omega) (by omega) (by omega) M (by omega)
    ·have:(((m%2:Nat):Int)==0)=false:=by
      have:m%2=1:=by omega
      rw[this]; rfl
     rw[this,Z9,if_neg hm]
 have:((m:Int)==0)=false:=by simp; omega
 rw[this,Z9];exact key 64 (aak _) m e h0 hm hm (by omega) (by omega) N (by omega)
theorem Lq (N:Nat) (e:Int) (k:Ky3):nS N 0 e k=k 0 0:=by (unfold nS; rw[ac]; unfold re); rfl
def ofE (x:Fl):Int × Int:=match x with
 | some b=>match Ieee.double.read b with
  | .number s m i=>if m=0 then(0,0)else((f8 64 m i).2,ba s (f8 64 m i).1)
  | _=>(0,0)
 | none=>(0,0)
theorem BL {b:Nat} {s:Bool} {m:Nat} {i:Int} (h:Ieee.double.read b=.number s m i):ofE (some b)=if m=0 then(0,0)else((f8 64 m i).2,ba s (f8 64 m i).1):=by unfold ofE; simp only[h]
theorem Ic {N:Nat} (hN:1000<=N) {b:Nat} (hb:W64 b) {s:Bool} {m:Nat} {i:Int} (h:Ieee.double.read b=.number s m i) (k:Kx4) :
    qO N (some b) k=if m=0 then k s 0 0 0 else k s ((f8 64 m i).1:Int) (f8 64 m i).2 0:=by
  obtain⟨h1,h2,h3⟩:=ll h;have hpl:=mB h;have hnn:isNaN b=false:=by rw[acL]; intro hc; have:=(eZ b).1 hc; omega
  have hbits:lE (some b)=b:=by simp only[lE,cnb,hnn]; rfl
  have hsg:(Int.fdiv (b:Int) (2 ^ 63)==1)=s:=by
    have e:(2:Int) ^ 63=((9223372036854775808:Nat):Int):=by decide
    rw[e,jO,h1];have hW:b / 9223372036854775808<2:=by have:=hb; omega
    have:b / 9223372036854775808=0\/b / 9223372036854775808=1:=by omega
    rcases this with h | h <;> rw[h] <;> rfl
  have fin:∀(e:Int),i=e - 1074 -> -1100<=e->e<=2100->kG N (some b) s e (m:Int) k=if m=0 then k s 0 0 0 else k s ((f8 64 m i).1:Int) (f8 64 m i).2 0:=by
    intro e he h5 h6;unfold kG;rw[aa Z5,<- he];by_cases h0:m=0
    · subst h0; rw[if_pos rfl]; exact Lq N i _
    · rw[if_neg h0,Nz hN h0 (by have:(2:Nat) ^ 64=18446744073709551616:=(by decide); omega) (by omega) (by omega)]
  (unfold qO; rw[ac]; unfold pT)
  rw[Az,hbits];rw[hsg];have n2047:(((b / 4503599627370496%2048:Nat):Int)==2047)=false:=by simp; omega
  rw[n2047,Z9];rcases h3 with⟨g1,g2,g3⟩ | ⟨g1,g2,g3⟩
  · have e0:b / 4503599627370496%2048=0:=by omega
    have e1:b%4503599627370496=m:=by omega
    rw[e0,e1,Z8 (by decide),Z9];exact fin 0 (by omega) (by omega) (by omega)
  · have e0:0<b / 4503599627370496%2048:=by omega
    have e1:IntKind.wrap .u64 (((b%4503599627370496:Nat):Int)+4503599627370496)=(m:Int):=by rw[am]; omega
    rw[Z7 (by omega:((b / 4503599627370496%2048:Nat):Int)>0),Z_,aa Z5,e1];exact fin _ (by omega) (by omega) (by omega)
theorem Ru {N:Nat} (hN:1000<=N) {x:Fl} (hx:aG x=true) (hw:FW x) (k:Int->Bool->List Int->Bool):zi N x k=exK (ofE x) k:=by
  obtain⟨b,s,m,i,rfl,h⟩:=jD hx;have hb:=hw b rfl
  (unfold zi; rw[ac]; unfold xF)
  rw[Ic hN hb h,BL h];by_cases h0:m=0
  · rw[if_pos h0,if_pos h0]
    have:∀ κ,Oq N 0 false κ=κ false (ai 0):=λκ=>si (N:=N) 0 (by decide) false (nj hN (by decide)) (by omega) κ
    rw[this];cases s
    · rw[Z9]; unfold exK; rfl
    · rw[Z_,Ay _ _ (nj hN (by decide))]; unfold exK rV; rfl
  · rw[if_neg h0,if_neg h0]
    have hpl:=mB h;obtain⟨g1,g2,g3,g4⟩:=oS 64 m i h0 (by have:(2:Nat) ^ 64=18446744073709551616:=(by decide); omega);have hs:=nj (N:=N) (n:=(f8 64 m i).1) hN (by omega);rw[si (N:=N) _ (by omega) false hs (by omega)];cases s
    · rw[Z9]
      show _=k (f8 64 m i).2 (decide ((((f8 64 m i).1:Nat):Int)<0)) (ai (((f8 64 m i).1:Nat):Int).natAbs);rw[Z8 (by omega),aa4]
    · rw[Z_,Ay _ _ hs]; rfl
def EV (x:Int × Int) (v:Int) (E:Nat):Prop:=0<=x.1+E/\x.2*2 ^ (x.1+E).toNat=v
theorem EV.up {x:Int × Int} {v:Int} {E:Nat} (h:EV x v E) (F:Nat):EV x (v*2 ^ F) (E+F):=by
 obtain⟨h1,h2⟩:=h;refine⟨by omega,?_⟩;have:(x.1+((E+F:Nat):Int)).toNat=(x.1+E).toNat+F:=by omega
 rw[this,Int.pow_add,<- Int.mul_assoc,h2]
theorem EV.mul {x y:Int × Int} {v w:Int} {E F:Nat} (h:EV x v E) (g:EV y w F):EV (wj x y) (v*w) (E+F):=by
 obtain⟨h1,h2⟩:=h;obtain⟨g1,g2⟩:=g;refine⟨by simp only[wj]; omega,?_⟩;have:((wj x y).1+((E+F:Nat):Int)).toNat=(x.1+E).toNat+(y.1+F).toNat:=by simp only[wj]; omega
 rw[this,Int.pow_add,<- h2,<- g2];simp only[wj];ac_rfl
theorem EV.neg {x:Int × Int} {v:Int} {E:Nat} (h:EV x v E):EV (OV x) (-v) E:=⟨h.1,by rw[<- h.2]; exact adn _ _⟩
theorem An {x:Int × Int} {v:Int} {E:Nat} (h:EV x v E) {e:Int} (he:e<=x.1) (hE:0<=e+E):qm x e*2 ^ (e+E).toNat=v:=by unfold qm;rw[Int.mul_assoc,<- Int.pow_add,show(x.1 - e).toNat+(e+E).toNat=(x.1+E).toNat by omega];exact h.2
theorem EV.add {x y:Int × Int} {v w:Int} {E:Nat} (h:EV x v E) (g:EV y w E):EV (GB x y) (v+w) E:=by
 unfold GB;split
 ·rename_i h0;have:v=0:=by rw[<- h.2,h0,Int.zero_mul]
  rw[this,Int.zero_add]; exact g
 ·split
  ·rename_i h0;have:w=0:=by rw[<- g.2,h0,Int.zero_mul]
   rw[this,Int.add_zero]; exact h
  ·have hE:0<=min x.1 y.1+E:=by have:=h.1; have:=g.1; omega
   exact⟨hE,by rw[Int.add_mul,An h (by omega) hE,An g (by omega) hE]⟩
theorem EV.sgn {x:Int × Int} {v:Int} {E:Nat} (h:EV x v E):uD x.2=uD v:=by
 rw[<- h.2];have hp:=LS (x.1+E).toNat;unfold uD;rcases Int.lt_trichotomy x.2 0 with h | h | h
 ·have:=Int.mul_neg_of_neg_of_pos h hp;rw[if_neg (by omega),if_pos h,if_neg (by omega),if_pos this]
 ·rw[h,Int.zero_mul]
 ·have:=Int.mul_pos h hp;rw[if_neg (by omega),if_neg (by omega),if_neg (by omega),if_neg (by omega)]
theorem Ex.mono {E B E' B':Nat} {x:Int × Int} (h:Ex E B x) (hE:E<=E') (hB:B<=B'):Ex E' B' x:=⟨by have:=h.1; omega,by have:=h.2.1; omega,bL h.2.2 hB⟩
theorem Ex.mul {E B E' B':Nat} {x y:Int × Int} (h:Ex E B x) (g:Ex E' B' y):Ex (E+E') (B+B') (wj x y):=
 ⟨by have:=h.1; have:=g.1; simp only[wj]; omega,by have:=h.2.1; have:=g.2.1; simp only[wj]; omega,by show aX _ (x.2*y.2).natAbs;rw[ab3]; exact dw h.2.2 g.2.2⟩
theorem Ex.neg {E B:Nat} {x:Int × Int} (h:Ex E B x):Ex E B (OV x):=⟨h.1,h.2.1,by show aX _ (-x.2).natAbs; rw[acN]; exact h.2.2⟩
theorem yU {E B:Nat} {x:Int × Int} (h:Ex E B x) {e:Int} (he : -(E:Int)<=e):aX (B+2*E) (qm x e).natAbs:=by unfold qm;rw[ab3,Int.natAbs_pow];refine bL (sK h.2.2 _) ?_;have:=h.2.1; omega
theorem Ex.add {E B:Nat} {x y:Int × Int} (h:Ex E B x) (g:Ex E B y):Ex E (B+2*E+1) (GB x y):=by
 unfold GB;split
 ·exact g.mono (aak _) (by omega)
 ·split
  ·exact h.mono (aak _) (by omega)
  ·refine⟨by have:=h.1; have:=g.1; show -(E:Int)<=min x.1 y.1; omega,by have:=h.2.1; show min x.1 y.1<=E; omega,?_⟩;have h1:=yU h (e:=min x.1 y.1) (by have:=h.1; have:=g.1; omega);have h2:=yU g (e:=min x.1 y.1) (by have:=h.1; have:=g.1; omega);exact kH (tW h1 h2) (Int.natAbs_add_le _ _)
theorem Nu {N:Nat} (hN:1000<=N) {E B:Nat} {x:Int × Int} (hx:Ex E B x) {e:Int} (he : -(E:Int)<=e) (hB:B+2*E<=30000) (k0:Bool) (k1:Bool->List Int->Bool) (h0:x.1<=e->k0=rV x.2 k1) (he2:x.1<=e->e=x.1) :
  RS N x.1 e (decide (x.2<0)) (ai x.2.natAbs) k0 k1=rV (qm x e) k1:=by
 unfold RS SC;have hx1:=hx.1;have hx2:=hx.2.1;by_cases hc:x.1<=e
 ·rw[Z7 (by omega:e>=x.1),Z_,h0 hc];have:qm x e=x.2:=by unfold qm;rw[he2 hc,Int.sub_self]; simp
  rw[this]
 ·rw[Z8 (by omega:¬ e>=x.1),Z9,aa Z5];have ew:IntKind.wrap .u64 (x.1 - e)=(((x.1 - e).toNat:Nat):Int):=by rw[am]; omega
  rw[ew,Ax _ _ _ _ (Ac hN (by omega) hx.2.2)];congr 1;unfold qm ba;by_cases hz:x.2<0
  ·rw[Z7 hz,if_pos rfl,aat,abA,<- adn];congr 1; omega
  ·rw[Z8 hz,if_neg (by decide),aat,abA];congr 1; omega
theorem FH {x:Fl} (hx:aG x=true):Ex 1100 53 (ofE x):=by
  obtain⟨b,s,m,i,rfl,h⟩:=jD hx;rw[BL h];have hpl:=mB h;have hpg:=zb h;by_cases h0:m=0
  · rw[if_pos h0]; exact⟨by decide,by decide,aam _⟩
  · rw[if_neg h0]
    obtain⟨g1,g2,g3,g4⟩:=oS 64 m i h0 (by have:(2:Nat) ^ 64=18446744073709551616:=(by decide); omega);refine⟨by show -((1100:Nat):Int)<=(f8 64 m i).2; omega,by show(f8 64 m i).2<=((1100:Nat):Int); omega,?_⟩;show aX 53 (ba s (f8 64 m i).1).natAbs;have:(ba s (f8 64 m i).1).natAbs=(f8 64 m i).1:=by unfold ba; cases s <;> simp
    rw[this];show _<2 ^ 53;have:(2:Nat) ^ 53=9007199254740992:=by decide
    omega
theorem AN:∀(f t c:Nat) (e:Int),t<f->f8 f (2 ^ t*(2*c+1)) e=(2*c+1,e+t)
 | 0,t,c,e,h=>by omega
 | f+1,0,c,e,h=>by
  unfold f8;rw[abV,abD,if_neg (by omega)];simp
 | f+1,t+1,c,e,h=>by
  unfold f8;have e1:2 ^ (t+1)*(2*c+1)=2*(2 ^ t*(2*c+1)):=by rw[aaj]; ac_rfl
  rw[e1,if_pos (by omega),aaJ _ (by decide),AN f t c (e+1) (by omega)];congr 1; omega
theorem Mt {b:Nat} (hb:W64 b):(aB .and .u64 (b:Int) 9223372036854775808 != 0)=(b / 9223372036854775808%2==1):=by
 have e1:(9223372036854775808:Int)=((2 ^ 63:Nat):Int):=by decide
 have p63:(2:Nat) ^ 63=9223372036854775808:=by decide
 rw[e1,rY hb (by rw[p63]; omega)];have h1:b / 9223372036854775808%2=0\/b / 9223372036854775808%2=1:=by omega
 have h2:b.testBit 63=decide (b / 2 ^ 63%2=1):=Nat.testBit_eq_decide_div_mod_eq;rw[p63]at h2;rcases h1 with h | h
 ·have hz:b &&& 2 ^ 63=0:=by
   refine acq (λj=>?_);rw[ac9,ab4,Nat.zero_testBit];by_cases hj:63=j
   ·subst hj; rw[h2,h]; rfl
   ·rw[Z8 hj,Bool.and_false]
  rw[hz,h]; rfl
 ·have hz:b &&& 2 ^ 63 ≠ 0:=by intro hc;have:=adg (λn=>n.testBit 63) hc;simp only[ac9,ab4,Nat.zero_testBit,h2,h]at this;simp at this
  rw[h];generalize b &&& 2 ^ 63=z at hz ⊢;have:((z:Int) != 0)=true:=by simp; exact hz
  rw[this]; rfl
theorem AQ {N:Nat} {b m:Nat} {i:Int} {s:Bool} (hpl:i<=971/\m<9007199254740992) (hb:W64 b) (k:Kx4) (E:Int) (hEi:i=E) (h5 : -1100<=E) (h6:E<=1100) (h0:m ≠ 0):Hz N (b:Int) 52 2047 1075 s (m:Int) E k=k s ((f8 64 m i).1:Int) (f8 64 m i).2 0:=by
 unfold Hz;obtain⟨t,c,hm⟩:=y_ m h0;have ht0:0<2 ^ t:=aam t;have ht:t<64:=by
  rcases aa0 t 64 with g | g
  ·exact g
  ·have g2:2 ^ 64<=2 ^ t:=aan (by decide) g;have g3:2 ^ t*1<=2 ^ t*(2*c+1):=aae _ (by omega);have g4:(2:Nat) ^ 64=18446744073709551616:=by decide
   omega
 rw[hm,Rv N (by rw[<- hm]; omega),AN 64 t c i ht,aa (Z7 (by omega)),aa Z5,aac,show min t 64=t by omega];have e2:(2:Int) ^ t=((2 ^ t:Nat):Int):=by rw[abA]; rfl
 rw[e2,jO,aaJ _ ht0,hEi]
theorem Fk {N:Nat} {b:Nat} (hb:W64 b) {s:Bool} {m:Nat} {i:Int} (h:Ieee.double.read b=.number s m i) (k:Kx4) :
  oX N (some b) k=if m=0 then k s 0 0 0 else k s ((f8 64 m i).1:Int) (f8 64 m i).2 0:=by
 obtain⟨h1,h2,h3⟩:=ll h;have hpl:=mB h;have hnn:isNaN b=false:=by rw[acL]; intro hc; have:=(eZ b).1 hc; omega
 have hcnb:cnb b=b:=by simp only[cnb,hnn]; rfl
 have hcls:=Bf b;rw[hcnb]at hcls;have hE:b / 4503599627370496%2048<2047:=by omega
 rw[if_neg (Nat.ne_of_lt hE)]at hcls;have hc:(b / 4503599627370496%2048=0/\b%4503599627370496=m/\cls b=(if m=0 then 3 else 4)/\i = -1074)\/(b / 4503599627370496%2048 ≠ 0/\m=4503599627370496+b%4503599627370496/\cls b=5/\i=((b / 4503599627370496%2048:Nat):Int) - 1075):=by
  rcases h3 with⟨g1,g2,g3⟩ | ⟨g1,g2,g3⟩
  ·have e0:b / 4503599627370496%2048=0:=by omega
   have e1:b%4503599627370496=m:=by omega
   rw[if_pos e0,e1]at hcls;exact .inl ⟨e0,e1,hcls,by omega⟩
  ·have e0:b / 4503599627370496%2048 ≠ 0:=by omega
   rw[if_neg e0]at hcls;exact .inr ⟨e0,by omega,hcls,by omega⟩
 generalize hx:b / 4503599627370496%2048=x at hE hc;generalize hy:b%4503599627370496=y at hc;have hylt:y<4503599627370496:=by omega
 have goal0:oX N (some b) k=(af .i64 ((x:Int) - 1075)&&(cond ((cls b:Int)==1) (k false 0 0 4) (cond ((cls b:Int)==2) (k false 0 0 4) (cond ((cls b:Int)==3) (k s 0 0 0) (cond ((cls b:Int)==4) ((af .i64 (((x:Int) - 1075)+1))&&(Hz N (b:Int) 52 2047 1075 s (y:Int) (((x:Int) - 1075)+1) k)) (lw N 52 2047 1075 (λ(Vg:Int)=>(Hz N (b:Int) 52 2047 1075 s (aB .or .u64 (y:Int) Vg) ((x:Int) - 1075) k)))))))):=by
  unfold oX xC;show RX N (b:Int) 52 2047 1075 _=_
  (unfold RX; rw[ac]; unfold P3)
  rw[AD,hcnb,Mt hb,<- h1,AB,hx,hy]
 rw[goal0,aa Z5];clear goal0 hcls h1 h2 h3 hcnb hnn;rcases hc with⟨c1,c2,c3,c4⟩ | ⟨c1,c2,c3,c4⟩
 ·rw[c3];by_cases h0:m=0
  ·rw[if_pos h0,if_pos h0]; rfl
  ·rw[if_neg h0,if_neg h0,c2];show(af .i64 (((x:Int) - 1075)+1)&&_)=_;rw[aa Z5];exact AQ hpl hb k _ (by omega) (by omega) (by omega) h0
 ·have h0:m ≠ 0:=by omega
  rw[c3,if_neg h0];have eor:aB .or .u64 (y:Int) 4503599627370496=(m:Int):=by
   have p52:(2:Nat) ^ 52=4503599627370496:=by decide
   have:=cw y 1 52 (by omega) (by omega);rw[p52]at this;rw[show((4503599627370496*1:Nat):Int)=4503599627370496 from rfl]at this;rw[this]; omega
  rw[show((5:Int)==1)=false from rfl,Z9,show((5:Int)==2)=false from rfl,Z9,show((5:Int)==3)=false from rfl,Z9,show((5:Int)==4)=false from rfl,Z9,jK,eor];exact AQ hpl hb k _ (by omega) (by omega) (by omega) h0
theorem I3 {z:Int}:(uD z==0)=decide (z=0):=by
 unfold uD;by_cases h:z=0
 ·rw[if_pos h,Z7 h]; rfl
 ·rw[if_neg h,Z8 h];by_cases hl:z<0
  ·rw[if_pos hl]; rfl
  ·rw[if_neg hl]; rfl
def oV (p:Int × Int):Rat:=if 0<=p.1 then mkRat (p.2*((2 ^ p.1.toNat:Nat):Int)) 1 else mkRat p.2 (2 ^ (-p.1).toNat)
theorem Rr (a b:Int):imm true a b=max a b:=by
 unfold imm; simp only[Z_];by_cases h:a<=b
 ·have:max a b=b:=by omega
  rw[this];by_cases h2:b>a
  ·rw[Z7 h2]; rfl
  ·rw[Z8 h2,Z9]; omega
 ·have:max a b=a:=by omega
  rw[this,Z8 (by omega),Z9]
theorem O3 (n:Nat):¬((n:Nat):Int)<0:=by omega
theorem yZ (g:Bool):(g != false)=g:=by cases g <;> rfl
theorem Kg {B s n:Nat} (h:aX B n):aX (B+s) (n*2 ^ s):=sK h s
theorem xQ {s:Nat}:aX (s+1) (2 ^ s):=by unfold aX; rw[aaj]; have:=aam s; omega
theorem Gp:aX 1 1:=by unfold aX; decide
theorem uY:ae 1=[1]:=ow (by decide) (by decide)
theorem Rs {w:Int} (k:Kx5):kq (mkRat w 1) k=kr w 1 k:=by unfold kq;rw[Rat.mkRat_one,Rat.num_intCast,Rat.den_intCast]
theorem GK {N:Nat} (hF:Fuel N) (x:Fl) (s:Bool) (M e z:Int) (he : -1100<=e) (he2:e<=1100) (hz:aX 53 z.natAbs) (k:Kx5) :
  cb N x s M e (decide (z<0)) (ae z.natAbs) k=kq (oV (e,z)) k:=by
 have hN:=hF.lt;unfold cb;have n1:=λkk=>qr (N:=N) (by omega) 1 (by decide) kk
 rw[show((1:Nat):Int)=1 from rfl]at n1;rw[n1,aa Z5,Rr];obtain⟨t,ht⟩:∃ t:Nat,max e (0 - e)=(t:Int):=⟨(max e (0 - e)).toNat,by omega⟩
 have ew:IntKind.wrap .u64 (max e (0 - e))=(t:Int):=by rw[am]; omega
 have htb:t<=1100:=by omega
 rw[ew,H_ t false false 1 (by omega) (by rw[uY]; simp; omega) (by rw[uY]; simp)];unfold qo;have e1:ba false (1*2 ^ t)=((2 ^ t:Nat):Int):=by unfold ba; rw[abD]; rfl
 rw[e1,Z8 (O3 (2 ^ t)),aa4];dsimp only;have hp:=aam t;have hzb:aX 2000 z.natAbs:=bL hz (by omega);have htb2:aX 2000 (2 ^ t):=bL xQ (by omega);by_cases hc:e<0
 ·rw[Z7 hc,Z_];unfold N6 Pu;rw[yZ,wm hF (B:=2000) (by decide) _ hzb htb2 hp,il];unfold oV;dsimp only;have:(-e).toNat=t:=by omega
  rw[if_neg (by omega),this]
 ·rw[Z8 hc,Z9];unfold Ti SF;have hm:aX 4000 (z.natAbs*2 ^ t):=bL (dw hzb htb2) (by omega);rw[rH hF (by decide) hzb htb2,yZ];rw[mo (decide (z<0)) _ _ (z.natAbs*2 ^ t) (λa b=>RO N false false a b (λc8 s7 c9 s8=>k c8 s7 c9 s8))];rw[qp];obtain⟨w,hw⟩:∃ w:Int,w=z*((2 ^ t:Nat):Int):=⟨_,rfl⟩
  have hwb:aX 4000 w.natAbs:=by rw[hw,ab3,aa4]; exact hm
  rw[<- hw];unfold qo RO Sv;dsimp only;rw[oH (by decide) hwb];have er:oV (e,z)=mkRat w 1:=by
   unfold oV;dsimp only;have:e.toNat=t:=by omega
   rw[if_pos (by omega),this,hw]
  rw[er,Rs]
  (unfold Tf; rw[ac]; unfold P0 IX MM O7 OD kr)
  rw[uY];by_cases hl:w<0
  ·rw[Z7 hl];have h2:decide (((ae w.natAbs).length:Int)>0)=true:=by rw[nB]; exact Z7 (by omega)
   simp only[h2];rfl
  ·rw[Z8 hl]; rfl
theorem oI (N:Nat) (e:Int) (k0:Bool):cW N ((0:Int)==0) e k0=k0:=rfl
theorem Dp {N:Nat} (hF:Fuel N) {x:Fl} (hx:aG x=true) (hw:FW x) (k:Kx5):jh N x k=kq (oV (ofE x)) k:=by
 have hN:=hF.lt;have hex:=FH hx;obtain⟨b,s,m,i,rfl,h⟩:=jD hx;have ho:=BL h
 (unfold jh; rw[ac]; unfold i9)
 have fin:∀(M:Nat) (e:Int),M<18446744073709551616->ofE (some b)=(e,ba s M) ->
   cW N ((0:Int)==0) 4 (N8 N (M:Int) false (λ(UZ:Bool) (nsr:List Int)=>(cond s (Og N UZ nsr (λ(Vc:Bool) (UW:List Int)=>(cb N (some b) s (M:Int) e Vc UW k))) (cb N (some b) s (M:Int) e UZ nsr k))))=kq (oV (ofE (some b))) k:=by
  intro M e hM heq;rw[heq]at hex ⊢;have h1:=hex.1;have h2:=hex.2.1;have h3:=hex.2.2;dsimp only at h1 h2 h3;have hl:(ae M).length<=1099511627776:=by
   have:aX 64 M:=by unfold aX; omega
   have:=xa (B:=64) (by decide) this; omega
  rw[oI,Lf (by omega) M hM];cases s
  ·rw[Z9];have e1:ba false M=(M:Int):=rfl;rw[e1]at h3 ⊢;have:=GK hF (some b) false (M:Int) e (M:Int) (by omega) (by omega) h3 k;rw[Z8 (by omega:¬(M:Int)<0),aa4]at this;exact this
  ·rw[Z_,Ia false M hl];have e1 : -(ba false M)=ba true M:=rfl;rw[e1];exact GK hF (some b) true (M:Int) e (ba true M) (by omega) (by omega) h3 k
 rw[Fk (hw b rfl) h];by_cases h0:m=0
 ·rw[if_pos h0];rw[if_pos h0]at ho;refine fin 0 0 (by decide) ?_;rw[ho];cases s <;> rfl
 ·rw[if_neg h0];rw[if_neg h0]at ho;have hpl:=mB h;have hm:m<2 ^ 64:=by
   have:(2:Nat) ^ 64=18446744073709551616:=by decide
   omega
  obtain⟨g1,g2,g3,g4⟩:=oS 64 m i h0 hm;exact fin _ _ (by omega) ho
theorem NA (N:Nat) (k:Kz5):pE N k=k (ai 1):=by rw[KC]; rfl
theorem Dl {N:Nat} (hF:Fuel N) {z:Int} (hz:aX 30000 z.natAbs) (b1 b2:Bool) (k:Kx5) :
  Ob N b1 b2 (decide (z<0)) (ai z.natAbs) k=kqR (mkRat z 1) k:=by
 unfold Ob Sn;rw[NA,rE hF (B:=30000) (by decide) _ hz (bL Gp (by decide)) (by decide),il]
theorem Ie {N:Nat} (hF:Fuel N) {x:Fl} (hx:aG x=true) (hw:FW x) (k:Kx5):qQ N x k=kqR (oV (ofE x)) k:=by
 have hN:=hF.lt;have hex:=FH hx;unfold qQ vP;rw[Ru (by omega) hx hw];obtain⟨p,hp⟩:∃ p,p=ofE x:=⟨_,rfl⟩
 rw[<- hp]at hex ⊢;obtain⟨e,z⟩:=p;have h1:=hex.1;have h2:=hex.2.1;have h3:=hex.2.2;dsimp only at h1 h2 h3
 (unfold exK; unfold Th; rw[ac]; unfold P2)
 dsimp only;by_cases hc:e>=0
 ·rw[Z7 hc,Z_];have hl:=λk0 k1 h0 he2=>Nu (N:=N) (by omega) hex (e:=0) (by omega) (by decide) k0 k1 h0 he2
  dsimp only at hl;rw[hl]
  ·unfold rV;have hb:=yU hex (e:=0) (by omega);dsimp only;rw[Dl hF (bL hb (by decide))];unfold oV qm;dsimp only;rw[if_pos hc,Int.sub_zero,abA];rfl
  ·intro _; rfl
  ·intro h; omega
 ·rw[Z8 hc,Z9];have n1:=λkk=>yI (N:=N) 1 (by decide) (by have:=pz (B:=1) (n:=1) (by decide) (by unfold aX; decide);exact⟨by omega,by omega⟩) (by omega) kk
  rw[show((1:Nat):Int)=1 from rfl]at n1;rw[n1,aa Z5];obtain⟨t,ht⟩:∃ t:Nat,(0 - e)=(t:Int):=⟨(0 - e).toNat,by omega⟩
  have ew:IntKind.wrap .u64 (0 - e)=(t:Int):=by rw[am]; omega
  rw[ew,Ax t false false 1 (Ac (B:=1) (by omega) (by omega) (by unfold aX; decide))];unfold rV;have e1:ba false (1*2 ^ t)=((2 ^ t:Nat):Int):=by unfold ba; rw[abD]; rfl
  rw[e1,Z8 (O3 (2 ^ t)),aa4];dsimp only;have htp:=aam t;have hzb:aX 2000 z.natAbs:=bL h3 (by omega);have htb2:aX 2000 (2 ^ t):=bL xQ (by omega);unfold Td Ss;rw[yZ,rE hF (B:=2000) (by decide) _ hzb htb2 (Nat.ne_of_gt htp),il];unfold oV;dsimp only;have:(-e).toNat=t:=by omega
  rw[if_neg (by omega),this]
theorem tN {B:Nat} {z:Int} {d:Nat} (hz:aX B z.natAbs) (hd:aX B d) (h0:0<d):Bq B (mkRat z d):=by
 refine⟨?_,?_⟩
 ·rw[ado,if_neg (by omega)];have h1:((Nat.gcd z.natAbs d:Nat):Int)∣z:=Int.ofNat_dvd_left.2 (aa1 _ _);rw[abo,Int.natAbs_ediv_of_dvd h1,aa4];exact bS hz
 ·rw[adp,if_neg (by omega)];exact bS hd
theorem NZ {x:Fl} (hx:aG x=true):Bq 1200 (oV (ofE x)):=by
 have hex:=FH hx;obtain⟨p,hp⟩:∃ p,p=ofE x:=⟨_,rfl⟩
 rw[<- hp]at hex ⊢;obtain⟨e,z⟩:=p;have h1:=hex.1;have h2:=hex.2.1;have h3:=hex.2.2;dsimp only at h1 h2 h3;unfold oV;dsimp only;split
 ·refine tN ?_ (bL Gp (by decide)) (by decide);rw[ab3,aa4];exact bL (Kg h3) (by omega)
 ·exact tN (bL h3 (by omega)) (bL xQ (by omega)) (aam _)
theorem A5 {A B:Nat} {x y:Rat} (hx:Bq A x) (hy:Bq B y):Bq (A+B) (x*y):=by rw[Rat.mul_def'];refine tN ?_ (dw hx.2 hy.2) (ab8 x.den_pos y.den_pos);rw[ab3]; exact dw hx.1 hy.1
theorem Po {B:Nat} {y:Rat} (hy:Bq B y) (h:y.num ≠ 0):Bq B (y⁻¹):=by obtain⟨i1,i2,i3⟩:=yx h;exact⟨by rw[i1]; exact hy.2,by rw[i2]; exact hy.1⟩
theorem ED {A B:Nat} {x y:Rat} (hx:Bq A x) (hy:Bq B y) (h:y.num ≠ 0):Bq (A+B) (x / y):=by rw[Rat.div_def]; exact A5 hx (Po hy h)
theorem Pp {B:Nat} {y:Rat} (hy:Bq B y):Bq B (-y):=⟨by rw[Rat.neg_num,acN]; exact hy.1,hy.2⟩
theorem Pn {A B:Nat} {x y:Rat} (hx:Bq A x) (hy:Bq B y):Bq (A+B+1) (x+y):=by rw[Rat.add_def'];refine tN (Ab (rj hx.1 hy.2) ?_) (bL (dw hx.2 hy.2) (by omega)) (ab8 x.den_pos y.den_pos);rw[ab7]; exact rj hy.1 hx.2
theorem Ji {A B:Nat} {x y:Rat} (hx:Bq A x) (hy:Bq B y):Bq (A+B+1) (x - y):=by rw[Rat.sub_eq_add_neg]; exact Pn hx (Pp hy)
theorem F_ {B:Nat}:Bq (B+1) 0:=⟨aam _,by show 1<2 ^ (B+1); exact Nat.one_lt_two_pow (by omega)⟩
def enc (x:Rat):RY1:=((decide (x.num<0),ae x.num.natAbs),(false,ae x.den))
def dy (x:Rat):RY2:=((decide (x.num<0),ai x.num.natAbs),(false,ai x.den))
def mat {α:Type} (g:Rat->α) (n:Nat) (f:Nat->Nat->Rat):List α:=(List.range (n*n)).map (λt=>g (f (t / n) (t%n)))
theorem oP {α:Type} (g:Rat->α) (n:Nat) (f:Nat->Nat->Rat):(mat g n f).length=n*n:=by unfold mat; rw[aca,List.length_range]
theorem fG {n i j:Nat} (hi:i<n) (hj:j<n):i*n+j<n*n:=by have h1:(i+1)*n<=n*n:=aaa _ hi;rw[aaz]at h1; omega
theorem xm {n i j:Nat} (hj:j<n):(i*n+j) / n=i:=by rw[aab,ada (by omega),aaC hj,aaF]
theorem xn {n i j:Nat} (hj:j<n):(i*n+j)%n=j:=by rw[aab,acn,aai hj]
theorem lf {α:Type} (g:Rat->α) (n:Nat) (f:Nat->Nat->Rat) {i j:Nat} (hi:i<n) (hj:j<n) (z:α):(mat g n f).getD (i*n+j) z=g (f i j):=by have h:=fG hi hj;unfold mat;rw[List.getD_eq_getElem?_getD,List.getElem?_map,List.getElem?_range h];simp only[abz,aaW,xm hj,xn hj]
theorem js {α:Type} (g:Rat->α) (n:Nat) {f f':Nat->Nat->Rat} (h:∀ a b,a<n->b<n->f a b=f' a b):mat g n f=mat g n f':=by
 unfold mat;apply ac1;intro t ht;have ht:=List.mem_range.1 ht;have hn:0<n:=by
  rcases abv n with h0 | h0
  ·rw[h0]at ht; omega
  ·exact h0
 rw[h _ _ (ab9 ht) (aao _ hn)]
theorem GS {α:Type} (g:Rat->α) (n:Nat) (f:Nat->Nat->Rat) {i j:Nat} (hi:i<n) (hj:j<n) (v:Rat):(mat g n f).set (i*n+j) (g v)=mat g n (λa b=>if a=i/\b=j then v else f a b):=by
 have h:=fG hi hj;apply List.ext_getElem?;intro t;by_cases ht:t<n*n
 ·have hn:0<n:=by omega
  rw[List.getElem?_set];unfold mat;rw[List.getElem?_map,List.getElem?_map,List.getElem?_range ht];simp only[aca,List.length_range,abz];by_cases he:i*n+j=t
  ·rw[if_pos he,if_pos h,<- he,xm hj,xn hj,if_pos ⟨rfl,rfl⟩]
  ·rw[if_neg he];have:¬(t / n=i/\t%n=j):=by rintro ⟨h1,h2⟩;apply he;rw[<- h1,<- h2,aab];exact aaY t n
   rw[if_neg this]
 ·rw[List.getElem?_eq_none (by rw[ac3,oP]; omega),List.getElem?_eq_none (by rw[oP]; omega)]
theorem qV {n:Nat} (h:n<=1000):n*n<=1000000:=by have:n*n<=1000*1000:=aaV h h;omega
theorem bG (i j n:Nat):(i:Int)*(n:Int)+(j:Int)=((i*n+j:Nat):Int):=by rw[Int.natCast_add,aat]
theorem dZ {n i j:Nat} (hn:n<=1000) (hi:i<n) (hj:j<n):af .i64 ((i:Int)*(n:Int))=true/\af .i64 (((i*n+j:Nat):Int))=true:=by have h1:=qV hn;have h2:=fG hi hj;rw[<- aat];exact⟨ab (by omega) (by omega),ab (by omega) (by omega)⟩
theorem oJ {N n i j:Nat} (hn:n<=1000) (hi:i<n) (hj:j<n) (f:Nat->Nat->Rat) (k:Kx5) :
  bf N n n i j (mat enc n f) k=kq (f i j) k:=by
 obtain⟨h1,h2⟩:=dZ hn hi hj;have h3:=fG hi hj
 (unfold bf; rw[ac]; unfold eQ)
 rw[bG,aa h1,aa h2,oP,aac,aa Z6,aa (Z7 h3),lf enc n f hi hj];rfl
theorem NF {N n i j:Nat} (hn:n<=1000) (hi:i<n) (hj:j<n) (f:Nat->Nat->Rat) (v:Rat) (k:List RY1->Bool) :
  fe N n n i j (decide (v.num<0)) (ae v.num.natAbs) false (ae v.den) (mat enc n f) k=k (mat enc n (λa b=>if a=i/\b=j then v else f a b)):=by
 obtain⟨h1,h2⟩:=dZ hn hi hj;have h3:=fG hi hj;unfold fe jj;rw[bG,aa h1,aa h2,oP,aac,aa Z6,aa (Z7 h3)];exact adg k (GS enc n f hi hj v)
theorem rC {N n i j:Nat} (hn:n<=1000) (hi:i<n) (hj:j<n) (f:Nat->Nat->Rat) (k:Kz2) :
  D6 N n n i j (mat dy n f) k=k (i*n+j):=by
 obtain⟨h1,h2⟩:=dZ hn hi hj;have h3:=fG hi hj;unfold D6 Sq;rw[bG,aa h1,aa h2,oP,aac,aa Z6,aa (Z7 h3)]
theorem BX (l:List RY2) (i:Nat):List.set l i (((List.getD l i ((false,[]),(false,[]))).1.1,(List.getD l i ((false,[]),(false,[]))).1.2),((List.getD l i ((false,[]),(false,[]))).2.1,(List.getD l i ((false,[]),(false,[]))).2.2))=l:=by
 show List.set l i (List.getD l i ((false,[]),(false,[])))=l;apply List.ext_getElem?;intro t;rw[List.getElem?_set];by_cases h:i=t
 ·subst h;rw[if_pos rfl];by_cases hl:i<l.length
  ·rw[if_pos hl,List.getD_eq_getElem?_getD,List.getElem?_eq_getElem hl]; rfl
  ·rw[if_neg hl,List.getElem?_eq_none (by omega)]
 ·rw[if_neg h]
theorem te {σ:Type} {step:σ->(σ->Bool)->Bool} (C:Nat->σ) (m n:Nat) (hmn:m<=n) {N:Nat} (hn:n<N) {out:Bool} (hs:∀ i,m<=i->i<n -> ∀ K:σ->Bool,step (C i) K=K (C (i+1))) (hx:∀ K,step (C n) K=out):aj N step (C m)=out:=by have:=bw (step:=step) (λi=>C (m+i)) (n - m) (N:=N) (by omega) (out:=out) (λi hi K=>hs (m+i) (by omega) (by omega) K) (λK=>by show step (C (m+(n - m))) K=out; rw[show m+(n - m)=n by omega]; exact hx K);exact this
def uU (f:Nat->Nat->Rat) (i c:Nat) (x:Rat) (t:Nat):Nat->Nat->Rat:=λa b=>if a=i/\b<t then f i b+f c b*x else f a b
def fq (f:Nat->Nat->Rat) (c m:Nat):Nat->Nat->Rat:=λa b=>if c<a/\a<m then f a b - f a c / f c c*f c b else f a b
def po (B n:Nat) (f:Nat->Nat->Rat):Prop:=∀ a b,a<n->b<n->Bq B (f a b)
theorem Lk {N B n i c:Nat} (hF:Fuel N) (hB:B<=300000000000) (hn:n<=1000) (hi:i<n) (hc:c<n) (hic:c ≠ i) {f:Nat->Nat->Rat} (hf:po B n f) {x:Rat} (hx:Bq (2*B) x) (k:List RY1->Bool) :
  fa N n n i c (decide (x.num<0)) (ae x.num.natAbs) false (ae x.den) (mat enc n f) k=k (mat enc n (uU f i c x n)):=by
 have hN:=hF.lt
 (unfold fa; rw[ac]; unfold eP)
 have h0:mat enc n f=mat enc n (uU f i c x 0):=js _ _ (λa b _ _=>by unfold uU; rw[if_neg (by omega)]);rw[h0];refine bw (λt:Nat=>((t:Int),mat enc n (uU f i c x t))) n (by omega) ?_ ?_
 ·intro t ht K;unfold ct;dsimp only;rw[Z7 (by omega:(t:Int)<(n:Int)),Z_,oJ hn hi ht];have e1:uU f i c x t i t=f i t:=by unfold uU; rw[if_neg (by omega)]
  have e2:uU f i c x t c t=f c t:=by unfold uU; rw[if_neg (by omega)]
  unfold kq kr;dsimp only;rw[oJ hn hc ht,e1,e2];unfold kq kr;dsimp only;rw[Nx hF (B:=2*B) (by omega) ((hf c t hc ht).mono (by omega)) hx];unfold kq kr;dsimp only;rw[Nw hF (B:=3*B) (by omega) ((hf i t hi ht).mono (by omega)) ((A5 (hf c t hc ht) hx).mono (by omega))];unfold kq kr;dsimp only;rw[NF hn hi ht,aa Z5];have e3:mat enc n (λa b=>if a=i/\b=t then f i t+f c t*x else uU f i c x t a b)=mat enc n (uU f i c x (t+1)):=js _ _ (λa b _ _=>by
   unfold uU;by_cases h:a=i/\b=t
   ·rw[if_pos h,if_pos (by omega),h.2]
   ·rw[if_neg h];by_cases h2:a=i/\b<t
    ·rw[if_pos h2,if_pos (by omega)]
    ·rw[if_neg h2,if_neg (by omega)])
  rw[e3];rfl
 ·intro K;unfold ct;dsimp only;rw[Z8 (by omega:¬(n:Int)<(n:Int)),Z9]
def na (f:Nat->Nat->Rat) (i c:Nat) (r:Rat) (t:Nat):Nat->Nat->Rat:=λa b=>if a=i/\b<t then f i b - r*f c b else f a b
theorem Ip {N B n i c:Nat} (hF:Fuel N) (hB:B<=300000000000) (hn:n<=1000) (hi:i<n) (hc:c<n) (hic:c ≠ i) {f:Nat->Nat->Rat} (hf:po B n f) {r:Rat} (hx:Bq (2*B) r) (k:List RY2->Bool) :
  RN N n n i c (mat dy n f) (decide (r.num<0)) (ai r.num.natAbs) false (ai r.den) k=k (mat dy n (na f i c r n)):=by
 have hN:=hF.lt
 (unfold RN; rw[ac]; unfold PJ)
 have h0:mat dy n f=mat dy n (na f i c r 0):=js _ _ (λa b _ _=>by unfold na; rw[if_neg (by omega)]);rw[h0];refine bw (λt:Nat=>((t:Int),mat dy n (na f i c r t))) n (by omega) ?_ ?_
 ·intro t ht K;unfold B6;dsimp only;rw[Z7 (by omega:(t:Int)<(n:Int)),Z_,rC hn hi ht,rC hn hi ht,rC hn hc ht,BX];have e1:na f i c r t i t=f i t:=by unfold na; rw[if_neg (by omega)]
  have e2:na f i c r t c t=f c t:=by unfold na; rw[if_neg (by omega)]
  rw[lf dy n _ hi ht,lf dy n _ hc ht,e1,e2];unfold dy;dsimp only;rw[Lp hF (B:=2*B) (by omega) hx ((hf c t hc ht).mono (by omega))];unfold kqR krR;dsimp only;rw[aa (Z7 rfl),LA hF (B:=3*B) (by omega) ((hf i t hi ht).mono (by omega)) ((A5 hx (hf c t hc ht)).mono (by omega))];unfold kqR krR;dsimp only;rw[aa Z5];have e4:=GS dy n (na f i c r t) hi ht (f i t - r*f c t);have e3:mat dy n (λa b=>if a=i/\b=t then f i t - r*f c t else na f i c r t a b)=mat dy n (na f i c r (t+1)):=js _ _ (λa b _ _=>by
   unfold na;by_cases h:a=i/\b=t
   ·rw[if_pos h,if_pos (by omega),h.2]
   ·rw[if_neg h];by_cases h2:a=i/\b<t
    ·rw[if_pos h2,if_pos (by omega)]
    ·rw[if_neg h2,if_neg (by omega)])
  rw[e3]at e4;exact adg (λl=>K ((t:Int)+1,l)) e4
 ·intro K;unfold B6;dsimp only;rw[Z8 (by omega:¬(n:Int)<(n:Int)),Z9]
def sJ (g:Nat->Rat):Nat->Nat->Bool
 | i,0=>true
 | i,d+1=>decide (g i=0)&&sJ g (i+1) d
theorem xO {g h:Nat->Rat}:∀ d i,(∀ j,i<=j->j<i+d->g j=h j)->sJ g i d=sJ h i d
 | 0,i,_=>rfl
 | d+1,i,e=>by unfold sJ;rw[e i (aak _) (by omega),xO d (i+1) (λj h1 h2=>e j (by omega) (by omega))]
def uF (n:Nat):Nat->Nat->Int->(Nat->Nat->Rat)->Int
 | 0,c,s,f=>s
 | d+1,c,s,f=>if (f c c).num<0 then 1 else if f c c=0 then(if sJ (λi=>f i c) (c+1) d=true then uF n d (c+1) 2 f else 1)else uF n d (c+1) s (fq f c n)
theorem Ea (z:Int):decide (uD z<0)=decide (z<0):=by
 unfold uD;by_cases h0:z=0
 ·rw[if_pos h0,h0]
 ·rw[if_neg h0];by_cases h:z<0
  ·rw[if_pos h,Z7 h]; rfl
  ·rw[if_neg h,Z8 h]; rfl
theorem qC {x:Rat}:(x.num=0)↔x=0:=Rat.num_eq_zero
theorem qU (x:Rat):(uD x.num==0)=decide (x=0):=by
 rw[I3];by_cases h:x=0
 ·rw[Z7 h,Z7 (qC.2 h)]
 ·rw[Z8 h,Z8 (λg=>h (qC.1 g))]
theorem Ov (x:Rat):(uD x.num != 0) = !decide (x=0):=by rw[<- qU]; rfl
theorem ru {B n c m:Nat} {f:Nat->Nat->Rat} (hf:po B n f) (hc:c<n) (h0:f c c ≠ 0):po (4*B+1) n (fq f c m):=by
 intro a b ha hb;unfold fq;split
 ·exact(Ji (hf a b ha hb) (A5 (ED (hf a c ha hc) (hf c c hc hc) (λh=>h0 (qC.1 h))) (hf c b hc hb))).mono (by omega)
 ·exact(hf a b ha hb).mono (by omega)
theorem yd (f:Nat->Nat->Rat) (c:Nat) {α:Type} (g:Rat->α) (n:Nat):mat g n (fq f c (c+1))=mat g n f:=js _ _ (λa b _ _=>by unfold fq; rw[if_neg (by omega)])
theorem qk {f:Nat->Nat->Rat} {c i:Nat} (b:Nat):fq f c i i b=f i b:=by unfold fq; rw[if_neg (by omega)]
theorem ye {f:Nat->Nat->Rat} {c i:Nat} (b:Nat):fq f c i c b=f c b:=by unfold fq; rw[if_neg (by omega)]
theorem u7 {f:Nat->Nat->Rat} {c i a b:Nat} (h:c<i):fq f c (i+1) a b=if a=i then f i b - f i c / f c c*f c b else fq f c i a b:=by
 unfold fq;by_cases h1:a=i
 ·rw[if_pos h1,if_pos (by omega),h1]
 ·rw[if_neg h1];by_cases h2:c<a/\a<i
  ·rw[if_pos h2,if_pos (by omega)]
  ·rw[if_neg h2,if_neg (by omega)]
theorem LV (x y p q:Rat):q+y*(0 - x / p)=q - x / p*y:=by grind
theorem LU (p q y:Rat):q - 0 / p*y=q:=by grind
theorem LW (x y p:Rat):x / p*y=y / p*x:=by grind
theorem Lx {N B n c:Nat} (hF:Fuel N) (hB:4*B+1<=300000000000) (hn:n<=1000) (hc:c<n) (s:Int) (t1 t2:Int) {f:Nat->Nat->Rat} (hf:po B n f) (h0:f c c ≠ 0) (e0:Int->List RY1->Bool) (e1:List RY1->Bool) :
  aj N (aA N s (c:Int) t1 t2 (n:Int) (n:Int) (decide ((f c c).num<0)) (ae (f c c).num.natAbs) false (ae (f c c).den) e0 e1) (((c+1:Nat):Int),mat enc n f)=e1 (mat enc n (fq f c n)):=by
 have hN:=hF.lt;rw[<- yd f c enc n];refine te (λi:Nat=>((i:Int),mat enc n (fq f c i))) (c+1) n (by omega) (by omega) ?_ ?_
 ·intro i hi1 hi2 K;unfold aA;dsimp only;rw[Z7 (by omega:(i:Int)<(n:Int)),Z_,oJ hn hi2 hc,qk];unfold kq kr;dsimp only;rw[lc,qU];by_cases hz:f i c=0
  ·rw[Z7 hz,Z_,aa Z5];have:mat enc n (fq f c (i+1))=mat enc n (fq f c i):=js _ _ (λa b _ _=>by
    rw[u7 (by omega)];by_cases h1:a=i
    ·rw[if_pos h1,h1,qk,hz,LU]
    ·rw[if_neg h1])
   rw[this];rfl
  ·rw[Z8 hz,Z9,lc,qU,Z8 h0,Z9,Fz hF];unfold kq kr;dsimp only;have hp:(f c c).num ≠ 0:=λh=>h0 (qC.1 h)
   have bx:=hf i c hi2 hc;have bp:=hf c c hc hc;have bq:=ED bx bp hp;rw[NB hF (B:=B) (by omega) bx bp hp];unfold kq kr;dsimp only;have bz:Bq (B+B+1) 0:=F_;rw[Dr hF (B:=B+B+1) (by omega) bz (bq.mono (by omega))];unfold kq kr;dsimp only;have bs:Bq (2*(4*B+1)) (0 - f i c / f c c):=(Ji (A:=1) (F_ (B:=0)) bq).mono (by omega);rw[Lk hF (B:=4*B+1) hB hn hi2 hc (by omega) (ru hf hc h0) bs,aa Z5];have:mat enc n (fq f c (i+1))=mat enc n (uU (fq f c i) i c (0 - f i c / f c c) n):=js _ _ (λa b _ hb=>by
    rw[u7 (by omega)];unfold uU;by_cases h1:a=i
    ·rw[if_pos h1,if_pos ⟨h1,hb⟩,qk,ye,LV]
    ·rw[if_neg h1,if_neg (by omega)])
   rw[this];rfl
 ·intro K;unfold aA;dsimp only;rw[Z8 (by omega:¬(n:Int)<(n:Int)),Z9]
theorem It {N n c:Nat} (hF:Fuel N) (hn:n<=1000) (hc:c<n) (s:Int) (t1 t2:Int) {f:Nat->Nat->Rat} (h0:f c c=0) (e0:Int->List RY1->Bool) (e1:List RY1->Bool):∀(d i M:Nat),i+d=n->d<M ->
  aj M (aA N s (c:Int) t1 t2 (n:Int) (n:Int) (decide ((f c c).num<0)) (ae (f c c).num.natAbs) false (ae (f c c).den) e0 e1) ((i:Int),mat enc n f)=if sJ (λi=>f i c) i d=true then e1 (mat enc n f)else e0 1 (mat enc n f):=by
 intro d;induction d with
 | zero=>
  intro i M hi hM;cases M with
  | zero=>omega
  | succ M=>
   show aA _ _ _ _ _ _ _ _ _ _ _ _ _ ((i:Int),mat enc n f) (aj M _)=_;unfold aA sJ;dsimp only;rw[Z8 (by omega:¬(i:Int)<(n:Int)),Z9,if_pos rfl]
 | succ d ih=>
  intro i M hi hM;cases M with
  | zero=>omega
  | succ M=>
   have hi2:i<n:=by omega
   show aA _ _ _ _ _ _ _ _ _ _ _ _ _ ((i:Int),mat enc n f) (aj M _)=_;rw[aA];rw[Z7 (by omega:(i:Int)<(n:Int)),Z_,oJ hn hi2 hc];unfold kq kr;dsimp only;rw[lc,qU,sJ];by_cases hz:f i c=0
   ·rw[Z7 hz,Z_,aa Z5,abd];exact ih (i+1) M (by omega) (by omega)
   ·rw[Z8 hz,Z9,lc,qU,Z7 h0,Z_,acM,if_neg (by decide)]
theorem BD {N n:Nat} (hF:Fuel N) (hn:n<=1000) (k:Kz1):∀(d c B M:Nat) (s:Int) (f:Nat->Nat->Rat),c+d=n->d<M->po B n f->(B+1)*4 ^ d<=100000000000 ->
  aj M (aR N (n:Int) (n:Int) (n:Int) (λt _=>k t) (λt _=>k t)) (s,(c:Int),mat enc n f)=k (uF n d c s f):=by
 intro d;induction d with
 | zero=>
  intro c B M s f hc hM _ _;cases M with
  | zero=>omega
  | succ M=>
   show aR _ _ _ _ _ _ (s,(c:Int),mat enc n f) (aj M _)=_;rw[aR];rw[Z8 (by omega:¬(c:Int)<(n:Int)),Z9];rfl
 | succ d ih=>
  intro c B M s f hc hM hf hB;cases M with
  | zero=>omega
  | succ M=>
   have hN:=hF.lt;have hcn:c<n:=by omega
   have h4:(4*B+1+1)*4 ^ d<=100000000000:=by
    have h1:(4*B+1+1)*4 ^ d<=(B+1)*4*4 ^ d:=aaa _ (by omega);have h2:(B+1)*4*4 ^ d=(B+1)*4 ^ (d+1):=by rw[aaj,aah,aab 4 (4 ^ d)]
    omega
   have hB2:4*B+1+1<=100000000000:=by have:0<4 ^ d:=abg (by decide);have h1:(4*B+1+1)*1<=(4*B+1+1)*4 ^ d:=aae _ this;omega
   show aR _ _ _ _ _ _ (s,(c:Int),mat enc n f) (aj M _)=_;rw[aR];rw[Z7 (by omega:(c:Int)<(n:Int)),Z_,oJ hn hcn hcn];unfold kq kr;dsimp only;rw[lc,Ea,uF];by_cases hneg:(f c c).num<0
   ·rw[Z7 hneg,Z_,if_pos hneg]
   ·rw[Z8 hneg,Z9,if_neg hneg,aa Z5];by_cases h0:f c c=0
    ·rw[if_pos h0];have hr:=λe0 e1=>It hF hn hcn s (n:Int) (c:Int) h0 e0 e1 d (c+1) N (by omega) (by omega)
     rw[Z8 hneg]at hr;rw[show(c:Int)+1=((c+1:Nat):Int) from rfl,hr];by_cases hz:sJ (λi=>f i c) (c+1) d=true
     ·rw[if_pos hz,if_pos hz];have hs:=lc (N:=N) (f c c);rw[Z8 hneg]at hs;rw[hs,qU,Z7 h0,Z_,aa Z5];exact ih (c+1) B M 2 f (by omega) (by omega) hf (by have:(B+1)*4 ^ d<=(4*B+1+1)*4 ^ d:=aaa _ (by omega);omega)
     ·rw[if_neg hz,if_neg hz]
    ·rw[if_neg h0];have hr:=λe0 e1=>Lx hF (by omega) hn hcn s (n:Int) (c:Int) hf h0 e0 e1
     rw[Z8 hneg]at hr;rw[show(c:Int)+1=((c+1:Nat):Int) from rfl,hr];have hs:=lc (N:=N) (f c c);rw[Z8 hneg]at hs;rw[hs,qU,Z8 h0,Z9,aa Z5];exact ih (c+1) (4*B+1) M s (fq f c n) (by omega) (by omega) (ru hf hcn h0) h4
theorem LB {N B n:Nat} (hF:Fuel N) (hB:B<=300000000000) (hn:n<=1000) {f:Nat->Nat->Rat} (hf:po B n f) (hs:∀ a b,a<n->b<n->f a b=f b a) (k:Bool) :
  cS N n n (mat enc n f) k=k:=by
 have hN:=hF.lt
 (unfold cS; rw[ac]; unfold cK)
 refine bw (λt:Nat=>(t:Int)) n (by omega) ?_ ?_
 ·intro i hi K;unfold bH;dsimp only;rw[Z7 (by omega:(i:Int)<(n:Int)),Z_];refine bw (λt:Nat=>(t:Int)) i (by omega) ?_ ?_
  ·intro j hj K';have hj2:j<n:=by omega
   unfold bI;dsimp only;rw[Z7 (by omega:(j:Int)<(i:Int)),Z_,oJ hn hi hj2];unfold kq kr;dsimp only;rw[oJ hn hj2 hi];unfold kq kr;dsimp only;rw[Dr hF (B:=B) (by omega) (hf i j hi hj2) (hf j i hj2 hi)];unfold kq kr;dsimp only;have e:uD (f i j - f j i).num=0:=by
    have:f i j - f j i=0:=by rw[hs i j hi hj2]; grind
    rw[this]; rfl
   rw[lc,e,oI,aa Z5];rfl
  ·intro K';unfold bI;dsimp only;rw[Z8 (by omega:¬(i:Int)<(i:Int)),Z9,aa Z5];rfl
 ·intro K;unfold bH;dsimp only;rw[Z8 (by omega:¬(n:Int)<(n:Int)),Z9]
theorem Il {N B n:Nat} (hF:Fuel N) (hn:n<=1000) {f:Nat->Nat->Rat} (hf:po B n f) (hs:∀ a b,a<n->b<n->f a b=f b a) (hB:(B+1)*4 ^ n<=100000000000) (k:Kz1) :
  eo N n n (mat enc n f) (λt _=>k t)=k (uF n n 0 3 f):=by
 have hN:=hF.lt;have hB2:B<=300000000000:=by have:0<4 ^ n:=abg (by decide);have h1:(B+1)*1<=(B+1)*4 ^ n:=aae _ this;omega
 unfold eo iJ;have e:((n:Int)==(n:Int))=((0:Int)==0):=by simp
 rw[e,oI,LB hF hB2 hn hf hs]
 (unfold f_; rw[ac]; unfold cY)
 exact BD hF hn k n 0 B N 3 f (by omega) (by omega) hf hB
theorem Iu {N B n c:Nat} (hF:Fuel N) (hB:4*B+1<=300000000000) (hn:n<=1000) (hc:c<n) (s:Int) {f:Nat->Nat->Rat} (hf:po B n f) (h0:f c c ≠ 0) (e0:List RY2->Bool) :
  aj N (zu N s (c:Int) (c*n+c) (n:Int) (n:Int) e0) (((c+1:Nat):Int),mat dy n f)=e0 (mat dy n (fq f c n)):=by
 have hN:=hF.lt;rw[<- yd f c dy n];refine te (λi:Nat=>((i:Int),mat dy n (fq f c i))) (c+1) n (by omega) (by omega) ?_ ?_
 ·intro i hi1 hi2 K;unfold zu;dsimp only;have hne:¬(c*n+c=i*n+c):=by
   intro h;have:c*n=i*n:=by omega
   have:=abB (by omega) this;omega
  rw[Z7 (by omega:(i:Int)<(n:Int)),Z_,rC hn hi2 hc,Z8 hne,aa (a:=(!false&&true)) rfl,BX,BX,lf dy n _ hi2 hc,lf dy n _ hc hc,qk,ye];have hp:(f c c).num ≠ 0:=λh=>h0 (qC.1 h)
  have bx:=hf i c hi2 hc;have bp:=hf c c hc hc;have bq:=ED bx bp hp;have hq:=λkk=>Lt (N:=N) (b1:=false) (b2:=false) hF (B:=B) (by omega) bx bp hp kk
  have he:∀ x:Rat,dy x=((decide (x.num<0),ai x.num.natAbs),(false,ai x.den)):=λx=>rfl
  rw[he (f i c),he (f c c)];dsimp only;rw[hq];unfold kqR krR;dsimp only;rw[Ip hF (B:=4*B+1) hB hn hi2 hc (by omega) (ru hf hc h0) (bq.mono (by omega)),aa Z5];have:mat dy n (fq f c (i+1))=mat dy n (na (fq f c i) i c (f i c / f c c) n):=js _ _ (λa b _ hb=>by
   rw[u7 (by omega)];unfold na;by_cases h1:a=i
   ·rw[if_pos h1,if_pos ⟨h1,hb⟩,qk,ye]
   ·rw[if_neg h1,if_neg (by omega)])
  rw[this];rfl
 ·intro K;unfold zu;dsimp only;rw[Z8 (by omega:¬(n:Int)<(n:Int)),Z9]
theorem Fw {N n c:Nat} (hF:Fuel N) (hn:n<=1000) (hc:c<n) {f:Nat->Nat->Rat} (e0:Int->Bool) (e1:Bool):∀(d i M:Nat),i+d=n->d<M ->
  aj M (zy N (c:Int) (n:Int) (n:Int) (mat dy n f) e0 e1) ((i:Int))=if sJ (λi=>f c i) i d=true then e1 else e0 1:=by
 intro d;induction d with
 | zero=>
  intro i M hi hM;cases M with
  | zero=>omega
  | succ M=>
   show zy _ _ _ _ _ _ _ (i:Int) (aj M _)=_;unfold zy sJ;dsimp only;rw[Z8 (by omega:¬(i:Int)<(n:Int)),Z9,if_pos rfl]
 | succ d ih=>
  intro i M hi hM;cases M with
  | zero=>omega
  | succ M=>
   have hi2:i<n:=by omega
   show zy _ _ _ _ _ _ _ (i:Int) (aj M _)=_;rw[zy];have he:∀ x:Rat,dy x=((decide (x.num<0),ai x.num.natAbs),(false,ai x.den)):=λx=>rfl
   rw[Z7 (by omega:(i:Int)<(n:Int)),Z_,rC hn hc hi2,lf dy n _ hc hi2,he (f c i)];dsimp only;rw[vq,Ov,sJ];by_cases hz:f c i=0
   ·rw[Z7 hz,aa2,Z9,aa Z5,abd];exact ih (i+1) M (by omega) (by omega)
   ·rw[Z8 hz,aaP,Z_,acM,if_neg (by decide)]
def Ra (n c:Nat) (f:Nat->Nat->Rat):Prop:=∀ a b,c<=a->c<=b->a<n->b<n->f a b=f b a
theorem KE {n c:Nat} {f:Nat->Nat->Rat} (h:Ra n c f) (hc:c<n):Ra n (c+1) (fq f c n):=by intro a b ha hb han hbn;unfold fq;rw[if_pos ⟨by omega,han⟩,if_pos ⟨by omega,hbn⟩,h a b (by omega) (by omega) han hbn,h a c (by omega) (by omega) han hc,h c b (by omega) (by omega) hc hbn,LW]
theorem Ig {N n:Nat} (hF:Fuel N) (hn:n<=1000) (k:Kz1):∀(d c B M:Nat) (s:Int) (f:Nat->Nat->Rat),c+d=n->d<M->po B n f->Ra n c f->(B+1)*4 ^ d<=100000000000 ->
  aj M (zx N (n:Int) (n:Int) (λt=>k t) (λt=>k t)) (s,(c:Int),mat dy n f)=k (uF n d c s f):=by
 intro d;induction d with
 | zero=>
  intro c B M s f hc hM _ _ _;cases M with
  | zero=>omega
  | succ M=>
   show zx _ _ _ _ _ (s,(c:Int),mat dy n f) (aj M _)=_;rw[zx];rw[Z8 (by omega:¬(c:Int)<(n:Int)),Z9];rfl
 | succ d ih=>
  intro c B M s f hc hM hf hsy hB;cases M with
  | zero=>omega
  | succ M=>
   have hN:=hF.lt;have hcn:c<n:=by omega
   have h4:(4*B+1+1)*4 ^ d<=100000000000:=by
    have h1:(4*B+1+1)*4 ^ d<=(B+1)*4*4 ^ d:=aaa _ (by omega);have h2:(B+1)*4*4 ^ d=(B+1)*4 ^ (d+1):=by rw[aaj,aah,aab 4 (4 ^ d)]
    omega
   have hB2:4*B+1+1<=100000000000:=by have:0<4 ^ d:=abg (by decide);have h1:(4*B+1+1)*1<=(4*B+1+1)*4 ^ d:=aae _ this;omega
   have he:∀ x:Rat,dy x=((decide (x.num<0),ai x.num.natAbs),(false,ai x.den)):=λx=>rfl
   show zx _ _ _ _ _ (s,(c:Int),mat dy n f) (aj M _)=_;rw[zx];rw[Z7 (by omega:(c:Int)<(n:Int)),Z_,rC hn hcn hcn,lf dy n _ hcn hcn,he (f c c)];dsimp only;rw[vq,Ea,uF];by_cases hneg:(f c c).num<0
   ·rw[Z7 hneg,Z_,if_pos hneg]
   ·rw[if_neg hneg,vq,qU];rw[Z8 hneg,Z9];by_cases h0:f c c=0
    ·rw[if_pos h0,Z7 h0,Z_,aa Z5];rw[show(c:Int)+1=((c+1:Nat):Int) from rfl,Fw hF hn hcn _ _ d (c+1) N (by omega) (by omega)];have ez:sJ (λi=>f c i) (c+1) d=sJ (λi=>f i c) (c+1) d:=xO _ _ (λj h1 h2=>hsy c j (by omega) (by omega) hcn (by omega));rw[ez];by_cases hz:sJ (λi=>f i c) (c+1) d=true
     ·rw[if_pos hz,if_pos hz,aa Z5];exact ih (c+1) B M 2 f (by omega) (by omega) hf (λa b ha hb=>hsy a b (by omega) (by omega)) (by have:(B+1)*4 ^ d<=(4*B+1+1)*4 ^ d:=aaa _ (by omega);omega)
     ·rw[if_neg hz,if_neg hz]
    ·rw[if_neg h0,Z8 h0,Z9,aa Z5];rw[show(c:Int)+1=((c+1:Nat):Int) from rfl,Iu hF (by omega) hn hcn s hf h0,aa Z5];exact ih (c+1) (4*B+1) M s (fq f c n) (by omega) (by omega) (ru hf hcn h0) (KE hsy hcn) h4
end Go.Proofs.YtdinakfmablagaaGreatDoor
end
