/-
  PURE: laws of the seat's functions, taken over from another seat of mine.
  Conditions: none.
-/
import Derived.Test.YteifemaagdeomaaGreatDoorD1
import Derived.Test.YteifemaagdeomaaGreatDoorFlA
set_option linter.unusedVariables false
section
namespace Go.Proofs.YteifemaagdeomaaGreatDoor
open Go Go.Mach Ieee
theorem XC {N n j:Nat} (hN:1000<=N) (hj:j<=900) (h:n<4294967296 ^ j):kp N (ak n):=by have:=gd j n h;exact⟨by omega,by omega⟩
theorem uT {N n:Nat} (hN:1000<=N) (h:n<18446744073709551616):kp N (ak n):=XC (j:=2) hN (by decide) (by
 have:(4294967296:Nat) ^ 2=18446744073709551616:=by decide
 omega)
theorem arT (n:Nat):aH .and .u64 (n:Int) 2047=((n%2048:Nat):Int):=by have:=ox n 11 (by decide);simpa using this
theorem Jb (s:Bool) (m:Nat) (i:Int):∃ r,Ieee.double.nearest s m i=Ieee.double.word s r/\r<=9218868437227405312:=by
 unfold Format.nearest;split
 ·exact⟨0,rfl,by omega⟩
 ·rw[sV]; exact⟨_,rfl,aIN _ _⟩
theorem O2 (s:Bool) (m:Nat) (i:Int):W64 (Ieee.double.nearest s m i):=by obtain⟨r,h,hr⟩:=Jb s m i;rw[h]; exact JQ s (by omega)
theorem aq4 {N:Nat} (hN:1000<=N) {n:Nat} (h:n<=48):CH N n:=⟨by omega,by omega⟩
theorem abg (b:Nat):kA (some b)=decide (b%9223372036854775808<9218868437227405312):=by
 unfold kA Format.read;simp only[o4,C0,sV];by_cases h1:b%9223372036854775808<4503599627370496
 ·rw[if_pos h1,aFy (by omega)]; rfl
 ·rw[if_neg h1];by_cases h2:b%9223372036854775808<9218868437227405312
  ·rw[if_pos h2,aFy h2]; rfl
  ·rw[if_neg h2,aFz h2];split <;> rfl
def Nn (x:Fl):Prop:=∃ b,x=some b/\isNaN b=false
theorem Z1 {x:Fl} (h:kA x=true):Nn x:=by
 cases x with
 | none=>cases h
 | some b=>
  rw[abg]at h;have:=aFE h;refine⟨b,rfl,?_⟩;rw[aH7];intro hc;have:=(kd b).1 hc;omega
theorem Uf:Nn (some 0):=⟨0,rfl,by decide⟩
theorem ahu (s:Bool) {r:Nat} (h:r<=9218868437227405312):Nn (some (Ieee.double.word s r)):=by
 refine⟨_,rfl,?_⟩;rw[aH7];intro hc;have h1:=(kd _).1 hc;have hw:Ieee.double.word s r%9223372036854775808=r:=by unfold Format.word; rw[o4]; cases s <;> simp <;> omega
 omega
theorem GI (s:Bool) (m:Nat) (i:Int):Nn (some (Ieee.double.nearest s m i)):=by obtain⟨r,h,hr⟩:=Jb s m i;rw[h]; exact ahu s hr
abbrev K4:=Fl->Fl->Fl->Fl->Int->Bool
def kZ:Nat->Nat->Int->Nat × Int
 | 0,m,e=>(m,e)
 | f+1,m,e=>if m%2=0 then kZ f (m / 2) (e+1)else(m,e)
theorem xi:∀ f m e,m ≠ 0->m<2 ^ f->e<=(kZ f m e).2/\(kZ f m e).2<=e+f/\(kZ f m e).1*2 ^ ((kZ f m e).2 - e).toNat=m/\(kZ f m e).1<=m
 | 0,m,e,h0,h=>by simp at h; omega
 | f+1,m,e,h0,h=>by
  unfold kZ;split
  ·rename_i hm;obtain⟨h1,h2,h3,h4⟩:=xi f (m / 2) (e+1) (by omega) (by rw[aFL]at h; omega);refine⟨by omega,by omega,?_,by omega⟩;have:((kZ f (m / 2) (e+1)).2 - e).toNat=((kZ f (m / 2) (e+1)).2 - (e+1)).toNat+1:=by omega
   rw[this,aFL,<- aFK,h3]; omega
  ·refine⟨by omega,by omega,?_,aFM _⟩;rw[Int.sub_self]; simp
theorem ai7 {N:Nat} (hN:1000<=N) {m:Nat} {e:Int} (h0:m ≠ 0) (hm:m<2 ^ 64) (he1 : -2000<=e) (he2:e<=2000) (k:Ky2) :
  Jo N m e k=k ((kZ 64 m e).1:Int) (kZ 64 m e).2:=by
 unfold Jo Nb;have key:∀ f:Nat,f<=64 -> ∀(m:Nat) (e:Int),m ≠ 0->m<2 ^ f->m<2 ^ 64 -> -2000<=e->e+f<=3000 -> ∀ M:Nat,f<M->ah M (pd N λa b=>k a b) ((m:Int),e)=k ((kZ f m e).1:Int) (kZ f m e).2:=by
  intro f;induction f with
  | zero=>intro _ m e h0 h; simp at h; omega
  | succ f ih=>
   intro hf m e h0 h h64 h1 h2 M hM;cases M with
   | zero=>omega
   | succ M=>
    show pd N _ ((m:Int),e) (ah M _)=_;have e2:Int.tmod (m:Int) 2=((m%2:Nat):Int):=by rw[aGo (by omega)]; rfl
    have e3:Int.tdiv (m:Int) 2=((m / 2:Nat):Int):=by rw[aGz (by omega)]; rfl
    simp only[pd,kZ,e2,e3];by_cases hm:m%2=0
    ·have:(((m%2:Nat):Int)==0)=true:=by rw[hm]; rfl
     have ew:IntKind.wrap .u64 ((m / 2:Nat):Int)=((m / 2:Nat):Int):=by
      rw[ar];have:(2:Nat) ^ 64=18446744073709551616:=by decide
      omega
     rw[this,aFB,ac aFw,if_pos hm,ew];exact ih (by omega) (m / 2) (e+1) (by omega) (by rw[aFL]at h; omega) (by omega) (by omega) (by omega) M (by omega)
    ·have:(((m%2:Nat):Int)==0)=false:=by
      have:m%2=1:=by omega
      rw[this]; rfl
     rw[this,aFA,if_neg hm]
 have:((m:Int)==0)=false:=by simp; omega
 rw[this,aFA];exact key 64 (aFM _) m e h0 hm hm (by omega) (by omega) N (by omega)
theorem adB (N:Nat) (e:Int) (k:Ky2):Jo N 0 e k=k 0 0:=by unfold Jo Nb; rfl
def ofE (x:Fl):Int × Int:=match x with
 | some b=>match Ieee.double.read b with
  | .number s m i=>if m=0 then(0,0)else((kZ 64 m i).2,bF s (kZ 64 m i).1)
  | _=>(0,0)
 | none=>(0,0)
theorem Mk {b:Nat} {s:Bool} {m:Nat} {i:Int} (h:Ieee.double.read b=.number s m i):ofE (some b)=if m=0 then(0,0)else((kZ 64 m i).2,bF s (kZ 64 m i).1):=by unfold ofE; simp only[h]
theorem WS {N:Nat} (hN:1000<=N) {b:Nat} (hb:W64 b) {s:Bool} {m:Nat} {i:Int} (h:Ieee.double.read b=.number s m i) (k:Kx4) :
    Vj N (some b) k=if m=0 then k s 0 0 0 else k s ((kZ 64 m i).1:Int) (kZ 64 m i).2 0:=by
  obtain⟨h1,h2,h3⟩:=uR h;have hpl:=zK h;have hnn:isNaN b=false:=by rw[aH7]; intro hc; have:=(kd b).1 hc; omega
  have hbits:rV (some b)=b:=by simp only[rV,cnb,hnn]; rfl
  have hsg:(Int.fdiv (b:Int) (2 ^ 63)==1)=s:=by
    have e:(2:Int) ^ 63=((9223372036854775808:Nat):Int):=by decide
    rw[e,oR,h1];have hW:b / 9223372036854775808<2:=by have:=hb; omega
    have:b / 9223372036854775808=0\/b / 9223372036854775808=1:=by omega
    rcases this with h | h <;> rw[h] <;> rfl
  have fin:∀(e:Int),i=e - 1074 -> -1100<=e->e<=2100->Nl N (Li N) (Jo N) (some b) s e (m:Int) k=if m=0 then k s 0 0 0 else k s ((kZ 64 m i).1:Int) (kZ 64 m i).2 0:=by
    intro e he h5 h6;unfold Nl;rw[ac aFw,<- he];by_cases h0:m=0
    · subst h0; rw[if_pos rfl]; exact adB N i _
    · rw[if_neg h0,ai7 hN h0 (by have:(2:Nat) ^ 64=18446744073709551616:=(by decide); omega) (by omega) (by omega)]
  unfold Vj Kr;rw[KY,hbits];rw[hsg];have n2047:(((b / 4503599627370496%2048:Nat):Int)==2047)=false:=by simp; omega
  rw[n2047,aFA];rcases h3 with⟨g1,g2,g3⟩ | ⟨g1,g2,g3⟩
  · have e0:b / 4503599627370496%2048=0:=by omega
    have e1:b%4503599627370496=m:=by omega
    rw[e0,e1,aFz (by decide),aFA];exact fin 0 (by omega) (by omega) (by omega)
  · have e0:0<b / 4503599627370496%2048:=by omega
    have e1:IntKind.wrap .u64 (((b%4503599627370496:Nat):Int)+4503599627370496)=(m:Int):=by rw[ar]; omega
    rw[aFy (by omega:((b / 4503599627370496%2048:Nat):Int)>0),aFB,ac aFw,e1];exact fin _ (by omega) (by omega) (by omega)
theorem anX {N:Nat} (hN:1000<=N) {x:Fl} (hx:kA x=true) (hw:FW x) (k:Int->Bool->List Int->Bool):Vu N x k=exK (ofE x) k:=by
  obtain⟨b,s,m,i,rfl,h⟩:=C7 hx;have hb:=hw b rfl;unfold Vu ZT;rw[WS hN hb h,Mk h];by_cases h0:m=0
  · rw[if_pos h0,if_pos h0]
    have:∀ κ,Ph N 0 false κ=κ false (ak 0):=λκ=>Ba (N:=N) 0 (by decide) false (uT hN (by decide)) (by omega) κ
    rw[this];cases s
    · rw[aFA]; unfold exK; rfl
    · rw[aFB,KX _ _ (uT hN (by decide))]; unfold exK AP; rfl
  · rw[if_neg h0,if_neg h0]
    have hpl:=zK h;obtain⟨g1,g2,g3,g4⟩:=xi 64 m i h0 (by have:(2:Nat) ^ 64=18446744073709551616:=(by decide); omega);have hs:=uT (N:=N) (n:=(kZ 64 m i).1) hN (by omega);rw[Ba (N:=N) _ (by omega) false hs (by omega)];cases s
    · rw[aFA]
      show _=k (kZ 64 m i).2 (decide ((((kZ 64 m i).1:Nat):Int)<0)) (ak (((kZ 64 m i).1:Nat):Int).natAbs);rw[aFz (by omega),aGq]
    · rw[aFB,KX _ _ hs]; rfl
def EV (x:Int × Int) (v:Int) (E:Nat):Prop:=0<=x.1+E/\x.2*2 ^ (x.1+E).toNat=v
theorem EV.up {x:Int × Int} {v:Int} {E:Nat} (h:EV x v E) (F:Nat):EV x (v*2 ^ F) (E+F):=by
 obtain⟨h1,h2⟩:=h;refine⟨by omega,?_⟩;have:(x.1+((E+F:Nat):Int)).toNat=(x.1+E).toNat+F:=by omega
 rw[this,Int.pow_add,<- Int.mul_assoc,h2]
theorem EV.mul {x y:Int × Int} {v w:Int} {E F:Nat} (h:EV x v E) (g:EV y w F):EV (Fv x y) (v*w) (E+F):=by
 obtain⟨h1,h2⟩:=h;obtain⟨g1,g2⟩:=g;refine⟨by simp only[Fv]; omega,?_⟩;have:((Fv x y).1+((E+F:Nat):Int)).toNat=(x.1+E).toNat+(y.1+F).toNat:=by simp only[Fv]; omega
 rw[this,Int.pow_add,<- h2,<- g2];simp only[Fv];ac_rfl
theorem EV.neg {x:Int × Int} {v:Int} {E:Nat} (h:EV x v E):EV (ak1 x) (-v) E:=⟨h.1,by rw[<- h.2]; exact aII _ _⟩
theorem KN {x:Int × Int} {v:Int} {E:Nat} (h:EV x v E) {e:Int} (he:e<=x.1) (hE:0<=e+E):yR x e*2 ^ (e+E).toNat=v:=by unfold yR;rw[Int.mul_assoc,<- Int.pow_add,show(x.1 - e).toNat+(e+E).toNat=(x.1+E).toNat by omega];exact h.2
theorem EV.add {x y:Int × Int} {v w:Int} {E:Nat} (h:EV x v E) (g:EV y w E):EV (Ut x y) (v+w) E:=by
 unfold Ut;split
 ·rename_i h0;have:v=0:=by rw[<- h.2,h0,Int.zero_mul]
  rw[this,Int.zero_add]; exact g
 ·split
  ·rename_i h0;have:w=0:=by rw[<- g.2,h0,Int.zero_mul]
   rw[this,Int.add_zero]; exact h
  ·have hE:0<=min x.1 y.1+E:=by have:=h.1; have:=g.1; omega
   exact⟨hE,by rw[Int.add_mul,KN h (by omega) hE,KN g (by omega) hE]⟩
theorem EV.sgn {x:Int × Int} {v:Int} {E:Nat} (h:EV x v E):DL x.2=DL v:=by
 rw[<- h.2];have hp:=adQ (x.1+E).toNat;unfold DL;rcases Int.lt_trichotomy x.2 0 with h | h | h
 ·have:=Int.mul_neg_of_neg_of_pos h hp;rw[if_neg (by omega),if_pos h,if_neg (by omega),if_pos this]
 ·rw[h,Int.zero_mul]
 ·have:=Int.mul_pos h hp;rw[if_neg (by omega),if_neg (by omega),if_neg (by omega),if_neg (by omega)]
theorem Ex.mono {E B E' B':Nat} {x:Int × Int} (h:Ex E B x) (hE:E<=E') (hB:B<=B'):Ex E' B' x:=⟨by have:=h.1; omega,by have:=h.2.1; omega,dU h.2.2 hB⟩
theorem Ex.mul {E B E' B':Nat} {x y:Int × Int} (h:Ex E B x) (g:Ex E' B' y):Ex (E+E') (B+B') (Fv x y):=
 ⟨by have:=h.1; have:=g.1; simp only[Fv]; omega,by have:=h.2.1; have:=g.2.1; simp only[Fv]; omega,by show bv _ (x.2*y.2).natAbs;rw[aHk]; exact iO h.2.2 g.2.2⟩
theorem Ex.neg {E B:Nat} {x:Int × Int} (h:Ex E B x):Ex E B (ak1 x):=⟨h.1,h.2.1,by show bv _ (-x.2).natAbs; rw[aH9]; exact h.2.2⟩
theorem I8 {E B:Nat} {x:Int × Int} (h:Ex E B x) {e:Int} (he : -(E:Int)<=e):bv (B+2*E) (yR x e).natAbs:=by unfold yR;rw[aHk,Int.natAbs_pow];refine dU (BT h.2.2 _) ?_;have:=h.2.1; omega
theorem Ex.add {E B:Nat} {x y:Int × Int} (h:Ex E B x) (g:Ex E B y):Ex E (B+2*E+1) (Ut x y):=by
 unfold Ut;split
 ·exact g.mono (aFM _) (by omega)
 ·split
  ·exact h.mono (aFM _) (by omega)
  ·refine⟨by have:=h.1; have:=g.1; show -(E:Int)<=min x.1 y.1; omega,by have:=h.2.1; show min x.1 y.1<=E; omega,?_⟩;have h1:=I8 h (e:=min x.1 y.1) (by have:=h.1; have:=g.1; omega);have h2:=I8 g (e:=min x.1 y.1) (by have:=h.1; have:=g.1; omega);exact qm (C1 h1 h2) (Int.natAbs_add_le _ _)
theorem ai2 {N:Nat} (hN:1000<=N) {E B:Nat} {x:Int × Int} (hx:Ex E B x) {e:Int} (he : -(E:Int)<=e) (hB:B+2*E<=30000) (k0:Bool) (k1:Bool->List Int->Bool) (h0:x.1<=e->k0=AP x.2 k1) (he2:x.1<=e->e=x.1) :
  UX N x.1 e (decide (x.2<0)) (ak x.2.natAbs) k0 k1=AP (yR x e) k1:=by
 unfold UX Y2;have hx1:=hx.1;have hx2:=hx.2.1;by_cases hc:x.1<=e
 ·rw[aFy (by omega:e>=x.1),aFB,h0 hc];have:yR x e=x.2:=by unfold yR;rw[he2 hc,Int.sub_self]; simp
  rw[this]
 ·rw[aFz (by omega:¬ e>=x.1),aFA,ac aFw];have ew:IntKind.wrap .u64 (x.1 - e)=(((x.1 - e).toNat:Nat):Int):=by rw[ar]; omega
  rw[ew,KW _ _ _ _ (KB hN (by omega) hx.2.2)];congr 1;unfold yR bF;by_cases hz:x.2<0
  ·rw[aFy hz,if_pos rfl,aFV,aG0,<- aII];congr 1; omega
  ·rw[aFz hz,if_neg (by decide),aFV,aG0];congr 1; omega
theorem Ry {x:Fl} (hx:kA x=true):Ex 1100 53 (ofE x):=by
  obtain⟨b,s,m,i,rfl,h⟩:=C7 hx;rw[Mk h];have hpl:=zK h;have hpg:=adP h;by_cases h0:m=0
  · rw[if_pos h0]; exact⟨by decide,by decide,aFN _⟩
  · rw[if_neg h0]
    obtain⟨g1,g2,g3,g4⟩:=xi 64 m i h0 (by have:(2:Nat) ^ 64=18446744073709551616:=(by decide); omega);refine⟨by show -((1100:Nat):Int)<=(kZ 64 m i).2; omega,by show(kZ 64 m i).2<=((1100:Nat):Int); omega,?_⟩;show bv 53 (bF s (kZ 64 m i).1).natAbs;have:(bF s (kZ 64 m i).1).natAbs=(kZ 64 m i).1:=by unfold bF; cases s <;> simp
    rw[this];show _<2 ^ 53;have:(2:Nat) ^ 53=9007199254740992:=by decide
    omega
theorem K9:∀(f t c:Nat) (e:Int),t<f->kZ f (2 ^ t*(2*c+1)) e=(2*c+1,e+t)
 | 0,t,c,e,h=>by omega
 | f+1,0,c,e,h=>by
  unfold kZ;rw[aHq,aHz,if_neg (by omega)];simp
 | f+1,t+1,c,e,h=>by
  unfold kZ;have e1:2 ^ (t+1)*(2*c+1)=2*(2 ^ t*(2*c+1)):=by rw[aFL]; ac_rfl
  rw[e1,if_pos (by omega),aF8 _ (by decide),K9 f t c (e+1) (by omega)];congr 1; omega
theorem aeV {b:Nat} (hb:W64 b):(aH .and .u64 (b:Int) 9223372036854775808 != 0)=(b / 9223372036854775808%2==1):=by
 have e1:(9223372036854775808:Int)=((2 ^ 63:Nat):Int):=by decide
 have p63:(2:Nat) ^ 63=9223372036854775808:=by decide
 rw[e1,A3 hb (by rw[p63]; omega)];have h1:b / 9223372036854775808%2=0\/b / 9223372036854775808%2=1:=by omega
 have h2:b.testBit 63=decide (b / 2 ^ 63%2=1):=Nat.testBit_eq_decide_div_mod_eq;rw[p63]at h2;rcases h1 with h | h
 ·have hz:b &&& 2 ^ 63=0:=by
   refine aHL (λj=>?_);rw[aIs,aHm,Nat.zero_testBit];by_cases hj:63=j
   ·subst hj; rw[h2,h]; rfl
   ·rw[aFz hj,Bool.and_false]
  rw[hz,h]; rfl
 ·have hz:b &&& 2 ^ 63 ≠ 0:=by intro hc;have:=aIH (λn=>n.testBit 63) hc;simp only[aIs,aHm,Nat.zero_testBit,h2,h]at this;simp at this
  rw[h];generalize b &&& 2 ^ 63=z at hz ⊢;have:((z:Int) != 0)=true:=by simp; exact hz
  rw[this]; rfl
theorem Ld {N:Nat} {b m:Nat} {i:Int} {s:Bool} (hpl:i<=971/\m<9007199254740992) (hb:W64 b) (k:Kx4) (E:Int) (hEi:i=E) (h5 : -1100<=E) (h6:E<=1100) (h0:m ≠ 0):GH N (Px N) (Pw N) (DG N) (RS N) (b:Int) 52 2047 1075 s (m:Int) E k=k s ((kZ 64 m i).1:Int) (kZ 64 m i).2 0:=by
 unfold GH;obtain⟨t,c,hm⟩:=Jd m h0;have ht0:0<2 ^ t:=aFN t;have ht:t<64:=by
  rcases aGw t 64 with g | g
  ·exact g
  ·have g2:2 ^ 64<=2 ^ t:=aFP (by decide) g;have g3:2 ^ t*1<=2 ^ t*(2*c+1):=aFH _ (by omega);have g4:(2:Nat) ^ 64=18446744073709551616:=by decide
   omega
 rw[hm,anY N (by rw[<- hm]; omega),K9 64 t c i ht,ac (aFy (by omega)),ac aFw,aFC,show min t 64=t by omega];have e2:(2:Int) ^ t=((2 ^ t:Nat):Int):=by rw[aG0]; rfl
 rw[e2,oR,aF8 _ ht0,hEi]
theorem Q6 {N:Nat} {b:Nat} (hb:W64 b) {s:Bool} {m:Nat} {i:Int} (h:Ieee.double.read b=.number s m i) (k:Kx4) :
  FQ N (some b) k=if m=0 then k s 0 0 0 else k s ((kZ 64 m i).1:Int) (kZ 64 m i).2 0:=by
 obtain⟨h1,h2,h3⟩:=uR h;have hpl:=zK h;have hnn:isNaN b=false:=by rw[aH7]; intro hc; have:=(kd b).1 hc; omega
 have hcnb:cnb b=b:=by simp only[cnb,hnn]; rfl
 have hcls:=LB b;rw[hcnb]at hcls;have hE:b / 4503599627370496%2048<2047:=by omega
 rw[if_neg (Nat.ne_of_lt hE)]at hcls;have hc:(b / 4503599627370496%2048=0/\b%4503599627370496=m/\cls b=(if m=0 then 3 else 4)/\i = -1074)\/(b / 4503599627370496%2048 ≠ 0/\m=4503599627370496+b%4503599627370496/\cls b=5/\i=((b / 4503599627370496%2048:Nat):Int) - 1075):=by
  rcases h3 with⟨g1,g2,g3⟩ | ⟨g1,g2,g3⟩
  ·have e0:b / 4503599627370496%2048=0:=by omega
   have e1:b%4503599627370496=m:=by omega
   rw[if_pos e0,e1]at hcls;exact .inl ⟨e0,e1,hcls,by omega⟩
  ·have e0:b / 4503599627370496%2048 ≠ 0:=by omega
   rw[if_neg e0]at hcls;exact .inr ⟨e0,by omega,hcls,by omega⟩
 generalize hx:b / 4503599627370496%2048=x at hE hc;generalize hy:b%4503599627370496=y at hc;have hylt:y<4503599627370496:=by omega
 have goal0:FQ N (some b) k=(aj .i64 ((x:Int) - 1075)&&(cond ((cls b:Int)==1) (k false 0 0 4) (cond ((cls b:Int)==2) (k false 0 0 4) (cond ((cls b:Int)==3) (k s 0 0 0) (cond ((cls b:Int)==4) ((aj .i64 (((x:Int) - 1075)+1))&&(GH N (Px N) (Pw N) (DG N) (RS N) (b:Int) 52 2047 1075 s (y:Int) (((x:Int) - 1075)+1) k)) (DG N 52 2047 1075 (λ(atd:Int)=>(GH N (Px N) (Pw N) (DG N) (RS N) (b:Int) 52 2047 1075 s (aH .or .u64 (y:Int) atd) ((x:Int) - 1075) k)))))))):=by unfold FQ ZF;show U4 N (b:Int) 52 2047 1075 _=_;unfold U4 Kn;rw[K1,hcnb,aeV hb,<- h1,K0,hx,hy]
 rw[goal0,ac aFw];clear goal0 hcls h1 h2 h3 hcnb hnn;rcases hc with⟨c1,c2,c3,c4⟩ | ⟨c1,c2,c3,c4⟩
 ·rw[c3];by_cases h0:m=0
  ·rw[if_pos h0,if_pos h0]; rfl
  ·rw[if_neg h0,if_neg h0,c2];show(aj .i64 (((x:Int) - 1075)+1)&&_)=_;rw[ac aFw];exact Ld hpl hb k _ (by omega) (by omega) (by omega) h0
 ·have h0:m ≠ 0:=by omega
  rw[c3,if_neg h0];have eor:aH .or .u64 (y:Int) 4503599627370496=(m:Int):=by
   have p52:(2:Nat) ^ 52=4503599627370496:=by decide
   have:=gb y 1 52 (by omega) (by omega);rw[p52]at this;rw[show((4503599627370496*1:Nat):Int)=4503599627370496 from rfl]at this;rw[this]; omega
  rw[show((5:Int)==1)=false from rfl,aFA,show((5:Int)==2)=false from rfl,aFA,show((5:Int)==3)=false from rfl,aFA,show((5:Int)==4)=false from rfl,aFA,oO,eor];exact Ld hpl hb k _ (by omega) (by omega) (by omega) h0
theorem Xz {z:Int}:(DL z==0)=decide (z=0):=by
 unfold DL;by_cases h:z=0
 ·rw[if_pos h,aFy h]; rfl
 ·rw[if_neg h,aFz h];by_cases hl:z<0
  ·rw[if_pos hl]; rfl
  ·rw[if_neg hl]; rfl
def zL (p:Int × Int):Rat:=if 0<=p.1 then mkRat (p.2*((2 ^ p.1.toNat:Nat):Int)) 1 else mkRat p.2 (2 ^ (-p.1).toNat)
theorem anB (a b:Int):imm true a b=max a b:=by
 unfold imm; simp only[aFB];by_cases h:a<=b
 ·have:max a b=b:=by omega
  rw[this];by_cases h2:b>a
  ·rw[aFy h2]; rfl
  ·rw[aFz h2,aFA]; omega
 ·have:max a b=a:=by omega
  rw[this,aFz (by omega),aFA]
theorem alk (n:Nat):¬((n:Nat):Int)<0:=by omega
theorem Jc (g:Bool):(g != false)=g:=by cases g <;> rfl
theorem aao {B s n:Nat} (h:bv B n):bv (B+s) (n*2 ^ s):=BT h s
theorem H9 {s:Nat}:bv (s+1) (2 ^ s):=by unfold bv; rw[aFL]; have:=aFN s; omega
theorem Uh:bv 1 1:=by unfold bv; decide
theorem El:ai 1=[1]:=wQ (by decide) (by decide)
theorem anW {w:Int} (k:Kx5):kq (mkRat w 1) k=kr w 1 k:=by unfold kq;rw[Rat.mkRat_one,Rat.num_intCast,Rat.den_intCast]
theorem UE {N:Nat} (hF:Fuel N) (x:Fl) (s:Bool) (M e z:Int) (he : -1100<=e) (he2:e<=1100) (hz:bv 53 z.natAbs) (k:Kx5) :
  dR N (FQ N) (cP N) (Pv N) (Py N) (FO N) (RV N) (Pr N) (Xx N) (RU N) x s M e (decide (z<0)) (ai z.natAbs) k=kq (zL (e,z)) k:=by
 have hN:=hF.lt;unfold dR;have n1:=λkk=>zx (N:=N) (by omega) 1 (by decide) kk
 rw[show((1:Nat):Int)=1 from rfl]at n1;rw[n1,ac aFw,anB];obtain⟨t,ht⟩:∃ t:Nat,max e (0 - e)=(t:Int):=⟨(max e (0 - e)).toNat,by omega⟩
 have ew:IntKind.wrap .u64 (max e (0 - e))=(t:Int):=by rw[ar]; omega
 have htb:t<=1100:=by omega
 rw[ew,WP t false false 1 (by omega) (by rw[El]; simp; omega) (by rw[El]; simp)];unfold zl;have e1:bF false (1*2 ^ t)=((2 ^ t:Nat):Int):=by unfold bF; rw[aHz]; rfl
 rw[e1,aFz (alk (2 ^ t)),aGq];dsimp only;have hp:=aFN t;have hzb:bv 2000 z.natAbs:=dU hz (by omega);have htb2:bv 2000 (2 ^ t):=dU H9 (by omega);by_cases hc:e<0
 ·rw[aFy hc,aFB];unfold Pr ahc;rw[Jc,Fz hF (B:=2000) (by decide) _ hzb htb2 hp,mD];unfold zL;dsimp only;have:(-e).toNat=t:=by omega
  rw[if_neg (by omega),this]
 ·rw[aFz hc,aFA];unfold Xx amE;have hm:bv 4000 (z.natAbs*2 ^ t):=dU (iO hzb htb2) (by omega);rw[As hF (by decide) hzb htb2,Jc];rw[tO (decide (z<0)) _ _ (z.natAbs*2 ^ t) (λa b=>RU N false false a b (λc8 s7 c9 s8=>k c8 s7 c9 s8))];rw[zm];obtain⟨w,hw⟩:∃ w:Int,w=z*((2 ^ t:Nat):Int):=⟨_,rfl⟩
  have hwb:bv 4000 w.natAbs:=by rw[hw,aHk,aGq]; exact hm
  rw[<- hw];unfold zl RU amx;dsimp only;rw[w_ (by decide) hwb];have er:zL (e,z)=mkRat w 1:=by
   unfold zL;dsimp only;have:e.toNat=t:=by omega
   rw[if_pos (by omega),this,hw]
  rw[er,anW];unfold ad0 Y7 Pt ZV adZ Y4 kr;rw[El];by_cases hl:w<0
  ·rw[aFy hl];have h2:decide (((ai w.natAbs).length:Int)>0)=true:=by rw[vJ]; exact aFy (by omega)
   simp only[h2];rfl
  ·rw[aFz hl]; rfl
theorem xa (N:Nat) (e:Int) (k0:Bool):cP N ((0:Int)==0) e k0=k0:=rfl
theorem OP {N:Nat} (hF:Fuel N) {x:Fl} (hx:kA x=true) (hw:FW x) (k:Kx5):kN N x k=kq (zL (ofE x)) k:=by
 have hN:=hF.lt;have hex:=Ry hx;obtain⟨b,s,m,i,rfl,h⟩:=C7 hx;have ho:=Mk h;unfold kN gr;have fin:∀(M:Nat) (e:Int),M<18446744073709551616->ofE (some b)=(e,bF s M) ->
   cP N ((0:Int)==0) 4 (Pv N (M:Int) false (λ(asD:Bool) (nsr:List Int)=>(cond s (Py N asD nsr (λ(atH:Bool) (asj:List Int)=>(dR N (FQ N) (cP N) (Pv N) (Py N) (FO N) (RV N) (Pr N) (Xx N) (RU N) (some b) s (M:Int) e atH asj k))) (dR N (FQ N) (cP N) (Pv N) (Py N) (FO N) (RV N) (Pr N) (Xx N) (RU N) (some b) s (M:Int) e asD nsr k))))=kq (zL (ofE (some b))) k:=by
  intro M e hM heq;rw[heq]at hex ⊢;have h1:=hex.1;have h2:=hex.2.1;have h3:=hex.2.2;dsimp only at h1 h2 h3;have hl:(ai M).length<=1099511627776:=by
   have:bv 64 M:=by unfold bv; omega
   have:=Ge (B:=64) (by decide) this; omega
  rw[xa,adu (by omega) M hM];cases s
  ·rw[aFA];have e1:bF false M=(M:Int):=rfl;rw[e1]at h3 ⊢;have:=UE hF (some b) false (M:Int) e (M:Int) (by omega) (by omega) h3 k;rw[aFz (by omega:¬(M:Int)<0),aGq]at this;exact this
  ·rw[aFB,WQ false M hl];have e1 : -(bF false M)=bF true M:=rfl;rw[e1];exact UE hF (some b) true (M:Int) e (bF true M) (by omega) (by omega) h3 k
 rw[Q6 (hw b rfl) h];by_cases h0:m=0
 ·rw[if_pos h0];rw[if_pos h0]at ho;refine fin 0 0 (by decide) ?_;rw[ho];cases s <;> rfl
 ·rw[if_neg h0];rw[if_neg h0]at ho;have hpl:=zK h;have hm:m<2 ^ 64:=by
   have:(2:Nat) ^ 64=18446744073709551616:=by decide
   omega
  obtain⟨g1,g2,g3,g4⟩:=xi 64 m i h0 hm;exact fin _ _ (by omega) ho
theorem ai8 (N:Nat) (k:Kz4):qX N k=k (ak 1):=by rw[aa6]; rfl
theorem OL {N:Nat} (hF:Fuel N) {z:Int} (hz:bv 30000 z.natAbs) (b1 b2:Bool) (k:Kx5) :
  UT N b1 b2 (decide (z<0)) (ak z.natAbs) k=kqR (mkRat z 1) k:=by
 unfold UT YP;rw[ai8,Aq hF (B:=30000) (by decide) _ hz (dU Uh (by decide)) (by decide),mD]
theorem WT {N:Nat} (hF:Fuel N) {x:Fl} (hx:kA x=true) (hw:FW x) (k:Kx5):Vf N x k=kqR (zL (ofE x)) k:=by
 have hN:=hF.lt;have hex:=Ry hx;unfold Vf ZC;rw[anX (by omega) hx hw];obtain⟨p,hp⟩:∃ p,p=ofE x:=⟨_,rfl⟩
 rw[<- hp]at hex ⊢;obtain⟨e,z⟩:=p;have h1:=hex.1;have h2:=hex.2.1;have h3:=hex.2.2;dsimp only at h1 h2 h3;unfold exK ad2 Y9;dsimp only;by_cases hc:e>=0
 ·rw[aFy hc,aFB];have hl:=λk0 k1 h0 he2=>ai2 (N:=N) (by omega) hex (e:=0) (by omega) (by decide) k0 k1 h0 he2
  dsimp only at hl;rw[hl]
  ·unfold AP;have hb:=I8 hex (e:=0) (by omega);dsimp only;rw[OL hF (dU hb (by decide))];unfold zL yR;dsimp only;rw[if_pos hc,Int.sub_zero,aG0];rfl
  ·intro _; rfl
  ·intro h; omega
 ·rw[aFz hc,aFA];have n1:=λkk=>IZ (N:=N) 1 (by decide) (by have:=xF (B:=1) (n:=1) (by decide) (by unfold bv; decide);exact⟨by omega,by omega⟩) (by omega) kk
  rw[show((1:Nat):Int)=1 from rfl]at n1;rw[n1,ac aFw];obtain⟨t,ht⟩:∃ t:Nat,(0 - e)=(t:Int):=⟨(0 - e).toNat,by omega⟩
  have ew:IntKind.wrap .u64 (0 - e)=(t:Int):=by rw[ar]; omega
  rw[ew,KW t false false 1 (KB (B:=1) (by omega) (by omega) (by unfold bv; decide))];unfold AP;have e1:bF false (1*2 ^ t)=((2 ^ t:Nat):Int):=by unfold bF; rw[aHz]; rfl
  rw[e1,aFz (alk (2 ^ t)),aGq];dsimp only;have htp:=aFN t;have hzb:bv 2000 z.natAbs:=dU h3 (by omega);have htb2:bv 2000 (2 ^ t):=dU H9 (by omega);unfold an7 amI;rw[Jc,Aq hF (B:=2000) (by decide) _ hzb htb2 (Nat.ne_of_gt htp),mD];unfold zL;dsimp only;have:(-e).toNat=t:=by omega
  rw[if_neg (by omega),this]
theorem CC {B:Nat} {z:Int} {d:Nat} (hz:bv B z.natAbs) (hd:bv B d) (h0:0<d):Bq B (mkRat z d):=by
 refine⟨?_,?_⟩
 ·rw[aIJ,if_neg (by omega)];have h1:((Nat.gcd z.natAbs d:Nat):Int)∣z:=Int.ofNat_dvd_left.2 (aGm _ _);rw[aGK,Int.natAbs_ediv_of_dvd h1,aGq];exact eE hz
 ·rw[aIK,if_neg (by omega)];exact eE hd
theorem aji {x:Fl} (hx:kA x=true):Bq 1200 (zL (ofE x)):=by
 have hex:=Ry hx;obtain⟨p,hp⟩:∃ p,p=ofE x:=⟨_,rfl⟩
 rw[<- hp]at hex ⊢;obtain⟨e,z⟩:=p;have h1:=hex.1;have h2:=hex.2.1;have h3:=hex.2.2;dsimp only at h1 h2 h3;unfold zL;dsimp only;split
 ·refine CC ?_ (dU Uh (by decide)) (by decide);rw[aHk,aGq];exact dU (aao h3) (by omega)
 ·exact CC (dU h3 (by omega)) (dU H9 (by omega)) (aFN _)
theorem Lt {A B:Nat} {x y:Rat} (hx:Bq A x) (hy:Bq B y):Bq (A+B) (x*y):=by rw[Rat.mul_def'];refine CC ?_ (iO hx.2 hy.2) (aHv x.den_pos y.den_pos);rw[aHk]; exact iO hx.1 hy.1
theorem ama {B:Nat} {y:Rat} (hy:Bq B y) (h:y.num ≠ 0):Bq B (y⁻¹):=by obtain⟨i1,i2,i3⟩:=IL h;exact⟨by rw[i1]; exact hy.2,by rw[i2]; exact hy.1⟩
theorem PV {A B:Nat} {x y:Rat} (hx:Bq A x) (hy:Bq B y) (h:y.num ≠ 0):Bq (A+B) (x / y):=by rw[Rat.div_def]; exact Lt hx (ama hy h)
theorem amb {B:Nat} {y:Rat} (hy:Bq B y):Bq B (-y):=⟨by rw[Rat.neg_num,aH9]; exact hy.1,hy.2⟩
theorem al_ {A B:Nat} {x y:Rat} (hx:Bq A x) (hy:Bq B y):Bq (A+B+1) (x+y):=by rw[Rat.add_def'];refine CC (KA (Af hx.1 hy.2) ?_) (dU (iO hx.2 hy.2) (by omega)) (aHv x.den_pos y.den_pos);rw[aHp]; exact Af hy.1 hx.2
theorem XO {A B:Nat} {x y:Rat} (hx:Bq A x) (hy:Bq B y):Bq (A+B+1) (x - y):=by rw[Rat.sub_eq_add_neg]; exact al_ hx (amb hy)
theorem SU {B:Nat}:Bq (B+1) 0:=⟨aFN _,by show 1<2 ^ (B+1); exact Nat.one_lt_two_pow (by omega)⟩
def enc (x:Rat):RY1:=((decide (x.num<0),ai x.num.natAbs),(false,ai x.den))
def iQ (x:Rat):RY2:=((decide (x.num<0),ak x.num.natAbs),(false,ak x.den))
def mat {α:Type} (g:Rat->α) (n:Nat) (f:Nat->Nat->Rat):List α:=(List.range (n*n)).map (λt=>g (f (t / n) (t%n)))
theorem xg {α:Type} (g:Rat->α) (n:Nat) (f:Nat->Nat->Rat):(mat g n f).length=n*n:=by unfold mat; rw[aHs,List.length_range]
theorem w6 {n i j:Nat} (hi:i<n) (hj:j<n):i*n+j<n*n:=by have h1:(i+1)*n<=n*n:=aFF _ hi;rw[aF2]at h1; omega
theorem Uy {n i j:Nat} (hj:j<n):(i*n+j) / n=i:=by rw[aFD,aIu (by omega),aF4 hj,aF5]
theorem Uz {n i j:Nat} (hj:j<n):(i*n+j)%n=j:=by rw[aFD,aHH,aFJ hj]
theorem qT {α:Type} (g:Rat->α) (n:Nat) (f:Nat->Nat->Rat) {i j:Nat} (hi:i<n) (hj:j<n) (z:α):(mat g n f).getD (i*n+j) z=g (f i j):=by have h:=w6 hi hj;unfold mat;rw[List.getD_eq_getElem?_getD,List.getElem?_map,List.getElem?_range h];simp only[aGZ,aGj,Uy hj,Uz hj]
theorem nX {α:Type} (g:Rat->α) (n:Nat) {f f':Nat->Nat->Rat} (h:∀ a b,a<n->b<n->f a b=f' a b):mat g n f=mat g n f':=by
 unfold mat;apply aIj;intro t ht;have ht:=List.mem_range.1 ht;have hn:0<n:=by
  rcases aGR n with h0 | h0
  ·rw[h0]at ht; omega
  ·exact h0
 rw[h _ _ (aHr ht) (aFO _ hn)]
theorem UK {α:Type} (g:Rat->α) (n:Nat) (f:Nat->Nat->Rat) {i j:Nat} (hi:i<n) (hj:j<n) (v:Rat):(mat g n f).set (i*n+j) (g v)=mat g n (λa b=>if a=i/\b=j then v else f a b):=by
 have h:=w6 hi hj;apply List.ext_getElem?;intro t;by_cases ht:t<n*n
 ·have hn:0<n:=by omega
  rw[List.getElem?_set];unfold mat;rw[List.getElem?_map,List.getElem?_map,List.getElem?_range ht];simp only[aHs,List.length_range,aGZ];by_cases he:i*n+j=t
  ·rw[if_pos he,if_pos h,<- he,Uy hj,Uz hj,if_pos ⟨rfl,rfl⟩]
  ·rw[if_neg he];have:¬(t / n=i/\t%n=j):=by rintro ⟨h1,h2⟩;apply he;rw[<- h1,<- h2,aFD];exact aGv t n
   rw[if_neg this]
 ·rw[List.getElem?_eq_none (by rw[aIm,xg]; omega),List.getElem?_eq_none (by rw[xg]; omega)]
theorem zQ {n:Nat} (h:n<=1000):n*n<=1000000:=by have:n*n<=1000*1000:=aGu h h;omega
theorem zi (i j n:Nat):(i:Int)*(n:Int)+(j:Int)=((i*n+j:Nat):Int):=by rw[Int.natCast_add,aFV]
theorem zj {n i j:Nat} (hn:n<=1000) (hi:i<n) (hj:j<n):aj .i64 ((i:Int)*(n:Int))=true/\aj .i64 (((i*n+j:Nat):Int))=true:=by have h1:=zQ hn;have h2:=w6 hi hj;rw[<- aFV];exact⟨af (by omega) (by omega),af (by omega) (by omega)⟩
theorem xb {N n i j:Nat} (hn:n<=1000) (hi:i<n) (hj:j<n) (f:Nat->Nat->Rat) (k:Kx5) :
  bC N n n i j (mat enc n f) k=kq (f i j) k:=by
 obtain⟨h1,h2⟩:=zj hn hi hj;have h3:=w6 hi hj;unfold bC j9;rw[zi,ac h1,ac h2,xg,aFC,ac aFx,ac (aFy h3),qT enc n f hi hj];rfl
theorem ai_ {N n i j:Nat} (hn:n<=1000) (hi:i<n) (hj:j<n) (f:Nat->Nat->Rat) (v:Rat) (k:List RY1->Bool) :
  hK N n n i j (decide (v.num<0)) (ai v.num.natAbs) false (ai v.den) (mat enc n f) k=k (mat enc n (λa b=>if a=i/\b=j then v else f a b)):=by
 obtain⟨h1,h2⟩:=zj hn hi hj;have h3:=w6 hi hj;unfold hK j_;rw[zi,ac h1,ac h2,xg,aFC,ac aFx,ac (aFy h3)];exact aIH k (UK enc n f hi hj v)
theorem Ao {N n i j:Nat} (hn:n<=1000) (hi:i<n) (hj:j<n) (f:Nat->Nat->Rat) (k:Kz1) :
  Ps N n n i j (mat iQ n f) k=k (i*n+j):=by
 obtain⟨h1,h2⟩:=zj hn hi hj;have h3:=w6 hi hj;unfold Ps amo;rw[zi,ac h1,ac h2,xg,aFC,ac aFx,ac (aFy h3)]
theorem Mq (l:List RY2) (i:Nat):List.set l i (((List.getD l i ((false,[]),(false,[]))).1.1,(List.getD l i ((false,[]),(false,[]))).1.2),((List.getD l i ((false,[]),(false,[]))).2.1,(List.getD l i ((false,[]),(false,[]))).2.2))=l:=by
 show List.set l i (List.getD l i ((false,[]),(false,[])))=l;apply List.ext_getElem?;intro t;rw[List.getElem?_set];by_cases h:i=t
 ·subst h;rw[if_pos rfl];by_cases hl:i<l.length
  ·rw[if_pos hl,List.getD_eq_getElem?_getD,List.getElem?_eq_getElem hl]; rfl
  ·rw[if_neg hl,List.getElem?_eq_none (by omega)]
 ·rw[if_neg h]
theorem Cd {σ:Type} {step:σ->(σ->Bool)->Bool} (C:Nat->σ) (m n:Nat) (hmn:m<=n) {N:Nat} (hn:n<N) {out:Bool} (hs:∀ i,m<=i->i<n -> ∀ K:σ->Bool,step (C i) K=K (C (i+1))) (hx:∀ K,step (C n) K=out):ah N step (C m)=out:=by have:=ke (step:=step) (λi=>C (m+i)) (n - m) (N:=N) (by omega) (out:=out) (λi hi K=>hs (m+i) (by omega) (by omega) K) (λK=>by show step (C (m+(n - m))) K=out; rw[show m+(n - m)=n by omega]; exact hx K);exact this
def Eh (f:Nat->Nat->Rat) (i c:Nat) (x:Rat) (t:Nat):Nat->Nat->Rat:=λa b=>if a=i/\b<t then f i b+f c b*x else f a b
def kt (f:Nat->Nat->Rat) (c m:Nat):Nat->Nat->Rat:=λa b=>if c<a/\a<m then f a b - f a c / f c c*f c b else f a b
def xw (B n:Nat) (f:Nat->Nat->Rat):Prop:=∀ a b,a<n->b<n->Bq B (f a b)
theorem adx {N B n i c:Nat} (hF:Fuel N) (hB:B<=300000000000) (hn:n<=1000) (hi:i<n) (hc:c<n) (hic:c ≠ i) {f:Nat->Nat->Rat} (hf:xw B n f) {x:Rat} (hx:Bq (2*B) x) (k:List RY1->Bool) :
  cK N n n i c (decide (x.num<0)) (ai x.num.natAbs) false (ai x.den) (mat enc n f) k=k (mat enc n (Eh f i c x n)):=by
 have hN:=hF.lt;unfold cK gY;have h0:mat enc n f=mat enc n (Eh f i c x 0):=nX _ _ (λa b _ _=>by unfold Eh; rw[if_neg (by omega)]);rw[h0];refine ke (λt:Nat=>((t:Int),mat enc n (Eh f i c x t))) n (by omega) ?_ ?_
 ·intro t ht K;unfold dS;dsimp only;rw[aFy (by omega:(t:Int)<(n:Int)),aFB,xb hn hi ht];have e1:Eh f i c x t i t=f i t:=by unfold Eh; rw[if_neg (by omega)]
  have e2:Eh f i c x t c t=f c t:=by unfold Eh; rw[if_neg (by omega)]
  unfold kq kr;dsimp only;rw[xb hn hc ht,e1,e2];unfold kq kr;dsimp only;rw[ai5 hF (B:=2*B) (by omega) ((hf c t hc ht).mono (by omega)) hx];unfold kq kr;dsimp only;rw[ai4 hF (B:=3*B) (by omega) ((hf i t hi ht).mono (by omega)) ((Lt (hf c t hc ht) hx).mono (by omega))];unfold kq kr;dsimp only;rw[ai_ hn hi ht,ac aFw];have e3:mat enc n (λa b=>if a=i/\b=t then f i t+f c t*x else Eh f i c x t a b)=mat enc n (Eh f i c x (t+1)):=nX _ _ (λa b _ _=>by
   unfold Eh;by_cases h:a=i/\b=t
   ·rw[if_pos h,if_pos (by omega),h.2]
   ·rw[if_neg h];by_cases h2:a=i/\b<t
    ·rw[if_pos h2,if_pos (by omega)]
    ·rw[if_neg h2,if_neg (by omega)])
  rw[e3];rfl
 ·intro K;unfold dS;dsimp only;rw[aFz (by omega:¬(n:Int)<(n:Int)),aFA]
def uQ (f:Nat->Nat->Rat) (i c:Nat) (r:Rat) (t:Nat):Nat->Nat->Rat:=λa b=>if a=i/\b<t then f i b - r*f c b else f a b
theorem W4 {N B n i c:Nat} (hF:Fuel N) (hB:B<=300000000000) (hn:n<=1000) (hi:i<n) (hc:c<n) (hic:c ≠ i) {f:Nat->Nat->Rat} (hf:xw B n f) {r:Rat} (hx:Bq (2*B) r) (k:List RY2->Bool) :
  RJ N n n i c (mat iQ n f) (decide (r.num<0)) (ak r.num.natAbs) false (ak r.den) k=k (mat iQ n (uQ f i c r n)):=by
 have hN:=hF.lt;unfold RJ ahd;have h0:mat iQ n f=mat iQ n (uQ f i c r 0):=nX _ _ (λa b _ _=>by unfold uQ; rw[if_neg (by omega)]);rw[h0];refine ke (λt:Nat=>((t:Int),mat iQ n (uQ f i c r t))) n (by omega) ?_ ?_
 ·intro t ht K;unfold JG;dsimp only;rw[aFy (by omega:(t:Int)<(n:Int)),aFB,Ao hn hi ht,Ao hn hi ht,Ao hn hc ht,Mq];have e1:uQ f i c r t i t=f i t:=by unfold uQ; rw[if_neg (by omega)]
  have e2:uQ f i c r t c t=f c t:=by unfold uQ; rw[if_neg (by omega)]
  rw[qT iQ n _ hi ht,qT iQ n _ hc ht,e1,e2];unfold iQ;dsimp only;rw[adA hF (B:=2*B) (by omega) hx ((hf c t hc ht).mono (by omega))];unfold kqR krR;dsimp only;rw[ac (aFy rfl),adH hF (B:=3*B) (by omega) ((hf i t hi ht).mono (by omega)) ((Lt hx (hf c t hc ht)).mono (by omega))];unfold kqR krR;dsimp only;rw[ac aFw];have e4:=UK iQ n (uQ f i c r t) hi ht (f i t - r*f c t);have e3:mat iQ n (λa b=>if a=i/\b=t then f i t - r*f c t else uQ f i c r t a b)=mat iQ n (uQ f i c r (t+1)):=nX _ _ (λa b _ _=>by
   unfold uQ;by_cases h:a=i/\b=t
   ·rw[if_pos h,if_pos (by omega),h.2]
   ·rw[if_neg h];by_cases h2:a=i/\b<t
    ·rw[if_pos h2,if_pos (by omega)]
    ·rw[if_neg h2,if_neg (by omega)])
  rw[e3]at e4;exact aIH (λl=>K ((t:Int)+1,l)) e4
 ·intro K;unfold JG;dsimp only;rw[aFz (by omega:¬(n:Int)<(n:Int)),aFA]
def BP (g:Nat->Rat):Nat->Nat->Bool
 | i,0=>true
 | i,d+1=>decide (g i=0)&&BP g (i+1) d
theorem HT {g h:Nat->Rat}:∀ d i,(∀ j,i<=j->j<i+d->g j=h j)->BP g i d=BP h i d
 | 0,i,_=>rfl
 | d+1,i,e=>by unfold BP;rw[e i (aFM _) (by omega),HT d (i+1) (λj h1 h2=>e j (by omega) (by omega))]
def DW (n:Nat):Nat->Nat->Int->(Nat->Nat->Rat)->Int
 | 0,c,s,f=>s
 | d+1,c,s,f=>if (f c c).num<0 then 1 else if f c c=0 then(if BP (λi=>f i c) (c+1) d=true then DW n d (c+1) 2 f else 1)else DW n d (c+1) s (kt f c n)
theorem Pz (z:Int):decide (DL z<0)=decide (z<0):=by
 unfold DL;by_cases h0:z=0
 ·rw[if_pos h0,h0]
 ·rw[if_neg h0];by_cases h:z<0
  ·rw[if_pos h,aFy h]; rfl
  ·rw[if_neg h,aFz h]; rfl
theorem zG {x:Rat}:(x.num=0)↔x=0:=Rat.num_eq_zero
theorem zN (x:Rat):(DL x.num==0)=decide (x=0):=by
 rw[Xz];by_cases h:x=0
 ·rw[aFy h,aFy (zG.2 h)]
 ·rw[aFz h,aFz (λg=>h (zG.1 g))]
theorem ajy (x:Rat):(DL x.num != 0) = !decide (x=0):=by rw[<- zN]; rfl
theorem Ak {B n c m:Nat} {f:Nat->Nat->Rat} (hf:xw B n f) (hc:c<n) (h0:f c c ≠ 0):xw (4*B+1) n (kt f c m):=by
 intro a b ha hb;unfold kt;split
 ·exact(XO (hf a b ha hb) (Lt (PV (hf a c ha hc) (hf c c hc hc) (λh=>h0 (zG.1 h))) (hf c b hc hb))).mono (by omega)
 ·exact(hf a b ha hb).mono (by omega)
theorem Iu (f:Nat->Nat->Rat) (c:Nat) {α:Type} (g:Rat->α) (n:Nat):mat g n (kt f c (c+1))=mat g n f:=nX _ _ (λa b _ _=>by unfold kt; rw[if_neg (by omega)])
theorem yQ {f:Nat->Nat->Rat} {c i:Nat} (b:Nat):kt f c i i b=f i b:=by unfold kt; rw[if_neg (by omega)]
theorem Iv {f:Nat->Nat->Rat} {c i:Nat} (b:Nat):kt f c i c b=f c b:=by unfold kt; rw[if_neg (by omega)]
theorem En {f:Nat->Nat->Rat} {c i a b:Nat} (h:c<i):kt f c (i+1) a b=if a=i then f i b - f i c / f c c*f c b else kt f c i a b:=by
 unfold kt;by_cases h1:a=i
 ·rw[if_pos h1,if_pos (by omega),h1]
 ·rw[if_neg h1];by_cases h2:c<a/\a<i
  ·rw[if_pos h2,if_pos (by omega)]
  ·rw[if_neg h2,if_neg (by omega)]
theorem adS (x y p q:Rat):q+y*(0 - x / p)=q - x / p*y:=by grind
theorem adR (p q y:Rat):q - 0 / p*y=q:=by grind
theorem adT (x y p:Rat):x / p*y=y / p*x:=by grind
theorem adF {N B n c:Nat} (hF:Fuel N) (hB:4*B+1<=300000000000) (hn:n<=1000) (hc:c<n) (s:Int) (t1 t2:Int) {f:Nat->Nat->Rat} (hf:xw B n f) (h0:f c c ≠ 0) (e0:Int->List RY1->Bool) (e1:List RY1->Bool) :
  ah N (aF N (bC N) (bJ N) (gw N) (cA N) (bI N) (cK N) s (c:Int) t1 t2 (n:Int) (n:Int) (decide ((f c c).num<0)) (ai (f c c).num.natAbs) false (ai (f c c).den) e0 e1) (((c+1:Nat):Int),mat enc n f)=e1 (mat enc n (kt f c n)):=by
 have hN:=hF.lt;rw[<- Iu f c enc n];refine Cd (λi:Nat=>((i:Int),mat enc n (kt f c i))) (c+1) n (by omega) (by omega) ?_ ?_
 ·intro i hi1 hi2 K;unfold aF;dsimp only;rw[aFy (by omega:(i:Int)<(n:Int)),aFB,xb hn hi2 hc,yQ];unfold kq kr;dsimp only;rw[qO,zN];by_cases hz:f i c=0
  ·rw[aFy hz,aFB,ac aFw];have:mat enc n (kt f c (i+1))=mat enc n (kt f c i):=nX _ _ (λa b _ _=>by
    rw[En (by omega)];by_cases h1:a=i
    ·rw[if_pos h1,h1,yQ,hz,adR]
    ·rw[if_neg h1])
   rw[this];rfl
  ·rw[aFz hz,aFA,qO,zN,aFz h0,aFA,Ri hF];unfold kq kr;dsimp only;have hp:(f c c).num ≠ 0:=λh=>h0 (zG.1 h)
   have bx:=hf i c hi2 hc;have bp:=hf c c hc hc;have bq:=PV bx bp hp;rw[ai9 hF (B:=B) (by omega) bx bp hp];unfold kq kr;dsimp only;have bz:Bq (B+B+1) 0:=SU;rw[OR hF (B:=B+B+1) (by omega) bz (bq.mono (by omega))];unfold kq kr;dsimp only;have bs:Bq (2*(4*B+1)) (0 - f i c / f c c):=(XO (A:=1) (SU (B:=0)) bq).mono (by omega);rw[adx hF (B:=4*B+1) hB hn hi2 hc (by omega) (Ak hf hc h0) bs,ac aFw];have:mat enc n (kt f c (i+1))=mat enc n (Eh (kt f c i) i c (0 - f i c / f c c) n):=nX _ _ (λa b _ hb=>by
    rw[En (by omega)];unfold Eh;by_cases h1:a=i
    ·rw[if_pos h1,if_pos ⟨h1,hb⟩,yQ,Iv,adS]
    ·rw[if_neg h1,if_neg (by omega)])
   rw[this];rfl
 ·intro K;unfold aF;dsimp only;rw[aFz (by omega:¬(n:Int)<(n:Int)),aFA]
theorem W8 {N n c:Nat} (hF:Fuel N) (hn:n<=1000) (hc:c<n) (s:Int) (t1 t2:Int) {f:Nat->Nat->Rat} (h0:f c c=0) (e0:Int->List RY1->Bool) (e1:List RY1->Bool):∀(d i M:Nat),i+d=n->d<M ->
  ah M (aF N (bC N) (bJ N) (gw N) (cA N) (bI N) (cK N) s (c:Int) t1 t2 (n:Int) (n:Int) (decide ((f c c).num<0)) (ai (f c c).num.natAbs) false (ai (f c c).den) e0 e1) ((i:Int),mat enc n f)=if BP (λi=>f i c) i d=true then e1 (mat enc n f)else e0 1 (mat enc n f):=by
 intro d;induction d with
 | zero=>
  intro i M hi hM;cases M with
  | zero=>omega
  | succ M=>
   show aF _ _ _ _ _ _ _ _ _ _ _ _ _ _ _ _ _ _ _ ((i:Int),mat enc n f) (ah M _)=_;unfold aF BP;dsimp only;rw[aFz (by omega:¬(i:Int)<(n:Int)),aFA,if_pos rfl]
 | succ d ih=>
  intro i M hi hM;cases M with
  | zero=>omega
  | succ M=>
   have hi2:i<n:=by omega
   show aF _ _ _ _ _ _ _ _ _ _ _ _ _ _ _ _ _ _ _ ((i:Int),mat enc n f) (ah M _)=_;rw[aF];rw[aFy (by omega:(i:Int)<(n:Int)),aFB,xb hn hi2 hc];unfold kq kr;dsimp only;rw[qO,zN,BP];by_cases hz:f i c=0
   ·rw[aFy hz,aFB,ac aFw,aGB];exact ih (i+1) M (by omega) (by omega)
   ·rw[aFz hz,aFA,qO,zN,aFy h0,aFB,aH8,if_neg (by decide)]
theorem L8 {N n:Nat} (hF:Fuel N) (hn:n<=1000) (k:Kz0):∀(d c B M:Nat) (s:Int) (f:Nat->Nat->Rat),c+d=n->d<M->xw B n f->(B+1)*4 ^ d<=100000000000 ->
  ah M (aV N (bC N) (bJ N) (gw N) (cA N) (bI N) (cK N) (n:Int) (n:Int) (n:Int) (λt _=>k t) (λt _=>k t)) (s,(c:Int),mat enc n f)=k (DW n d c s f):=by
 intro d;induction d with
 | zero=>
  intro c B M s f hc hM _ _;cases M with
  | zero=>omega
  | succ M=>
   show aV _ _ _ _ _ _ _ _ _ _ _ _ (s,(c:Int),mat enc n f) (ah M _)=_;rw[aV];rw[aFz (by omega:¬(c:Int)<(n:Int)),aFA];rfl
 | succ d ih=>
  intro c B M s f hc hM hf hB;cases M with
  | zero=>omega
  | succ M=>
   have hN:=hF.lt;have hcn:c<n:=by omega
   have h4:(4*B+1+1)*4 ^ d<=100000000000:=by
    have h1:(4*B+1+1)*4 ^ d<=(B+1)*4*4 ^ d:=aFF _ (by omega);have h2:(B+1)*4*4 ^ d=(B+1)*4 ^ (d+1):=by rw[aFL,aFK,aFD 4 (4 ^ d)]
    omega
   have hB2:4*B+1+1<=100000000000:=by have:0<4 ^ d:=aGE (by decide);have h1:(4*B+1+1)*1<=(4*B+1+1)*4 ^ d:=aFH _ this;omega
   show aV _ _ _ _ _ _ _ _ _ _ _ _ (s,(c:Int),mat enc n f) (ah M _)=_;rw[aV];rw[aFy (by omega:(c:Int)<(n:Int)),aFB,xb hn hcn hcn];unfold kq kr;dsimp only;rw[qO,Pz,DW];by_cases hneg:(f c c).num<0
   ·rw[aFy hneg,aFB,if_pos hneg]
   ·rw[aFz hneg,aFA,if_neg hneg,ac aFw];by_cases h0:f c c=0
    ·rw[if_pos h0];have hr:=λe0 e1=>W8 hF hn hcn s (n:Int) (c:Int) h0 e0 e1 d (c+1) N (by omega) (by omega)
     rw[aFz hneg]at hr;rw[show(c:Int)+1=((c+1:Nat):Int) from rfl,hr];by_cases hz:BP (λi=>f i c) (c+1) d=true
     ·rw[if_pos hz,if_pos hz];have hs:=qO (N:=N) (f c c);rw[aFz hneg]at hs;rw[hs,zN,aFy h0,aFB,ac aFw];exact ih (c+1) B M 2 f (by omega) (by omega) hf (by have:(B+1)*4 ^ d<=(4*B+1+1)*4 ^ d:=aFF _ (by omega);omega)
     ·rw[if_neg hz,if_neg hz]
    ·rw[if_neg h0];have hr:=λe0 e1=>adF hF (by omega) hn hcn s (n:Int) (c:Int) hf h0 e0 e1
     rw[aFz hneg]at hr;rw[show(c:Int)+1=((c+1:Nat):Int) from rfl,hr];have hs:=qO (N:=N) (f c c);rw[aFz hneg]at hs;rw[hs,zN,aFz h0,aFA,ac aFw];exact ih (c+1) (4*B+1) M s (kt f c n) (by omega) (by omega) (Ak hf hcn h0) h4
theorem adI {N B n:Nat} (hF:Fuel N) (hB:B<=300000000000) (hn:n<=1000) {f:Nat->Nat->Rat} (hf:xw B n f) (hs:∀ a b,a<n->b<n->f a b=f b a) (k:Bool) :
  ep N n n (mat enc n f) k=k:=by
 have hN:=hF.lt;unfold ep eg;refine ke (λt:Nat=>(t:Int)) n (by omega) ?_ ?_
 ·intro i hi K;unfold cw;dsimp only;rw[aFy (by omega:(i:Int)<(n:Int)),aFB];refine ke (λt:Nat=>(t:Int)) i (by omega) ?_ ?_
  ·intro j hj K';have hj2:j<n:=by omega
   unfold cz;dsimp only;rw[aFy (by omega:(j:Int)<(i:Int)),aFB,xb hn hi hj2];unfold kq kr;dsimp only;rw[xb hn hj2 hi];unfold kq kr;dsimp only;rw[OR hF (B:=B) (by omega) (hf i j hi hj2) (hf j i hj2 hi)];unfold kq kr;dsimp only;have e:DL (f i j - f j i).num=0:=by
    have:f i j - f j i=0:=by rw[hs i j hi hj2]; grind
    rw[this]; rfl
   rw[qO,e,xa,ac aFw];rfl
  ·intro K';unfold cz;dsimp only;rw[aFz (by omega:¬(i:Int)<(i:Int)),aFA,ac aFw];rfl
 ·intro K;unfold cw;dsimp only;rw[aFz (by omega:¬(n:Int)<(n:Int)),aFA]
theorem W0 {N B n:Nat} (hF:Fuel N) (hn:n<=1000) {f:Nat->Nat->Rat} (hf:xw B n f) (hs:∀ a b,a<n->b<n->f a b=f b a) (hB:(B+1)*4 ^ n<=100000000000) (k:Kz0) :
  gI N n n (mat enc n f) (λt _=>k t)=k (DW n n 0 3 f):=by
 have hN:=hF.lt;have hB2:B<=300000000000:=by have:0<4 ^ n:=aGE (by decide);have h1:(B+1)*1<=(B+1)*4 ^ n:=aFH _ this;omega
 unfold gI jD;have e:((n:Int)==(n:Int))=((0:Int)==0):=by simp
 rw[e,xa,adI hF hB2 hn hf hs];unfold ik eK;exact L8 hF hn k n 0 B N 3 f (by omega) (by omega) hf hB
theorem W9 {N B n c:Nat} (hF:Fuel N) (hB:4*B+1<=300000000000) (hn:n<=1000) (hc:c<n) (s:Int) {f:Nat->Nat->Rat} (hf:xw B n f) (h0:f c c ≠ 0) (e0:List RY2->Bool) :
  ah N (E3 N (RO N) (Ps N) (RW N) (RI N) (RJ N) s (c:Int) (c*n+c) (n:Int) (n:Int) e0) (((c+1:Nat):Int),mat iQ n f)=e0 (mat iQ n (kt f c n)):=by
 have hN:=hF.lt;rw[<- Iu f c iQ n];refine Cd (λi:Nat=>((i:Int),mat iQ n (kt f c i))) (c+1) n (by omega) (by omega) ?_ ?_
 ·intro i hi1 hi2 K;unfold E3;dsimp only;have hne:¬(c*n+c=i*n+c):=by
   intro h;have:c*n=i*n:=by omega
   have:=aG2 (by omega) this;omega
  rw[aFy (by omega:(i:Int)<(n:Int)),aFB,Ao hn hi2 hc,aFz hne,ac (a:=(!false&&true)) rfl,Mq,Mq,qT iQ n _ hi2 hc,qT iQ n _ hc hc,yQ,Iv];have hp:(f c c).num ≠ 0:=λh=>h0 (zG.1 h)
  have bx:=hf i c hi2 hc;have bp:=hf c c hc hc;have bq:=PV bx bp hp;have hq:=λkk=>adE (N:=N) (b1:=false) (b2:=false) hF (B:=B) (by omega) bx bp hp kk
  have he:∀ x:Rat,iQ x=((decide (x.num<0),ak x.num.natAbs),(false,ak x.den)):=λx=>rfl
  rw[he (f i c),he (f c c)];dsimp only;rw[hq];unfold kqR krR;dsimp only;rw[W4 hF (B:=4*B+1) hB hn hi2 hc (by omega) (Ak hf hc h0) (bq.mono (by omega)),ac aFw];have:mat iQ n (kt f c (i+1))=mat iQ n (uQ (kt f c i) i c (f i c / f c c) n):=nX _ _ (λa b _ hb=>by
   rw[En (by omega)];unfold uQ;by_cases h1:a=i
   ·rw[if_pos h1,if_pos ⟨h1,hb⟩,yQ,Iv]
   ·rw[if_neg h1,if_neg (by omega)])
  rw[this];rfl
 ·intro K;unfold E3;dsimp only;rw[aFz (by omega:¬(n:Int)<(n:Int)),aFA]
theorem Rf {N n c:Nat} (hF:Fuel N) (hn:n<=1000) (hc:c<n) {f:Nat->Nat->Rat} (e0:Int->Bool) (e1:Bool):∀(d i M:Nat),i+d=n->d<M ->
  ah M (zS N (RO N) (Ps N) (RW N) (RI N) (RJ N) (c:Int) (n:Int) (n:Int) (mat iQ n f) e0 e1) ((i:Int))=if BP (λi=>f c i) i d=true then e1 else e0 1:=by
 intro d;induction d with
 | zero=>
  intro i M hi hM;cases M with
  | zero=>omega
  | succ M=>
   show zS _ _ _ _ _ _ _ _ _ _ _ _ (i:Int) (ah M _)=_;unfold zS BP;dsimp only;rw[aFz (by omega:¬(i:Int)<(n:Int)),aFA,if_pos rfl]
 | succ d ih=>
  intro i M hi hM;cases M with
  | zero=>omega
  | succ M=>
   have hi2:i<n:=by omega
   show zS _ _ _ _ _ _ _ _ _ _ _ _ (i:Int) (ah M _)=_;rw[zS];have he:∀ x:Rat,iQ x=((decide (x.num<0),ak x.num.natAbs),(false,ak x.den)):=λx=>rfl
   rw[aFy (by omega:(i:Int)<(n:Int)),aFB,Ao hn hc hi2,qT iQ n _ hc hi2,he (f c i)];dsimp only;rw[EM,ajy,BP];by_cases hz:f c i=0
   ·rw[aFy hz,aGn,aFA,ac aFw,aGB];exact ih (i+1) M (by omega) (by omega)
   ·rw[aFz hz,aGd,aFB,aH8,if_neg (by decide)]
def amQ (n c:Nat) (f:Nat->Nat->Rat):Prop:=∀ a b,c<=a->c<=b->a<n->b<n->f a b=f b a
theorem aa9 {n c:Nat} {f:Nat->Nat->Rat} (h:amQ n c f) (hc:c<n):amQ n (c+1) (kt f c n):=by intro a b ha hb han hbn;unfold kt;rw[if_pos ⟨by omega,han⟩,if_pos ⟨by omega,hbn⟩,h a b (by omega) (by omega) han hbn,h a c (by omega) (by omega) han hc,h c b (by omega) (by omega) hc hbn,adT]
theorem WU {N n:Nat} (hF:Fuel N) (hn:n<=1000) (k:Kz0):∀(d c B M:Nat) (s:Int) (f:Nat->Nat->Rat),c+d=n->d<M->xw B n f->amQ n c f->(B+1)*4 ^ d<=100000000000 ->
  ah M (zR N (RO N) (Ps N) (RW N) (RI N) (RJ N) (n:Int) (n:Int) (λt=>k t) (λt=>k t)) (s,(c:Int),mat iQ n f)=k (DW n d c s f):=by
 intro d;induction d with
 | zero=>
  intro c B M s f hc hM _ _ _;cases M with
  | zero=>omega
  | succ M=>
   show zR _ _ _ _ _ _ _ _ _ _ (s,(c:Int),mat iQ n f) (ah M _)=_;rw[zR];rw[aFz (by omega:¬(c:Int)<(n:Int)),aFA];rfl
 | succ d ih=>
  intro c B M s f hc hM hf hsy hB;cases M with
  | zero=>omega
  | succ M=>
   have hN:=hF.lt;have hcn:c<n:=by omega
   have h4:(4*B+1+1)*4 ^ d<=100000000000:=by
    have h1:(4*B+1+1)*4 ^ d<=(B+1)*4*4 ^ d:=aFF _ (by omega);have h2:(B+1)*4*4 ^ d=(B+1)*4 ^ (d+1):=by rw[aFL,aFK,aFD 4 (4 ^ d)]
    omega
   have hB2:4*B+1+1<=100000000000:=by have:0<4 ^ d:=aGE (by decide);have h1:(4*B+1+1)*1<=(4*B+1+1)*4 ^ d:=aFH _ this;omega
   have he:∀ x:Rat,iQ x=((decide (x.num<0),ak x.num.natAbs),(false,ak x.den)):=λx=>rfl
   show zR _ _ _ _ _ _ _ _ _ _ (s,(c:Int),mat iQ n f) (ah M _)=_;rw[zR];rw[aFy (by omega:(c:Int)<(n:Int)),aFB,Ao hn hcn hcn,qT iQ n _ hcn hcn,he (f c c)];dsimp only;rw[EM,Pz,DW];by_cases hneg:(f c c).num<0
   ·rw[aFy hneg,aFB,if_pos hneg]
   ·rw[if_neg hneg,EM,zN];rw[aFz hneg,aFA];by_cases h0:f c c=0
    ·rw[if_pos h0,aFy h0,aFB,ac aFw];rw[show(c:Int)+1=((c+1:Nat):Int) from rfl,Rf hF hn hcn _ _ d (c+1) N (by omega) (by omega)];have ez:BP (λi=>f c i) (c+1) d=BP (λi=>f i c) (c+1) d:=HT _ _ (λj h1 h2=>hsy c j (by omega) (by omega) hcn (by omega));rw[ez];by_cases hz:BP (λi=>f i c) (c+1) d=true
     ·rw[if_pos hz,if_pos hz,ac aFw];exact ih (c+1) B M 2 f (by omega) (by omega) hf (λa b ha hb=>hsy a b (by omega) (by omega)) (by have:(B+1)*4 ^ d<=(4*B+1+1)*4 ^ d:=aFF _ (by omega);omega)
     ·rw[if_neg hz,if_neg hz]
    ·rw[if_neg h0,aFz h0,aFA,ac aFw];rw[show(c:Int)+1=((c+1:Nat):Int) from rfl,W9 hF (by omega) hn hcn s hf h0,ac aFw];exact ih (c+1) (4*B+1) M s (kt f c n) (by omega) (by omega) (Ak hf hcn h0) (aa9 hsy hcn) h4
def fm (n:Nat) (l:List Fl):Nat->Nat->Rat:=λi j=>zL (ofE (l.getD (i*n+j) none))
theorem UI {α:Type} (g:Rat->α) {n:Nat} {l:List Fl} (h:l.length=n*n):l.map (λx=>g (zL (ofE x)))=mat g n (fm n l):=by
 apply List.ext_getElem?;intro t;by_cases ht:t<n*n
 ·unfold mat;rw[List.getElem?_map,List.getElem?_map,List.getElem?_range ht,List.getElem?_eq_getElem (by omega)];simp only[aGZ];unfold fm;have:t / n*n+t%n=t:=by rw[aFD]; exact aGv t n
  rw[this,List.getD_eq_getElem?_getD,List.getElem?_eq_getElem (by omega)];rfl
 ·rw[List.getElem?_eq_none (by rw[aHs]; omega),List.getElem?_eq_none (by rw[xg]; omega)]
theorem tz {l:List Fl} (h:gu l=true) {i:Nat} (hi:i<l.length):kA (l.getD i none)=true:=by unfold gu at h;exact yC.1 h i hi
def AllW (l:List Fl):Prop:=∀ x,x ∈ l->FW x
theorem AllW.get {l:List Fl} (h:AllW l) {i:Nat} (hi:i<l.length):FW (l.getD i none):=by rw[List.getD_eq_getElem?_getD,List.getElem?_eq_getElem hi];exact h _ (aGP hi)
theorem LG {n:Nat} {l:List Fl} (h:l.length=n*n) (hf:gu l=true):xw 1200 n (fm n l):=by intro a b ha hb;have:=w6 ha hb;exact aji (tz hf (by omega))
theorem VW {N:Nat} (x:Int) (k:Ky9):Vg N x k=k (decide (0<=x/\x<=12)):=by
 unfold Vg ZD;by_cases h:x>=0
 ·rw[aFy h,show(true==true)=true from rfl,aFB];congr 1;by_cases h2:x<=12
  ·rw[aFy h2,aFy ⟨h,h2⟩]
  ·rw[aFz h2,aFz (by omega)]
 ·rw[aFz h,show(false==true)=false from rfl,aFA,aFz (by omega)]
theorem UL {a b:Int} (h1:0<=a/\a<=12) (h2:0<=b/\b<=12):0<=a*b/\a*b<=144:=by have h3:a*b<=12*b:=Int.mul_le_mul_of_nonneg_right h1.2 h2.1;have h4:0<=a*b:=Int.mul_nonneg h1.1 h2.1;omega
theorem w9 {N:Nat} (hN:1000<=N) (a b:Int) (l:List Fl) (k:Kz0):RL N a b l k=k (chk a b l):=by
 unfold RL amq chk;rw[VW];by_cases h1:0<=a/\a<=12
 ·rw[aFy h1,show((!true)==false)=true from rfl,aFB,VW];by_cases h2:0<=b/\b<=12
  ·have h3:=UL h1 h2;rw[aFy h2,if_pos ⟨h1,h2⟩,show(!true)=false from rfl,aFA,ac aFw];by_cases h4:(l.length:Int)=a*b
   ·have:(((l.length:Nat):Int) != a*b)=false:=by simp[h4]
    have h6:l.length<=144:=by rw[<- h4]at h3; omega
    rw[this,aFA,if_pos h4,IW l ⟨by omega,by omega⟩];cases h5:gu l
    ·rfl
    ·rfl
   ·have:(((l.length:Nat):Int) != a*b)=true:=by simp[h4]
    rw[this,aFB,if_neg h4]
  ·rw[aFz h2,if_neg (λh=>h2 h.2),show(!false)=true from rfl,aFB]
 ·rw[aFz h1,if_neg (λh=>h1 h.1)]; rfl
theorem LA {n:Nat} {l:List Fl} (hn:n<=12) (h:l.length=n*n) (hf:gu l=true):chk n n l=0:=
 yG.2 ⟨⟨by omega,by omega⟩,by rw[h,aFV],hf⟩
theorem Bi {α:Type} (g:Fl->α) {l:List Fl} {t:Nat} (ht:t<l.length):(l.take (t+1)).map g=(l.take t).map g++[g (l.getD t none)]:=by rw[aGM ht,aHt,List.getD_eq_getElem?_getD,List.getElem?_eq_getElem ht]; rfl
theorem LZ {N n:Nat} (hF:Fuel N) {l:List Fl} (hn:n<=12) (h:l.length=n*n) (hf:gu l=true) (hw:AllW l) (k:List RY1->Bool) :
  jY N n n l k=k (mat enc n (fm n l)):=by
 have hN:=hF.lt;have hl:=zQ (n:=n) (by omega);unfold jY jQ;rw[w9 (by omega),LA hn h hf,xa,<- UI enc h];refine ke (λt:Nat=>((t:Int),(l.take t).map (λx=>enc (zL (ofE x))))) l.length (by omega) ?_ ?_
 ·intro t ht K;unfold f8;dsimp only;rw[aFy (by omega:(t:Int)<(l.length:Int)),aFB,ac aFx,aFC,OP hF (tz hf ht) (hw.get ht)];unfold kq kr;dsimp only;rw[Bi _ ht,ac (aFy (by rw[aGI,aHs,aGc]; simp only[aGb,aHB]; omega)),ac aFw];rfl
 ·intro K;unfold f8;dsimp only;rw[aFz (by omega:¬(l.length:Int)<(l.length:Int)),aFA,aGe]
theorem WR {N n:Nat} (hF:Fuel N) {l:List Fl} (hn:n<=12) (h:l.length=n*n) (hf:gu l=true) (hw:AllW l) (a b:Int) (k:List RY2->Bool) :
  Vk N a b l k=k (mat iQ n (fm n l)):=by
 have hN:=hF.lt;have hl:=zQ (n:=n) (by omega);unfold Vk T6;rw[<- UI iQ h];refine ke (λt:Nat=>((t:Int),(l.take t).map (λx=>iQ (zL (ofE x))))) l.length (by omega) ?_ ?_
 ·intro t ht K;unfold mn;dsimp only;rw[aFy (by omega:(t:Int)<(l.length:Int)),aFB,ac aFx,aFC,WT hF (tz hf ht) (hw.get ht)];unfold kqR krR;dsimp only;rw[Bi _ ht,ac (aFy (by rw[aHs,aGc]; omega)),ac aFw];rfl
 ·intro K;unfold mn;dsimp only;rw[aFz (by omega:¬(l.length:Int)<(l.length:Int)),aFA,aGe]
theorem Q5 {N n:Nat} (hF:Fuel N) (hn:n<=12) (k:List RY2->Bool):Vb N n n k=k (List.replicate (n*n) ((false,[]),(false,[]))):=by
 have hN:=hF.lt;have hl:=zQ (n:=n) (by omega);unfold Vb TZ;have h0:([]:List RY2)=List.replicate 0 ((false,[]),(false,[])):=rfl;rw[h0];refine ke (λt:Nat=>((t:Int),List.replicate t ((false,[]),(false,[])))) (n*n) (by omega) ?_ ?_
 ·intro t ht K;unfold lc;dsimp only;rw[<- aFV,ac aFw,aFy (by omega:(t:Int)<((n*n:Nat):Int)),aFB,ac (aFy (by rw[aGT]; omega)),ac aFw,aHb];rfl
 ·intro K;unfold lc;dsimp only;rw[<- aFV,ac aFw,aFz (by omega:¬((n*n:Nat):Int)<((n*n:Nat):Int)),aFA]
theorem abe {α:Type} (l:List α) (z:α) {t:Nat} (ht:t<=l.length):(l.take t++List.replicate (l.length - t) z).length=l.length:=by rw[aGI,aGc,aGT]; omega
theorem abf {α:Type} (l:List α) (z:α) {t:Nat} (ht:t<l.length):(l.take t++List.replicate (l.length - t) z).set t (l.getD t z)=l.take (t+1)++List.replicate (l.length - (t+1)) z:=by
 have h1:(l.take t).length=t:=by rw[aGc]; omega
 have h2:l.length - t=(l.length - (t+1))+1:=by omega
 rw[aHF _ _ (by omega),h1,aF9,h2,aGh,List.set_cons_zero,aGM ht,aFR,List.getD_eq_getElem?_getD,List.getElem?_eq_getElem ht];rfl
theorem ajb {α:Type} (g:Rat->α) (n:Nat) (f:Nat->Nat->Rat) {t:Nat} (ht:t<n*n) (z:α):∃ a b,a<n/\b<n/\(mat g n f).getD t z=g (f a b):=by
 have hn:0<n:=by
  rcases aGR n with h0 | h0
  ·rw[h0]at ht; omega
  ·exact h0
 refine⟨t / n,t%n,aHr ht,aFO _ hn,?_⟩;have:=qT g n f (aHr ht) (aFO t hn) z;rw[show t / n*n+t%n=t from by rw[aFD]; exact aGv t n]at this;exact this
theorem Ra {N n B:Nat} (hF:Fuel N) (hB:B<=2000000000100) (hn:n<=12) {f:Nat->Nat->Rat} (hf:xw B n f) (k:List RY2->Bool) :
  RO N n n (mat iQ n f) k=k (mat iQ n f):=by
 have hN:=hF.lt;have hl:=zQ (n:=n) (by omega);unfold RO ahg;rw[Q5 hF hn];have hlen:=xg iQ n f;have h0:List.replicate (n*n) (((false,[]),(false,[])):RY2)=(mat iQ n f).take 0++List.replicate ((mat iQ n f).length - 0) ((false,[]),(false,[])):=by rw[hlen]; rfl
 rw[h0];refine ke (λt:Nat=>((t:Int),(mat iQ n f).take t++List.replicate ((mat iQ n f).length - t) ((false,[]),(false,[])))) (mat iQ n f).length (by omega) ?_ ?_
 ·intro t ht K;unfold JH;dsimp only;have hfl:=abe (mat iQ n f) (((false,[]),(false,[])):RY2) (t:=t) (by omega);rw[aFy (by omega:(t:Int)<((mat iQ n f).length:Int)),aFB,aFC,hfl,ac aFx,ac (aFy ht),ac aFx];obtain⟨a,b,ha,hb,hm⟩:=ajb iQ n f (t:=t) (by omega) ((false,[]),(false,[]));have hs:=abf (mat iQ n f) (((false,[]),(false,[])):RY2) ht;rw[hm]at hs ⊢;have he:∀ x:Rat,iQ x=((decide (x.num<0),ak x.num.natAbs),(false,ak x.den)):=λx=>rfl
  have hset:=λb1 b2 l1 l2 kk=>adt (N:=N) hF hB (hf a b ha hb) b1 b2 l1 l2 kk
  generalize List.take t (mat iQ n f)++List.replicate ((mat iQ n f).length - t) ((false,[]),false,[])=L at *;rw[he (f a b)];dsimp only;rw[hset];unfold kqR krR;dsimp only;rw[ac aFw];exact aIH (λl=>K ((t:Int)+1,l)) hs
 ·intro K;unfold JH;dsimp only;rw[aFz (by omega),aFA,aGe,aF9,aF_,aF7]
theorem FT {n:Nat} (hn:n<=12):(1200+1)*4 ^ n<=100000000000:=by
 have h1:4 ^ n<=4 ^ 12:=aFP (by decide) hn;have h2:(4:Nat) ^ 12=16777216:=by decide
 rw[h2]at h1;have h3:(1200+1)*4 ^ n<=(1200+1)*16777216:=aFH _ h1;omega
def ahv (n:Nat) (l:List Fl):Prop:=∀ a b,a<n->b<n->fm n l a b=fm n l b a
def Xm (n:Nat) (l:List Fl):Bool:=DW n n 0 3 (fm n l)==3
theorem OM {N n:Nat} (hF:Fuel N) {l:List Fl} (hn:n<=12) (h:l.length=n*n) (hf:gu l=true) (hw:AllW l) (hs:ahv n l) (k:Ky2) :
  kM N n n l k=k (DW n n 0 3 (fm n l)) 0:=by
 unfold kM ky;rw[LZ hF hn h hf hw];exact W0 hF (by omega) (LG h hf) hs (FT hn) (λt=>k t 0)
theorem L4 {N n:Nat} (hF:Fuel N) {l:List Fl} (hn:n<=12) (h:l.length=n*n) (hf:gu l=true) (hw:AllW l) (hs:ahv n l) (k:Ky9) :
  jt N n n l k=k (Xm n l):=by
 unfold jt ou;rw[OM hF hn h hf hw hs];rfl
theorem LY {N n:Nat} (hF:Fuel N) {l:List Fl} (hn:n<=12) (h:l.length=n*n) (hf:gu l=true) (hw:AllW l) (hs:ahv n l) (k:Ky9) :
  U8 N n n l k=k (Xm n l):=by
 have hN:=hF.lt;unfold U8 Zm ael ZN;rw[WR hF hn h hf hw];dsimp only;unfold ad5 TX;rw[Ra (B:=1200) hF (by decide) hn (LG h hf)];exact WU hF (by omega) (λt=>k (t==3)) n 0 1200 N 3 (fm n l) (by omega) (by omega) (LG h hf) (λa b _ _=>hs a b) (FT hn)
end Go.Proofs.YteifemaagdeomaaGreatDoor
end
