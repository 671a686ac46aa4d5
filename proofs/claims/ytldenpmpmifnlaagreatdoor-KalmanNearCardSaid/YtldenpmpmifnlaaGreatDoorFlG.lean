/-
  FLOATS: how far what is written lies from what was meant, in units of the least place.
  Conditions: none.
-/
import Derived.Test.YtldenpmpmifnlaaGreatDoorFlA
import Derived.Test.YtldenpmpmifnlaaGreatDoorC8
set_option linter.unusedVariables false
section
namespace Go.Proofs.YtldenpmpmifnlaaGreatDoor
open Go Go.Mach Ieee
def ad8 (r:Nat):Nat:=if r<4503599627370496 then r else(4503599627370496+r%4503599627370496)*2 ^ (r / 4503599627370496 - 1)
theorem Tb (s:Bool) {r:Nat} (h:r<9218868437227405312):∃ m i,Ieee.double.read (Ieee.double.word s r)=.number s m i /\ -1074<=i/\m*2 ^ (i+1074).toNat=ad8 r:=by
 have hw:Ieee.double.word s r%9223372036854775808=r:=by unfold Format.word; rw[cE]; cases s <;> simp <;> omega
 have hs:(Ieee.double.word s r / 9223372036854775808%2==1)=s:=by
  unfold Format.word; rw[cE];cases s
  ·simp; omega
  ·have:(9223372036854775808+r) / 9223372036854775808=1:=by omega
   simp[this]
 unfold Format.read ad8;simp only[cE,jM,fN,il,hw,hs];split
 ·refine⟨_,_,rfl,by omega,?_⟩;show r*2 ^ 0=r;omega
 ·refine⟨_,_,rfl,by omega,?_⟩;congr 2;omega
theorem Tf (p kept:Nat) (h1:kept<=9007199254740992) (h2:p=0\/4503599627370496<=kept):ad8 (p*4503599627370496+kept)=kept*2 ^ p:=by
 unfold ad8;by_cases hp:p=0
 ·subst hp;rw[axF,axe,ayO,ayj];split
  ·rfl
  ·by_cases hk:kept=9007199254740992
   ·subst hk; decide
   ·have e1:kept / 4503599627370496=1:=by omega
    rw[e1,axu,ayO]; omega
 ·have hk:=h2.resolve_left hp;rw[if_neg (by omega)];by_cases he:kept=9007199254740992
  ·subst he;have e1:(p*4503599627370496+9007199254740992)%4503599627370496=0:=by omega
   have e2:(p*4503599627370496+9007199254740992) / 4503599627370496 - 1=p+1:=by omega
   generalize (p*4503599627370496+9007199254740992)%4503599627370496=a at e1 ⊢;generalize (p*4503599627370496+9007199254740992) / 4503599627370496 - 1=b at e2 ⊢;have e3:2 ^ b=2 ^ p*2:=by rw[e2,awX]
   subst e1;rw[e3];generalize 2 ^ p=y;omega
  ·have e1:(p*4503599627370496+kept)%4503599627370496=kept - 4503599627370496:=by omega
   have e2:(p*4503599627370496+kept) / 4503599627370496 - 1=p:=by omega
   rw[e2];exact azJ (λz=>z*2 ^ p) (by rw[e1]; omega)
theorem UD (s:Bool) (n d:Nat) (hd:1<=d):2*(Toward.even.cut s n d*2 ^ d)<=2*n+2 ^ d/\2*n<=2*(Toward.even.cut s n d*2 ^ d)+2 ^ d:=by
 unfold Toward.cut;dsimp only;have h2:n<2 ^ (n.log2+1):=Nat.lt_log2_self;have hg:∀ g low rest:Nat,0<g->n=g*low+rest->rest<g -> ∀ b:Bool,(b=true->g<=2*rest)->(b=false->2*rest<=g)->2*((low+b.toNat)*g)<=2*n+g/\2*n<=2*((low+b.toNat)*g)+g:=by
  intro g low rest hg hn hr b h1 h2;have e:(low+b.toNat)*g=g*low+b.toNat*g:=by rw[axh,awR low g]
  rw[e];cases b
  ·have:=h2 rfl;simp only[Bool.toNat_false,axF]; omega
  ·have:=h1 rfl;simp only[Bool.toNat_true,ax4]; omega
 by_cases h:d<=n.log2+2
 ·rw[axU h,Nat.shiftLeft_eq,ax4];refine hg (2 ^ d) _ _ (aw0 d) (axz n (2 ^ d)).symm (axf _ (aw0 d)) _ (λhb=>?_) (λhb=>?_)
  ·simp only[ay5,ayS,axC,azl]at hb;rcases hb with h | h <;> omega
  ·simp only[Bool.or_eq_false_iff,ayA]at hb;omega
 ·rw[Nat.min_eq_right (by omega),Nat.shiftLeft_eq,ax4];have hlt:n<2 ^ (n.log2+2):=ayP h2 (Nat.pow_lt_pow_right (by decide) (by omega));have e1:n / 2 ^ (n.log2+2)=0:=axl hlt;have e2:n%2 ^ (n.log2+2)=n:=awV hlt;have e3:2 ^ (n.log2+2)=2*2 ^ (n.log2+1):=by rw[awX]; omega
  rw[e1,e2];have hb:(decide (2 ^ (n.log2+2)<2*n)||(2 ^ (n.log2+2)==2*n&&0%2==1))=false:=by simp only[Bool.or_eq_false_iff,ayA,Bool.and_eq_false_iff];exact⟨by omega,.inr rfl⟩
  rw[hb];simp only[Bool.toNat_false,axb,axF,ax8,axe];have:2 ^ (n.log2+2)<=2 ^ d:=aw5 (by decide) (by omega);omega
theorem Iv (s:Bool) {m:Nat} (h0:m ≠ 0) {i:Int} (hb:i+m.log2<=1000\/aw (some (Ieee.double.nearest s m i))=true):∃ m' i' V,Ieee.double.read (Ieee.double.nearest s m i)=.number s m' i'/\m'*2 ^ (i'+1074).toNat=V /\
  ∀ E:Nat,1074<=E->0<=i+E->9007199254740992*(V*2 ^ (E - 1074))<=9007199254740992*(m*2 ^ (i+E).toNat)+(m*2 ^ (i+E).toNat+if -1074<=i then 0 else 4503599627370496*2 ^ (E - 1074)) /\
   9007199254740992*(m*2 ^ (i+E).toNat)<=9007199254740992*(V*2 ^ (E - 1074))+(m*2 ^ (i+E).toNat+if -1074<=i then 0 else 4503599627370496*2 ^ (E - 1074)):=by
 unfold Format.nearest;rw[if_neg h0,il,jM,fN];have hf:Ieee.double.fractionBits=52:=rfl;rw[hf];generalize hL:max (i+(m.log2:Int) - ((52:Nat):Int)) (-1074)=L;have hL1 : -1074<=L:=by omega
 have hlg:=Nat.log2_self_le h0;have hlg2:m<2 ^ (m.log2+1):=Nat.lt_log2_self;have key:∃ kept,Toward.even.cut s (m <<< (i - L).toNat) (L - i).toNat=kept/\kept<=9007199254740992/\((L+1074).toNat=0\/4503599627370496<=kept) /\
   ∀ E:Nat,1074<=E->0<=i+E->9007199254740992*(kept*2 ^ (L+1074).toNat*2 ^ (E - 1074))<=9007199254740992*(m*2 ^ (i+E).toNat)+(m*2 ^ (i+E).toNat+if -1074<=i then 0 else 4503599627370496*2 ^ (E - 1074)) /\
    9007199254740992*(m*2 ^ (i+E).toNat)<=9007199254740992*(kept*2 ^ (L+1074).toNat*2 ^ (E - 1074))+(m*2 ^ (i+E).toNat+if -1074<=i then 0 else 4503599627370496*2 ^ (E - 1074)):=by
  refine⟨_,rfl,?_,?_,?_⟩
  ·have h1:m <<< (i - L).toNat ≠ 0:=by rw[Nat.shiftLeft_eq];exact azs h0 (Nat.pos_iff_ne_zero.1 (aw0 _))
   refine aw_ (afR s _ _ h1) ?_;have h2:(m <<< (i - L).toNat).log2+1 - (L - i).toNat<=53:=by rw[Wp h0]; omega
   exact aw_ (aw5 (by decide) h2) (by decide)
  ·by_cases hz:(L+1074).toNat=0
   ·exact .inl hz
   ·right;have hL2:L=i+(m.log2:Int) - 52:=by omega
    by_cases hl:52<=m.log2
    ·have e1:(i - L).toNat=0:=by omega
     have e2:(L - i).toNat=m.log2 - 52:=by omega
     rw[e1,e2,Nat.shiftLeft_zero];refine aw_ ?_ (UC s m (m.log2 - 52) (by omega));rw[Nat.shiftLeft_eq,ax4,ayf (aw0 _)];have:4503599627370496*2 ^ (m.log2 - 52)=2 ^ m.log2:=by rw[show(4503599627370496:Nat)=2 ^ 52 by decide,<- aw2,show 52+(m.log2 - 52)=m.log2 by omega]
     omega
    ·have e1:(i - L).toNat=52 - m.log2:=by omega
     have e2:(L - i).toNat=0:=by omega
     rw[e1,e2];refine aw_ ?_ (UC s _ 0 (by omega));rw[Nat.shiftLeft_eq,Nat.shiftLeft_zero,ayX];have:4503599627370496=2 ^ m.log2*2 ^ (52 - m.log2):=by rw[<- aw2,show m.log2+(52 - m.log2)=52 by omega]
     rw[this];exact awU _ hlg
  ·intro E hE hiE;by_cases hLi:L<=i
   ·have e1:(L - i).toNat=0:=by omega
    rw[e1,Ag,Nat.shiftLeft_eq,awW,awW,<- aw2,<- aw2,show(i - L).toNat+((L+1074).toNat+(E - 1074))=(i+E).toNat by omega];exact⟨ayD _ _,ayD _ _⟩
   ·have e1:(i - L).toNat=0:=by omega
    rw[e1,Nat.shiftLeft_zero];obtain⟨c1,c2⟩:=UD s m (L - i).toNat (by omega);generalize Toward.even.cut s m (L - i).toNat=kept at c1 c2;have e2:kept*2 ^ (L+1074).toNat*2 ^ (E - 1074)=kept*2 ^ (L - i).toNat*2 ^ (i+E).toNat:=by
     have ee:(L+1074).toNat+(E - 1074)=(L - i).toNat+(i+E).toNat:=by omega
     rw[awW,awW,<- aw2,<- aw2,ee]
    rw[e2];have e3:4503599627370496*(2 ^ (L - i).toNat*2 ^ (i+E).toNat)<=m*2 ^ (i+E).toNat+if -1074<=i then 0 else 4503599627370496*2 ^ (E - 1074):=by
     rw[<- aw2];by_cases hz:L = -1074
     ·rw[if_neg (by omega),show(L - i).toNat+(i+E).toNat=E - 1074 by omega];exact Nat.le_add_left _ _
     ·have:4503599627370496*2 ^ ((L - i).toNat+(i+E).toNat)=2 ^ m.log2*2 ^ (i+E).toNat:=by
       have ee:52+((L - i).toNat+(i+E).toNat)=m.log2+(i+E).toNat:=by omega
       rw[show(4503599627370496:Nat)=2 ^ 52 by decide,<- aw2,<- aw2,ee]
      rw[this];exact aw_ (awU _ hlg) (ayD _ _)
    generalize 2 ^ (i+E).toNat=P at e3 ⊢;generalize (if -1074<=i then 0 else 4503599627370496*2 ^ (E - 1074))=z at e3 ⊢;generalize kept*2 ^ (L - i).toNat=K at c1 c2 ⊢;generalize 2 ^ (L - i).toNat=D at c1 c2 e3;have c3:2*(K*P)<=2*(m*P)+D*P:=by
     have:=awU P c1
     rwa [axh,awW,awW]at this
    have c4:2*(m*P)<=2*(K*P)+D*P:=by
     have:=awU P c2
     rwa [axh,awW,awW]at this
    generalize K*P=x at c3 c4 ⊢;generalize D*P=y at c3 c4 e3;generalize m*P=w at c3 c4 e3 ⊢;omega
 obtain⟨kept,hk,k1,k2,k3⟩:=key;simp only[hk];have hr:(L - -1074).toNat*4503599627370496+kept<9218868437227405312:=by
  rcases hb with hb | hb
  ·omega
  ·unfold Format.nearest at hb;rw[if_neg h0,il,jM,fN,hf,hL]at hb;simp only[hk]at hb;by_cases hc:(L - -1074).toNat*4503599627370496+kept<9218868437227405312
   ·exact hc
   ·rw[Nat.min_eq_right (by omega)]at hb;cases s
    ·exact absurd hb (by decide)
    ·exact absurd hb (by decide)
 rw[axU (by omega)];obtain⟨m',i',h1,h2,h3⟩:=Tb s hr;refine⟨m',i',kept*2 ^ (L+1074).toNat,h1,?_,k3⟩;rw[h3,show(L - -1074).toNat=(L+1074).toNat by omega];exact Tf _ _ k1 k2
theorem lC (a b:Nat):(2:Rat) ^ (a+b)=2 ^ a*2 ^ b:=by
 induction b with
 | zero=>rw[axb,Rat.pow_zero,Rat.mul_one]
 | succ n ih=>rw[<- axo,Rat.pow_succ,Rat.pow_succ,ih,Rat.mul_assoc]
def Bd (d e:Rat):Prop:=-e<=d/\d<=e
abbrev uu:Rat:=1 / 9007199254740992
theorem ajS {B x U P:Rat} (h:P*U=1) (h2:0<=(B - x*U)*P):x<=B*P:=by
 have:x*U*P=x:=by rw[Rat.mul_assoc,Rat.mul_comm U P,h,Rat.mul_one]
 grind
theorem ahg {v x w A:Rat} (g1:0<=9007199254740992*x+(x+9007199254740992*w) - 9007199254740992*v) (g2:0<=9007199254740992*v+(x+9007199254740992*w) - 9007199254740992*x) (a:x<=A):Bd (v - x) (uu*A+w)/\Bd (-v - -x) (uu*A+w):=by unfold Bd; grind
theorem ajT {V P z X U v:Rat} (h:9007199254740992*(V*P)<=9007199254740992*X+(X+z)) (hU:0<=U) (e:V*P*U=v):0<=9007199254740992*(X*U)+(X*U+z*U) - 9007199254740992*v:=by have:=Rat.mul_nonneg (by grind:(0:Rat)<=9007199254740992*X+(X+z) - 9007199254740992*(V*P)) hU;rw[<- e]; grind
theorem ajU {V P z X U v:Rat} (h:9007199254740992*X<=9007199254740992*(V*P)+(X+z)) (hU:0<=U) (e:V*P*U=v):0<=9007199254740992*v+(X*U+z*U) - 9007199254740992*(X*U):=by have:=Rat.mul_nonneg (by grind:(0:Rat)<=9007199254740992*(V*P)+(X+z) - 9007199254740992*X) hU;rw[<- e]; grind
theorem ajV {P U S e:Rat} (h:P*U=1) (h2:e*2=S):4503599627370496*P*(S*U)=9007199254740992*e:=by
 have:P*(S*U)=S*(P*U):=by grind
 grind
theorem abH {x A:Rat} (h:Bd (-x) A):x<=A:=by have:=h.1; grind
theorem aeL (V F:Nat):((9007199254740992*(V*2 ^ F):Nat):Rat)=(9007199254740992:Rat)*((V:Rat)*2 ^ F):=by rw[Rat.natCast_mul,Rat.natCast_mul,Rat.natCast_pow]; rfl
theorem aij (X z:Nat):((9007199254740992*X+(X+z):Nat):Rat)=(9007199254740992:Rat)*X+(X+z):=by rw[Rat.natCast_add,Rat.natCast_add,Rat.natCast_mul]; rfl
theorem aik (X:Nat):((9007199254740992*X:Nat):Rat)=(9007199254740992:Rat)*X:=by rw[Rat.natCast_mul]; rfl
theorem ail (Y X z:Nat):((9007199254740992*Y+(X+z):Nat):Rat)=((9007199254740992*Y:Nat):Rat)+(X+z):=by rw[Rat.natCast_add,Rat.natCast_add]
theorem aim (F:Nat):((4503599627370496*2 ^ F:Nat):Rat)=(4503599627370496:Rat)*2 ^ F:=by rw[Rat.natCast_mul,Rat.natCast_pow]; rfl
@[irreducible] def Ue (E:Nat):Rat:=1 / 2 ^ E
theorem uP (E:Nat):(0:Rat)<2 ^ E:=by
 induction E with
 | zero=>decide
 | succ n ih=>rw[Rat.pow_succ]; exact Rat.mul_pos ih (by decide)
theorem nB (E:Nat):(2:Rat) ^ E*Ue E=1:=by unfold Ue;have:=uP E;grind
theorem iA (E:Nat):0<Ue E:=by
 have h1:=nB E;have h2:=uP E;rcases (Rat.le_total:Ue E<=0\/0<=Ue E)with h | h
 ·have:=Rat.mul_nonneg (by grind:0 <= -(Ue E)) (by grind:(0:Rat)<=2 ^ E);grind
 ·by_cases h0:Ue E=0
  ·rw[h0,Rat.mul_zero]at h1; exact absurd h1 (by decide)
  ·exact Rat.lt_of_le_of_ne h (λe=>h0 e.symm)
theorem q_ (a b:Nat):Ue (a+b)=Ue a*Ue b:=by
 have h1:=nB a;have h2:=nB b;have h3:=nB (a+b);have h4:(2:Rat) ^ (a+b)=2 ^ a*2 ^ b:=by grind
 have h5:(2:Rat) ^ (a+b)*(Ue a*Ue b)=1:=by rw[h4]; grind
 have h6:(2:Rat) ^ (a+b) ≠ 0:=by have:=uP (a+b); grind
 grind
theorem T3 {a b:Nat} (h:a<=b):Ue b<=Ue a:=by
 obtain⟨c,rfl⟩:∃ c,b=a+c:=⟨b - a,by omega⟩
 rw[q_];have h1:=iA a;have h2:=nB c;have h3:(1:Rat)<=2 ^ c:=by
  clear h2;induction c with
  | zero=>decide
  | succ n ih=>rw[Rat.pow_succ]; have:=ih (by omega); grind
 have h4:=iA c;have h5:=Rat.mul_nonneg (by grind:(0:Rat)<=2 ^ c - 1) (by grind:0<=Ue c);have h6:=Rat.mul_nonneg (by grind:(0:Rat)<=Ue a) (by grind:0<=1 - Ue c);grind
@[irreducible] def Sp:Nat:=1074
theorem DL:Sp=1074:=by unfold Sp; rfl
def rv (x:Fl):Rat:=(vl x:Rat)*Ue Sp
def eta:Rat:=Ue (Sp+1)
theorem xA:0<eta:=iA _
@[irreducible] def Bg:Rat:=2 ^ 900
theorem jh (s:Bool) (m k:Nat):((signed s m k:Int):Rat)=if s=true then -((m*2 ^ k:Nat):Rat)else((m*2 ^ k:Nat):Rat):=by
 unfold signed;rw[Nat.shiftLeft_eq];cases s
 ·simp only[axq,axc,Rat.intCast_natCast]
 ·simp only[ax5,Rat.intCast_neg,Rat.intCast_natCast]
theorem Ca {s:Bool} {m:Nat} {i:Int} (hm:m ≠ 0) {E:Nat} (hi:0<=i+E) (h:Bd (((signed s m (i+E).toNat:Int):Rat)*Ue E) Bg):i+m.log2<=900:=by
 have h0:((m*2 ^ (i+E).toNat:Nat):Rat)*Ue E<=Bg:=by
  rw[jh]at h;obtain⟨h1,h2⟩:=h;cases s
  ·simpa using h2
  ·rw[if_pos rfl,Rat.neg_mul]at h1 h2;exact abH ⟨h1,h2⟩
 have h1:((m*2 ^ (i+E).toNat:Nat):Rat)<=2 ^ (900+E):=by
  have e1:=nB E;have e2:=uP E;have e3:=Rat.mul_nonneg ((Rat.le_iff_sub_nonneg _ _).1 h0) (Rat.le_of_lt e2);have e4:(2:Rat) ^ (900+E)=Bg*2 ^ E:=by rw[lC]; unfold Bg; rfl
  rw[e4];exact ajS e1 e3
 have h2:m*2 ^ (i+E).toNat<=2 ^ (900+E):=by
  have e:((2 ^ (900+E):Nat):Rat)=2 ^ (900+E):=by rw[Rat.natCast_pow]; rfl
  rw[<- e]at h1;exact Rat.natCast_le_natCast.1 h1
 have h3:2 ^ (m.log2+(i+E).toNat)<=2 ^ (900+E):=by rw[aw2];exact aw_ (awU _ (Nat.log2_self_le hm)) h2
 have h4:=(Nat.pow_le_pow_iff_right (by decide:1<2)).1 h3;omega
theorem B_ (s:Bool) {m:Nat} (hm:m ≠ 0) {i:Int} (hb:i+m.log2<=1000\/aw (some (Ieee.double.nearest s m i))=true) {E:Nat} (hE:1074<=E) (hi:0<=i+E) :
  aw (some (Ieee.double.nearest s m i))=true /\ ∀ A,Bd (((signed s m (i+E).toNat:Int):Rat)*Ue E) A->Bd (rv (some (Ieee.double.nearest s m i)) - ((signed s m (i+E).toNat:Int):Rat)*Ue E) (uu*A+if -1074<=i then 0 else eta):=by
 obtain⟨m',i',V,h1,h2,h3⟩:=Iv s hm hb;refine⟨sw h1,λA hA=>?_⟩;obtain⟨g1,g2⟩:=h3 E hE hi;unfold rv;rw[Cm h1,jh,h2];rw[jh]at hA ⊢;generalize m*2 ^ (i+E).toNat=X at *;have c1:=Rat.natCast_le_natCast.2 g1;have c2:=Rat.natCast_le_natCast.2 g2;have eE:E=1074+(E - 1074):=by omega
 have u1:=nB (E - 1074);have u2:Ue E=Ue Sp*Ue (E - 1074):=by rw[DL,<- q_,<- eE]
 have u3:=iA E;have u4:eta*2=Ue Sp:=by unfold eta;rw[q_,Rat.mul_assoc,Rat.mul_comm (Ue 1)];have:(2:Rat)*Ue 1=1:=nB 1;rw[this,Rat.mul_one]
 have u5:=iA Sp;generalize E - 1074=F at *;generalize hz:(if -1074<=i then 0 else 4503599627370496*2 ^ F:Nat)=z at *;have hzr:(z:Rat)*Ue E=9007199254740992*(if -1074<=i then 0 else eta):=by
  rw[<- hz];by_cases hc : -1074<=i
  ·rw[if_pos hc,if_pos hc,Rat.mul_zero]; exact Rat.zero_mul _
  ·rw[if_neg hc,if_neg hc,u2,aim];exact ajV u1 u4
 generalize (if -1074<=i then(0:Rat)else eta)=w at *;rw[aeL,aij]at c1;rw[aik,ail,aeL]at c2;have ev:(V:Rat)*2 ^ F*Ue E=V*Ue Sp:=by rw[u2,Rat.mul_comm (Ue Sp),<- Rat.mul_assoc,Rat.mul_assoc (V:Rat),u1,Rat.mul_one]
 have f1:=ajT c1 (Rat.le_of_lt u3) ev;have f2:=ajU c2 (Rat.le_of_lt u3) ev;rw[hzr]at f1 f2;cases s
 ·rw[if_neg (by decide)]at hA ⊢;rw[if_neg (by decide)];exact(ahg f1 f2 hA.2).1
 ·rw[if_pos rfl]at hA ⊢;rw[if_pos rfl,Rat.neg_mul,Rat.neg_mul];rw[Rat.neg_mul]at hA;exact(ahg f1 f2 (abH hA)).2
theorem Ww (s:Bool) {m:Nat} (hm:m ≠ 0) {i:Int} (hb:i+m.log2<=1000) {E:Nat} (hE:1074<=E) (hi:0<=i+E) :
  aw (some (Ieee.double.nearest s m i))=true /\ ∀ A,Bd (((signed s m (i+E).toNat:Int):Rat)*Ue E) A->Bd (rv (some (Ieee.double.nearest s m i)) - ((signed s m (i+E).toNat:Int):Rat)*Ue E) (uu*A+if -1074<=i then 0 else eta):=B_ s hm (.inl hb) hE hi
theorem ne {b:Nat} {s:Bool} {m:Nat} {i:Int} (h:Ieee.double.read b=.number s m i):rv (some b)=((signed s m (i+1074).toNat:Int):Rat)*Ue Sp:=by unfold rv; rw[Cm h]
theorem AP (s:Bool):aw (some (Ieee.double.word s 0))=true/\rv (some (Ieee.double.word s 0))=0:=by have h:=Nb s;exact⟨sw h,by rw[ne h,iu]; exact Rat.zero_mul _⟩
theorem Bd.nonneg {d e:Rat} (h:Bd d e):0<=e:=by obtain⟨h1,h2⟩:=h; grind
theorem HQ {e:Rat} (h:0<=e):Bd (0 - 0) e:=by unfold Bd; grind
theorem agU (s:Bool) {m k E:Nat} (hm:m ≠ 0):((signed s m k:Int):Rat)*Ue E ≠ 0:=by
 have h1:(0:Rat)<((m*2 ^ k:Nat):Rat):=by have:((0:Nat):Rat)<((m*2 ^ k:Nat):Rat):=Rat.natCast_lt_natCast.2 (ayI (ax2 hm) (aw0 k));exact this
 have h2:=Rat.mul_pos h1 (iA E);rw[jh];cases s
 ·rw[if_neg (by decide)]; intro h; rw[h]at h2; exact absurd h2 (by decide)
 ·rw[if_pos rfl,Rat.neg_mul]; intro h;have:((m*2 ^ k:Nat):Rat)*Ue E=0:=by generalize ((m*2 ^ k:Nat):Rat)*Ue E=q at h; grind
  rw[this]at h2; exact absurd h2 (by decide)
theorem SP {x y:Fl} (hx:aw x=true) (hy:aw y=true) (hb:Bd (rv x*rv y) Bg\/aw (aZ x y)=true):aw (aZ x y)=true/\(rv x*rv y=0->rv (aZ x y)=0) /\ ∀ A,Bd (rv x*rv y) A->Bd (rv (aZ x y) - rv x*rv y) (uu*A+eta):=by
 obtain⟨c,s,m,i,rfl,rc⟩:=cR hx;obtain⟨d,t,n,j,rfl,rd⟩:=cR hy;have gi:=iD rc;have gj:=iD rd;have e0:aZ (some c) (some d)=some (Ieee.double.nearest (s ^^ t) (m*n) (i+j)):=by show((Ieee.double.read c).product (Ieee.double.read d)).map Ieee.double.write=_;rw[rc,rd]; rfl
 have ex:((signed (s ^^ t) (m*n) (i+j+((1074+1074:Nat):Int)).toNat:Int):Rat)*Ue (1074+1074)=rv (some c)*rv (some d):=by rw[show(i+j+((1074+1074:Nat):Int)).toNat=(i+1074).toNat+(j+1074).toNat by omega,Nx,Rat.intCast_mul,q_,ne rc,ne rd,DL];generalize ((signed s m (i+1074).toNat:Int):Rat)=p;generalize ((signed t n (j+1074).toNat:Int):Rat)=q;generalize Ue 1074=r;grind
 rw[e0]at hb ⊢;by_cases h0:m*n=0
 ·rw[h0,nS];obtain⟨w1,w2⟩:=AP (s ^^ t);have e1:rv (some c)*rv (some d)=0:=by rw[<- ex,h0,iu]; exact Rat.zero_mul _
  refine⟨w1,λ_=>w2,λA hA=>?_⟩;rw[w2,e1];refine HQ ?_;have:=hA.nonneg;have:=xA;grind
 ·rw[<- ex]at hb;have hg:i+j+(m*n).log2<=1000\/aw (some (Ieee.double.nearest (s ^^ t) (m*n) (i+j)))=true:=hb.imp (λhb=>by have:=Ca h0 (by omega) hb; omega) id;obtain⟨n1,n2⟩:=B_ (s ^^ t) h0 (i:=i+j) hg (E:=1074+1074) (by omega) (by omega);refine⟨n1,λhz=>absurd (ex.trans hz) (agU _ h0),λA hA=>?_⟩;rw[<- ex]at hA ⊢;have h3:=n2 A hA;have h4:(if -1074<=i+j then(0:Rat)else eta)<=eta:=by have:=xA;split <;> grind
  generalize (if -1074<=i+j then(0:Rat)else eta)=w at h3 h4;obtain⟨a1,a2⟩:=h3;exact⟨by grind,by grind⟩
theorem AJ {x y:Fl} (hx:aw x=true) (hy:aw y=true) (hb:Bd (rv x*rv y) Bg):aw (aZ x y)=true/\(rv x*rv y=0->rv (aZ x y)=0) /\ ∀ A,Bd (rv x*rv y) A->Bd (rv (aZ x y) - rv x*rv y) (uu*A+eta):=SP hx hy (.inl hb)
theorem Ts {s t:Bool} {m n:Nat} {i j:Int} (hi : -1074<=i) (hj : -1074<=j) {X:Rat} (hX:X=((signed s m (i+1074).toNat+signed t n (j+1074).toNat:Int):Rat)*Ue Sp) (hb:Bd X Bg \/ ∀ w,((Datum.number s m i).sum (.number t n j)).map Ieee.double.write=some w->aw (some w)=true) :
  ∃ w,((Datum.number s m i).sum (.number t n j)).map Ieee.double.write=some w/\aw (some w)=true /\ ∀ A,Bd X A->Bd (rv (some w) - X) (uu*A):=by
 obtain⟨sg,e,hsg⟩:=aeC s t m n i j;refine⟨_,e,?_⟩;generalize hT:signed s m (i - min i j).toNat+signed t n (j - min i j).toNat=T at hsg;have hE:T*2 ^ (min i j+((1074:Nat):Int)).toNat=signed s m (i+1074).toNat+signed t n (j+1074).toNat:=by
  rw[<- hT,Int.add_mul,<- FB,<- FB];have e1:(i - min i j).toNat+(min i j+((1074:Nat):Int)).toNat=(i+1074).toNat:=by omega
  have e2:(j - min i j).toNat+(min i j+((1074:Nat):Int)).toNat=(j+1074).toNat:=by omega
  rw[e1,e2]
 have hs:signed sg T.natAbs (min i j+((1074:Nat):Int)).toNat=signed s m (i+1074).toNat+signed t n (j+1074).toNat:=by
  rw[<- hE];generalize (min i j+((1074:Nat):Int)).toNat=q;by_cases h0:T=0
  ·subst h0; rw[Int.natAbs_zero,iu,Int.zero_mul]
  ·rw[hsg h0];unfold signed;rw[Nat.shiftLeft_eq];have ec:((T.natAbs*2 ^ q:Nat):Int)=(T.natAbs:Int)*2 ^ q:=by rw[aw4,axA]; rfl
   rw[ec];by_cases hl:T<0
   ·rw[awM hl,if_pos rfl,show((T.natAbs:Nat):Int) = -T by omega,ayN,Int.neg_neg]
   ·rw[awN hl,if_neg (by decide),show((T.natAbs:Nat):Int)=T by omega]
 have ex:((signed sg T.natAbs (min i j+((1074:Nat):Int)).toNat:Int):Rat)*Ue 1074=X:=by rw[hs,hX,DL]
 by_cases h0:T.natAbs=0
 ·rw[h0,nS];obtain⟨w1,w2⟩:=AP sg;have e1:X=0:=by rw[<- ex,h0,iu]; exact Rat.zero_mul _
  refine⟨w1,λA hA=>?_⟩;rw[w2,e1];refine HQ ?_;have:=hA.nonneg;grind
 ·rw[<- ex]at hb;have hg:min i j+T.natAbs.log2<=1000\/aw (some (Ieee.double.nearest sg T.natAbs (min i j)))=true:=hb.imp (λhb=>by have:=Ca h0 (by omega) hb; omega) (λhb=>by have:=hb _ e; rw[hT]at this; exact this);obtain⟨n1,n2⟩:=B_ sg h0 (i:=min i j) hg (E:=1074) (by omega) (by omega);refine⟨n1,λA hA=>?_⟩;rw[<- ex]at hA ⊢;have h3:=n2 A hA;rw[if_pos (by omega)]at h3;obtain⟨a1,a2⟩:=h3;exact⟨by grind,by grind⟩
theorem Lu {s t:Bool} {m n:Nat} {i j:Int} (hi : -1074<=i) (hj : -1074<=j) {X:Rat} (hX:X=((signed s m (i+1074).toNat+signed t n (j+1074).toNat:Int):Rat)*Ue Sp) (hb:Bd X Bg) :
  ∃ w,((Datum.number s m i).sum (.number t n j)).map Ieee.double.write=some w/\aw (some w)=true /\ ∀ A,Bd X A->Bd (rv (some w) - X) (uu*A):=Ts hi hj hX (.inl hb)
theorem D9 {x y:Fl} (hx:aw x=true) (hy:aw y=true) (hb:Bd (rv x+rv y) Bg):aw (cu x y)=true /\ ∀ A,Bd (rv x+rv y) A->Bd (rv (cu x y) - (rv x+rv y)) (uu*A):=by
 obtain⟨c,s,m,i,rfl,rc⟩:=cR hx;obtain⟨d,t,n,j,rfl,rd⟩:=cR hy;have hX:rv (some c)+rv (some d)=((signed s m (i+1074).toNat+signed t n (j+1074).toNat:Int):Rat)*Ue Sp:=by rw[ne rc,ne rd,Rat.intCast_add,Rat.add_mul]
 obtain⟨w,h1,h2,h3⟩:=Lu (iD rc) (iD rd) hX hb;have e0:cu (some c) (some d)=some w:=by show((Ieee.double.read c).sum (Ieee.double.read d)).map Ieee.double.write=_;rw[rc,rd]; exact h1
 rw[e0];exact⟨h2,h3⟩
theorem Lt {x y:Fl} (hx:aw x=true) (hy:aw y=true) (hb:Bd (rv x - rv y) Bg):aw (dF x y)=true /\ ∀ A,Bd (rv x - rv y) A->Bd (rv (dF x y) - (rv x - rv y)) (uu*A):=by
 obtain⟨c,s,m,i,rfl,rc⟩:=cR hx;obtain⟨d,t,n,j,rfl,rd⟩:=cR hy;have hX:rv (some c) - rv (some d)=((signed s m (i+1074).toNat+signed (!t) n (j+1074).toNat:Int):Rat)*Ue Sp:=by rw[ne rc,ne rd,Ny,Rat.intCast_add,Rat.intCast_neg,Rat.add_mul,Rat.neg_mul,<- Rat.sub_eq_add_neg]
 obtain⟨w,h1,h2,h3⟩:=Lu (iD rc) (iD rd) hX hb;have e0:dF (some c) (some d)=some w:=by show((Ieee.double.read c).sum (Ieee.double.read d).opposite).map Ieee.double.write=_;rw[rc,rd]; exact h1
 rw[e0];exact⟨h2,h3⟩
theorem afn {P ay ax q A h y:Rat} (hay:0<ay) (h1:Bd (P*ay - ax) (P*ay / 18014398509481984)) (hq:q*ay=ax) (hqA:q<=A) (hy:Bd (y - P) (uu*P+h)) (hP:0<=P) (hA:0<=A):Bd (y - q) (2*uu*A+h):=by
 subst hq;obtain⟨a1,a2⟩:=h1;obtain⟨b1,b2⟩:=hy;have c1:P - q<=P / 18014398509481984:=by
  rcases (Rat.le_total:P - q - P / 18014398509481984<=0\/0<=P - q - P / 18014398509481984)with h | h
  ·grind
  ·by_cases hz:P - q - P / 18014398509481984=0
   ·grind
   ·have:=Rat.mul_pos (Rat.lt_of_le_of_ne h (λe=>hz e.symm)) hay;grind
 have c2:q - P<=P / 18014398509481984:=by
  rcases (Rat.le_total:q - P - P / 18014398509481984<=0\/0<=q - P - P / 18014398509481984)with h | h
  ·grind
  ·by_cases hz:q - P - P / 18014398509481984=0
   ·grind
   ·have:=Rat.mul_pos (Rat.lt_of_le_of_ne h (λe=>hz e.symm)) hay;grind
 constructor <;> grind
theorem ad1 {M n:Nat} (hn:n ≠ 0):∃ D,2*(M / n)+(M%n != 0).toNat=D/\D*n<=2*M+n/\2*M<=D*n+n:=by
 refine⟨_,rfl,?_⟩;have h1:=axz M n;have h2:=axf M (ax2 hn);generalize M%n=r at *;generalize M / n=w at *;by_cases hr:r=0
 ·subst hr;have:(2*w+((0:Nat) != 0).toNat)*n=2*(n*w):=by show(2*w+0)*n=_;rw[axb,awW,awR w n]
  rw[this]; omega
 ·have hb:(r != 0)=true:=by rw[bne_iff_ne]; exact hr
  rw[hb];have:(2*w+(true).toNat)*n=2*(n*w)+n:=by show(2*w+1)*n=_;rw[axh,ax4,awW,awR w n]
  rw[this]; omega
theorem agG {M n:Nat} (h:18014398509481984*n<=2*M) (hn:n ≠ 0) {D:Nat} (h2:2*M<=D*n+n) (h3:D*n<=2*M+n) (hD:2*(M / n)+(M%n != 0).toNat=D):18014398509481984<=D:=by
 have h4:9007199254740992<=M / n:=by rw[ayf (ax2 hn)]; omega
 omega
theorem ajW {a b c d:Rat} (h:a*b=1):c*a*(b*d)=c*d:=by
 have:c*a*(b*d)=c*d*(a*b):=by grind
 rw[this,h,Rat.mul_one]
theorem ajX {X Y n W:Rat} (hW:0<=W) (h1:X<=Y+n) (h2:Y<=X+n) (hn:n*18014398509481984<=X):Bd (X*W - Y*W) (X*W / 18014398509481984):=by have a1:=Rat.mul_nonneg (by grind:0<=Y+n - X) hW;have a2:=Rat.mul_nonneg (by grind:0<=X+n - Y) hW;have a3:=Rat.mul_nonneg (by grind:0<=X - n*18014398509481984) hW;constructor <;> grind
@[irreducible] def Gq:Nat:=2200
theorem aeH:Gq=2200:=by unfold Gq; rfl
theorem abM {m n:Nat} {i j:Int} (hm:m ≠ 0) (hn:n ≠ 0) (hi : -1074<=i) (hj : -1074<=j) (hj2:j<=971) (hnb:n<9007199254740992) (hmb:m<9007199254740992) :
  ∃(D:Nat) (p:Int),D ≠ 0/\0<=p+(Gq:Int)/\(∀ s t,(Datum.number s m i).quotient 54 (.number t n j)=some (.number (s ^^ t) D p)) /\
   Bd (((D*2 ^ (p+(Gq:Int)).toNat:Nat):Rat)*Ue Gq*(((n*2 ^ (j+1074).toNat:Nat):Rat)*Ue Sp) - ((m*2 ^ (i+1074).toNat:Nat):Rat)*Ue Sp) (((D*2 ^ (p+(Gq:Int)).toNat:Nat):Rat)*Ue Gq*(((n*2 ^ (j+1074).toNat:Nat):Rat)*Ue Sp) / 18014398509481984):=by
 have hml:m.log2<=52:=by have:=(Nat.log2_lt hm).2 (by simpa using hmb:m<2 ^ 53); omega
 have hnl:n.log2<=52:=by have:=(Nat.log2_lt hn).2 (by simpa using hnb:n<2 ^ 53); omega
 have hG:=aeH;generalize Gq=G at *;generalize hmore:54+n.log2 - m.log2=more;obtain⟨D,hD,d1,d2⟩:=ad1 (M:=m <<< more) hn;have hM:18014398509481984*n<=2*(m <<< more):=by
  have h1:=Nat.log2_self_le hm;have h2:n<2 ^ (n.log2+1):=Nat.lt_log2_self;rw[Nat.shiftLeft_eq];have h3:2 ^ m.log2*2 ^ more=2 ^ (54+n.log2):=by rw[<- aw2]; congr 1; omega
  have h4:=awU (2 ^ more) h1;rw[h3]at h4;have h5:2 ^ (54+n.log2)=9007199254740992*2 ^ (n.log2+1):=by rw[show(9007199254740992:Nat)=2 ^ 53 by decide,<- aw2]; congr 1; omega
  rw[h5]at h4;generalize m*2 ^ more=X at *;generalize 2 ^ (n.log2+1)=Y at *;omega
 have hge:=agG hM hn d2 d1 hD;refine⟨D,i - j - more - 1,by omega,by omega,λs t=>?_,?_⟩
 ·simp only[Datum.quotient,if_neg hn];rw[hmore,hD]
 ·have hp:0<=i - j - more - 1+(G:Int):=by omega
  generalize hpp:i - j - more - 1=p at *;rw[Nat.shiftLeft_eq]at d1 d2;have ex:(i+1074).toNat+G=(p+(G:Int)).toNat+(j+1074).toNat+(more+1):=by omega
  generalize hw:(p+(G:Int)).toNat+(j+1074).toNat=w at ex;have e1:((D*2 ^ (p+(G:Int)).toNat:Nat):Rat)*Ue G*(((n*2 ^ (j+1074).toNat:Nat):Rat)*Ue Sp)=((D*n:Nat):Rat)*(((2 ^ w:Nat):Rat)*Ue (G+Sp)):=by rw[<- hw,aw2,q_,Rat.natCast_mul,Rat.natCast_mul,Rat.natCast_mul,Rat.natCast_mul];generalize ((2 ^ (p+(G:Int)).toNat:Nat):Rat)=a;generalize ((2 ^ (j+1074).toNat:Nat):Rat)=b;generalize Ue G=c;generalize Ue Sp=d;grind
  have e2:((m*2 ^ (i+1074).toNat:Nat):Rat)*Ue Sp=((2*(m*2 ^ more):Nat):Rat)*(((2 ^ w:Nat):Rat)*Ue (G+Sp)):=by
   have h1:m*2 ^ (i+1074).toNat*2 ^ G=2*(m*2 ^ more)*2 ^ w:=by rw[awW,<- aw2,ex,aw2 2 w,awX];generalize 2 ^ w=a;generalize 2 ^ more=b;grind
   have h2:((m*2 ^ (i+1074).toNat:Nat):Rat)*((2 ^ G:Nat):Rat)=((2*(m*2 ^ more):Nat):Rat)*((2 ^ w:Nat):Rat):=by rw[<- Rat.natCast_mul,<- Rat.natCast_mul,h1]
   have h3:((2 ^ G:Nat):Rat)*Ue G=1:=by rw[Rat.natCast_pow]; exact nB G
   rw[q_,<- Rat.mul_assoc,<- h2];exact(ajW h3).symm
  rw[e1,e2];have hW:(0:Rat)<=((2 ^ w:Nat):Rat)*Ue (G+Sp):=Rat.mul_nonneg (Rat.natCast_nonneg) (Rat.le_of_lt (iA _));generalize ((2 ^ w:Nat):Rat)*Ue (G+Sp)=W at *;refine ajX hW (n:=(n:Rat)) ?_ ?_ ?_
  ·rw[<- Rat.natCast_add]; exact Rat.natCast_le_natCast.2 d1
  ·rw[<- Rat.natCast_add]; exact Rat.natCast_le_natCast.2 d2
  ·have:((n*18014398509481984:Nat):Rat)=(n:Rat)*18014398509481984:=by rw[Rat.natCast_mul]; rfl
   rw[<- this];refine Rat.natCast_le_natCast.2 ?_;rw[awR]; exact awU _ hge
theorem ahd {d P w e:Rat} (h:Bd d (uu*P+w)) (hw:w<=e):Bd d (uu*P+e):=by obtain⟨h1,h2⟩:=h;exact⟨by grind,by grind⟩
theorem ahe {y P w e:Rat} (h:Bd (y - -P) (uu*P+w)) (hw:w<=e):Bd (-y - P) (uu*P+e):=by obtain⟨h1,h2⟩:=h;exact⟨by grind,by grind⟩
theorem ahf {y q e:Rat} (h:Bd (-y - q) e):Bd (y - -q) e:=by obtain⟨h1,h2⟩:=h;exact⟨by grind,by grind⟩
theorem PE {P B:Rat} (h:0<P) (hB:P<=B):Bd P B/\Bd (-P) B:=by unfold Bd; grind
theorem J4 {x y:Fl} (hx:aw x=true) (hy:aw y=true) (h0:rv y ≠ 0) (hb:Bd (rv x / rv y) (Bg / 2)):aw (fdiv x y)=true/\(rv x=0->rv (fdiv x y)=0) /\ ∀ A,Bd (rv x / rv y) A->Bd (rv (fdiv x y) - rv x / rv y) (2*uu*A+eta):=by
 obtain⟨c,s,m,i,rfl,rc⟩:=cR hx;obtain⟨d,t,n,j,rfl,rd⟩:=cR hy;have gi:=iD rc;have gj:=iD rd;obtain⟨hi2,hmb⟩:=mS rc;obtain⟨hj2,hnb⟩:=mS rd;have hn:n ≠ 0:=by intro hc;apply h0;rw[ne rd,hc,iu]; exact Rat.zero_mul _
 have e0:fdiv (some c) (some d)=((Datum.number s m i).quotient 54 (.number t n j)).map Ieee.double.write:=by show((Ieee.double.read c).quotient (Ieee.double.fractionBits+2) (Ieee.double.read d)).map Ieee.double.write=_;rw[rc,rd]; rfl
 by_cases hm:m=0
 ·subst hm;have e1:fdiv (some c) (some d)=some (Ieee.double.word (s ^^ t) 0):=by
   rw[e0];simp only[Datum.quotient,if_neg hn];have:(0:Nat) <<< (54+n.log2 - (0:Nat).log2)=0:=by rw[Nat.shiftLeft_eq,axF]
   rw[this,Nat.zero_div,Nat.zero_mod];show some (Ieee.double.nearest (s ^^ t) 0 _)=_;rw[nS]
  obtain⟨w1,w2⟩:=AP (s ^^ t);have z:rv (some c)=0:=by rw[ne rc,iu]; exact Rat.zero_mul _
  rw[e1];refine⟨w1,λ_=>w2,λA hA=>?_⟩;rw[w2,z];rw[z]at hA;have hz:(0:Rat) / rv (some d)=0:=by rw[Rat.div_def,Rat.zero_mul]
  rw[hz];refine HQ ?_;have:=hA.nonneg;have:=xA;grind
 ·obtain⟨D,p,hD,hp,hq,hbd⟩:=abM hm hn gi gj hj2 hnb hmb;rw[e0,hq];show aw (some (Ieee.double.nearest (s ^^ t) D p))=true/\(rv (some c)=0->rv (some (Ieee.double.nearest (s ^^ t) D p))=0) /\ ∀ A,Bd (rv (some c) / rv (some d)) A->Bd (rv (some (Ieee.double.nearest (s ^^ t) D p)) - rv (some c) / rv (some d)) (2*uu*A+eta);have hcx:=ne rc;have hcy:=ne rd;rw[jh]at hcx hcy;have hay:0<((n*2 ^ (j+1074).toNat:Nat):Rat)*Ue Sp:=Rat.mul_pos (Rat.natCast_pos.2 (ayI (ax2 hn) (aw0 _))) (iA _);have hax:0<((m*2 ^ (i+1074).toNat:Nat):Rat)*Ue Sp:=Rat.mul_pos (Rat.natCast_pos.2 (ayI (ax2 hm) (aw0 _))) (iA _);have hP:0<((D*2 ^ (p+(Gq:Int)).toNat:Nat):Rat)*Ue Gq:=Rat.mul_pos (Rat.natCast_pos.2 (ayI (ax2 hD) (aw0 _))) (iA _);have hsg:=jh (s ^^ t) D (p+(Gq:Int)).toNat;have hng:Bd (((signed (s ^^ t) D (p+(Gq:Int)).toNat:Int):Rat)*Ue Gq) Bg->p+D.log2<=900:=Ca hD hp;have hnr:p+D.log2<=900->_:=λh=>Ww (s ^^ t) hD (i:=p) (by omega) (E:=Gq) (by rw[aeH]; decide) hp
  rw[hsg]at hng hnr;have hw:(if -1074<=p then(0:Rat)else eta)<=eta:=by have:=xA; split <;> grind
  generalize (if -1074<=p then(0:Rat)else eta)=w at hnr hw;generalize ((n*2 ^ (j+1074).toNat:Nat):Rat)=n1 at *;generalize ((m*2 ^ (i+1074).toNat:Nat):Rat)=m1 at *;generalize ((D*2 ^ (p+(Gq:Int)).toNat:Nat):Rat)=P1 at *;have hx2:rv (some c)=if s=true then -(m1*Ue Sp)else m1*Ue Sp:=by rw[hcx]; cases s <;> simp[Rat.neg_mul]
  have hy2:rv (some d)=if t=true then -(n1*Ue Sp)else n1*Ue Sp:=by rw[hcy]; cases t <;> simp[Rat.neg_mul]
  have hz2:(if (s ^^ t)=true then -P1 else P1)*Ue Gq=if (s ^^ t)=true then -(P1*Ue Gq)else P1*Ue Gq:=by cases (s ^^ t) <;> simp[Rat.neg_mul]
  rw[hz2]at hng hnr;generalize m1*Ue Sp=ax at *;generalize n1*Ue Sp=ay at *;generalize P1*Ue Gq=P at *;generalize some (Ieee.double.nearest (s ^^ t) D p)=V at *;clear hz2 hcx hcy hsg;have hq0:rv (some c) / rv (some d)=if (s ^^ t)=true then -(ax / ay)else ax / ay:=by
   rw[hx2,hy2];have h0':ay ≠ 0:=by grind
   cases s <;> cases t
   ·rfl
   ·show ax / -ay = -(ax / ay);grind
   ·show -ax / ay = -(ax / ay);grind
   ·show -ax / -ay=ax / ay;grind
  rw[hq0]at hb ⊢;have hqa:ax / ay*ay=ax:=by
   have h0':ay ≠ 0:=by grind
   grind
  have hqp:0<=ax / ay:=by rw[Rat.div_def];exact Rat.mul_nonneg (Rat.le_of_lt hax) (Rat.le_of_lt (Rat.inv_pos.2 hay))
  have hx0:rv (some c) ≠ 0:=by
   rw[hx2]; cases s
   ·show ax ≠ 0; grind
   ·show -ax ≠ 0; grind
  generalize ax / ay=q at *;have hqB:q<=Bg / 2:=by
   cases h:(s ^^ t)
   ·rw[h]at hb; exact hb.2
   ·rw[h]at hb; exact abH hb
  have hPq:=afn (y:=P) (h:=0) (A:=q) hay hbd hqa Rat.le_refl (by unfold Bd; grind) (Rat.le_of_lt hP) hqp;have hPB:P<=Bg:=by have:=hPq.2;have:=hqB;generalize Bg=B at *;clear hng hnr hb;grind
  have hlog:p+D.log2<=900:=hng (by
   cases (s ^^ t)
   ·exact(PE hP hPB).1
   ·exact(PE hP hPB).2)
  obtain⟨f1,f2⟩:=hnr hlog;refine⟨f1,λh=>absurd h hx0,λA hA=>?_⟩;have f3:=f2 P (by
   cases (s ^^ t)
   ·exact(PE hP Rat.le_refl).1
   ·exact(PE hP Rat.le_refl).2)
  cases h:(s ^^ t)
  ·rw[h]at f3 hA;rw[if_neg (by decide)]at f3 hA ⊢;exact afn hay hbd hqa hA.2 (ahd f3 hw) (Rat.le_of_lt hP) hA.nonneg
  ·rw[h]at f3 hA;rw[if_pos rfl]at f3 hA ⊢;exact ahf (afn hay hbd hqa (abH hA) (ahe f3 hw) (Rat.le_of_lt hP) hA.nonneg)
theorem yG {n:Nat}:∀(todo root:Nat),root*root<=n->n<(root+2 ^ todo)*(root+2 ^ todo)->Datum.rootFrom n todo root*Datum.rootFrom n todo root<=n/\n<(Datum.rootFrom n todo root+1)*(Datum.rootFrom n todo root+1)
 | 0,root,h1,h2=>⟨h1,h2⟩
 | todo+1,root,h1,h2=>by
  unfold Datum.rootFrom;rw[Nat.shiftLeft_eq,ax4];dsimp only;by_cases h:(root+2 ^ todo)*(root+2 ^ todo)<=n
  ·rw[if_pos h];refine yG todo _ h ?_;have:root+2 ^ todo+2 ^ todo=root+2 ^ (todo+1):=by rw[awX]; omega
   rw[this]; exact h2
  ·rw[if_neg h];exact yG todo _ h1 (by omega)
end Go.Proofs.YtldenpmpmifnlaaGreatDoor
end
