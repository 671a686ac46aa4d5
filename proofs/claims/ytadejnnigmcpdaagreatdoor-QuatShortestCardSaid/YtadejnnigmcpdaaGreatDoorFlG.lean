/-
  FLOATS: how far what is written lies from what was meant, in units of the least place.
  Conditions: none.
-/
import Derived.Test.YtadejnnigmcpdaaGreatDoorFlA
import Derived.Test.YtadejnnigmcpdaaGreatDoorR4
set_option linter.unusedVariables false
section
namespace Go.Proofs.YtadejnnigmcpdaaGreatDoor
open Go Go.Mach Ieee
def abB (r:Nat):Nat:=if r<4503599627370496 then r else(4503599627370496+r%4503599627370496)*2 ^ (r / 4503599627370496 - 1)
theorem OS (s:Bool) {r:Nat} (h:r<9218868437227405312):∃ m i,Ieee.double.read (Ieee.double.word s r)=.number s m i /\ -1074<=i/\m*2 ^ (i+1074).toNat=abB r:=by
 have hw:Ieee.double.word s r%9223372036854775808=r:=by unfold Format.word; rw[aI]; cases s <;> simp <;> omega
 have hs:(Ieee.double.word s r / 9223372036854775808%2==1)=s:=by
  unfold Format.word; rw[aI];cases s
  ·simp; omega
  ·have:(9223372036854775808+r) / 9223372036854775808=1:=by omega
   simp[this]
 unfold Format.read abB;simp only[aI,cO,bf,bU,hw,hs];split
 ·refine⟨_,_,rfl,by omega,?_⟩;show r*2 ^ 0=r;omega
 ·refine⟨_,_,rfl,by omega,?_⟩;congr 2;omega
theorem OZ (p kept:Nat) (h1:kept<=9007199254740992) (h2:p=0\/4503599627370496<=kept):abB (p*4503599627370496+kept)=kept*2 ^ p:=by
 unfold abB;by_cases hp:p=0
 ·subst hp;rw[aq7,aqb,Nat.pow_zero,aqU];split
  ·rfl
  ·by_cases hk:kept=9007199254740992
   ·subst hk; decide
   ·have e1:kept / 4503599627370496=1:=by omega
    rw[e1,aqV,Nat.pow_zero]; omega
 ·have hk:=h2.resolve_left hp;rw[if_neg (by omega)];by_cases he:kept=9007199254740992
  ·subst he;have e1:(p*4503599627370496+9007199254740992)%4503599627370496=0:=by omega
   have e2:(p*4503599627370496+9007199254740992) / 4503599627370496 - 1=p+1:=by omega
   generalize (p*4503599627370496+9007199254740992)%4503599627370496=a at e1 ⊢;generalize (p*4503599627370496+9007199254740992) / 4503599627370496 - 1=b at e2 ⊢;have e3:2 ^ b=2 ^ p*2:=by rw[e2,aqv]
   subst e1;rw[e3];generalize 2 ^ p=y;omega
  ·have e1:(p*4503599627370496+kept)%4503599627370496=kept - 4503599627370496:=by omega
   have e2:(p*4503599627370496+kept) / 4503599627370496 - 1=p:=by omega
   rw[e2];exact congrArg (λz=>z*2 ^ p) (by rw[e1]; omega)
theorem Rj (s:Bool) (n d:Nat) (hd:1<=d):2*(Toward.even.cut s n d*2 ^ d)<=2*n+2 ^ d/\2*n<=2*(Toward.even.cut s n d*2 ^ d)+2 ^ d:=by
 unfold Toward.cut;dsimp only;have h2:n<2 ^ (n.log2+1):=Nat.lt_log2_self;have hg:∀ g low rest:Nat,0<g->n=g*low+rest->rest<g -> ∀ b:Bool,(b=true->g<=2*rest)->(b=false->2*rest<=g)->2*((low+b.toNat)*g)<=2*n+g/\2*n<=2*((low+b.toNat)*g)+g:=by
  intro g low rest hg hn hr b h1 h2;have e:(low+b.toNat)*g=g*low+b.toNat*g:=by rw[aqD,aqw low g]
  rw[e];cases b
  ·have:=h2 rfl;simp only[Bool.toNat_false,aq7]; omega
  ·have:=h1 rfl;simp only[Bool.toNat_true,aqI]; omega
 by_cases h:d<=n.log2+2
 ·rw[aqp h,Nat.shiftLeft_eq,aqI];refine hg (2 ^ d) _ _ (ap7 d) (arh n (2 ^ d)).symm (aq8 _ (ap7 d)) _ (λhb=>?_) (λhb=>?_)
  ·simp only[aqF,arb,aqj,arl]at hb;rcases hb with h | h <;> omega
  ·simp only[Bool.or_eq_false_iff,aqA]at hb;omega
 ·rw[Nat.min_eq_right (by omega),Nat.shiftLeft_eq,aqI];have hlt:n<2 ^ (n.log2+2):=Nat.lt_trans h2 (Nat.pow_lt_pow_right (by decide) (by omega));have e1:n / 2 ^ (n.log2+2)=0:=aqZ hlt;have e2:n%2 ^ (n.log2+2)=n:=aqi hlt;have e3:2 ^ (n.log2+2)=2*2 ^ (n.log2+1):=by rw[aqv]; omega
  rw[e1,e2];have hb:(decide (2 ^ (n.log2+2)<2*n)||(2 ^ (n.log2+2)==2*n&&0%2==1))=false:=by simp only[Bool.or_eq_false_iff,aqA,Bool.and_eq_false_iff];exact⟨by omega,.inr rfl⟩
  rw[hb];simp only[Bool.toNat_false,aqy,aq7,Nat.mul_zero,aqb];have:2 ^ (n.log2+2)<=2 ^ d:=aqf (by decide) (by omega);omega
theorem DA (s:Bool) {m:Nat} (h0:m ≠ 0) {i:Int} (hb:i+m.log2<=1000):∃ m' i' V,Ieee.double.read (Ieee.double.nearest s m i)=.number s m' i'/\m'*2 ^ (i'+1074).toNat=V /\
  ∀ E:Nat,1074<=E->0<=i+E->9007199254740992*(V*2 ^ (E - 1074))<=9007199254740992*(m*2 ^ (i+E).toNat)+(m*2 ^ (i+E).toNat+if -1074<=i then 0 else 4503599627370496*2 ^ (E - 1074)) /\
   9007199254740992*(m*2 ^ (i+E).toNat)<=9007199254740992*(V*2 ^ (E - 1074))+(m*2 ^ (i+E).toNat+if -1074<=i then 0 else 4503599627370496*2 ^ (E - 1074)):=by
 unfold Format.nearest;rw[if_neg h0,bU,cO,bf];have hf:Ieee.double.fractionBits=52:=rfl;rw[hf];generalize hL:max (i+(m.log2:Int) - ((52:Nat):Int)) (-1074)=L;have hL1 : -1074<=L:=by omega
 have hlg:=Nat.log2_self_le h0;have hlg2:m<2 ^ (m.log2+1):=Nat.lt_log2_self;have key:∃ kept,Toward.even.cut s (m <<< (i - L).toNat) (L - i).toNat=kept/\kept<=9007199254740992/\((L+1074).toNat=0\/4503599627370496<=kept) /\
   ∀ E:Nat,1074<=E->0<=i+E->9007199254740992*(kept*2 ^ (L+1074).toNat*2 ^ (E - 1074))<=9007199254740992*(m*2 ^ (i+E).toNat)+(m*2 ^ (i+E).toNat+if -1074<=i then 0 else 4503599627370496*2 ^ (E - 1074)) /\
    9007199254740992*(m*2 ^ (i+E).toNat)<=9007199254740992*(kept*2 ^ (L+1074).toNat*2 ^ (E - 1074))+(m*2 ^ (i+E).toNat+if -1074<=i then 0 else 4503599627370496*2 ^ (E - 1074)):=by
  refine⟨_,rfl,?_,?_,?_⟩
  ·have h1:m <<< (i - L).toNat ≠ 0:=by rw[Nat.shiftLeft_eq];exact ark h0 (Nat.pos_iff_ne_zero.1 (ap7 _))
   refine ap2 (Ri s _ _ h1) ?_;have h2:(m <<< (i - L).toNat).log2+1 - (L - i).toNat<=53:=by rw[Du h0]; omega
   exact ap2 (aqf (by decide) h2) (by decide)
  ·by_cases hz:(L+1074).toNat=0
   ·exact .inl hz
   ·right;have hL2:L=i+(m.log2:Int) - 52:=by omega
    by_cases hl:52<=m.log2
    ·have e1:(i - L).toNat=0:=by omega
     have e2:(L - i).toNat=m.log2 - 52:=by omega
     rw[e1,e2,Nat.shiftLeft_zero];refine ap2 ?_ (Bz s m (m.log2 - 52) (by omega));rw[Nat.shiftLeft_eq,aqI,aqW (ap7 _)];have:4503599627370496*2 ^ (m.log2 - 52)=2 ^ m.log2:=by rw[show(4503599627370496:Nat)=2 ^ 52 by decide,<- ap3,show 52+(m.log2 - 52)=m.log2 by omega]
     omega
    ·have e1:(i - L).toNat=52 - m.log2:=by omega
     have e2:(L - i).toNat=0:=by omega
     rw[e1,e2];refine ap2 ?_ (Bz s _ 0 (by omega));rw[Nat.shiftLeft_eq,Nat.shiftLeft_zero,arm];have:4503599627370496=2 ^ m.log2*2 ^ (52 - m.log2):=by rw[<- ap3,show m.log2+(52 - m.log2)=52 by omega]
     rw[this];exact ap4 _ hlg
  ·intro E hE hiE;by_cases hLi:L<=i
   ·have e1:(L - i).toNat=0:=by omega
    rw[e1,m_,Nat.shiftLeft_eq,aqd,aqd,<- ap3,<- ap3,show(i - L).toNat+((L+1074).toNat+(E - 1074))=(i+E).toNat by omega];exact⟨aqN _ _,aqN _ _⟩
   ·have e1:(i - L).toNat=0:=by omega
    rw[e1,Nat.shiftLeft_zero];obtain⟨c1,c2⟩:=Rj s m (L - i).toNat (by omega);generalize Toward.even.cut s m (L - i).toNat=kept at c1 c2;have e2:kept*2 ^ (L+1074).toNat*2 ^ (E - 1074)=kept*2 ^ (L - i).toNat*2 ^ (i+E).toNat:=by
     have ee:(L+1074).toNat+(E - 1074)=(L - i).toNat+(i+E).toNat:=by omega
     rw[aqd,aqd,<- ap3,<- ap3,ee]
    rw[e2];have e3:4503599627370496*(2 ^ (L - i).toNat*2 ^ (i+E).toNat)<=m*2 ^ (i+E).toNat+if -1074<=i then 0 else 4503599627370496*2 ^ (E - 1074):=by
     rw[<- ap3];by_cases hz:L = -1074
     ·rw[if_neg (by omega),show(L - i).toNat+(i+E).toNat=E - 1074 by omega];exact Nat.le_add_left _ _
     ·have:4503599627370496*2 ^ ((L - i).toNat+(i+E).toNat)=2 ^ m.log2*2 ^ (i+E).toNat:=by
       have ee:52+((L - i).toNat+(i+E).toNat)=m.log2+(i+E).toNat:=by omega
       rw[show(4503599627370496:Nat)=2 ^ 52 by decide,<- ap3,<- ap3,ee]
      rw[this];exact ap2 (ap4 _ hlg) (aqN _ _)
    generalize 2 ^ (i+E).toNat=P at e3 ⊢;generalize (if -1074<=i then 0 else 4503599627370496*2 ^ (E - 1074))=z at e3 ⊢;generalize kept*2 ^ (L - i).toNat=K at c1 c2 ⊢;generalize 2 ^ (L - i).toNat=D at c1 c2 e3;have c3:2*(K*P)<=2*(m*P)+D*P:=by
     have:=ap4 P c1
     rwa [aqD,aqd,aqd]at this
    have c4:2*(m*P)<=2*(K*P)+D*P:=by
     have:=ap4 P c2
     rwa [aqD,aqd,aqd]at this
    generalize K*P=x at c3 c4 ⊢;generalize D*P=y at c3 c4 e3;generalize m*P=w at c3 c4 e3 ⊢;omega
 obtain⟨kept,hk,k1,k2,k3⟩:=key;simp only[hk];have hr:(L - -1074).toNat*4503599627370496+kept<9218868437227405312:=by omega
 rw[aqp (by omega)];obtain⟨m',i',h1,h2,h3⟩:=OS s hr;refine⟨m',i',kept*2 ^ (L+1074).toNat,h1,?_,k3⟩;rw[h3,show(L - -1074).toNat=(L+1074).toNat by omega];exact OZ _ _ k1 k2
theorem gK (a b:Nat):(2:Rat) ^ (a+b)=2 ^ a*2 ^ b:=by
 induction b with
 | zero=>rw[aqy,Rat.pow_zero,Rat.mul_one]
 | succ n ih=>rw[<- aqt,Rat.pow_succ,Rat.pow_succ,ih,Rat.mul_assoc]
def Bd (d e:Rat):Prop:=-e<=d/\d<=e
abbrev uu:Rat:=1 / 9007199254740992
theorem alH {B x U P:Rat} (h:P*U=1) (h2:0<=(B - x*U)*P):x<=B*P:=by
 have:x*U*P=x:=by rw[Rat.mul_assoc,Rat.mul_comm U P,h,Rat.mul_one]
 grind
theorem ahR {v x w A:Rat} (g1:0<=9007199254740992*x+(x+9007199254740992*w) - 9007199254740992*v) (g2:0<=9007199254740992*v+(x+9007199254740992*w) - 9007199254740992*x) (a:x<=A):Bd (v - x) (uu*A+w)/\Bd (-v - -x) (uu*A+w):=by unfold Bd; grind
theorem alI {V P z X U v:Rat} (h:9007199254740992*(V*P)<=9007199254740992*X+(X+z)) (hU:0<=U) (e:V*P*U=v):0<=9007199254740992*(X*U)+(X*U+z*U) - 9007199254740992*v:=by have:=Rat.mul_nonneg (by grind:(0:Rat)<=9007199254740992*X+(X+z) - 9007199254740992*(V*P)) hU;rw[<- e]; grind
theorem alJ {V P z X U v:Rat} (h:9007199254740992*X<=9007199254740992*(V*P)+(X+z)) (hU:0<=U) (e:V*P*U=v):0<=9007199254740992*v+(X*U+z*U) - 9007199254740992*(X*U):=by have:=Rat.mul_nonneg (by grind:(0:Rat)<=9007199254740992*(V*P)+(X+z) - 9007199254740992*X) hU;rw[<- e]; grind
theorem alK {P U S e:Rat} (h:P*U=1) (h2:e*2=S):4503599627370496*P*(S*U)=9007199254740992*e:=by
 have:P*(S*U)=S*(P*U):=by grind
 grind
theorem Zq {x A:Rat} (h:Bd (-x) A):x<=A:=by have:=h.1; grind
theorem acg (V F:Nat):((9007199254740992*(V*2 ^ F):Nat):Rat)=(9007199254740992:Rat)*((V:Rat)*2 ^ F):=by rw[Rat.natCast_mul,Rat.natCast_mul,Rat.natCast_pow]; rfl
theorem ai7 (X z:Nat):((9007199254740992*X+(X+z):Nat):Rat)=(9007199254740992:Rat)*X+(X+z):=by rw[Rat.natCast_add,Rat.natCast_add,Rat.natCast_mul]; rfl
theorem ai8 (X:Nat):((9007199254740992*X:Nat):Rat)=(9007199254740992:Rat)*X:=by rw[Rat.natCast_mul]; rfl
theorem ai9 (Y X z:Nat):((9007199254740992*Y+(X+z):Nat):Rat)=((9007199254740992*Y:Nat):Rat)+(X+z):=by rw[Rat.natCast_add,Rat.natCast_add]
theorem ai_ (F:Nat):((4503599627370496*2 ^ F:Nat):Rat)=(4503599627370496:Rat)*2 ^ F:=by rw[Rat.natCast_mul,Rat.natCast_pow]; rfl
@[irreducible] def Ue (E:Nat):Rat:=1 / 2 ^ E
theorem mv (E:Nat):(0:Rat)<2 ^ E:=by
 induction E with
 | zero=>decide
 | succ n ih=>rw[Rat.pow_succ]; exact Rat.mul_pos ih (by decide)
theorem bD (E:Nat):(2:Rat) ^ E*Ue E=1:=by unfold Ue;have:=mv E;grind
theorem bH (E:Nat):0<Ue E:=by
 have h1:=bD E;have h2:=mv E;rcases (Rat.le_total:Ue E<=0\/0<=Ue E)with h | h
 ·have:=Rat.mul_nonneg (by grind:0 <= -(Ue E)) (by grind:(0:Rat)<=2 ^ E);grind
 ·by_cases h0:Ue E=0
  ·rw[h0,Rat.mul_zero]at h1; exact absurd h1 (by decide)
  ·exact Rat.lt_of_le_of_ne h (λe=>h0 e.symm)
theorem cq (a b:Nat):Ue (a+b)=Ue a*Ue b:=by
 have h1:=bD a;have h2:=bD b;have h3:=bD (a+b);have h4:(2:Rat) ^ (a+b)=2 ^ a*2 ^ b:=by grind
 have h5:(2:Rat) ^ (a+b)*(Ue a*Ue b)=1:=by rw[h4]; grind
 have h6:(2:Rat) ^ (a+b) ≠ 0:=by have:=mv (a+b); grind
 grind
theorem ab_ {a b:Nat} (h:a<=b):Ue b<=Ue a:=by
 obtain⟨c,rfl⟩:∃ c,b=a+c:=⟨b - a,by omega⟩
 rw[cq];have h1:=bH a;have h2:=bD c;have h3:(1:Rat)<=2 ^ c:=by
  clear h2;induction c with
  | zero=>decide
  | succ n ih=>rw[Rat.pow_succ]; have:=ih (by omega); grind
 have h4:=bH c;have h5:=Rat.mul_nonneg (by grind:(0:Rat)<=2 ^ c - 1) (by grind:0<=Ue c);have h6:=Rat.mul_nonneg (by grind:(0:Rat)<=Ue a) (by grind:0<=1 - Ue c);grind
@[irreducible] def Sp:Nat:=1074
theorem gd:Sp=1074:=by unfold Sp; rfl
def rv (x:Fl):Rat:=(vl x:Rat)*Ue Sp
def eta:Rat:=Ue (Sp+1)
theorem dD:0<eta:=bH _
@[irreducible] def Bg:Rat:=2 ^ 900
theorem aJ (s:Bool) (m k:Nat):((signed s m k:Int):Rat)=if s=true then -((m*2 ^ k:Nat):Rat)else((m*2 ^ k:Nat):Rat):=by
 unfold signed;rw[Nat.shiftLeft_eq];cases s
 ·simp only[aqg,aqa,Rat.intCast_natCast]
 ·simp only[aqB,Rat.intCast_neg,Rat.intCast_natCast]
theorem jK {s:Bool} {m:Nat} {i:Int} (hm:m ≠ 0) {E:Nat} (hi:0<=i+E) (h:Bd (((signed s m (i+E).toNat:Int):Rat)*Ue E) Bg):i+m.log2<=900:=by
 have h0:((m*2 ^ (i+E).toNat:Nat):Rat)*Ue E<=Bg:=by
  rw[aJ]at h;obtain⟨h1,h2⟩:=h;cases s
  ·simpa using h2
  ·rw[if_pos rfl,Rat.neg_mul]at h1 h2;exact Zq ⟨h1,h2⟩
 have h1:((m*2 ^ (i+E).toNat:Nat):Rat)<=2 ^ (900+E):=by
  have e1:=bD E;have e2:=mv E;have e3:=Rat.mul_nonneg ((Rat.le_iff_sub_nonneg _ _).1 h0) (Rat.le_of_lt e2);have e4:(2:Rat) ^ (900+E)=Bg*2 ^ E:=by rw[gK]; unfold Bg; rfl
  rw[e4];exact alH e1 e3
 have h2:m*2 ^ (i+E).toNat<=2 ^ (900+E):=by
  have e:((2 ^ (900+E):Nat):Rat)=2 ^ (900+E):=by rw[Rat.natCast_pow]; rfl
  rw[<- e]at h1;exact Rat.natCast_le_natCast.1 h1
 have h3:2 ^ (m.log2+(i+E).toNat)<=2 ^ (900+E):=by rw[ap3];exact ap2 (ap4 _ (Nat.log2_self_le hm)) h2
 have h4:=(Nat.pow_le_pow_iff_right (by decide:1<2)).1 h3;omega
theorem j7 (s:Bool) {m:Nat} (hm:m ≠ 0) {i:Int} (hb:i+m.log2<=1000) {E:Nat} (hE:1074<=E) (hi:0<=i+E) :
  ar (some (Ieee.double.nearest s m i))=true /\ ∀ A,Bd (((signed s m (i+E).toNat:Int):Rat)*Ue E) A->Bd (rv (some (Ieee.double.nearest s m i)) - ((signed s m (i+E).toNat:Int):Rat)*Ue E) (uu*A+if -1074<=i then 0 else eta):=by
 obtain⟨m',i',V,h1,h2,h3⟩:=DA s hm hb;refine⟨fS h1,λA hA=>?_⟩;obtain⟨g1,g2⟩:=h3 E hE hi;unfold rv;rw[qj h1,aJ,h2];rw[aJ]at hA ⊢;generalize m*2 ^ (i+E).toNat=X at *;have c1:=Rat.natCast_le_natCast.2 g1;have c2:=Rat.natCast_le_natCast.2 g2;have eE:E=1074+(E - 1074):=by omega
 have u1:=bD (E - 1074);have u2:Ue E=Ue Sp*Ue (E - 1074):=by rw[gd,<- cq,<- eE]
 have u3:=bH E;have u4:eta*2=Ue Sp:=by unfold eta;rw[cq,Rat.mul_assoc,Rat.mul_comm (Ue 1)];have:(2:Rat)*Ue 1=1:=bD 1;rw[this,Rat.mul_one]
 have u5:=bH Sp;generalize E - 1074=F at *;generalize hz:(if -1074<=i then 0 else 4503599627370496*2 ^ F:Nat)=z at *;have hzr:(z:Rat)*Ue E=9007199254740992*(if -1074<=i then 0 else eta):=by
  rw[<- hz];by_cases hc : -1074<=i
  ·rw[if_pos hc,if_pos hc,Rat.mul_zero]; exact Rat.zero_mul _
  ·rw[if_neg hc,if_neg hc,u2,ai_];exact alK u1 u4
 generalize (if -1074<=i then(0:Rat)else eta)=w at *;rw[acg,ai7]at c1;rw[ai8,ai9,acg]at c2;have ev:(V:Rat)*2 ^ F*Ue E=V*Ue Sp:=by rw[u2,Rat.mul_comm (Ue Sp),<- Rat.mul_assoc,Rat.mul_assoc (V:Rat),u1,Rat.mul_one]
 have f1:=alI c1 (Rat.le_of_lt u3) ev;have f2:=alJ c2 (Rat.le_of_lt u3) ev;rw[hzr]at f1 f2;cases s
 ·rw[if_neg (by decide)]at hA ⊢;rw[if_neg (by decide)];exact(ahR f1 f2 hA.2).1
 ·rw[if_pos rfl]at hA ⊢;rw[if_pos rfl,Rat.neg_mul,Rat.neg_mul];rw[Rat.neg_mul]at hA;exact(ahR f1 f2 (Zq hA)).2
theorem cA {b:Nat} {s:Bool} {m:Nat} {i:Int} (h:Ieee.double.read b=.number s m i):rv (some b)=((signed s m (i+1074).toNat:Int):Rat)*Ue Sp:=by unfold rv; rw[qj h]
theorem gM (s:Bool):ar (some (Ieee.double.word s 0))=true/\rv (some (Ieee.double.word s 0))=0:=by have h:=mp s;exact⟨fS h,by rw[cA h,bB]; exact Rat.zero_mul _⟩
theorem Bd.nonneg {d e:Rat} (h:Bd d e):0<=e:=by obtain⟨h1,h2⟩:=h; grind
theorem qo {e:Rat} (h:0<=e):Bd (0 - 0) e:=by unfold Bd; grind
theorem UT (s:Bool) {m k E:Nat} (hm:m ≠ 0):((signed s m k:Int):Rat)*Ue E ≠ 0:=by
 have h1:(0:Rat)<((m*2 ^ k:Nat):Rat):=by have:((0:Nat):Rat)<((m*2 ^ k:Nat):Rat):=Rat.natCast_lt_natCast.2 (aq4 (aqm hm) (ap7 k));exact this
 have h2:=Rat.mul_pos h1 (bH E);rw[aJ];cases s
 ·rw[if_neg (by decide)]; intro h; rw[h]at h2; exact absurd h2 (by decide)
 ·rw[if_pos rfl,Rat.neg_mul]; intro h;have:((m*2 ^ k:Nat):Rat)*Ue E=0:=by generalize ((m*2 ^ k:Nat):Rat)*Ue E=q at h; grind
  rw[this]at h2; exact absurd h2 (by decide)
theorem xI {x y:Fl} (hx:ar x=true) (hy:ar y=true) (hb:Bd (rv x*rv y) Bg):ar (af x y)=true/\(rv x*rv y=0->rv (af x y)=0) /\ ∀ A,Bd (rv x*rv y) A->Bd (rv (af x y) - rv x*rv y) (uu*A+eta):=by
 obtain⟨c,s,m,i,rfl,rc⟩:=aG hx;obtain⟨d,t,n,j,rfl,rd⟩:=aG hy;have gi:=bg rc;have gj:=bg rd;have e0:af (some c) (some d)=some (Ieee.double.nearest (s ^^ t) (m*n) (i+j)):=by show((Ieee.double.read c).product (Ieee.double.read d)).map Ieee.double.write=_;rw[rc,rd]; rfl
 have ex:((signed (s ^^ t) (m*n) (i+j+((1074+1074:Nat):Int)).toNat:Int):Rat)*Ue (1074+1074)=rv (some c)*rv (some d):=by rw[show(i+j+((1074+1074:Nat):Int)).toNat=(i+1074).toNat+(j+1074).toNat by omega,Gw,Rat.intCast_mul,cq,cA rc,cA rd,gd];generalize ((signed s m (i+1074).toNat:Int):Rat)=p;generalize ((signed t n (j+1074).toNat:Int):Rat)=q;generalize Ue 1074=r;grind
 rw[e0];by_cases h0:m*n=0
 ·rw[h0,cv];obtain⟨w1,w2⟩:=gM (s ^^ t);have e1:rv (some c)*rv (some d)=0:=by rw[<- ex,h0,bB]; exact Rat.zero_mul _
  refine⟨w1,λ_=>w2,λA hA=>?_⟩;rw[w2,e1];refine qo ?_;have:=hA.nonneg;have:=dD;grind
 ·rw[<- ex]at hb;have hg:=jK h0 (by omega) hb;obtain⟨n1,n2⟩:=j7 (s ^^ t) h0 (i:=i+j) (by omega) (E:=1074+1074) (by omega) (by omega);refine⟨n1,λhz=>absurd (ex.trans hz) (UT _ h0),λA hA=>?_⟩;rw[<- ex]at hA ⊢;have h3:=n2 A hA;have h4:(if -1074<=i+j then(0:Rat)else eta)<=eta:=by have:=dD;split <;> grind
  generalize (if -1074<=i+j then(0:Rat)else eta)=w at h3 h4;obtain⟨a1,a2⟩:=h3;exact⟨by grind,by grind⟩
theorem Ej {s t:Bool} {m n:Nat} {i j:Int} (hi : -1074<=i) (hj : -1074<=j) {X:Rat} (hX:X=((signed s m (i+1074).toNat+signed t n (j+1074).toNat:Int):Rat)*Ue Sp) (hb:Bd X Bg) :
  ∃ w,((Datum.number s m i).sum (.number t n j)).map Ieee.double.write=some w/\ar (some w)=true /\ ∀ A,Bd X A->Bd (rv (some w) - X) (uu*A):=by
 obtain⟨sg,e,hsg⟩:=abW s t m n i j;refine⟨_,e,?_⟩;generalize hT:signed s m (i - min i j).toNat+signed t n (j - min i j).toNat=T at hsg;have hE:T*2 ^ (min i j+((1074:Nat):Int)).toNat=signed s m (i+1074).toNat+signed t n (j+1074).toNat:=by
  rw[<- hT,Int.add_mul,<- yf,<- yf];have e1:(i - min i j).toNat+(min i j+((1074:Nat):Int)).toNat=(i+1074).toNat:=by omega
  have e2:(j - min i j).toNat+(min i j+((1074:Nat):Int)).toNat=(j+1074).toNat:=by omega
  rw[e1,e2]
 have hs:signed sg T.natAbs (min i j+((1074:Nat):Int)).toNat=signed s m (i+1074).toNat+signed t n (j+1074).toNat:=by
  rw[<- hE];generalize (min i j+((1074:Nat):Int)).toNat=q;by_cases h0:T=0
  ·subst h0; rw[Int.natAbs_zero,bB,Int.zero_mul]
  ·rw[hsg h0];unfold signed;rw[Nat.shiftLeft_eq];have ec:((T.natAbs*2 ^ q:Nat):Int)=(T.natAbs:Int)*2 ^ q:=by rw[Int.natCast_mul,Int.natCast_pow]; rfl
   rw[ec];by_cases hl:T<0
   ·rw[aqx hl,if_pos rfl,show((T.natAbs:Nat):Int) = -T by omega,Int.neg_mul,Int.neg_neg]
   ·rw[aqE hl,if_neg (by decide),show((T.natAbs:Nat):Int)=T by omega]
 have ex:((signed sg T.natAbs (min i j+((1074:Nat):Int)).toNat:Int):Rat)*Ue 1074=X:=by rw[hs,hX,gd]
 by_cases h0:T.natAbs=0
 ·rw[h0,cv];obtain⟨w1,w2⟩:=gM sg;have e1:X=0:=by rw[<- ex,h0,bB]; exact Rat.zero_mul _
  refine⟨w1,λA hA=>?_⟩;rw[w2,e1];refine qo ?_;have:=hA.nonneg;grind
 ·rw[<- ex]at hb;have hg:=jK h0 (by omega) hb;obtain⟨n1,n2⟩:=j7 sg h0 (i:=min i j) (by omega) (E:=1074) (by omega) (by omega);refine⟨n1,λA hA=>?_⟩;rw[<- ex]at hA ⊢;have h3:=n2 A hA;rw[if_pos (by omega)]at h3;obtain⟨a1,a2⟩:=h3;exact⟨by grind,by grind⟩
theorem eR {x y:Fl} (hx:ar x=true) (hy:ar y=true) (hb:Bd (rv x+rv y) Bg):ar (ai x y)=true /\ ∀ A,Bd (rv x+rv y) A->Bd (rv (ai x y) - (rv x+rv y)) (uu*A):=by
 obtain⟨c,s,m,i,rfl,rc⟩:=aG hx;obtain⟨d,t,n,j,rfl,rd⟩:=aG hy;have hX:rv (some c)+rv (some d)=((signed s m (i+1074).toNat+signed t n (j+1074).toNat:Int):Rat)*Ue Sp:=by rw[cA rc,cA rd,Rat.intCast_add,Rat.add_mul]
 obtain⟨w,h1,h2,h3⟩:=Ej (bg rc) (bg rd) hX hb;have e0:ai (some c) (some d)=some w:=by show((Ieee.double.read c).sum (Ieee.double.read d)).map Ieee.double.write=_;rw[rc,rd]; exact h1
 rw[e0];exact⟨h2,h3⟩
theorem Eh {x y:Fl} (hx:ar x=true) (hy:ar y=true) (hb:Bd (rv x - rv y) Bg):ar (co x y)=true /\ ∀ A,Bd (rv x - rv y) A->Bd (rv (co x y) - (rv x - rv y)) (uu*A):=by
 obtain⟨c,s,m,i,rfl,rc⟩:=aG hx;obtain⟨d,t,n,j,rfl,rd⟩:=aG hy;have hX:rv (some c) - rv (some d)=((signed s m (i+1074).toNat+signed (!t) n (j+1074).toNat:Int):Rat)*Ue Sp:=by rw[cA rc,cA rd,Gx,Rat.intCast_add,Rat.intCast_neg,Rat.add_mul,Rat.neg_mul,<- Rat.sub_eq_add_neg]
 obtain⟨w,h1,h2,h3⟩:=Ej (bg rc) (bg rd) hX hb;have e0:co (some c) (some d)=some w:=by show((Ieee.double.read c).sum (Ieee.double.read d).opposite).map Ieee.double.write=_;rw[rc,rd]; exact h1
 rw[e0];exact⟨h2,h3⟩
theorem ad9 {P ay ax q A h y:Rat} (hay:0<ay) (h1:Bd (P*ay - ax) (P*ay / 18014398509481984)) (hq:q*ay=ax) (hqA:q<=A) (hy:Bd (y - P) (uu*P+h)) (hP:0<=P) (hA:0<=A):Bd (y - q) (2*uu*A+h):=by
 subst hq;obtain⟨a1,a2⟩:=h1;obtain⟨b1,b2⟩:=hy;have c1:P - q<=P / 18014398509481984:=by
  rcases (Rat.le_total:P - q - P / 18014398509481984<=0\/0<=P - q - P / 18014398509481984)with h | h
  ·grind
  ·by_cases hz:P - q - P / 18014398509481984=0
   ·grind
   ·have:=Rat.mul_pos (Rat.lt_of_le_of_ne h (λe=>hz e.symm)) hay;grind
 have c2:q - P<=P / 18014398509481984:=by
  rcases (Rat.le_total:q - P - P / 18014398509481984<=0\/0<=q - P - P / 18014398509481984)with h | h
  ·grind
  ·by_cases hz:q - P - P / 18014398509481984=0
   ·grind
   ·have:=Rat.mul_pos (Rat.lt_of_le_of_ne h (λe=>hz e.symm)) hay;grind
 constructor <;> grind
theorem abv {M n:Nat} (hn:n ≠ 0):∃ D,2*(M / n)+(M%n != 0).toNat=D/\D*n<=2*M+n/\2*M<=D*n+n:=by
 refine⟨_,rfl,?_⟩;have h1:=arh M n;have h2:=aq8 M (aqm hn);generalize M%n=r at *;generalize M / n=w at *;by_cases hr:r=0
 ·subst hr;have:(2*w+((0:Nat) != 0).toNat)*n=2*(n*w):=by show(2*w+0)*n=_;rw[aqy,aqd,aqw w n]
  rw[this]; omega
 ·have hb:(r != 0)=true:=by rw[bne_iff_ne]; exact hr
  rw[hb];have:(2*w+(true).toNat)*n=2*(n*w)+n:=by show(2*w+1)*n=_;rw[aqD,aqI,aqd,aqw w n]
  rw[this]; omega
theorem agS {M n:Nat} (h:18014398509481984*n<=2*M) (hn:n ≠ 0) {D:Nat} (h2:2*M<=D*n+n) (h3:D*n<=2*M+n) (hD:2*(M / n)+(M%n != 0).toNat=D):18014398509481984<=D:=by
 have h4:9007199254740992<=M / n:=by rw[aqW (aqm hn)]; omega
 omega
theorem alL {a b c d:Rat} (h:a*b=1):c*a*(b*d)=c*d:=by
 have:c*a*(b*d)=c*d*(a*b):=by grind
 rw[this,h,Rat.mul_one]
theorem alM {X Y n W:Rat} (hW:0<=W) (h1:X<=Y+n) (h2:Y<=X+n) (hn:n*18014398509481984<=X):Bd (X*W - Y*W) (X*W / 18014398509481984):=by have a1:=Rat.mul_nonneg (by grind:0<=Y+n - X) hW;have a2:=Rat.mul_nonneg (by grind:0<=X+n - Y) hW;have a3:=Rat.mul_nonneg (by grind:0<=X - n*18014398509481984) hW;constructor <;> grind
@[irreducible] def Gq:Nat:=2200
theorem Cz:Gq=2200:=by unfold Gq; rfl
theorem ZB {m n:Nat} {i j:Int} (hm:m ≠ 0) (hn:n ≠ 0) (hi : -1074<=i) (hj : -1074<=j) (hj2:j<=971) (hnb:n<9007199254740992) (hmb:m<9007199254740992) :
  ∃(D:Nat) (p:Int),D ≠ 0/\0<=p+(Gq:Int)/\(∀ s t,(Datum.number s m i).quotient 54 (.number t n j)=some (.number (s ^^ t) D p)) /\
   Bd (((D*2 ^ (p+(Gq:Int)).toNat:Nat):Rat)*Ue Gq*(((n*2 ^ (j+1074).toNat:Nat):Rat)*Ue Sp) - ((m*2 ^ (i+1074).toNat:Nat):Rat)*Ue Sp) (((D*2 ^ (p+(Gq:Int)).toNat:Nat):Rat)*Ue Gq*(((n*2 ^ (j+1074).toNat:Nat):Rat)*Ue Sp) / 18014398509481984):=by
 have hml:m.log2<=52:=by have:=(Nat.log2_lt hm).2 (by simpa using hmb:m<2 ^ 53); omega
 have hnl:n.log2<=52:=by have:=(Nat.log2_lt hn).2 (by simpa using hnb:n<2 ^ 53); omega
 have hG:=Cz;generalize Gq=G at *;generalize hmore:54+n.log2 - m.log2=more;obtain⟨D,hD,d1,d2⟩:=abv (M:=m <<< more) hn;have hM:18014398509481984*n<=2*(m <<< more):=by
  have h1:=Nat.log2_self_le hm;have h2:n<2 ^ (n.log2+1):=Nat.lt_log2_self;rw[Nat.shiftLeft_eq];have h3:2 ^ m.log2*2 ^ more=2 ^ (54+n.log2):=by rw[<- ap3]; congr 1; omega
  have h4:=ap4 (2 ^ more) h1;rw[h3]at h4;have h5:2 ^ (54+n.log2)=9007199254740992*2 ^ (n.log2+1):=by rw[show(9007199254740992:Nat)=2 ^ 53 by decide,<- ap3]; congr 1; omega
  rw[h5]at h4;generalize m*2 ^ more=X at *;generalize 2 ^ (n.log2+1)=Y at *;omega
 have hge:=agS hM hn d2 d1 hD;refine⟨D,i - j - more - 1,by omega,by omega,λs t=>?_,?_⟩
 ·simp only[Datum.quotient,if_neg hn];rw[hmore,hD]
 ·have hp:0<=i - j - more - 1+(G:Int):=by omega
  generalize hpp:i - j - more - 1=p at *;rw[Nat.shiftLeft_eq]at d1 d2;have ex:(i+1074).toNat+G=(p+(G:Int)).toNat+(j+1074).toNat+(more+1):=by omega
  generalize hw:(p+(G:Int)).toNat+(j+1074).toNat=w at ex;have e1:((D*2 ^ (p+(G:Int)).toNat:Nat):Rat)*Ue G*(((n*2 ^ (j+1074).toNat:Nat):Rat)*Ue Sp)=((D*n:Nat):Rat)*(((2 ^ w:Nat):Rat)*Ue (G+Sp)):=by rw[<- hw,ap3,cq,Rat.natCast_mul,Rat.natCast_mul,Rat.natCast_mul,Rat.natCast_mul];generalize ((2 ^ (p+(G:Int)).toNat:Nat):Rat)=a;generalize ((2 ^ (j+1074).toNat:Nat):Rat)=b;generalize Ue G=c;generalize Ue Sp=d;grind
  have e2:((m*2 ^ (i+1074).toNat:Nat):Rat)*Ue Sp=((2*(m*2 ^ more):Nat):Rat)*(((2 ^ w:Nat):Rat)*Ue (G+Sp)):=by
   have h1:m*2 ^ (i+1074).toNat*2 ^ G=2*(m*2 ^ more)*2 ^ w:=by rw[aqd,<- ap3,ex,ap3 2 w,aqv];generalize 2 ^ w=a;generalize 2 ^ more=b;grind
   have h2:((m*2 ^ (i+1074).toNat:Nat):Rat)*((2 ^ G:Nat):Rat)=((2*(m*2 ^ more):Nat):Rat)*((2 ^ w:Nat):Rat):=by rw[<- Rat.natCast_mul,<- Rat.natCast_mul,h1]
   have h3:((2 ^ G:Nat):Rat)*Ue G=1:=by rw[Rat.natCast_pow]; exact bD G
   rw[cq,<- Rat.mul_assoc,<- h2];exact(alL h3).symm
  rw[e1,e2];have hW:(0:Rat)<=((2 ^ w:Nat):Rat)*Ue (G+Sp):=Rat.mul_nonneg (Rat.natCast_nonneg) (Rat.le_of_lt (bH _));generalize ((2 ^ w:Nat):Rat)*Ue (G+Sp)=W at *;refine alM hW (n:=(n:Rat)) ?_ ?_ ?_
  ·rw[<- Rat.natCast_add]; exact Rat.natCast_le_natCast.2 d1
  ·rw[<- Rat.natCast_add]; exact Rat.natCast_le_natCast.2 d2
  ·have:((n*18014398509481984:Nat):Rat)=(n:Rat)*18014398509481984:=by rw[Rat.natCast_mul]; rfl
   rw[<- this];refine Rat.natCast_le_natCast.2 ?_;rw[aqw]; exact ap4 _ hge
theorem ahO {d P w e:Rat} (h:Bd d (uu*P+w)) (hw:w<=e):Bd d (uu*P+e):=by obtain⟨h1,h2⟩:=h;exact⟨by grind,by grind⟩
theorem ahP {y P w e:Rat} (h:Bd (y - -P) (uu*P+w)) (hw:w<=e):Bd (-y - P) (uu*P+e):=by obtain⟨h1,h2⟩:=h;exact⟨by grind,by grind⟩
theorem ahQ {y q e:Rat} (h:Bd (-y - q) e):Bd (y - -q) e:=by obtain⟨h1,h2⟩:=h;exact⟨by grind,by grind⟩
theorem CL {P B:Rat} (h:0<P) (hB:P<=B):Bd P B/\Bd (-P) B:=by unfold Bd; grind
theorem ne {x y:Fl} (hx:ar x=true) (hy:ar y=true) (h0:rv y ≠ 0) (hb:Bd (rv x / rv y) (Bg / 2)):ar (fdiv x y)=true/\(rv x=0->rv (fdiv x y)=0) /\ ∀ A,Bd (rv x / rv y) A->Bd (rv (fdiv x y) - rv x / rv y) (2*uu*A+eta):=by
 obtain⟨c,s,m,i,rfl,rc⟩:=aG hx;obtain⟨d,t,n,j,rfl,rd⟩:=aG hy;have gi:=bg rc;have gj:=bg rd;obtain⟨hi2,hmb⟩:=dn rc;obtain⟨hj2,hnb⟩:=dn rd;have hn:n ≠ 0:=by intro hc;apply h0;rw[cA rd,hc,bB]; exact Rat.zero_mul _
 have e0:fdiv (some c) (some d)=((Datum.number s m i).quotient 54 (.number t n j)).map Ieee.double.write:=by show((Ieee.double.read c).quotient (Ieee.double.fractionBits+2) (Ieee.double.read d)).map Ieee.double.write=_;rw[rc,rd]; rfl
 by_cases hm:m=0
 ·subst hm;have e1:fdiv (some c) (some d)=some (Ieee.double.word (s ^^ t) 0):=by
   rw[e0];simp only[Datum.quotient,if_neg hn];have:(0:Nat) <<< (54+n.log2 - (0:Nat).log2)=0:=by rw[Nat.shiftLeft_eq,aq7]
   rw[this,Nat.zero_div,Nat.zero_mod];show some (Ieee.double.nearest (s ^^ t) 0 _)=_;rw[cv]
  obtain⟨w1,w2⟩:=gM (s ^^ t);have z:rv (some c)=0:=by rw[cA rc,bB]; exact Rat.zero_mul _
  rw[e1];refine⟨w1,λ_=>w2,λA hA=>?_⟩;rw[w2,z];rw[z]at hA;have hz:(0:Rat) / rv (some d)=0:=by rw[Rat.div_def,Rat.zero_mul]
  rw[hz];refine qo ?_;have:=hA.nonneg;have:=dD;grind
 ·obtain⟨D,p,hD,hp,hq,hbd⟩:=ZB hm hn gi gj hj2 hnb hmb;rw[e0,hq];show ar (some (Ieee.double.nearest (s ^^ t) D p))=true/\(rv (some c)=0->rv (some (Ieee.double.nearest (s ^^ t) D p))=0) /\ ∀ A,Bd (rv (some c) / rv (some d)) A->Bd (rv (some (Ieee.double.nearest (s ^^ t) D p)) - rv (some c) / rv (some d)) (2*uu*A+eta);have hcx:=cA rc;have hcy:=cA rd;rw[aJ]at hcx hcy;have hay:0<((n*2 ^ (j+1074).toNat:Nat):Rat)*Ue Sp:=Rat.mul_pos (Rat.natCast_pos.2 (aq4 (aqm hn) (ap7 _))) (bH _);have hax:0<((m*2 ^ (i+1074).toNat:Nat):Rat)*Ue Sp:=Rat.mul_pos (Rat.natCast_pos.2 (aq4 (aqm hm) (ap7 _))) (bH _);have hP:0<((D*2 ^ (p+(Gq:Int)).toNat:Nat):Rat)*Ue Gq:=Rat.mul_pos (Rat.natCast_pos.2 (aq4 (aqm hD) (ap7 _))) (bH _);have hsg:=aJ (s ^^ t) D (p+(Gq:Int)).toNat;have hng:Bd (((signed (s ^^ t) D (p+(Gq:Int)).toNat:Int):Rat)*Ue Gq) Bg->p+D.log2<=900:=jK hD hp;have hnr:p+D.log2<=900->_:=λh=>j7 (s ^^ t) hD (i:=p) (by omega) (E:=Gq) (by rw[Cz]; decide) hp
  rw[hsg]at hng hnr;have hw:(if -1074<=p then(0:Rat)else eta)<=eta:=by have:=dD; split <;> grind
  generalize (if -1074<=p then(0:Rat)else eta)=w at hnr hw;generalize ((n*2 ^ (j+1074).toNat:Nat):Rat)=n1 at *;generalize ((m*2 ^ (i+1074).toNat:Nat):Rat)=m1 at *;generalize ((D*2 ^ (p+(Gq:Int)).toNat:Nat):Rat)=P1 at *;have hx2:rv (some c)=if s=true then -(m1*Ue Sp)else m1*Ue Sp:=by rw[hcx]; cases s <;> simp[Rat.neg_mul]
  have hy2:rv (some d)=if t=true then -(n1*Ue Sp)else n1*Ue Sp:=by rw[hcy]; cases t <;> simp[Rat.neg_mul]
  have hz2:(if (s ^^ t)=true then -P1 else P1)*Ue Gq=if (s ^^ t)=true then -(P1*Ue Gq)else P1*Ue Gq:=by cases (s ^^ t) <;> simp[Rat.neg_mul]
  rw[hz2]at hng hnr;generalize m1*Ue Sp=ax at *;generalize n1*Ue Sp=ay at *;generalize P1*Ue Gq=P at *;generalize some (Ieee.double.nearest (s ^^ t) D p)=V at *;clear hz2 hcx hcy hsg;have hq0:rv (some c) / rv (some d)=if (s ^^ t)=true then -(ax / ay)else ax / ay:=by
   rw[hx2,hy2];have h0':ay ≠ 0:=by grind
   cases s <;> cases t
   ·rfl
   ·show ax / -ay = -(ax / ay);grind
   ·show -ax / ay = -(ax / ay);grind
   ·show -ax / -ay=ax / ay;grind
  rw[hq0]at hb ⊢;have hqa:ax / ay*ay=ax:=by
   have h0':ay ≠ 0:=by grind
   grind
  have hqp:0<=ax / ay:=by rw[Rat.div_def];exact Rat.mul_nonneg (Rat.le_of_lt hax) (Rat.le_of_lt (Rat.inv_pos.2 hay))
  have hx0:rv (some c) ≠ 0:=by
   rw[hx2]; cases s
   ·show ax ≠ 0; grind
   ·show -ax ≠ 0; grind
  generalize ax / ay=q at *;have hqB:q<=Bg / 2:=by
   cases h:(s ^^ t)
   ·rw[h]at hb; exact hb.2
   ·rw[h]at hb; exact Zq hb
  have hPq:=ad9 (y:=P) (h:=0) (A:=q) hay hbd hqa Rat.le_refl (by unfold Bd; grind) (Rat.le_of_lt hP) hqp;have hPB:P<=Bg:=by have:=hPq.2;have:=hqB;generalize Bg=B at *;clear hng hnr hb;grind
  have hlog:p+D.log2<=900:=hng (by
   cases (s ^^ t)
   ·exact(CL hP hPB).1
   ·exact(CL hP hPB).2)
  obtain⟨f1,f2⟩:=hnr hlog;refine⟨f1,λh=>absurd h hx0,λA hA=>?_⟩;have f3:=f2 P (by
   cases (s ^^ t)
   ·exact(CL hP Rat.le_refl).1
   ·exact(CL hP Rat.le_refl).2)
  cases h:(s ^^ t)
  ·rw[h]at f3 hA;rw[if_neg (by decide)]at f3 hA ⊢;exact ad9 hay hbd hqa hA.2 (ahO f3 hw) (Rat.le_of_lt hP) hA.nonneg
  ·rw[h]at f3 hA;rw[if_pos rfl]at f3 hA ⊢;exact ahQ (ad9 hay hbd hqa (Zq hA) (ahP f3 hw) (Rat.le_of_lt hP) hA.nonneg)
theorem kK {n:Nat}:∀(todo root:Nat),root*root<=n->n<(root+2 ^ todo)*(root+2 ^ todo)->Datum.rootFrom n todo root*Datum.rootFrom n todo root<=n/\n<(Datum.rootFrom n todo root+1)*(Datum.rootFrom n todo root+1)
 | 0,root,h1,h2=>⟨h1,h2⟩
 | todo+1,root,h1,h2=>by
  unfold Datum.rootFrom;rw[Nat.shiftLeft_eq,aqI];dsimp only;by_cases h:(root+2 ^ todo)*(root+2 ^ todo)<=n
  ·rw[if_pos h];refine kK todo _ h ?_;have:root+2 ^ todo+2 ^ todo=root+2 ^ (todo+1):=by rw[aqv]; omega
   rw[this]; exact h2
  ·rw[if_neg h];exact kK todo _ h1 (by omega)
theorem OV (n:Nat):Datum.rootFrom n (n.log2 / 2+1) 0*Datum.rootFrom n (n.log2 / 2+1) 0<=n/\n<(Datum.rootFrom n (n.log2 / 2+1) 0+1)*(Datum.rootFrom n (n.log2 / 2+1) 0+1):=by refine kK _ 0 (by omega) ?_;rw[aqb,<- ap3];have:n<2 ^ (n.log2+1):=Nat.lt_log2_self;exact ap6 this (aqf (by decide) (by omega))
theorem DN {n w:Nat} (h1:w*w<=n) (h2:n<(w+1)*(w+1)):∃ D,2*w+(w*w != n).toNat=D/\D*D<=4*n+2*D/\4*n<=D*D+2*D/\2*w<=D/\D<=2*w+1:=by
 refine⟨_,rfl,?_⟩;have e:(w+1)*(w+1)=w*w+2*w+1:=by grind
 rw[e]at h2;by_cases h:w*w=n
 ·have hb:(w*w != n)=false:=by rw[h]; exact bne_self_eq_false n
  rw[hb];have e2:(2*w+false.toNat)*(2*w+false.toNat)=4*(w*w):=by show(2*w+0)*(2*w+0)=_; grind
  rw[e2];refine⟨by omega,by omega,aqN _ _,by show 2*w+0<=_; omega⟩
 ·have hb:(w*w != n)=true:=by rw[bne_iff_ne]; exact h
  rw[hb];have e2:(2*w+true.toNat)*(2*w+true.toNat)=4*(w*w)+4*w+1:=by show(2*w+1)*(2*w+1)=_; grind
  rw[e2];show 4*(w*w)+4*w+1<=4*n+2*(2*w+1)/\4*n<=4*(w*w)+4*w+1+2*(2*w+1)/\2*w<=2*w+1/\2*w+1<=2*w+1;omega
theorem ahS {D4 n4 D W:Rat} (hW:0<=W) (h1:D4<=n4+D) (h2:n4<=D4+D) (hD:D*18014398509481984<=D4):Bd (D4*W - n4*W) (D4*W / 18014398509481984):=by have a1:=Rat.mul_nonneg (by grind:0<=n4+D - D4) hW;have a2:=Rat.mul_nonneg (by grind:0<=D4+D - n4) hW;have a3:=Rat.mul_nonneg (by grind:0<=D4 - D*18014398509481984) hW;constructor <;> grind
theorem ahT {y P x:Rat} (hP:0<P) (h1:Bd (y - P) (uu*P)) (h2:Bd (P*P - x) (P*P / 18014398509481984)):0<y/\Bd (y*y - x) (3*uu*x):=by
 obtain⟨a1,a2⟩:=h1;obtain⟨b1,b2⟩:=h2;have hy:0<y:=by grind
 refine⟨hy,?_⟩;have hPP:=Rat.mul_pos hP hP;have c1:=Rat.mul_nonneg (by grind:0<=P+uu*P - y) (by grind:0<=y);have c2:=Rat.mul_nonneg (by grind:0<=P+uu*P - y) (by grind:0<=P);have c3:=Rat.mul_nonneg (by grind:0<=y - P+uu*P) (by grind:0<=y);have c4:=Rat.mul_nonneg (by grind:0<=y - P+uu*P) (by grind:0<=P);constructor <;> grind
theorem ahU (f d b u v:Rat):f*d*b*u*v=f*(d*u)*(b*v):=by grind
theorem uL {x:Fl} (hx:ar x=true) (h0:0<rv x):ar (dm x)=true/\0<rv (dm x)/\Bd (rv (dm x)*rv (dm x) - rv x) (3*uu*rv x):=by
 obtain⟨c,s,m,i,rfl,rc⟩:=aG hx;have gi:=bg rc;obtain⟨hi2,hmb⟩:=dn rc;have hcx:=cA rc;rw[aJ]at hcx;have hm:m ≠ 0:=by intro hc;rw[cA rc,hc,bB]at h0;rw[show(((0:Int):Rat))*Ue Sp=0 from Rat.zero_mul _]at h0;exact absurd h0 (by decide)
 have hs:s=false:=by
  cases s
  ·rfl
  ·rw[hcx,if_pos rfl,Rat.neg_mul]at h0;have:=Rat.mul_nonneg (Rat.natCast_nonneg:(0:Rat)<=((m*2 ^ (i+1074).toNat:Nat):Rat)) (Rat.le_of_lt (bH Sp));generalize ((m*2 ^ (i+1074).toNat:Nat):Rat)*Ue Sp=q at *;grind
 subst hs;rw[if_neg (by decide)]at hcx;have hml:m.log2<=52:=by have:=(Nat.log2_lt hm).2 (by simpa using hmb:m<2 ^ 53); omega
 have e0:dm (some c)=((Datum.number false m i).root 54).map Ieee.double.write:=by show((Ieee.double.read c).root (Ieee.double.fractionBits+2)).map Ieee.double.write=_;rw[rc]; rfl
 rw[e0];simp only[Datum.root,if_neg hm,aqg,aqa];generalize hmore:2*54 - m.log2+((i - ((2*54 - m.log2:Nat):Int))%2).toNat=more;have hm1:108<=m.log2+more/\more<=109:=by omega
 obtain⟨r1,r2⟩:=OV (m <<< more);generalize Datum.rootFrom (m <<< more) ((m <<< more).log2 / 2+1) 0=w at r1 r2;obtain⟨D,hD,d1,d2,d3,d4⟩:=DN r1 r2;rw[hD,aqh,di];rw[Nat.shiftLeft_eq]at *;have hn1:324518553658426726783156020576256<=m*2 ^ more:=by
  have h1:=ap4 (2 ^ more) (Nat.log2_self_le hm);rw[<- ap3]at h1;have h2:2 ^ 108<=2 ^ (m.log2+more):=aqf (by decide) hm1.1;have h3:(2:Nat) ^ 108=324518553658426726783156020576256:=by decide
  omega
 have hn2:m*2 ^ more<2 ^ 164:=by have h1:m*2 ^ more<2 ^ 53*2 ^ more:=aqG (by simpa using hmb) (ap7 _);rw[<- ap3]at h1;exact ap6 h1 (aqf (by decide) (by omega))
 have hw1:18014398509481984<=w:=by
  rcases aqQ w 18014398509481984 with h | h
  ·have:(w+1)*(w+1)<=18014398509481984*18014398509481984:=Nat.mul_le_mul (by omega) (by omega);omega
  ·exact h
 have hw2:w<2 ^ 82:=by
  rcases aqQ w (2 ^ 82)with h | h
  ·exact h
  ·have h1:2 ^ 82*2 ^ 82<=w*w:=Nat.mul_le_mul h h;rw[<- ap3]at h1;omega
 have hD0:D ≠ 0:=by omega
 have hDl:D.log2<=84:=by
  have h1:D<2 ^ 85:=by
   have:(2:Nat) ^ 85=8*2 ^ 82:=by rw[<- ap3 2 3 82]
   omega
  have:=(Nat.log2_lt hD0).2 h1;omega
 generalize hp:(i - (more:Int)) / 2 - 1=p;have hp2:i=2*p+2+more:=by omega
 obtain⟨n1,n2⟩:=j7 false hD0 (i:=p) (by omega) (E:=Gq) (by rw[Cz]; decide) (by rw[Cz]; omega);have hG:=Cz;generalize Gq=G at *;rw[aJ,if_neg (by decide),if_pos (by omega)]at n2;have hP:0<((D*2 ^ (p+(G:Int)).toNat:Nat):Rat)*Ue G:=Rat.mul_pos (Rat.natCast_pos.2 (aq4 (aqm hD0) (ap7 _))) (bH _);have n3:=n2 _ (CL hP Rat.le_refl).1;rw[Rat.add_zero]at n3;have hsq:Bd (((D*2 ^ (p+(G:Int)).toNat:Nat):Rat)*Ue G*(((D*2 ^ (p+(G:Int)).toNat:Nat):Rat)*Ue G) - rv (some c)) (((D*2 ^ (p+(G:Int)).toNat:Nat):Rat)*Ue G*(((D*2 ^ (p+(G:Int)).toNat:Nat):Rat)*Ue G) / 18014398509481984):=by
  have e1:((D*2 ^ (p+(G:Int)).toNat:Nat):Rat)*Ue G*(((D*2 ^ (p+(G:Int)).toNat:Nat):Rat)*Ue G)=((D*D:Nat):Rat)*(((2 ^ ((p+(G:Int)).toNat+(p+(G:Int)).toNat):Nat):Rat)*Ue (G+G)):=by rw[ap3,cq,Rat.natCast_mul,Rat.natCast_mul,Rat.natCast_mul];generalize ((2 ^ (p+(G:Int)).toNat:Nat):Rat)=a;generalize Ue G=b;generalize (D:Rat)=d;grind
  have e2:rv (some c)=((4*(m*2 ^ more):Nat):Rat)*(((2 ^ ((p+(G:Int)).toNat+(p+(G:Int)).toNat):Nat):Rat)*Ue (G+G)):=by
   rw[hcx];have h1:m*2 ^ (i+1074).toNat*2 ^ (G+G)=4*(m*2 ^ more)*2 ^ ((p+(G:Int)).toNat+(p+(G:Int)).toNat)*2 ^ Sp:=by
    have hSp:=gd;have ex:(i+1074).toNat+(G+G)=2+more+((p+(G:Int)).toNat+(p+(G:Int)).toNat)+Sp:=by omega
    rw[aqd,<- ap3,ex,ap3 2 _ Sp,ap3 2 (2+more),ap3 2 2];generalize 2 ^ ((p+(G:Int)).toNat+(p+(G:Int)).toNat)=a;generalize 2 ^ more=b;generalize 2 ^ Sp=d;have e4:(2:Nat) ^ 2=4:=rfl;rw[e4];ac_rfl
   generalize ((p+(G:Int)).toNat+(p+(G:Int)).toNat)=q at *;generalize hXX:m*2 ^ (i+1074).toNat=X at *;have h2:(X:Rat)*((2 ^ (G+G):Nat):Rat)=((4*(m*2 ^ more):Nat):Rat)*((2 ^ q:Nat):Rat)*((2 ^ Sp:Nat):Rat):=by rw[<- Rat.natCast_mul,<- Rat.natCast_mul,<- Rat.natCast_mul,h1]
   have h3:((2 ^ (G+G):Nat):Rat)*Ue (G+G)=1:=by rw[Rat.natCast_pow]; exact bD _
   have h4:((2 ^ Sp:Nat):Rat)*Ue Sp=1:=by rw[Rat.natCast_pow]; exact bD _
   generalize ((2 ^ (G+G):Nat):Rat)=a at *;generalize ((2 ^ Sp:Nat):Rat)=b at *;generalize ((2 ^ q:Nat):Rat)=d at *;generalize ((4*(m*2 ^ more):Nat):Rat)=f at *;generalize Ue (G+G)=u at *;generalize Ue Sp=v at *;have:(X:Rat)*v=(X:Rat)*a*u*v:=by rw[Rat.mul_assoc (X:Rat) a u,h3,Rat.mul_one]
   rw[this,h2];rw[ahU,h4,Rat.mul_one]
  rw[e1,e2];have hW:(0:Rat)<=((2 ^ ((p+(G:Int)).toNat+(p+(G:Int)).toNat):Nat):Rat)*Ue (G+G):=Rat.mul_nonneg Rat.natCast_nonneg (Rat.le_of_lt (bH _));generalize ((2 ^ ((p+(G:Int)).toNat+(p+(G:Int)).toNat):Nat):Rat)*Ue (G+G)=W at *;refine ahS hW (D:=((2*D:Nat):Rat)) ?_ ?_ ?_
  ·rw[<- Rat.natCast_add]; exact Rat.natCast_le_natCast.2 d1
  ·rw[<- Rat.natCast_add]; exact Rat.natCast_le_natCast.2 d2
  ·have:((2*D*18014398509481984:Nat):Rat)=((2*D:Nat):Rat)*18014398509481984:=by rw[Rat.natCast_mul]; rfl
   rw[<- this];refine Rat.natCast_le_natCast.2 ?_;have h5:D*36028797018963968<=D*D:=Nat.mul_le_mul_left _ (by omega);have h6:∀ x:Nat,2*x*18014398509481984=x*36028797018963968:=λx=>by omega
   rw[h6]; exact h5
 exact⟨n1,ahT hP n3 hsq⟩
theorem Bd.mul {a b A B:Rat} (h:Bd a A) (g:Bd b B):Bd (a*b) (A*B):=by obtain⟨h1,h2⟩:=h;obtain⟨h3,h4⟩:=g;have h5:=Rat.mul_nonneg (by grind:0<=A - a) (by grind:0<=B+b);have h6:=Rat.mul_nonneg (by grind:0<=A+a) (by grind:0<=B - b);have h7:=Rat.mul_nonneg (by grind:0<=A - a) (by grind:0<=B - b);have h8:=Rat.mul_nonneg (by grind:0<=A+a) (by grind:0<=B+b);constructor <;> grind
theorem Bd.add {a b A B:Rat} (h:Bd a A) (g:Bd b B):Bd (a+b) (A+B):=by obtain⟨h1,h2⟩:=h;obtain⟨h3,h4⟩:=g;constructor <;> grind
theorem Bd.sub {a b A B:Rat} (h:Bd a A) (g:Bd b B):Bd (a - b) (A+B):=by obtain⟨h1,h2⟩:=h;obtain⟨h3,h4⟩:=g;constructor <;> grind
theorem Bd.mono {a A B:Rat} (h:Bd a A) (g:A<=B):Bd a B:=by obtain⟨h1,h2⟩:=h;constructor <;> grind
theorem Bd.neg {a A:Rat} (h:Bd a A):Bd (-a) A:=by obtain⟨h1,h2⟩:=h;constructor <;> grind
def Ap (x:Fl) (a e:Rat):Prop:=ar x=true/\Bd (rv x - a) e
theorem Ap.self {x:Fl} (h:ar x=true):Ap x (rv x) 0:=⟨h,by unfold Bd; grind⟩
theorem Ap.mono {x:Fl} {a e f:Rat} (h:Ap x a e) (g:e<=f):Ap x a f:=⟨h.1,h.2.mono g⟩
theorem Ap.bd {x:Fl} {a e A:Rat} (h:Ap x a e) (g:Bd a A):Bd (rv x) (A+e):=by obtain⟨-,h1,h2⟩:=h;obtain⟨h3,h4⟩:=g;constructor <;> grind
theorem ahV {p x y a b e f A B E:Rat} (hx:Bd (x - a) e) (hy:Bd (y - b) f) (ha:Bd a A) (hb:Bd b B) (hp:Bd (p - x*y) E):Bd (p - a*b) (A*f+B*e+e*f+E):=by have h1:=ha.mul hy;have h2:=hx.mul hb;have h3:=hx.mul hy;obtain⟨a1,a2⟩:=h1;obtain⟨b1,b2⟩:=h2;obtain⟨c1,c2⟩:=h3;obtain⟨d1,d2⟩:=hp;constructor <;> grind
theorem Ap.mul {x y:Fl} {a b e f A B h:Rat} (hx:Ap x a e) (hy:Ap y b f) (ha:Bd a A) (hb:Bd b B) (hbig:(A+e)*(B+f)<=Bg) (hh:0<=h) (hz:(A+e)*(B+f)=0\/eta<=h) :
  Ap (af x y) (a*b) (A*f+B*e+e*f+(uu*((A+e)*(B+f))+h)):=by
 have g1:=(hx.bd ha).mul (hy.bd hb);obtain⟨m1,m2,m3⟩:=xI hx.1 hy.1 (g1.mono hbig);refine⟨m1,ahV hx.2 hy.2 ha hb ?_⟩;rcases hz with hz | hz
 ·rw[hz]at g1 ⊢;have h0:rv x*rv y=0:=by obtain⟨c1,c2⟩:=g1; grind
  rw[m2 h0,h0];refine qo ?_;grind
 ·have:=m3 _ g1;refine this.mono ?_;grind
theorem ahW {p x y a b e f E:Rat} (hx:Bd (x - a) e) (hy:Bd (y - b) f) (hp:Bd (p - (x+y)) E):Bd (p - (a+b)) (e+f+E):=by obtain⟨a1,a2⟩:=hx;obtain⟨b1,b2⟩:=hy;obtain⟨d1,d2⟩:=hp;constructor <;> grind
theorem ahX {p x y a b e f E:Rat} (hx:Bd (x - a) e) (hy:Bd (y - b) f) (hp:Bd (p - (x - y)) E):Bd (p - (a - b)) (e+f+E):=by obtain⟨a1,a2⟩:=hx;obtain⟨b1,b2⟩:=hy;obtain⟨d1,d2⟩:=hp;constructor <;> grind
theorem Ap.add {x y:Fl} {a b e f C:Rat} (hx:Ap x a e) (hy:Ap y b f) (hc:Bd (a+b) C) (hbig:C+e+f<=Bg):Ap (ai x y) (a+b) (e+f+uu*(C+e+f)):=by
 have g1:Bd (rv x+rv y) (C+e+f):=by obtain⟨-,a1,a2⟩:=hx;obtain⟨-,b1,b2⟩:=hy;obtain⟨c1,c2⟩:=hc;constructor <;> grind
 obtain⟨m1,m2⟩:=eR hx.1 hy.1 (g1.mono hbig);exact⟨m1,ahW hx.2 hy.2 (m2 _ g1)⟩
theorem Ap.sub {x y:Fl} {a b e f C:Rat} (hx:Ap x a e) (hy:Ap y b f) (hc:Bd (a - b) C) (hbig:C+e+f<=Bg):Ap (co x y) (a - b) (e+f+uu*(C+e+f)):=by
 have g1:Bd (rv x - rv y) (C+e+f):=by obtain⟨-,a1,a2⟩:=hx;obtain⟨-,b1,b2⟩:=hy;obtain⟨c1,c2⟩:=hc;constructor <;> grind
 obtain⟨m1,m2⟩:=Eh hx.1 hy.1 (g1.mono hbig);exact⟨m1,ahX hx.2 hy.2 (m2 _ g1)⟩
@[irreducible] def tS:Rat:=Ue 400
@[irreducible] def tG:Rat:=2 ^ 400
theorem mu:0<tS:=by unfold tS; exact bH _
theorem uO:0<tG:=by unfold tG; exact mv _
theorem CI (n:Nat):Ue (n+1)*2=Ue n:=by rw[cq,Rat.mul_assoc,Rat.mul_comm (Ue 1)];have:(2:Rat)*Ue 1=1:=bD 1;rw[this,Rat.mul_one]
theorem Aw:eta*1267650600228229401496703205376<=tS*uu:=by
 unfold eta tS;rw[gd];have h1:Ue (1074+1)<=Ue (400+(100+53)):=ab_ (by decide);have h2:=bD 100;have h3:=bD 53;have h4:(2:Rat) ^ 100=1267650600228229401496703205376:=by decide +kernel
 have h5:(2:Rat) ^ 53=9007199254740992:=by decide +kernel
 rw[cq 400,cq 100 53]at h1;rw[h4]at h2;rw[h5]at h3;generalize Ue (1074+1)=e at *;generalize Ue 400=t at *;generalize Ue 100=x at *;generalize Ue 53=y at *;have hy:y=uu:=by grind
 have:t*(x*y)*1267650600228229401496703205376=t*y:=by
  have:t*(x*y)*1267650600228229401496703205376=t*y*(1267650600228229401496703205376*x):=by grind
  rw[this,h2,Rat.mul_one]
 rw[<- hy,<- this];generalize t*(x*y)=q at *;grind
theorem mg (n:Nat):(1:Rat)<=2 ^ n:=by
 have:((1:Nat):Rat)<=((2 ^ n:Nat):Rat):=Rat.natCast_le_natCast.2 (Nat.one_le_two_pow)
 rwa [Rat.natCast_pow]at this
theorem EW {c:Rat} (h:c<=1267650600228229401496703205376):c*tG<=Bg:=by
 unfold tG Bg;have h1:=mv 400;have h2:(2:Rat) ^ 900=2 ^ 400*(2 ^ 400*2 ^ 100):=by rw[<- gK,<- gK]
 have h4:(2:Rat) ^ 100=1267650600228229401496703205376:=by decide +kernel
 have h5:(1:Rat)<=2 ^ 400:=mg 400;rw[h2,h4];generalize (2:Rat) ^ 400=g at *;have a1:=Rat.mul_nonneg (by grind:0<=1267650600228229401496703205376 - c) (by grind:0<=g);have a2:=Rat.mul_nonneg (by grind:0<=g) (by grind:0<=g - 1);grind
abbrev kap:Rat:=1001 / 1000
def su (M:Rat):Prop:=0<=M/\(M=0\/eta<=uu*M / 1000)/\M*1000<=Bg
theorem ou {b s:Fl} {β S A e M E:Rat} (hR:su M) (hb:Ap b β 0) (hβ:Bd β kap) (hs:Ap s S e) (hS:Bd S A) (hA:A<=20*M) (he0:0<=e) (he:e<=M) (hE:kap*e+(uu*(kap*(A+e))+uu*M / 1000)<=E):Ap (af b s) (β*S) E:=by
 obtain⟨h0,h1,h2⟩:=hR;have hA0:=hS.nonneg;have hbig:(kap+0)*(A+e)<=Bg:=by grind
 have hh:0<=uu*M / 1000:=by grind
 have hz:(kap+0)*(A+e)=0\/eta<=uu*M / 1000:=by
  rcases h1 with h | h
  ·left;have a0:A=0:=by grind
   have e0:e=0:=by grind
   rw[a0,e0]; grind
  ·right; exact h
 refine(Ap.mul hb hs hβ hS hbig hh hz).mono ?_;grind
theorem qV {b c s t:Fl} {β γ S T A e M E:Rat} (hR:su M) (hb:Ap b β 0) (hβ:Bd β kap) (hc:Ap c γ 0) (hγ:Bd γ kap) (hs:Ap s S e) (hS:Bd S A) (ht:Ap t T e) (hT:Bd T A) (hA:A<=20*M) (he0:0<=e) (he:e<=M)
  (hE:2*(kap*e+(uu*(kap*(A+e))+uu*M / 1000))+uu*(2*kap*A+2*(kap*e+(uu*(kap*(A+e))+uu*M / 1000)))<=E):Ap (co (af b s) (af c t)) (β*S - γ*T) E/\Bd (β*S - γ*T) (2*kap*A):=by
 have p1:=ou hR hb hβ hs hS hA he0 he Rat.le_refl;have p2:=ou hR hc hγ ht hT hA he0 he Rat.le_refl;have hA0:=hS.nonneg;obtain⟨h0,h1,h2⟩:=hR;have hbd:Bd (β*S - γ*T) (2*kap*A):=((hβ.mul hS).sub (hγ.mul hT)).mono (by grind);refine⟨(Ap.sub p1 p2 hbd ?_).mono ?_,hbd⟩
 ·grind
 ·grind
theorem X6:Ap (some 4611686018427387904) 2 0:=by
 have h:Ieee.double.read 4611686018427387904=.number false 4503599627370496 (-51):=by decide
 refine⟨fS h,?_⟩;rw[cA h,aJ,if_neg (by decide)];generalize hA:((-51:Int)+1074).toNat=a;have hS:Sp=a+51:=by rw[gd,<- hA]; decide
 rw[hS,Rat.natCast_mul,Rat.natCast_pow,cq];have h1:((2:Nat):Rat) ^ a*(Ue a*Ue 51)=Ue 51:=by have h3:((2:Nat):Rat) ^ a*Ue a=1:=bD a;rw[<- Rat.mul_assoc,h3,Rat.one_mul]
 rw[Rat.mul_assoc,h1];have h4:=bD 51;have h5:(2:Rat) ^ 51=2251799813685248:=by decide +kernel
 rw[h5]at h4;have h6:((4503599627370496:Nat):Rat)=2*2251799813685248:=by decide +kernel
 rw[h6,Rat.mul_assoc,h4];unfold Bd; grind
theorem wP {s:Fl} {S A e M E:Rat} (hR:su M) (hs:Ap s S e) (hS:Bd S A) (hA:A<=20*M) (he0:0<=e) (he:e<=M) (hE:2*e+(uu*((A+e)*2)+uu*M / 1000)<=E):Ap (af s (some 4611686018427387904)) (S*2) E/\Bd (S*2) (A*2):=by
 obtain⟨h0,h1,h2⟩:=hR;have hA0:=hS.nonneg;have h22:Bd (2:Rat) 2:=by unfold Bd; grind
 have hbig:(A+e)*(2+0)<=Bg:=by grind
 have hh:0<=uu*M / 1000:=by grind
 have hz:(A+e)*(2+0)=0\/eta<=uu*M / 1000:=by
  rcases h1 with h | h
  ·left;have a0:A=0:=by grind
   have e0:e=0:=by grind
   rw[a0,e0]; grind
  ·right; exact h
 refine⟨(Ap.mul hs X6 hS h22 hbig hh hz).mono ?_,hS.mul h22⟩;grind
theorem qg {w y z p C0 C1 C2:Fl} {M c0 c1 c2:Rat} (hR:su M) (hw:ar w=true) (hw1:Bd (rv w) kap) (hy:ar y=true) (hy1:Bd (rv y) kap) (hz:ar z=true) (hz1:Bd (rv z) kap) (hp:ar p=true) (hp1:Bd (rv p) M)
  (h0:Ap C0 c0 (401 / 100*uu*M)) (h1:Ap C1 c1 (401 / 100*uu*M)) (h2:Ap C2 c2 (401 / 100*uu*M)) (b0:Bd c0 (2*kap*M)) (b1:Bd c1 (2*kap*M)) (b2:Bd c2 (2*kap*M)) :
  Ap (ai (ai p (af w (af C0 (some 4611686018427387904)))) (co (af y (af C2 (some 4611686018427387904))) (af z (af C1 (some 4611686018427387904))))) (rv p+rv w*(c0*2)+(rv y*(c2*2) - rv z*(c1*2))) (75*uu*M):=by
 have hM:=hR.1;have hB:=hR.2.2;obtain⟨d0,e0⟩:=wP (E:=1203 / 100*uu*M) hR h0 b0 (by grind) (by grind) (by grind) (by grind);obtain⟨d1,e1⟩:=wP (E:=1203 / 100*uu*M) hR h1 b1 (by grind) (by grind) (by grind) (by grind);obtain⟨d2,e2⟩:=wP (E:=1203 / 100*uu*M) hR h2 b2 (by grind) (by grind) (by grind) (by grind);obtain⟨u1,u2⟩:=qV (E:=4015 / 100*uu*M) hR (Ap.self hy) hy1 (Ap.self hz) hz1 d2 e2 d1 e1 (by grind) (by grind) (by grind) (by grind);have t1:=ou (E:=1607 / 100*uu*M) hR (Ap.self hw) hw1 d0 e0 (by grind) (by grind) (by grind) (by grind);have t2:=hw1.mul e0;have s1:=Ap.add (Ap.self hp) t1 (hp1.add t2) (by grind);have s2:=Ap.add s1 u1 ((hp1.add t2).add u2) (by grind);exact s2.mono (by grind)
theorem Pj {w x y z p q r:Fl} {M:Rat} (hR:su M) (hw:ar w=true) (hw1:Bd (rv w) kap) (hx:ar x=true) (hx1:Bd (rv x) kap) (hy:ar y=true) (hy1:Bd (rv y) kap) (hz:ar z=true) (hz1:Bd (rv z) kap)
  (hp:ar p=true) (hp1:Bd (rv p) M) (hq:ar q=true) (hq1:Bd (rv q) M) (hr:ar r=true) (hr1:Bd (rv r) M) :
  (Ap (co (af y r) (af z q)) (rv y*rv r - rv z*rv q) (401 / 100*uu*M)/\Bd (rv y*rv r - rv z*rv q) (2*kap*M)) /\
  (Ap (co (af z p) (af x r)) (rv z*rv p - rv x*rv r) (401 / 100*uu*M)/\Bd (rv z*rv p - rv x*rv r) (2*kap*M)) /\
  (Ap (co (af x q) (af y p)) (rv x*rv q - rv y*rv p) (401 / 100*uu*M)/\Bd (rv x*rv q - rv y*rv p) (2*kap*M)):=by
 have hM:=hR.1;exact⟨qV hR (Ap.self hy) hy1 (Ap.self hz) hz1 (Ap.self hr) hr1 (Ap.self hq) hq1 (by grind) (by grind) (by grind) (by grind),
  qV hR (Ap.self hz) hz1 (Ap.self hx) hx1 (Ap.self hp) hp1 (Ap.self hr) hr1 (by grind) (by grind) (by grind) (by grind),
  qV hR (Ap.self hx) hx1 (Ap.self hy) hy1 (Ap.self hq) hq1 (Ap.self hp) hp1 (by grind) (by grind) (by grind) (by grind)⟩
theorem ak (a:Rat):0<=a*a:=by
 rcases (Rat.le_total:a<=0\/0<=a)with h | h
 ·have:=Rat.mul_nonneg (by grind:0 <= -a) (by grind:0 <= -a); grind
 ·exact Rat.mul_nonneg h h
theorem Bd.sq {d D:Rat} (h:Bd d D):d*d<=D*D:=(h.mul h).2
theorem Ph (a b c:Rat):∃ M,0<=M/\Bd a M/\Bd b M/\Bd c M/\M*M<=a*a+b*b+c*c/\(M=a\/M = -a\/M=b\/M = -b\/M=c\/M = -c):=by
 have sa:=ak a;have sb:=ak b;have sc:=ak c;have ab:∀ x:Rat,∃ y,0<=y/\Bd x y/\y*y=x*x/\(y=x\/y = -x):=by
  intro x;rcases (Rat.le_total:x<=0\/0<=x)with h | h
  ·exact⟨-x,by grind,by unfold Bd; grind,by grind,.inr rfl⟩
  ·exact⟨x,h,by unfold Bd; grind,rfl,.inl rfl⟩
 obtain⟨x,x0,x1,x2,x3⟩:=ab a;obtain⟨y,y0,y1,y2,y3⟩:=ab b;obtain⟨z,z0,z1,z2,z3⟩:=ab c;rcases (Rat.le_total:x<=y\/y<=x)with h1 | h1 <;> rcases (Rat.le_total:y<=z\/z<=y)with h2 | h2 <;> rcases (Rat.le_total:x<=z\/z<=x)with h3 | h3
 all_goals first
  | exact⟨x,x0,x1,y1.mono (by grind),z1.mono (by grind),by grind,by grind⟩
  | exact⟨y,y0,x1.mono (by grind),y1,z1.mono (by grind),by grind,by grind⟩
  | exact⟨z,z0,x1.mono (by grind),y1.mono (by grind),z1,by grind,by grind⟩
def Tm (a:Rat):Prop:=a=0\/(tS<=a/\a<=tG)\/(tS <= -a /\ -a<=tG)
theorem Ur {M t g B e:Rat} (h1:e*1267650600228229401496703205376<=t*uu) (h2:0<e) (h3:1000*g<=B) (hp:M=0\/(t<=M/\M<=g)) (hg:0<g:=by exact uO):(M=0\/e<=uu*M / 1000)/\M*1000<=B:=by
 rcases hp with h | ⟨h,h'⟩
 ·refine⟨.inl h,?_⟩;rw[h]; grind
 ·refine⟨.inr ?_,by grind⟩;grind
theorem Ua {M t x:Rat} (h:0<t) (hM:0<=M) (k:M = -x):¬ t<=x:=by grind
theorem KP {M t x:Rat} (h:0<t) (hM:0<=M) (k:M=x):¬ t <= -x:=by grind
theorem Tm.room {a b c M:Rat} (ha:Tm a) (hb:Tm b) (hc:Tm c) (hM0:0<=M) (h:M=a\/M = -a\/M=b\/M = -b\/M=c\/M = -c):su M:=by
 have key:∀ x:Rat,Tm x->(M=x\/M = -x)->su M:=by
  intro x hx hMx;have hp:M=0\/(tS<=M/\M<=tG):=by
   rcases hx with h | h | h <;> rcases hMx with k | k
   ·left; rw[k,h]
   ·left; rw[k,h]; rfl
   ·right; rw[k]; exact h
   ·exact absurd h.1 (Ua mu hM0 k)
   ·exact absurd h.1 (KP mu hM0 k)
   ·right; rw[k]; exact h
  exact⟨hM0,Ur Aw dD (EW (c:=1000) (by grind)) hp⟩
 rcases h with h | h | h | h | h | h
 ·exact key a ha (.inl h)
 ·exact key a ha (.inr h)
 ·exact key b hb (.inl h)
 ·exact key b hb (.inr h)
 ·exact key c hc (.inl h)
 ·exact key c hc (.inr h)
theorem afE {x y:Fl} (hx:ar x=true) (hy:ar y=true):fle x y=decide (vl x<=vl y):=by unfold fle;rw[q9 hx hy,aq3,aqC,aqF,arl,arl,ap5,ap5,Int.compare_eq_eq,Int.compare_eq_lt];omega
theorem RT {x y:Fl} (hx:ar x=true) (hy:ar y=true):flt x y=decide (vl x<vl y):=by unfold flt;rw[q9 hx hy,aq3,aqC,arl,ap5,Int.compare_eq_lt]
theorem DO {x y:Fl}:vl x<=vl y↔rv x<=rv y:=by
 unfold rv;have h:=bH Sp;constructor
 ·intro g;have g2:=Rat.intCast_le_intCast.2 g;have:=Rat.mul_nonneg ((Rat.le_iff_sub_nonneg _ _).1 g2) (Rat.le_of_lt h);generalize ((vl x:Int):Rat)=a at *;generalize ((vl y:Int):Rat)=b at *;generalize Ue Sp=u at *;grind
 ·intro g;rcases (by omega:vl y<vl x\/vl x<=vl y)with k | k
  ·have g2:=Rat.intCast_lt_intCast.2 k;have:=Rat.mul_pos ((Rat.lt_iff_sub_pos _ _).1 g2) h;generalize ((vl x:Int):Rat)=a at *;generalize ((vl y:Int):Rat)=b at *;generalize Ue Sp=u at *;grind
  ·exact k
theorem acK {x y:Fl}:vl x<vl y↔rv x<rv y:=by rw[<- Int.not_le,DO,Rat.not_le]
theorem acJ {x y:Fl}:vl x=vl y↔rv x=rv y:=by
 have h1:=@DO x y;have h2:=@DO y x;constructor
 ·intro h; exact Rat.le_antisymm (h1.1 (by omega)) (h2.1 (by omega))
 ·intro h;have:=h1.2 (by rw[h]; exact Rat.le_refl);have:=h2.2 (by rw[h]; exact Rat.le_refl);omega
theorem jv:ar (some 0)=true/\rv (some 0)=0:=gM false
theorem afB {x y:Fl} (hx:ar x=true) (hy:ar y=true):fge x y=true↔rv y<=rv x:=by rw[afC hx hy,aqC,DO]
theorem afD {x y:Fl} (hx:ar x=true) (hy:ar y=true):fle x y=true↔rv x<=rv y:=by rw[afE hx hy,aqC,DO]
theorem pB {x y:Fl} (hx:ar x=true) (hy:ar y=true):feq x y=true↔rv x=rv y:=by rw[afA hx hy,aqC,acJ]
theorem Gg {b:Nat} {i:Int} (h:Ieee.double.read b=.number false 4503599627370496 i) {n:Nat} (hi:(i+1074).toNat+52+n=1074 ):ar (some b)=true/\rv (some b)=Ue n:=by
 refine⟨fS h,?_⟩;rw[cA h,aJ,if_neg (by decide),Rat.natCast_mul,Rat.natCast_pow];generalize (i+1074).toNat=a at *;have hS:Sp=(a+52)+n:=by rw[gd]; omega
 rw[hS,cq,cq];have h1:((2:Nat):Rat) ^ a*Ue a=1:=bD a;have h2:(2:Rat) ^ 52*Ue 52=1:=bD 52;have h3:((4503599627370496:Nat):Rat)=(2:Rat) ^ 52:=by decide +kernel
 rw[h3];generalize ((2:Nat):Rat) ^ a=p at *;generalize (2:Rat) ^ 52=q at *;generalize Ue a=r at *;generalize Ue 52=s at *;have:q*p*(r*s*Ue n)=(p*r)*(q*s)*Ue n:=by grind
 rw[this,h1,h2,Rat.one_mul,Rat.one_mul]
theorem abC {b:Nat} {i:Int} (h:Ieee.double.read b=.number false 4503599627370496 i) {n:Nat} (hi:(i+1074).toNat+52=n+1074):ar (some b)=true/\rv (some b)=2 ^ n:=by
 refine⟨fS h,?_⟩;rw[cA h,aJ,if_neg (by decide),Rat.natCast_mul,Rat.natCast_pow];have h3:((4503599627370496:Nat):Rat)=(2:Rat) ^ 52:=by decide +kernel
 rw[h3];generalize (i+1074).toNat=a at *;rw[<- gd]at hi;have h5:(2:Rat) ^ 52*((2:Nat):Rat) ^ a=2 ^ (n+Sp):=by rw[<- hi,Nat.add_comm,gK]; rfl
 rw[h5,gK,Rat.mul_assoc,bD,Rat.mul_one]
abbrev cS:Fl:=some 2805742567851819008
abbrev cG:Fl:=some 6408622269748215808
theorem EZ:ar cS=true/\rv cS=tS:=by
 have h:Ieee.double.read 2805742567851819008=.number false 4503599627370496 (-452):=by decide
 have:=Gg h (n:=400) (by decide);unfold tS; exact this
theorem EY:ar cG=true/\rv cG=tG:=by
 have h:Ieee.double.read 6408622269748215808=.number false 4503599627370496 348:=by decide
 have:=abC h (n:=400) (by decide);unfold tG; exact this
def mJ (x:Fl):Bool:=feq x (some 0)||(fge (cW x) cS&&fle (cW x) cG)
theorem DC {x y z:Fl} (hy:ar y=true) (hz:ar z=true) (h1:fge x y=true) (h2:fle x z=true):ar x=true:=by
 obtain⟨b,s,m,i,rfl,hb⟩:=aG hy;obtain⟨c,t,n,j,rfl,hc⟩:=aG hz;cases x with
 | none=>exact absurd h1 Bool.false_ne_true
 | some a=>
  have f1:lU (some a) (some b)=(Ieee.double.read a).order (.number s m i):=by show(Ieee.double.read a).order (Ieee.double.read b)=_; rw[hb]
  have f2:lU (some a) (some c)=(Ieee.double.read a).order (.number t n j):=by show(Ieee.double.read a).order (Ieee.double.read c)=_; rw[hc]
  unfold fge at h1;unfold fle at h2;rw[f1]at h1;rw[f2]at h2;cases hr:Ieee.double.read a with
  | number s' m' i'=>exact fS hr
  | nan s' f=>rw[hr]at h1; exact absurd h1 (by simp[Datum.order])
  | infinity s'=>
   rw[hr]at h1 h2;cases s'
   ·exact absurd h2 (by simp[Datum.order])
   ·exact absurd h1 (by simp[Datum.order])
theorem ZH {x:Fl} (h:feq x (some 0)=true):ar x=true:=by
 cases x with
 | none=>exact absurd h (by decide)
 | some a=>
  have f1:lU (some a) (some 0)=(Ieee.double.read a).order (.number false 0 (-1074)):=by show(Ieee.double.read a).order (Ieee.double.read 0)=_; rw[jL]
  unfold feq at h;rw[f1]at h;cases hr:Ieee.double.read a with
  | number s' m' i'=>exact fS hr
  | nan s' f=>rw[hr]at h; exact absurd h (by simp[Datum.order])
  | infinity s'=>
   rw[hr]at h;cases s'
   ·exact absurd h (by simp[Datum.order])
   ·exact absurd h (by simp[Datum.order])
theorem NQ {x:Fl} (h:ar (cW x)=true):ar x=true:=by
 cases x with
 | none=>exact absurd h (by decide)
 | some b=>
  have h':ar (cP (b%9223372036854775808))=true:=h;unfold cP at h';cases hn:isNaN (b%9223372036854775808)with
  | true=>rw[hn]at h'; exact absurd h' Bool.false_ne_true
  | false=>
   rw[hn,ap_,Dd]at h';rw[Dd];have:=ap0 h';exact aqx (by omega)
theorem ag2 {x:Fl} (hx:ar x=true) (hw:FW x):rv (cW x)=rv x\/rv (cW x) = -(rv x):=by
 obtain⟨b,s,m,i,rfl,h⟩:=aG hx;unfold rv;rw[nS hx hw rfl h,qj h,aJ,Rat.intCast_natCast];cases s
 ·left; rfl
 ·right;rw[if_pos rfl,Rat.neg_mul,Rat.neg_neg]
theorem ox {x:Fl} (hw:FW x) (h:mJ x=true):ar x=true/\Tm (rv x):=by
 unfold mJ at h;rw[aqF,aqj]at h;rcases h with h | ⟨h1,h2⟩
 ·have hf:=ZH h;refine⟨hf,.inl ?_⟩;have:=(pB hf jv.1).1 h;rw[jv.2]at this;exact this
 ·have hf:=DC EZ.1 EY.1 h1 h2;have hx:=NQ hf;have g1:=(afB hf EZ.1).1 h1;have g2:=(afD hf EY.1).1 h2;rw[EZ.2]at g1;rw[EY.2]at g2;refine⟨hx,?_⟩;rcases ag2 hx hw with e | e
  ·rw[e]at g1 g2; exact .inr (.inl ⟨g1,g2⟩)
  ·rw[e]at g1 g2; exact .inr (.inr ⟨g1,g2⟩)
theorem Bq (x:Rat):∃ y,0<=y/\Bd x y/\y*y=x*x:=by
 rcases (Rat.le_total:x<=0\/0<=x)with h | h
 ·exact⟨-x,by grind,by unfold Bd; grind,by grind⟩
 ·exact⟨x,h,by unfold Bd; grind,rfl⟩
theorem alz:tS<=1:=by unfold tS;have h1:=bD 400;have h2:=mg 400;have h3:=bH 400;generalize (2:Rat) ^ 400=p at *;generalize Ue 400=u at *;have:=Rat.mul_nonneg (by grind:0<=p - 1) (by grind:0<=u);grind
theorem lS:eta*1267650600228229401496703205376<=uu:=by have h1:=Aw;have h2:=alz;have:=Rat.mul_nonneg (by grind:0<=1 - tS) (by grind:(0:Rat)<=uu);grind
theorem jg:(1267650600228229401496703205376:Rat)<=Bg:=by
 have h1:=EW (c:=1267650600228229401496703205376) Rat.le_refl;have h2:1<=tG:=by unfold tG; exact mg 400
 have:=Rat.mul_nonneg (by grind:0<=tG - 1) (by grind:(0:Rat)<=1267650600228229401496703205376);grind
theorem ahv {P L:Rat} (h:Bd (P - L) (uu*L+eta)) (hL:0<=L) (he:eta*1267650600228229401496703205376<=uu) (he0:0<eta):Bd (P - L) (uu*L+uu / 100000):=h.mono (by grind)
theorem iu {l:Fl} (hl:ar l=true) (hb:Bd (rv l) 3):ar (af l l)=true/\Bd (rv (af l l) - rv l*rv l) (uu*(rv l*rv l)+uu / 100000):=by
 have h0:=ak (rv l);have hB:=jg;have h1:Bd (rv l*rv l) (rv l*rv l):=by unfold Bd; exact⟨by grind,Rat.le_refl⟩
 have h2:Bd (rv l*rv l) Bg:=(hb.mul hb).mono (by grind);obtain⟨m1,m2,m3⟩:=xI hl hl h2;exact⟨m1,ahv (m3 _ h1) h0 lS dD⟩
theorem lL {S s P L t:Rat} {c:Rat} (hS:Bd (S - s) (c*uu*(s+1 / 10000))) (hP:Bd (P - L) (uu*L+uu / 100000)) (hs:0<=s) (hL:0<=L) (hs2:s<=40) (hL2:L<=40) (hc:0<=c) (hc2:c<=10) (hc3:1<=c) (ht:∀ A,Bd (S+P) A->Bd (t - (S+P)) (uu*A)):Bd (t - (s+L)) ((c+10001 / 10000)*uu*(s+L+1 / 10000)):=by
 obtain⟨a1,a2⟩:=hS;obtain⟨b1,b2⟩:=hP;have cs:=Rat.mul_nonneg hc hs;have cl:=Rat.mul_nonneg (by grind:0<=c - 1) hL;have cs2:=Rat.mul_nonneg (by grind:0<=10 - c) hs;have e:c*uu*(s+1 / 10000)=uu*(c*s)+uu*c / 10000:=by grind
 have e2:(c+10001 / 10000)*uu*(s+L+1 / 10000)=uu*(c*s)+uu*(c*L)+uu*c / 10000+10001 / 10000*uu*(s+L+1 / 10000):=by grind
 rw[e]at a1 a2;rw[e2];have e3:(c - 1)*L=c*L - L:=by grind
 have e4:(10 - c)*s=10*s - c*s:=by grind
 rw[e3]at cl;rw[e4]at cs2;generalize c*s=x at *;generalize c*L=y at *;have h:=ht (s+L+uu*x+uu*c / 10000+uu*L+uu / 100000) ⟨by grind,by grind⟩;obtain⟨d1,d2⟩:=h;constructor <;> grind
theorem AN {l0 l1 l2 l3:Fl} (f0:ar l0=true) (f1:ar l1=true) (f2:ar l2=true) (f3:ar l3=true) (b0:Bd (rv l0) 3) (b1:Bd (rv l1) 3) (b2:Bd (rv l2) 3) (b3:Bd (rv l3) 3) :
  ar (ai (ai (ai (ai (some 0) (af l0 l0)) (af l1 l1)) (af l2 l2)) (af l3 l3))=true /\
  Bd (rv (ai (ai (ai (ai (some 0) (af l0 l0)) (af l1 l1)) (af l2 l2)) (af l3 l3)) - (rv l0*rv l0+rv l1*rv l1+rv l2*rv l2+rv l3*rv l3)) (501 / 100*uu*(rv l0*rv l0+rv l1*rv l1+rv l2*rv l2+rv l3*rv l3+1 / 10000)):=by
 obtain⟨g0,h0⟩:=iu f0 b0;obtain⟨g1,h1⟩:=iu f1 b1;obtain⟨g2,h2⟩:=iu f2 b2;obtain⟨g3,h3⟩:=iu f3 b3;have q0:=ak (rv l0);have q1:=ak (rv l1);have q2:=ak (rv l2);have q3:=ak (rv l3);have r0:=b0.sq;have r1:=b1.sq;have r2:=b2.sq;have r3:=b3.sq;generalize af l0 l0=P0 at *;generalize af l1 l1=P1 at *;generalize af l2 l2=P2 at *;generalize af l3 l3=P3 at *;generalize rv l0*rv l0=L0 at *;generalize rv l1*rv l1=L1 at *;generalize rv l2*rv l2=L2 at *;generalize rv l3*rv l3=L3 at *;have hB:=jg;have z:=jv;have s0:Bd (rv (some 0) - 0) (1*uu*(0+1 / 10000)):=by rw[z.2]; unfold Bd; grind
 obtain⟨m0,n0⟩:=eR z.1 g0 (by rw[z.2]; obtain⟨a,b⟩:=h0; exact⟨by grind,by grind⟩);have s1:=lL s0 h0 Rat.le_refl q0 (by grind) (by grind) (by grind) (by grind) (by grind) n0;rw[Rat.zero_add]at s1;obtain⟨m1,n1⟩:=eR m0 g1 (by obtain⟨a,b⟩:=h1; obtain⟨c,d⟩:=s1; exact⟨by grind,by grind⟩);have s2:=lL s1 h1 q0 q1 (by grind) (by grind) (by grind) (by grind) (by grind) n1;obtain⟨m2,n2⟩:=eR m1 g2 (by obtain⟨a,b⟩:=h2; obtain⟨c,d⟩:=s2; exact⟨by grind,by grind⟩);have s3:=lL s2 h2 (by grind) q2 (by grind) (by grind) (by grind) (by grind) (by grind) n2;obtain⟨m3,n3⟩:=eR m2 g3 (by obtain⟨a,b⟩:=h3; obtain⟨c,d⟩:=s3; exact⟨by grind,by grind⟩);have s4:=lL s3 h3 (by grind) q3 (by grind) (by grind) (by grind) (by grind) (by grind) n3;exact⟨m3,s4.mono (by grind)⟩
theorem agT {q y a:Rat} (h:Bd (q - y) (2*uu*a+eta)) (ha:a*a=y*y) (ha0:0<=a) (ha2:a<=4) (hy:Bd y a) (he:eta*1267650600228229401496703205376<=uu) (he0:0<eta):Bd (q*q - y*y) (401 / 100*uu*(y*y)+uu / 100000):=by
 have h1:=hy.mul h;have h2:=h.sq;have h3:=ak (q - y);have h4:=Rat.mul_nonneg ha0 (by grind:0<=eta);have h5:=Rat.mul_nonneg (by grind:0<=4 - a) (by grind:0<=eta);have e1:a*(2*uu*a+eta)=2*uu*(y*y)+a*eta:=by rw[<- ha]; grind
 have e2:(2*uu*a+eta)*(2*uu*a+eta)=4*uu*uu*(y*y)+4*uu*(a*eta)+eta*eta:=by rw[<- ha]; grind
 rw[e1]at h1;rw[e2]at h2;have e3:(4 - a)*eta=4*eta - a*eta:=by grind
 rw[e3]at h5;have h6:=ak y;have h7:=Rat.mul_nonneg (by grind:0<=1 - eta) (by grind:0<=eta);have e4:(1 - eta)*eta=eta - eta*eta:=by grind
 rw[e4]at h7;have e5:(q - y)*(q - y)=q*q - 2*(q*y)+y*y:=by grind
 have e6:y*(q - y)=q*y - y*y:=by grind
 rw[e5]at h2 h3;rw[e6]at h1;obtain⟨a1,a2⟩:=h1;generalize a*eta=t at *;generalize eta*eta=ee at *;generalize y*y=Y at *;generalize q*y=X at *;generalize q*q=Q at *;constructor <;> grind
theorem adl {s n R Y:Rat} (hs:1<=s) (hn:Bd (n - s) (501 / 100*uu*(s+1 / 10000))) (hR:Bd (R - n) (3*uu*n)) (hR0:0<R) (hY:Y*R=s):Bd (Y - 1) (81 / 10*uu)/\0<=Y:=by
 obtain⟨a1,a2⟩:=hn;obtain⟨b1,b2⟩:=hR;have hY0:0<=Y:=by
  rcases (Rat.le_total:Y<=0\/0<=Y)with h | h
  ·have:=Rat.mul_nonneg (by grind:0 <= -Y) (by grind:0<=R);grind
  ·exact h
 have c1:R<=s+805 / 100*uu*s:=by grind
 have c2:s - 805 / 100*uu*s<=R:=by grind
 refine⟨⟨?_,?_⟩,hY0⟩
 ·rcases (Rat.le_total:Y - 1 <= -(81 / 10*uu) \/ -(81 / 10*uu)<=Y - 1)with h | h
  ·have:=Rat.mul_nonneg (by grind:0<=(1 - 81 / 10*uu) - Y) (by grind:0<=R);grind
  ·exact h
 ·rcases (Rat.le_total:Y - 1<=81 / 10*uu\/81 / 10*uu<=Y - 1)with h | h
  ·exact h
  ·have:=Rat.mul_nonneg (by grind:0<=Y - (1+81 / 10*uu)) (by grind:0<=R);grind
theorem eW {y R l:Rat} (hR:R ≠ 0) (h:y=l / R):y*y*(R*R)=l*l:=by
 subst h;have:l / R*R=l:=by grind
 have e:l / R*(l / R)*(R*R)=(l / R*R)*(l / R*R):=by grind
 rw[e,this]
theorem Zp {a Y yy:Rat} (h:a*a=yy) (h1:yy<=Y) (h2:Y<=2) (h0:0<=a):a<=4:=by
 rcases (Rat.le_total:a<=4\/4<=a)with h3 | h3
 ·exact h3
 ·have:=Rat.mul_nonneg (by grind:0<=a - 4) (by grind:0<=a - 4);grind
theorem mi {l g:Fl} (hl:ar l=true) (hg:ar g=true) (h0:0<rv g) {Y:Rat} (hY:Y<=2) (hle:rv l / rv g*(rv l / rv g)<=Y):ar (fdiv l g)=true/\Bd (rv (fdiv l g)*rv (fdiv l g) - rv l / rv g*(rv l / rv g)) (401 / 100*uu*(rv l / rv g*(rv l / rv g))+uu / 100000):=by obtain⟨a,a0,a1,a2⟩:=Bq (rv l / rv g);have a4:=Zp a2 hle hY a0;have hB:=jg;obtain⟨d1,d2,d3⟩:=ne hl hg (by intro h; rw[h]at h0; exact absurd h0 (by decide)) (a1.mono (by grind));exact⟨d1,agT (d3 a a1) a2 a0 a4 a1 lS dD⟩
theorem X7 {Y y0 y1 y2 y3 q0 q1 q2 q3:Rat} (hY:y0+y1+y2+y3=Y) (h:Bd (Y - 1) (81 / 10*uu)) (h0:Bd (q0 - y0) (401 / 100*uu*y0+uu / 100000)) (h1:Bd (q1 - y1) (401 / 100*uu*y1+uu / 100000)) (h2:Bd (q2 - y2) (401 / 100*uu*y2+uu / 100000)) (h3:Bd (q3 - y3) (401 / 100*uu*y3+uu / 100000)):Bd (q0+q1+q2+q3 - 1) (1 / 562949953421312):=by obtain⟨a,b⟩:=h;obtain⟨a0,b0⟩:=h0;obtain⟨a1,b1⟩:=h1;obtain⟨a2,b2⟩:=h2;obtain⟨a3,b3⟩:=h3;constructor <;> grind
theorem Pm {l0 l1 l2 l3:Fl} (f0:ar l0=true) (f1:ar l1=true) (f2:ar l2=true) (f3:ar l3=true) (b0:Bd (rv l0) 3) (b1:Bd (rv l1) 3) (b2:Bd (rv l2) 3) (b3:Bd (rv l3) 3)
  (h1:1<=rv l0*rv l0+rv l1*rv l1+rv l2*rv l2+rv l3*rv l3) {g:Fl} (hg:g=dm (ai (ai (ai (ai (some 0) (af l0 l0)) (af l1 l1)) (af l2 l2)) (af l3 l3))) :
  (ar (fdiv l0 g)=true/\ar (fdiv l1 g)=true/\ar (fdiv l2 g)=true/\ar (fdiv l3 g)=true) /\
  Bd (rv (fdiv l0 g)*rv (fdiv l0 g)+rv (fdiv l1 g)*rv (fdiv l1 g)+rv (fdiv l2 g)*rv (fdiv l2 g)+rv (fdiv l3 g)*rv (fdiv l3 g) - 1) (1 / 562949953421312):=by
 obtain⟨n1,n2⟩:=AN f0 f1 f2 f3 b0 b1 b2 b3;generalize ai (ai (ai (ai (some 0) (af l0 l0)) (af l1 l1)) (af l2 l2)) (af l3 l3)=n at *;have hn0:0<rv n:=by obtain⟨a,b⟩:=n2;generalize rv l0*rv l0+rv l1*rv l1+rv l2*rv l2+rv l3*rv l3=s at *;grind
 obtain⟨s1,s2,s3⟩:=uL n1 hn0;rw[<- hg]at s1 s2 s3;have hr0:rv g ≠ 0:=by intro h; rw[h]at s2; exact absurd s2 (by decide)
 have hrr:=Rat.mul_pos s2 s2;have e0:=eW hr0 (rfl:rv l0 / rv g=rv l0 / rv g);have e1:=eW hr0 (rfl:rv l1 / rv g=rv l1 / rv g);have e2:=eW hr0 (rfl:rv l2 / rv g=rv l2 / rv g);have e3:=eW hr0 (rfl:rv l3 / rv g=rv l3 / rv g);have z0:=ak (rv l0 / rv g);have z1:=ak (rv l1 / rv g);have z2:=ak (rv l2 / rv g);have z3:=ak (rv l3 / rv g);have eY:(rv l0 / rv g*(rv l0 / rv g)+rv l1 / rv g*(rv l1 / rv g)+rv l2 / rv g*(rv l2 / rv g)+rv l3 / rv g*(rv l3 / rv g))*(rv g*rv g)=rv l0*rv l0+rv l1*rv l1+rv l2*rv l2+rv l3*rv l3:=by rw[<- e0,<- e1,<- e2,<- e3,Rat.add_mul,Rat.add_mul,Rat.add_mul]
 obtain⟨y1,y2⟩:=adl h1 n2 s3 hrr eY;generalize hYY:rv l0 / rv g*(rv l0 / rv g)+rv l1 / rv g*(rv l1 / rv g)+rv l2 / rv g*(rv l2 / rv g)+rv l3 / rv g*(rv l3 / rv g)=Y at *;have hY2:Y<=2:=by obtain⟨a,b⟩:=y1; grind
 clear e0 e1 e2 e3;obtain⟨d0,k0⟩:=mi f0 s1 s2 hY2 (by generalize rv l0 / rv g*(rv l0 / rv g)=x at *; grind);obtain⟨d1,k1⟩:=mi f1 s1 s2 hY2 (by generalize rv l1 / rv g*(rv l1 / rv g)=x at *; grind);obtain⟨d2,k2⟩:=mi f2 s1 s2 hY2 (by generalize rv l2 / rv g*(rv l2 / rv g)=x at *; grind);obtain⟨d3,k3⟩:=mi f3 s1 s2 hY2 (by generalize rv l3 / rv g*(rv l3 / rv g)=x at *; grind);exact⟨⟨d0,d1,d2,d3⟩,X7 hYY y1 k0 k1 k2 k3⟩
theorem ak5:su 1:=by have h1:=lS;have h2:=jg;have h3:=dD;exact⟨by grind,.inr (by grind),by grind⟩
theorem dv {a b:Fl} (ha:ar a=true) (hb:ar b=true) (ba:Bd (rv a) kap) (bb:Bd (rv b) kap):Ap (af a b) (rv a*rv b) (101 / 100*uu)/\Bd (rv a*rv b) (101 / 100):=
 ⟨ou ak5 (Ap.self ha) ba (Ap.self hb) bb (by grind) (by grind) (by grind) (by grind),(ba.mul bb).mono (by grind)⟩
theorem m5 {x y:Fl} {a b e A f C E D:Rat} (hx:Ap x a e/\Bd a A) (hy:Ap y b f/\Bd b C) (hE:e+f+uu*(A+C+e+f)<=E) (hD:A+C<=D) (hb:A+C+e+f<=1000):Ap (ai x y) (a+b) E/\Bd (a+b) D:=by have h:=hx.2.add hy.2;have hB:=jg;exact⟨(Ap.add hx.1 hy.1 h (by grind)).mono hE,h.mono hD⟩
theorem nM {x y:Fl} {a b e A f C E D:Rat} (hx:Ap x a e/\Bd a A) (hy:Ap y b f/\Bd b C) (hE:e+f+uu*(A+C+e+f)<=E) (hD:A+C<=D) (hb:A+C+e+f<=1000):Ap (co x y) (a - b) E/\Bd (a - b) D:=by have h:=hx.2.sub hy.2;have hB:=jg;exact⟨(Ap.sub hx.1 hy.1 h (by grind)).mono hE,h.mono hD⟩
theorem afx (a b c d p q r s:Rat):(a*p - b*q - c*r - d*s)*(a*p - b*q - c*r - d*s)+(a*q+b*p+c*s - d*r)*(a*q+b*p+c*s - d*r)+(a*r - b*s+c*p+d*q)*(a*r - b*s+c*p+d*q)+(a*s+b*r - c*q+d*p)*(a*s+b*r - c*q+d*p)=(a*a+b*b+c*c+d*d)*(p*p+q*q+r*r+s*s):=by grind
theorem agR {a b c d p q r s:Fl} (fa:ar a=true) (fb:ar b=true) (fc:ar c=true) (fd:ar d=true) (fp:ar p=true) (fq:ar q=true) (fr:ar r=true) (fs:ar s=true)
  (ba:Bd (rv a) kap) (bb:Bd (rv b) kap) (bc:Bd (rv c) kap) (bd:Bd (rv d) kap) (bp:Bd (rv p) kap) (bq:Bd (rv q) kap) (br:Bd (rv r) kap) (bs:Bd (rv s) kap) :
  Ap (co (co (co (af a p) (af b q)) (af c r)) (af d s)) (rv a*rv p - rv b*rv q - rv c*rv r - rv d*rv s) (27 / 2*uu) /\
  Ap (co (ai (ai (af a q) (af b p)) (af c s)) (af d r)) (rv a*rv q+rv b*rv p+rv c*rv s - rv d*rv r) (27 / 2*uu) /\
  Ap (ai (ai (co (af a r) (af b s)) (af c p)) (af d q)) (rv a*rv r - rv b*rv s+rv c*rv p+rv d*rv q) (27 / 2*uu) /\
  Ap (ai (co (ai (af a s) (af b r)) (af c q)) (af d p)) (rv a*rv s+rv b*rv r - rv c*rv q+rv d*rv p) (27 / 2*uu):=by
 refine⟨?_,?_,?_,?_⟩
 ·have h1:=nM (E:=81 / 20*uu) (D:=203 / 100) (dv fa fp ba bp) (dv fb fq bb bq) (by grind) (by grind) (by grind);have h2:=nM (E:=41 / 5*uu) (D:=305 / 100) h1 (dv fc fr bc br) (by grind) (by grind) (by grind);exact(nM (E:=27 / 2*uu) (D:=5) h2 (dv fd fs bd bs) (by grind) (by grind) (by grind)).1
 ·have h1:=m5 (E:=81 / 20*uu) (D:=203 / 100) (dv fa fq ba bq) (dv fb fp bb bp) (by grind) (by grind) (by grind);have h2:=m5 (E:=41 / 5*uu) (D:=305 / 100) h1 (dv fc fs bc bs) (by grind) (by grind) (by grind);exact(nM (E:=27 / 2*uu) (D:=5) h2 (dv fd fr bd br) (by grind) (by grind) (by grind)).1
 ·have h1:=nM (E:=81 / 20*uu) (D:=203 / 100) (dv fa fr ba br) (dv fb fs bb bs) (by grind) (by grind) (by grind);have h2:=m5 (E:=41 / 5*uu) (D:=305 / 100) h1 (dv fc fp bc bp) (by grind) (by grind) (by grind);exact(m5 (E:=27 / 2*uu) (D:=5) h2 (dv fd fq bd bq) (by grind) (by grind) (by grind)).1
 ·have h1:=m5 (E:=81 / 20*uu) (D:=203 / 100) (dv fa fs ba bs) (dv fb fr bb br) (by grind) (by grind) (by grind);have h2:=nM (E:=41 / 5*uu) (D:=305 / 100) h1 (dv fc fq bc bq) (by grind) (by grind) (by grind);exact(m5 (E:=27 / 2*uu) (D:=5) h2 (dv fd fp bd bp) (by grind) (by grind) (by grind)).1
def ra (w x y z:Rat):Rat:=w*w+x*x - y*y - z*z
def rb (w x y z:Rat):Rat:=2*(x*y - w*z)
def rc (w x y z:Rat):Rat:=2*(x*z+w*y)
def R0 (w x y z p q r:Rat):Rat:=ra w x y z*p+rb w x y z*q+rc w x y z*r
def T0 (w x y z p q r:Rat):Rat:=p+w*((y*r - z*q)*2)+(y*((x*q - y*p)*2) - z*((z*p - x*r)*2))
theorem oM (w x y z p q r:Rat):T0 w x y z p q r=R0 w x y z p q r - (w*w+x*x+y*y+z*z - 1)*p:=by unfold T0 R0 ra rb rc; grind
theorem ad7 (w x y z p q r p' q' r':Rat):T0 w x y z (p+p') (q+q') (r+r')=T0 w x y z p q r+T0 w x y z p' q' r':=by unfold T0; grind
def Nq (w x y z:Rat):Rat:=w*w+x*x+y*y+z*z
theorem agU (a b c d p q r s:Rat):ra (a*p - b*q - c*r - d*s) (a*q+b*p+c*s - d*r) (a*r - b*s+c*p+d*q) (a*s+b*r - c*q+d*p)=ra a b c d*ra p q r s+rb a b c d*rc p r s q+rc a b c d*rb p s q r:=by unfold ra rb rc; grind
theorem agX (a b c d p q r s:Rat):rb (a*p - b*q - c*r - d*s) (a*q+b*p+c*s - d*r) (a*r - b*s+c*p+d*q) (a*s+b*r - c*q+d*p)=ra a b c d*rb p q r s+rb a b c d*ra p r s q+rc a b c d*rc p s q r:=by unfold ra rb rc; grind
theorem agY (a b c d p q r s:Rat):rc (a*p - b*q - c*r - d*s) (a*q+b*p+c*s - d*r) (a*r - b*s+c*p+d*q) (a*s+b*r - c*q+d*p)=ra a b c d*rc p q r s+rb a b c d*rb p r s q+rc a b c d*ra p s q r:=by unfold ra rb rc; grind
theorem ad6 (a b c d p q r s u v t:Rat):R0 (a*p - b*q - c*r - d*s) (a*q+b*p+c*s - d*r) (a*r - b*s+c*p+d*q) (a*s+b*r - c*q+d*p) u v t =
  R0 a b c d (R0 p q r s u v t) (R0 p r s q v t u) (R0 p s q r t u v):=by
 have h1:=agU a b c d p q r s;have h2:=agX a b c d p q r s;have h3:=agY a b c d p q r s;unfold R0;rw[h1,h2,h3];generalize ra a b c d=A;generalize rb a b c d=B;generalize rc a b c d=C;generalize ra p q r s=a1;generalize rb p q r s=b1;generalize rc p q r s=c1;generalize ra p r s q=a2;generalize rb p r s q=b2;generalize rc p r s q=c2;generalize ra p s q r=a3;generalize rb p s q r=b3;generalize rc p s q r=c3;grind
theorem Us (w x y z:Rat):Bd (ra w x y z) (Nq w x y z)/\Bd (rb w x y z) (Nq w x y z)/\Bd (rc w x y z) (Nq w x y z):=by have h1:=ak w;have h2:=ak x;have h3:=ak y;have h4:=ak z;have a1:=ak (x - y);have a2:=ak (x+y);have a3:=ak (w - z);have a4:=ak (w+z);have b1:=ak (x - z);have b2:=ak (x+z);have b3:=ak (w - y);have b4:=ak (w+y);unfold ra rb rc Nq Bd;refine⟨⟨by grind,by grind⟩,⟨by grind,by grind⟩,⟨by grind,by grind⟩⟩
theorem dX {x y x' y' k d:Rat} (hx:Bd x k) (hy:Bd y k) (h1:Bd (x' - x) d) (h2:Bd (y' - y) d):Bd (x'*y' - x*y) (2*k*d+d*d):=by have a:=hx.mul h2;have b:=hy.mul h1;have c:=h1.mul h2;obtain⟨a1,a2⟩:=a;obtain⟨b1,b2⟩:=b;obtain⟨c1,c2⟩:=c;constructor <;> grind
theorem XX {a b c d a' b' c' d' e:Rat} (h1:Bd (a' - a) e) (h2:Bd (b' - b) e) (h3:Bd (c' - c) e) (h4:Bd (d' - d) e):Bd (a'+b' - c' - d' - (a+b - c - d)) (4*e):=by obtain⟨a1,a2⟩:=h1;obtain⟨b1,b2⟩:=h2;obtain⟨c1,c2⟩:=h3;obtain⟨d1,d2⟩:=h4;constructor <;> grind
theorem XW {a b a' b' e:Rat} (h1:Bd (a' - a) e) (h2:Bd (b' - b) e):Bd (2*(a' - b') - 2*(a - b)) (4*e):=by obtain⟨a1,a2⟩:=h1;obtain⟨b1,b2⟩:=h2;constructor <;> grind
theorem QK {a b a' b' e:Rat} (h1:Bd (a' - a) e) (h2:Bd (b' - b) e):Bd (2*(a'+b') - 2*(a+b)) (4*e):=by obtain⟨a1,a2⟩:=h1;obtain⟨b1,b2⟩:=h2;constructor <;> grind
theorem rM {w x y z w' x' y' z' k d:Rat} (hw:Bd w k) (hx:Bd x k) (hy:Bd y k) (hz:Bd z k) (gw:Bd (w' - w) d) (gx:Bd (x' - x) d) (gy:Bd (y' - y) d) (gz:Bd (z' - z) d) :
  Bd (ra w' x' y' z' - ra w x y z) (4*(2*k*d+d*d))/\Bd (rb w' x' y' z' - rb w x y z) (4*(2*k*d+d*d))/\Bd (rc w' x' y' z' - rc w x y z) (4*(2*k*d+d*d)):=by
 unfold ra rb rc;exact⟨XX (dX hw hw gw gw) (dX hx hx gx gx) (dX hy hy gy gy) (dX hz hz gz gz),
  XW (dX hx hy gx gy) (dX hw hz gw gz),QK (dX hx hz gx gz) (dX hw hy gw gy)⟩
theorem OW (c w x y z:Rat):ra (c*w) (c*x) (c*y) (c*z)=c*c*ra w x y z/\rb (c*w) (c*x) (c*y) (c*z)=c*c*rb w x y z/\rc (c*w) (c*x) (c*y) (c*z)=c*c*rc w x y z:=by unfold ra rb rc;refine⟨by grind,by grind,by grind⟩
theorem QF {w x y z w' x' y' z' k d:Rat} (hw:Bd w k) (hx:Bd x k) (hy:Bd y k) (hz:Bd z k) (gw:Bd (w' - w) d) (gx:Bd (x' - x) d) (gy:Bd (y' - y) d) (gz:Bd (z' - z) d):Bd (Nq w' x' y' z' - Nq w x y z) (4*(2*k*d+d*d)):=by obtain⟨a1,a2⟩:=dX hw hw gw gw;obtain⟨b1,b2⟩:=dX hx hx gx gx;obtain⟨c1,c2⟩:=dX hy hy gy gy;obtain⟨d1,d2⟩:=dX hz hz gz gz;unfold Nq;constructor <;> grind
theorem Kp {w x y z p q r m:Rat} (hN:Bd (Nq w x y z - 1) (1 / 1000)) (hp:Bd p m) (hq:Bd q m) (hr:Bd r m):Bd (T0 w x y z p q r) (301 / 100*m):=by
 obtain⟨h1,h2,h3⟩:=Us w x y z;have m0:=hp.nonneg;have hN1:Nq w x y z<=1001 / 1000:=by have:=hN.2; grind
 have a:=(h1.mono hN1).mul hp;have b:=(h2.mono hN1).mul hq;have c:=(h3.mono hN1).mul hr;have d:=hN.mul hp;have e:=oM w x y z p q r;have eN:w*w+x*x+y*y+z*z - 1=Nq w x y z - 1:=rfl;rw[eN]at e;rw[e];unfold R0;obtain⟨a1,a2⟩:=a;obtain⟨b1,b2⟩:=b;obtain⟨c1,c2⟩:=c;obtain⟨d1,d2⟩:=d;constructor <;> grind
def Un (w x y z:Rat):Prop:=Bd (Nq w x y z - 1) (1 / 281474976710656)
theorem Un.n {w x y z:Rat} (h:Un w x y z):Bd (Nq w x y z - 1) (1 / 1000):=Bd.mono h (by grind)
theorem Un.cyc {w x y z:Rat} (h:Un w x y z):Un w y z x:=by
 unfold Un Nq at *;have:w*w+y*y+z*z+x*x - 1=w*w+x*x+y*y+z*z - 1:=by grind
 rw[this]; exact h
theorem ad5 (a b c d p q r s:Rat):Nq (a*p - b*q - c*r - d*s) (a*q+b*p+c*s - d*r) (a*r - b*s+c*p+d*q) (a*s+b*r - c*q+d*p)=Nq a b c d*Nq p q r s:=afx a b c d p q r s
theorem N2 {A B:Rat} (hA:Bd (A - 1) (1 / 281474976710656)) (hB:Bd (B - 1) (1 / 281474976710656)):Bd (A*B - 1) (641 / 10*uu):=by
 obtain⟨a1,a2⟩:=hA;obtain⟨b1,b2⟩:=hB;have h:=Bd.mul ⟨a1,a2⟩ (⟨b1,b2⟩:Bd (B - 1) (1 / 281474976710656));obtain⟨c1,c2⟩:=h;have e:(A - 1)*(B - 1)=A*B - A - B+1:=by grind
 rw[e]at c1 c2;generalize A*B=C at *;constructor <;> grind
theorem behind {a b c d p q r s u v t m:Rat} (ha:Un a b c d) (hb:Un p q r s) (hu:Bd u m) (hv:Bd v m) (ht:Bd t m) :
  Bd (R0 (a*p - b*q - c*r - d*s) (a*q+b*p+c*s - d*r) (a*r - b*s+c*p+d*q) (a*s+b*r - c*q+d*p) u v t - T0 a b c d (T0 p q r s u v t) (T0 p r s q v t u) (T0 p s q r t u v)) (194*uu*m):=by
 have m0:=hu.nonneg;rw[ad6];have e1:=oM p q r s u v t;have e2:=oM p r s q v t u;have e3:=oM p s q r t u v;have f1:p*p+q*q+r*r+s*s - 1=Nq p q r s - 1:=rfl;have f2:p*p+r*r+s*s+q*q - 1=Nq p q r s - 1:=by unfold Nq; grind
 have f3:p*p+s*s+q*q+r*r - 1=Nq p q r s - 1:=by unfold Nq; grind
 rw[f1]at e1;rw[f2]at e2;rw[f3]at e3;have hT:=Kp hb.n hu hv ht;have e0:=oM a b c d (T0 p q r s u v t) (T0 p r s q v t u) (T0 p s q r t u v);have f0:a*a+b*b+c*c+d*d - 1=Nq a b c d - 1:=rfl;rw[f0]at e0;have hTa:=Kp ha.n hu hv ht;have e4:=oM a b c d u v t;rw[f0]at e4;have k1:=Bd.mul ha hT;have k2:=Bd.mul hb hTa;have k3:=Bd.mul ha hu;have k4:=Bd.mul hb k3;have key:R0 a b c d (R0 p q r s u v t) (R0 p r s q v t u) (R0 p s q r t u v) - T0 a b c d (T0 p q r s u v t) (T0 p r s q v t u) (T0 p s q r t u v)=(Nq p q r s - 1)*T0 a b c d u v t+(Nq p q r s - 1)*((Nq a b c d - 1)*u)+(Nq a b c d - 1)*T0 p q r s u v t:=by
  rw[e0,e4];generalize T0 p q r s u v t=X at *;generalize T0 p r s q v t u=Y at *;generalize T0 p s q r t u v=Z at *;have g1:R0 p q r s u v t=X+(Nq p q r s - 1)*u:=by rw[e1]; grind
  have g2:R0 p r s q v t u=Y+(Nq p q r s - 1)*v:=by rw[e2]; grind
  have g3:R0 p s q r t u v=Z+(Nq p q r s - 1)*t:=by rw[e3]; grind
  rw[g1,g2,g3];generalize Nq p q r s - 1=S;generalize Nq a b c d - 1=W;unfold R0;generalize ra a b c d=A;generalize rb a b c d=B;generalize rc a b c d=C;grind
 rw[key];obtain⟨a1,a2⟩:=k1;obtain⟨b1,b2⟩:=k2;obtain⟨c1,c2⟩:=k4;constructor <;> grind
theorem afg {C N Y:Rat} (h:C*N=Y) (hY:Bd (Y - 1) (81 / 10*uu)) (hN:Bd (N - 1) (1820 / 10*uu)):Bd (C - 1) (1904 / 10*uu):=by
 obtain⟨a1,a2⟩:=hY;obtain⟨b1,b2⟩:=hN;constructor
 ·rcases (Rat.le_total : -(1904 / 10*uu)<=C - 1\/C - 1 <= -(1904 / 10*uu))with k | k
  ·exact k
  ·have:=Rat.mul_nonneg (by grind:0<=(1 - 1904 / 10*uu) - C) (by grind:0<=N);grind
 ·rcases (Rat.le_total:C - 1<=1904 / 10*uu\/1904 / 10*uu<=C - 1)with k | k
  ·exact k
  ·have:=Rat.mul_nonneg (by grind:0<=C - (1+1904 / 10*uu)) (by grind:0<=N);grind
theorem uj {rj C rh rP:Rat} (h1:Bd (rj - C*rh) (165 / 10*uu)) (h2:Bd (rh - rP) (1179 / 10*uu)) (hC:Bd (C - 1) (1904 / 10*uu)) (hP:Bd rP (1001 / 1000)):Bd (rj - rP) (326*uu):=by
 have k1:=Bd.mul hC hP;have k2:=Bd.mul hC h2;obtain⟨a1,a2⟩:=h1;obtain⟨b1,b2⟩:=h2;obtain⟨c1,c2⟩:=k1;obtain⟨d1,d2⟩:=k2;have e1:(C - 1)*rP=C*rP - rP:=by grind
 have e2:(C - 1)*(rh - rP)=C*rh - C*rP - rh+rP:=by grind
 rw[e1]at c1 c2;rw[e2]at d1 d2;generalize C*rP=x at *;generalize C*rh=y at *;constructor <;> grind
theorem abe {Pw Px Py Pz hw hx hy hz jw jx jy jz c u v t m:Rat} (hP:Bd (Nq Pw Px Py Pz - 1) (641 / 10*uu)) (bw:Bd Pw kap) (bx:Bd Px kap) (bY:Bd Py kap) (bz:Bd Pz kap)
  (gw:Bd (hw - Pw) (147 / 10*uu)) (gx:Bd (hx - Px) (147 / 10*uu)) (gy:Bd (hy - Py) (147 / 10*uu)) (gz:Bd (hz - Pz) (147 / 10*uu))
  (hY:Bd (c*c*Nq hw hx hy hz - 1) (81 / 10*uu)) (cw:Bd (c*hw) kap) (cx:Bd (c*hx) kap) (cy:Bd (c*hy) kap) (cz:Bd (c*hz) kap)
  (dw:Bd (jw - c*hw) (205 / 100*uu)) (dx:Bd (jx - c*hx) (205 / 100*uu)) (dy:Bd (jy - c*hy) (205 / 100*uu)) (dz:Bd (jz - c*hz) (205 / 100*uu))
  (hj:Bd (Nq jw jx jy jz - 1) (1 / 562949953421312)) (hu:Bd u m) (hv:Bd v m) (ht:Bd t m):Bd (T0 jw jx jy jz u v t - R0 Pw Px Py Pz u v t) (996*uu*m):=by
 have m0:=hu.nonneg;obtain⟨o1,o2,o3⟩:=rM cw cx cy cz dw dx dy dz;obtain⟨s1,s2,s3⟩:=OW c hw hx hy hz;rw[s1]at o1;rw[s2]at o2;rw[s3]at o3;obtain⟨q1,q2,q3⟩:=rM bw bx bY bz gw gx gy gz;have hN:=QF bw bx bY bz gw gx gy gz;have hN1:Bd (Nq hw hx hy hz - 1) (1820 / 10*uu):=by obtain⟨a1,a2⟩:=hN;obtain⟨b1,b2⟩:=hP;constructor <;> grind
 have hC:=afg rfl hY hN1;obtain⟨p1,p2,p3⟩:=Us Pw Px Py Pz;have hP1:Nq Pw Px Py Pz<=1001 / 1000:=by have:=hP.2; grind
 have r1:=uj (o1.mono (by grind)) (q1.mono (by grind)) hC (p1.mono hP1);have r2:=uj (o2.mono (by grind)) (q2.mono (by grind)) hC (p2.mono hP1);have r3:=uj (o3.mono (by grind)) (q3.mono (by grind)) hC (p3.mono hP1);have k1:=r1.mul hu;have k2:=r2.mul hv;have k3:=r3.mul ht;have k4:=hj.mul hu;have e:=oM jw jx jy jz u v t;have f:jw*jw+jx*jx+jy*jy+jz*jz - 1=Nq jw jx jy jz - 1:=rfl;rw[f]at e;rw[e];unfold R0;clear o1 o2 o3 s1 s2 s3 q1 q2 q3 hN hN1 hC p1 p2 p3 r1 r2 r3 e f hP bw bx bY bz gw gx gy gz hY cw cx cy cz dw dx dy dz;generalize ra jw jx jy jz=a at *;generalize rb jw jx jy jz=b at *;generalize rc jw jx jy jz=d at *;generalize ra Pw Px Py Pz=a' at *;generalize rb Pw Px Py Pz=b' at *;generalize rc Pw Px Py Pz=d' at *;generalize Nq jw jx jy jz - 1=n at *;obtain⟨a1,a2⟩:=k1;obtain⟨b1,b2⟩:=k2;obtain⟨c1,c2⟩:=k3;obtain⟨d1,d2⟩:=k4;constructor <;> grind
theorem QJ {a Y yy:Rat} (h:a*a=yy) (h1:yy<=Y) (h2:Y<=1001 / 1000) (h0:0<=a):a<=kap:=by
 rcases (Rat.le_total:a<=kap\/kap<=a)with h3 | h3
 ·exact h3
 ·have:=Rat.mul_nonneg (by grind:0<=a - kap) (by grind:0<=a+kap);grind
theorem j_ {l g:Fl} (hl:ar l=true) (hg:ar g=true) (h0:0<rv g) {Y:Rat} (hY:Y<=1001 / 1000) (hle:rv l / rv g*(rv l / rv g)<=Y):Bd (rv (fdiv l g) - rv l / rv g) (205 / 100*uu)/\Bd (rv l / rv g) kap:=by obtain⟨a,a0,a1,a2⟩:=Bq (rv l / rv g);have a4:=QJ a2 hle hY a0;have hB:=jg;have he:=lS;have he0:=dD;obtain⟨d1,d2,d3⟩:=ne hl hg (by intro h; rw[h]at h0; exact absurd h0 (by decide)) (a1.mono (by grind));exact⟨(d3 a a1).mono (by grind),a1.mono a4⟩
theorem Ip {l0 l1 l2 l3:Fl} (f0:ar l0=true) (f1:ar l1=true) (f2:ar l2=true) (f3:ar l3=true) (b0:Bd (rv l0) 3) (b1:Bd (rv l1) 3) (b2:Bd (rv l2) 3) (b3:Bd (rv l3) 3)
  (h1:1<=rv l0*rv l0+rv l1*rv l1+rv l2*rv l2+rv l3*rv l3) {g:Fl} (hg:g=dm (ai (ai (ai (ai (some 0) (af l0 l0)) (af l1 l1)) (af l2 l2)) (af l3 l3))) :
  0<rv g/\(Bd (rv (fdiv l0 g) - rv l0 / rv g) (205 / 100*uu)/\Bd (rv l0 / rv g) kap)/\(Bd (rv (fdiv l1 g) - rv l1 / rv g) (205 / 100*uu)/\Bd (rv l1 / rv g) kap)/\(Bd (rv (fdiv l2 g) - rv l2 / rv g) (205 / 100*uu)/\Bd (rv l2 / rv g) kap)/\(Bd (rv (fdiv l3 g) - rv l3 / rv g) (205 / 100*uu)/\Bd (rv l3 / rv g) kap) /\
  Bd (Nq (rv l0 / rv g) (rv l1 / rv g) (rv l2 / rv g) (rv l3 / rv g) - 1) (81 / 10*uu):=by
 obtain⟨n1,n2⟩:=AN f0 f1 f2 f3 b0 b1 b2 b3;generalize ai (ai (ai (ai (some 0) (af l0 l0)) (af l1 l1)) (af l2 l2)) (af l3 l3)=n at *;have hn0:0<rv n:=by obtain⟨a,b⟩:=n2;generalize rv l0*rv l0+rv l1*rv l1+rv l2*rv l2+rv l3*rv l3=s at *;grind
 obtain⟨s1,s2,s3⟩:=uL n1 hn0;rw[<- hg]at s1 s2 s3;have hr0:rv g ≠ 0:=by intro h; rw[h]at s2; exact absurd s2 (by decide)
 have hrr:=Rat.mul_pos s2 s2;have e0:=eW hr0 (rfl:rv l0 / rv g=rv l0 / rv g);have e1:=eW hr0 (rfl:rv l1 / rv g=rv l1 / rv g);have e2:=eW hr0 (rfl:rv l2 / rv g=rv l2 / rv g);have e3:=eW hr0 (rfl:rv l3 / rv g=rv l3 / rv g);have z0:=ak (rv l0 / rv g);have z1:=ak (rv l1 / rv g);have z2:=ak (rv l2 / rv g);have z3:=ak (rv l3 / rv g);have eY:(rv l0 / rv g*(rv l0 / rv g)+rv l1 / rv g*(rv l1 / rv g)+rv l2 / rv g*(rv l2 / rv g)+rv l3 / rv g*(rv l3 / rv g))*(rv g*rv g)=rv l0*rv l0+rv l1*rv l1+rv l2*rv l2+rv l3*rv l3:=by rw[<- e0,<- e1,<- e2,<- e3,Rat.add_mul,Rat.add_mul,Rat.add_mul]
 obtain⟨y1,y2⟩:=adl h1 n2 s3 hrr eY;have hNq:Nq (rv l0 / rv g) (rv l1 / rv g) (rv l2 / rv g) (rv l3 / rv g)=rv l0 / rv g*(rv l0 / rv g)+rv l1 / rv g*(rv l1 / rv g)+rv l2 / rv g*(rv l2 / rv g)+rv l3 / rv g*(rv l3 / rv g):=rfl;rw[hNq];generalize hYY:rv l0 / rv g*(rv l0 / rv g)+rv l1 / rv g*(rv l1 / rv g)+rv l2 / rv g*(rv l2 / rv g)+rv l3 / rv g*(rv l3 / rv g)=Y at *;have hY2:Y<=1001 / 1000:=by obtain⟨a,b⟩:=y1; grind
 clear e0 e1 e2 e3;exact⟨s2,j_ f0 s1 s2 hY2 (by generalize rv l0 / rv g*(rv l0 / rv g)=x at *; grind),j_ f1 s1 s2 hY2 (by generalize rv l1 / rv g*(rv l1 / rv g)=x at *; grind),
  j_ f2 s1 s2 hY2 (by generalize rv l2 / rv g*(rv l2 / rv g)=x at *; grind),j_ f3 s1 s2 hY2 (by generalize rv l3 / rv g*(rv l3 / rv g)=x at *; grind),y1⟩
@[irreducible] def K2:Nat:=2000
theorem zF:K2=2000:=by unfold K2; rfl
def pz (k:Int):Rat:=2 ^ (k+(K2:Int)).toNat*Ue K2
theorem xR (k:Int):0<pz k:=Rat.mul_pos (mv _) (bH _)
theorem yc {x:Fl} (hx:ar x=true) {k:Int} (h1 : -2000<=k) (hb:Bd (rv x*pz k) Bg):∀ A,Bd (rv x*pz k) A->Bd (rv (aF x k) - rv x*pz k) (uu*A+eta):=by
 obtain⟨b,s,m,i,rfl,h⟩:=aG hx;have gi:=bg h;intro A hA;rw[e_ h];have hK:=zF;have hS:=gd;have ex:((signed s m (i+k+((Sp+K2:Nat):Int)).toNat:Int):Rat)*Ue (Sp+K2)=rv (some b)*pz k:=by
  rw[cA h,aJ,aJ];unfold pz;have e:(i+k+((Sp+K2:Nat):Int)).toNat=(i+1074).toNat+(k+(K2:Int)).toNat:=by omega
  rw[e,ap3,cq,Rat.natCast_mul,Rat.natCast_mul,Rat.natCast_mul,Rat.natCast_pow _ (k+(K2:Int)).toNat];generalize ((2 ^ (i+1074).toNat:Nat):Rat)=a;have e2:((2:Nat):Rat) ^ (k+(K2:Int)).toNat=(2:Rat) ^ (k+(K2:Int)).toNat:=rfl;rw[e2];generalize (2:Rat) ^ (k+(K2:Int)).toNat=c;generalize Ue Sp=u;generalize Ue K2=v;generalize (m:Rat)=n;cases s
  ·rw[if_neg (by decide),if_neg (by decide)]; grind
  ·rw[if_pos rfl,if_pos rfl]; grind
 by_cases hm:m=0
 ·have e1:rv (some b)*pz k=0:=by rw[<- ex,hm,bB]; exact Rat.zero_mul _
  rw[hm,cv,(gM s).2,e1];refine qo ?_;have:=hA.nonneg;have:=dD;grind
 ·have hg:=jK hm (i:=i+k) (E:=Sp+K2) (by omega) (by rw[ex]; exact hb);obtain⟨n1,n2⟩:=j7 s hm (i:=i+k) (by omega) (E:=Sp+K2) (by omega) (by omega);have h3:=n2 A (by rw[ex]; exact hA);rw[ex]at h3;have h4:(if -1074<=i+k then(0:Rat)else eta)<=eta:=by have:=dD;split <;> grind
  generalize (if -1074<=i+k then(0:Rat)else eta)=w at h3 h4;obtain⟨a1,a2⟩:=h3;exact⟨by grind,by grind⟩
theorem Tm.bnd {a b c M:Rat} (ha:Tm a) (hb:Tm b) (hc:Tm c) (hM0:0<=M) (h:M=a\/M = -a\/M=b\/M = -b\/M=c\/M = -c):M=0\/(tS<=M/\M<=tG):=by
 have key:∀ x:Rat,Tm x->(M=x\/M = -x)->M=0\/(tS<=M/\M<=tG):=by
  intro x hx hMx;rcases hx with h | h | h <;> rcases hMx with k | k
  ·left; rw[k,h]
  ·left; rw[k,h]; rfl
  ·right; rw[k]; exact h
  ·exact absurd h.1 (Ua mu hM0 k)
  ·exact absurd h.1 (KP mu hM0 k)
  ·right; rw[k]; exact h
 rcases h with h | h | h | h | h | h
 ·exact key a ha (.inl h)
 ·exact key a ha (.inr h)
 ·exact key b hb (.inl h)
 ·exact key b hb (.inr h)
 ·exact key c hc (.inl h)
 ·exact key c hc (.inr h)
theorem v9 {a R N:Rat} (hR:0<=R) (h:a*a+R=N) (hN:Bd (N - 1) (1 / 1000)):Bd a kap:=by obtain⟨h1,h2⟩:=hN;obtain⟨y,y0,y1,y2⟩:=Bq a;have:=QJ y2 (by grind:a*a<=N) (by grind) y0;exact y1.mono this
theorem Kq {w x y z:Rat} (h:Bd (Nq w x y z - 1) (1 / 1000)):Bd w kap/\Bd x kap/\Bd y kap/\Bd z kap:=by have s0:=ak w;have s1:=ak x;have s2:=ak y;have s3:=ak z;refine⟨v9 (R:=x*x+y*y+z*z) (by grind) ?_ h,v9 (R:=w*w+y*y+z*z) (by grind) ?_ h,v9 (R:=w*w+x*x+z*z) (by grind) ?_ h,v9 (R:=w*w+x*x+y*y) (by grind) ?_ h⟩ <;> (unfold Nq; grind)
theorem E4 {a b c d p q r s:Rat} (ha:Un a b c d) (hb:Un p q r s) {hw hx hy hz jw jx jy jz cc u v t m:Rat}
  (gw:Bd (hw - (a*p - b*q - c*r - d*s)) (147 / 10*uu)) (gx:Bd (hx - (a*q+b*p+c*s - d*r)) (147 / 10*uu)) (gy:Bd (hy - (a*r - b*s+c*p+d*q)) (147 / 10*uu)) (gz:Bd (hz - (a*s+b*r - c*q+d*p)) (147 / 10*uu))
  (hY:Bd (cc*cc*Nq hw hx hy hz - 1) (81 / 10*uu)) (cw:Bd (cc*hw) kap) (cx:Bd (cc*hx) kap) (cy:Bd (cc*hy) kap) (cz:Bd (cc*hz) kap)
  (dw:Bd (jw - cc*hw) (205 / 100*uu)) (dx:Bd (jx - cc*hx) (205 / 100*uu)) (dy:Bd (jy - cc*hy) (205 / 100*uu)) (dz:Bd (jz - cc*hz) (205 / 100*uu))
  (hj:Bd (Nq jw jx jy jz - 1) (1 / 562949953421312)) (hu:Bd u m) (hv:Bd v m) (ht:Bd t m) :
  Bd (T0 jw jx jy jz u v t - T0 a b c d (T0 p q r s u v t) (T0 p r s q v t u) (T0 p s q r t u v)) (1190*uu*m):=by
 have hP:Bd (Nq (a*p - b*q - c*r - d*s) (a*q+b*p+c*s - d*r) (a*r - b*s+c*p+d*q) (a*s+b*r - c*q+d*p) - 1) (641 / 10*uu):=by rw[ad5]; exact N2 ha hb
 obtain⟨b0,b1,b2,b3⟩:=Kq (hP.mono (by grind));have k1:=abe hP b0 b1 b2 b3 gw gx gy gz hY cw cx cy cz dw dx dy dz hj hu hv ht;have k2:=behind ha hb hu hv ht;obtain⟨a1,a2⟩:=k1;obtain⟨c1,c2⟩:=k2;constructor <;> grind
theorem oy {a b c d X Y Z x y z e:Rat} (ha:Un a b c d) (hx:Bd (x - X) e) (hy:Bd (y - Y) e) (hz:Bd (z - Z) e):Bd (T0 a b c d x y z - T0 a b c d X Y Z) (301 / 100*e):=by
 have h:=Kp ha.n hx hy hz;have l:=ad7 a b c d X Y Z (x - X) (y - Y) (z - Z);have e1:X+(x - X)=x:=by grind
 have e2:Y+(y - Y)=y:=by grind
 have e3:Z+(z - Z)=z:=by grind
 rw[e1,e2,e3]at l;rw[l];have e4:T0 a b c d X Y Z+T0 a b c d (x - X) (y - Y) (z - Z) - T0 a b c d X Y Z=T0 a b c d (x - X) (y - Y) (z - Z):=by grind
 rw[e4]; exact h
theorem Un.neg {a b c d:Rat} (h:Un a b c d):Un a (-b) (-c) (-d):=by
 unfold Un Nq at *;have:a*a + -b * -b + -c * -c + -d * -d - 1=a*a+b*b+c*c+d*d - 1:=by grind
 rw[this]; exact h
theorem Q2 {a b c d u v t m:Rat} (ha:Un a b c d) (hu:Bd u m) (hv:Bd v m) (ht:Bd t m):Bd (T0 a (-b) (-c) (-d) (T0 a b c d u v t) (T0 a c d b v t u) (T0 a d b c t u v) - u) (260*uu*m):=by
 have m0:=hu.nonneg;have k:=behind ha.neg ha hu hv ht;have e:R0 (a*a - -b*b - -c*c - -d*d) (a*b + -b*a + -c*d - -d*c) (a*c - -b*d + -c*a + -d*b) (a*d + -b*c - -c*b + -d*a) u v t=Nq a b c d*Nq a b c d*u:=by
  unfold R0 ra rb rc Nq;have z1:a*b + -b*a + -c*d - -d*c=0:=by grind
  have z2:a*c - -b*d + -c*a + -d*b=0:=by grind
  have z3:a*d + -b*c - -c*b + -d*a=0:=by grind
  rw[z1,z2,z3];have w1:a*a - -b*b - -c*c - -d*d=a*a+b*b+c*c+d*d:=by grind
  rw[w1];generalize a*a+b*b+c*c+d*d=n;grind
 rw[e]at k;have h2:=(N2 ha ha).mul hu;generalize T0 a (-b) (-c) (-d) (T0 a b c d u v t) (T0 a c d b v t u) (T0 a d b c t u v)=X at *;have e5:(Nq a b c d*Nq a b c d - 1)*u=Nq a b c d*Nq a b c d*u - u:=by grind
 rw[e5]at h2;generalize Nq a b c d*Nq a b c d*u=Y at *;obtain⟨a1,a2⟩:=k;obtain⟨b1,b2⟩:=h2;constructor <;> grind
theorem Es (w x y z p q r:Rat):T0 w x y z p q r=(1 - 2*(y*y+z*z))*p+2*(x*y - w*z)*q+2*(x*z+w*y)*r:=by unfold T0; grind
theorem ak1 {l x z A e:Rat} (hz:0<z) (hz1:99 / 100<=z) (h:Bd (l - x*z) (uu*(A*z)+e)) (he:0<=e):Bd (l / z - x) (uu*A+102 / 100*e):=by
 have hz0:z ≠ 0:=by grind
 have e1:(l / z - x)*z=l - x*z:=by grind
 rw[<- e1]at h;generalize l / z - x=t at *;obtain⟨a1,a2⟩:=h;have k0:=Rat.mul_nonneg (by grind:0<=z - 99 / 100) he;constructor
 ·rcases (Rat.le_total : -(uu*A+102 / 100*e)<=t\/t <= -(uu*A+102 / 100*e))with k | k
  ·exact k
  ·have:=Rat.mul_nonneg (by grind:0 <= -(uu*A+102 / 100*e) - t) (by grind:0<=z);by_cases h0:t = -(uu*A+102 / 100*e)
   ·rw[h0]; exact Rat.le_refl
   ·have:=Rat.mul_pos (by grind:0 < -(uu*A+102 / 100*e) - t) hz;grind
 ·rcases (Rat.le_total:t<=uu*A+102 / 100*e\/uu*A+102 / 100*e<=t)with k | k
  ·exact k
  ·by_cases h0:t=uu*A+102 / 100*e
   ·rw[h0]; exact Rat.le_refl
   ·have:=Rat.mul_pos (by grind:0<t - (uu*A+102 / 100*e)) hz;grind
theorem alF {w x y z:Rat} (hN:Bd (Nq w x y z - 1) (1 / 1000)) (hx:x*x<=w*w+1 / 1000) (hy:y*y<=w*w+1 / 1000) (hz:z*z<=w*w+1 / 1000):6 / 25<=w*w:=by obtain⟨h1,h2⟩:=hN;unfold Nq at *;grind
theorem LA {x:Fl} (hx:ar x=true) {k:Int} (h1 : -2000<=k) (hb:Bd (rv x*pz k) Bg):ar (aF x k)=true:=by
 obtain⟨b,s,m,i,rfl,h⟩:=aG hx;have gi:=bg h;rw[e_ h];have hK:=zF;have hS:=gd;by_cases hm:m=0
 ·rw[hm,cv]; exact(gM s).1
 ·have ex:((signed s m (i+k+((Sp+K2:Nat):Int)).toNat:Int):Rat)*Ue (Sp+K2)=rv (some b)*pz k:=by
   rw[cA h,aJ,aJ];unfold pz;have e:(i+k+((Sp+K2:Nat):Int)).toNat=(i+1074).toNat+(k+(K2:Int)).toNat:=by omega
   rw[e,ap3,cq,Rat.natCast_mul,Rat.natCast_mul,Rat.natCast_mul,Rat.natCast_pow _ (k+(K2:Int)).toNat];generalize ((2 ^ (i+1074).toNat:Nat):Rat)=a;have e2:((2:Nat):Rat) ^ (k+(K2:Int)).toNat=(2:Rat) ^ (k+(K2:Int)).toNat:=rfl;rw[e2];generalize (2:Rat) ^ (k+(K2:Int)).toNat=c;generalize Ue Sp=u;generalize Ue K2=v;generalize (m:Rat)=n;cases s
   ·rw[if_neg (by decide),if_neg (by decide)]; grind
   ·rw[if_pos rfl,if_pos rfl]; grind
  have hg:=jK hm (i:=i+k) (E:=Sp+K2) (by omega) (by rw[ex]; exact hb);exact(j7 s hm (i:=i+k) (by omega) (E:=Sp+K2) (by omega) (by omega)).1
theorem Gn {x:Fl} (hx:ar x=true) (h0:rv x=0) (k:Int):ar (aF x k)=true/\rv (aF x k)=0:=by
 obtain⟨b,s,m,i,rfl,h⟩:=aG hx;rw[e_ h];have hm:m=0:=by
  rcases Nat.eq_zero_or_pos m with h1 | h1
  ·exact h1
  ·rw[cA h]at h0;exact absurd h0 (UT s (by omega))
 rw[hm,cv];exact gM s
theorem agQ {a b:Int} (h:a+b=0) (ha : -2000<=a) (hb : -2000<=b):pz a*pz b=1:=by
 have hK:=zF;unfold pz;have e:(a+(K2:Int)).toNat+(b+(K2:Int)).toNat=K2+K2:=by omega
 have h1:=gK (a+(K2:Int)).toNat (b+(K2:Int)).toNat;rw[e,gK]at h1;have h2:=bD K2;generalize (2:Rat) ^ (a+(K2:Int)).toNat=p at *;generalize (2:Rat) ^ (b+(K2:Int)).toNat=q at *;generalize (2:Rat) ^ K2=r at *;generalize Ue K2=u at *;have:p*u*(q*u)=(p*q)*(u*u):=by grind
 rw[this,<- h1];have e2:r*r*(u*u)=(r*u)*(r*u):=by grind
 rw[e2,h2,Rat.one_mul]
theorem OK {l0 l1 l2:Fl} (f0:ar l0=true) (f1:ar l1=true) (f2:ar l2=true) (b0:Bd (rv l0) 3) (b1:Bd (rv l1) 3) (b2:Bd (rv l2) 3) :
  ar (ai (ai (ai (some 0) (af l0 l0)) (af l1 l1)) (af l2 l2))=true /\
  Bd (rv (ai (ai (ai (some 0) (af l0 l0)) (af l1 l1)) (af l2 l2)) - (rv l0*rv l0+rv l1*rv l1+rv l2*rv l2)) (5*uu*(rv l0*rv l0+rv l1*rv l1+rv l2*rv l2+1 / 10000)):=by
 obtain⟨g0,h0⟩:=iu f0 b0;obtain⟨g1,h1⟩:=iu f1 b1;obtain⟨g2,h2⟩:=iu f2 b2;have q0:=ak (rv l0);have q1:=ak (rv l1);have q2:=ak (rv l2);have r0:=b0.sq;have r1:=b1.sq;have r2:=b2.sq;generalize af l0 l0=P0 at *;generalize af l1 l1=P1 at *;generalize af l2 l2=P2 at *;generalize rv l0*rv l0=L0 at *;generalize rv l1*rv l1=L1 at *;generalize rv l2*rv l2=L2 at *;have hB:=jg;have z:=jv;have s0:Bd (rv (some 0) - 0) (1*uu*(0+1 / 10000)):=by rw[z.2]; unfold Bd; grind
 obtain⟨m0,n0⟩:=eR z.1 g0 (by rw[z.2]; obtain⟨a,b⟩:=h0; exact⟨by grind,by grind⟩);have s1:=lL s0 h0 Rat.le_refl q0 (by grind) (by grind) (by grind) (by grind) (by grind) n0;rw[Rat.zero_add]at s1;obtain⟨m1,n1⟩:=eR m0 g1 (by obtain⟨a,b⟩:=h1; obtain⟨c,d⟩:=s1; exact⟨by grind,by grind⟩);have s2:=lL s1 h1 q0 q1 (by grind) (by grind) (by grind) (by grind) (by grind) n1;obtain⟨m2,n2⟩:=eR m1 g2 (by obtain⟨a,b⟩:=h2; obtain⟨c,d⟩:=s2; exact⟨by grind,by grind⟩);have s3:=lL s2 h2 (by grind) q2 (by grind) (by grind) (by grind) (by grind) (by grind) n2;exact⟨m2,s3.mono (by grind)⟩
def tau:Rat:=tS*tS / 1000
theorem abY:0<tau:=by have h:=mu;have:=Rat.mul_pos h h;unfold tau; grind
theorem KA:eta*1000000<=uu*tau:=by
 unfold eta tau tS;rw[gd];have h1:Ue (1074+1)<=Ue (400+(400+(100+53))):=ab_ (by decide);have h2:=bD 100;have h3:=bD 53;have h4:(2:Rat) ^ 100=1267650600228229401496703205376:=by decide +kernel
 have h5:(2:Rat) ^ 53=9007199254740992:=by decide +kernel
 rw[cq 400,cq 400 (100+53),cq 100 53]at h1;rw[h4]at h2;rw[h5]at h3;have h6:=bH 400;have h7:=Rat.mul_pos h6 h6;generalize Ue (1074+1)=e at *;generalize Ue 400=t at *;generalize Ue 100=x at *;generalize Ue 53=y at *;have hy:y=uu:=by grind
 have hx:x=1 / 1267650600228229401496703205376:=by grind
 have e1:t*(t*(x*y))=(t*t)*(x*y):=by grind
 rw[e1]at h1;generalize t*t=q at *;rw[hx,hy]at h1;grind
def Ra (x:Fl) (a α ε:Rat):Prop:=ar x=true/\0<=α/\(a=α\/a = -α)/\Bd (rv x - a) (ε*α)
theorem ad_ {a α:Rat} (h:a=α\/a = -α) (h0:0<=α):Bd a α:=by rcases h with h | h <;> (rw[h]; exact⟨by grind,by grind⟩)
theorem Ra.mono {x:Fl} {a α ε δ:Rat} (h:Ra x a α ε) (g:ε<=δ):Ra x a α δ:=by obtain⟨f,h0,h1,h3⟩:=h;refine⟨f,h0,h1,h3.mono ?_⟩;have:=Rat.mul_nonneg (by grind:0<=δ - ε) h0;grind
theorem Ra.bd {x:Fl} {a α ε:Rat} (h:Ra x a α ε) (he:ε<=1 / 1000):Bd (rv x) (1001 / 1000*α):=by obtain⟨f,h0,h1,h3⟩:=h;have hb:=ad_ h1 h0;have:=Rat.mul_nonneg (by grind:0<=1 / 1000 - ε) h0;obtain⟨a1,a2⟩:=h3;obtain⟨b1,b2⟩:=hb;constructor <;> grind
theorem ahY {ρ α β A B q e:Rat} (hβ:0<β) (h1:Bd (A - α) (e*α)) (h2:Bd (B - β) (e*β)) (he:0<=e) (he2:e<=1 / 1000) (hα:0<=α) (hρ:ρ*β=α) (hq:q*B=A):Bd (q - ρ) (201 / 100*e*ρ)/\0<=q/\q<=2*ρ:=by
 obtain⟨a1,a2⟩:=h1;obtain⟨b1,b2⟩:=h2;have hρ0:0<=ρ:=by
  rcases (Rat.le_total:0<=ρ\/ρ<=0)with k | k
  ·exact k
  ·by_cases h0:ρ=0
   ·rw[h0]; exact Rat.le_refl
   ·have:=Rat.mul_pos (by grind:0 < -ρ) hβ;grind
 subst hρ;have p1:=Rat.mul_nonneg he (Rat.le_of_lt hβ);have p2:=Rat.mul_nonneg (by grind:0<=1 / 1000 - e) (Rat.le_of_lt hβ);have hB:0<B:=by grind
 have p3:=Rat.mul_nonneg he hρ0;have hpβ:=Rat.mul_nonneg p3 (Rat.le_of_lt hβ);have p4:=Rat.mul_nonneg (by grind:0<=1 / 1000 - e) hρ0;have p4β:=Rat.mul_nonneg p4 (Rat.le_of_lt hβ);have p5:=Rat.mul_nonneg p3 p1;have p6:=Rat.mul_nonneg p4 p1;have hlow:∀ t:Rat,0<=t*B->0<=t:=by
  intro t ht;rcases (Rat.le_total:0<=t\/t<=0)with k | k
  ·exact k
  ·by_cases h0:t=0
   ·rw[h0]; exact Rat.le_refl
   ·have:=Rat.mul_pos (by grind:0 < -t) hB;grind
 have r1:=Rat.mul_nonneg hρ0 (by grind:0<=B - (β - e*β));have r2:=Rat.mul_nonneg hρ0 (by grind:0<=(β+e*β) - B);have s1:=Rat.mul_nonneg p3 (by grind:0<=B - (β - e*β));have k1:0<=q - ρ+201 / 100*e*ρ:=hlow _ (by grind);have k2:0<=201 / 100*e*ρ - (q - ρ):=hlow _ (by grind);refine⟨⟨by grind,by grind⟩,?_,?_⟩ <;> grind
theorem KB {w q ρ t e1:Rat} (h1:Bd (w - q) (2*uu*(101 / 100*ρ)+t)) (h2:Bd (q - ρ) e1) (ht:t*1000000<=uu*ρ) (hρ:0<=ρ):Bd (w - ρ) (e1+203 / 100*uu*ρ):=by obtain⟨a1,a2⟩:=h1;obtain⟨b1,b2⟩:=h2;constructor <;> grind
theorem Ra.div {x y:Fl} {a α b e:Rat} (hx:Ra x a α e) (fy:ar y=true) (hb:0<b) (hy:Bd (rv y - b) (e*b)) (he:0<=e) (he2:e<=1 / 1000) (hr:α=0\/(tau<=α / b/\α / b<=Bg / 8)):Ra (fdiv x y) (a / b) (α / b) (201 / 100*e+203 / 100*uu):=by
 obtain⟨fx,h0,h1,h3⟩:=hx;have hb0:b ≠ 0:=by grind
 have hy0:0<rv y:=by have:=Rat.mul_nonneg (by grind:0<=1 / 1000 - e) (Rat.le_of_lt hb);have:=hy.1;grind
 have hyn:rv y ≠ 0:=by grind
 rcases hr with hα | ⟨r1,r2⟩
 ·have ha:a=0:=by rw[hα]at h1; rcases h1 with h | h <;> rw[h]; rfl
  have hx0:rv x=0:=by rw[hα,ha,Rat.mul_zero]at h3; obtain⟨c1,c2⟩:=h3; grind
  obtain⟨d1,d2,d3⟩:=ne fx fy hyn (by rw[hx0,Rat.div_def,Rat.zero_mul]; have:=jg; unfold Bd; grind);have e0:α / b=0:=by rw[hα,Rat.div_def,Rat.zero_mul]
  have e1:a / b=0:=by rw[ha,Rat.div_def,Rat.zero_mul]
  rw[e0,e1];refine⟨d1,Rat.le_refl,.inl rfl,?_⟩;rw[d2 hx0]; unfold Bd; grind
 ·have hρ:α / b*b=α:=by grind
  have tp:=abY;have hρ0:0<α / b:=by grind
  have et:=KA;have key:∀ A:Rat,Bd (A - α) (e*α)->Bd (A / rv y - α / b) (201 / 100*e*(α / b))/\0<=A / rv y/\A / rv y<=2*(α / b):=by intro A hA;exact ahY hb hA hy he he2 h0 hρ (by grind)
  have hb1:201 / 100*e*(α / b)<=1 / 100*(α / b):=by have:=Rat.mul_nonneg (by grind:0<=1 / 1000 - e) (Rat.le_of_lt hρ0);generalize α / b=ρ at *;grind
  refine(?_:Ra _ _ _ _);rcases h1 with h | h
  ·rw[h]at h3;obtain⟨k1,k2,k3⟩:=key (rv x) h3;have hq:Bd (rv x / rv y) (101 / 100*(α / b)):=by obtain⟨c1,c2⟩:=k1;generalize α / b=ρ at *;generalize rv x / rv y=q at *;exact⟨by grind,by grind⟩
   obtain⟨d1,-,d3⟩:=ne fx fy hyn (hq.mono (by generalize α / b=ρ at *; grind));refine⟨d1,Rat.le_of_lt hρ0,.inl (by rw[h]),?_⟩;rw[h];have:=KB (d3 _ hq) k1 (by generalize α / b=ρ at *; grind) (Rat.le_of_lt hρ0);exact this.mono (by generalize α / b=ρ at *; grind)
  ·rw[h]at h3;have h4:Bd (-(rv x) - α) (e*α):=by obtain⟨c1,c2⟩:=h3; exact⟨by grind,by grind⟩
   obtain⟨k1,k2,k3⟩:=key (-(rv x)) h4;have en : -(rv x) / rv y = -(rv x / rv y):=by rw[Rat.div_def,Rat.div_def,Rat.neg_mul]
   rw[en]at k1 k2 k3;have hq:Bd (rv x / rv y) (101 / 100*(α / b)):=by obtain⟨c1,c2⟩:=k1;generalize α / b=ρ at *;generalize rv x / rv y=q at *;exact⟨by grind,by grind⟩
   obtain⟨d1,-,d3⟩:=ne fx fy hyn (hq.mono (by generalize α / b=ρ at *; grind));have e5:a / b = -(α / b):=by rw[h,Rat.div_def,Rat.div_def,Rat.neg_mul]
   rw[e5];refine⟨d1,Rat.le_of_lt hρ0,.inr rfl,?_⟩;have h6:Bd (-(rv (fdiv x y)) - -(rv x / rv y)) (2*uu*(101 / 100*(α / b))+eta):=by obtain⟨c1,c2⟩:=d3 _ hq;exact⟨by grind,by grind⟩
   have:=KB h6 k1 (by generalize α / b=ρ at *; grind) (Rat.le_of_lt hρ0);have h7:=this.mono (B:=(201 / 100*e+203 / 100*uu)*(α / b)) (by generalize α / b=ρ at *; grind);obtain⟨c1,c2⟩:=h7;exact⟨by grind,by grind⟩
theorem Zr {a α z:Rat} (h:a=α\/a = -α):a*z=α*z\/a*z = -(α*z):=by
 rcases h with h | h
 ·left; rw[h]
 ·right; rw[h,Rat.neg_mul]
theorem abO {w x a α z e t:Rat} (h1:Bd (w - x*z) (uu*(1001 / 1000*α*z)+t)) (h3:Bd (x - a) (e*α)) (hz:0<=z) (ht:t*1000000<=uu*(α*z)) (hα:0<=α):Bd (w - a*z) ((e+102 / 100*uu)*(α*z)):=by obtain⟨a1,a2⟩:=h1;obtain⟨b1,b2⟩:=h3;have k1:=Rat.mul_nonneg (by grind:0<=x - a+e*α) hz;have k2:=Rat.mul_nonneg (by grind:0<=e*α - (x - a)) hz;have k3:=Rat.mul_nonneg hα hz;constructor <;> grind
theorem Ra.scl {x:Fl} {a α e:Rat} (hx:Ra x a α e) (he2:e<=1 / 1000) {k:Int} (hk : -2000<=k) (hr:α=0\/(tau<=α*pz k/\α*pz k<=Bg / 2)):Ra (aF x k) (a*pz k) (α*pz k) (e+102 / 100*uu):=by
 have hbd:=hx.bd he2;obtain⟨fx,h0,h1,h3⟩:=hx;have hz:=xR k;rcases hr with hα | ⟨r1,r2⟩
 ·have ha:a=0:=by rw[hα]at h1; rcases h1 with h | h <;> rw[h]; rfl
  have hx0:rv x=0:=by rw[hα,ha,Rat.mul_zero]at h3; obtain⟨c1,c2⟩:=h3; grind
  obtain⟨d1,d2⟩:=Gn fx hx0 k;rw[hα,ha,Rat.zero_mul];refine⟨d1,Rat.le_refl,.inl rfl,?_⟩;rw[d2]; unfold Bd; grind
 ·have hzb:Bd (pz k) (pz k):=by unfold Bd; exact⟨by grind,Rat.le_refl⟩
  have hb:=hbd.mul hzb;have hk0:=Rat.mul_nonneg h0 (Rat.le_of_lt hz);have hbig:1001 / 1000*α*pz k<=Bg:=by
   have e1:1001 / 1000*α*pz k=1001 / 1000*(α*pz k):=by grind
   rw[e1];have:=jg;generalize α*pz k=q at *;grind
  have et:=KA;refine⟨LA fx hk (hb.mono hbig),hk0,Zr h1,?_⟩;exact abO (yc fx hk (hb.mono hbig) _ hb) h3 (Rat.le_of_lt hz) (by generalize α*pz k=q at *; grind) h0
end Go.Proofs.YtadejnnigmcpdaaGreatDoor
end
