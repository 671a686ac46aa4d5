/- Laws in plain Lean. Conditions: none. -/
import Derived.Test.YtdinakfmablagaaGreatDoorFlA
import Derived.Test.YtdinakfmablagaaGreatDoorK1
set_option linter.unusedVariables false
section
namespace Go.Proofs.YtdinakfmablagaaGreatDoor
open Go Go.Mach Ieee
def RO (r:Nat):Nat:=if r<4503599627370496 then r else(4503599627370496+r%4503599627370496)*2 ^ (r / 4503599627370496 - 1)
theorem LZ (s:Bool) {r:Nat} (h:r<9218868437227405312):∃ m i,Ieee.double.read (Ieee.double.word s r)=.number s m i /\ -1074<=i/\m*2 ^ (i+1074).toNat=RO r:=by
 have hw:Ieee.double.word s r%9223372036854775808=r:=by unfold Format.word; rw[cw]; cases s <;> simp <;> omega
 have hs:(Ieee.double.word s r / 9223372036854775808%2==1)=s:=by
  unfold Format.word; rw[cw];cases s
  ·simp; omega
  ·have:(9223372036854775808+r) / 9223372036854775808=1:=by omega
   simp[this]
 unfold Format.read RO;simp only[cw,kf,eI,kD,hw,hs];split
 ·refine⟨_,_,rfl,by omega,?_⟩;show r*2 ^ 0=r;omega
 ·refine⟨_,_,rfl,by omega,?_⟩;congr 2;omega
theorem Mi (p kept:Nat) (h1:kept<=9007199254740992) (h2:p=0\/4503599627370496<=kept):RO (p*4503599627370496+kept)=kept*2 ^ p:=by
 unfold RO;by_cases hp:p=0
 ·subst hp;rw[agE,afL,ag7,ag9];split
  ·rfl
  ·by_cases hk:kept=9007199254740992
   ·subst hk; decide
   ·have e1:kept / 4503599627370496=1:=by omega
    rw[e1,afT,ag7]; omega
 ·have hk:=h2.resolve_left hp;rw[if_neg (by omega)];by_cases he:kept=9007199254740992
  ·subst he;have e1:(p*4503599627370496+9007199254740992)%4503599627370496=0:=by omega
   have e2:(p*4503599627370496+9007199254740992) / 4503599627370496 - 1=p+1:=by omega
   generalize (p*4503599627370496+9007199254740992)%4503599627370496=a at e1 ⊢;generalize (p*4503599627370496+9007199254740992) / 4503599627370496 - 1=b at e2 ⊢;have e3:2 ^ b=2 ^ p*2:=by rw[e2,afv]
   subst e1;rw[e3];generalize 2 ^ p=y;omega
  ·have e1:(p*4503599627370496+kept)%4503599627370496=kept - 4503599627370496:=by omega
   have e2:(p*4503599627370496+kept) / 4503599627370496 - 1=p:=by omega
   rw[e2];exact aio (λz=>z*2 ^ p) (by rw[e1]; omega)
theorem N2 (s:Bool) (n d:Nat) (hd:1<=d):2*(Toward.even.cut s n d*2 ^ d)<=2*n+2 ^ d/\2*n<=2*(Toward.even.cut s n d*2 ^ d)+2 ^ d:=by
 unfold Toward.cut;dsimp only;have h2:n<2 ^ (n.log2+1):=Nat.lt_log2_self;have hg:∀ g low rest:Nat,0<g->n=g*low+rest->rest<g -> ∀ b:Bool,(b=true->g<=2*rest)->(b=false->2*rest<=g)->2*((low+b.toNat)*g)<=2*n+g/\2*n<=2*((low+b.toNat)*g)+g:=by
  intro g low rest hg hn hr b h1 h2;have e:(low+b.toNat)*g=g*low+b.toNat*g:=by rw[afM,afn low g]
  rw[e];cases b
  ·have:=h2 rfl;simp only[Bool.toNat_false,agE]; omega
  ·have:=h1 rfl;simp only[Bool.toNat_true,agQ]; omega
 by_cases h:d<=n.log2+2
 ·rw[agz h,Nat.shiftLeft_eq,agQ];refine hg (2 ^ d) _ _ (afy d) (af_ n (2 ^ d)).symm (afA _ (afy d)) _ (λhb=>?_) (λhb=>?_)
  ·simp only[aic,ag3,afK,agX]at hb;rcases hb with h | h <;> omega
  ·simp only[Bool.or_eq_false_iff,ahd]at hb;omega
 ·rw[Nat.min_eq_right (by omega),Nat.shiftLeft_eq,agQ];have hlt:n<2 ^ (n.log2+2):=ag0 h2 (Nat.pow_lt_pow_right (by decide) (by omega));have e1:n / 2 ^ (n.log2+2)=0:=afO hlt;have e2:n%2 ^ (n.log2+2)=n:=afu hlt;have e3:2 ^ (n.log2+2)=2*2 ^ (n.log2+1):=by rw[afv]; omega
  rw[e1,e2];have hb:(decide (2 ^ (n.log2+2)<2*n)||(2 ^ (n.log2+2)==2*n&&0%2==1))=false:=by simp only[Bool.or_eq_false_iff,ahd,Bool.and_eq_false_iff];exact⟨by omega,.inr rfl⟩
  rw[hb];simp only[Bool.toNat_false,afR,agE,agF,afL];have:2 ^ (n.log2+2)<=2 ^ d:=afz (by decide) (by omega);omega
theorem DZ (s:Bool) {m:Nat} (h0:m ≠ 0) {i:Int} (hb:i+m.log2<=1000\/aE (some (Ieee.double.nearest s m i))=true):∃ m' i' V,Ieee.double.read (Ieee.double.nearest s m i)=.number s m' i'/\m'*2 ^ (i'+1074).toNat=V /\
  ∀ E:Nat,1074<=E->0<=i+E->9007199254740992*(V*2 ^ (E - 1074))<=9007199254740992*(m*2 ^ (i+E).toNat)+(m*2 ^ (i+E).toNat+if -1074<=i then 0 else 4503599627370496*2 ^ (E - 1074)) /\
   9007199254740992*(m*2 ^ (i+E).toNat)<=9007199254740992*(V*2 ^ (E - 1074))+(m*2 ^ (i+E).toNat+if -1074<=i then 0 else 4503599627370496*2 ^ (E - 1074)):=by
 unfold Format.nearest;rw[if_neg h0,kD,kf,eI];have hf:Ieee.double.fractionBits=52:=rfl;rw[hf];generalize hL:max (i+(m.log2:Int) - ((52:Nat):Int)) (-1074)=L;have hL1 : -1074<=L:=by omega
 have hlg:=Nat.log2_self_le h0;have hlg2:m<2 ^ (m.log2+1):=Nat.lt_log2_self;have key:∃ kept,Toward.even.cut s (m <<< (i - L).toNat) (L - i).toNat=kept/\kept<=9007199254740992/\((L+1074).toNat=0\/4503599627370496<=kept) /\
   ∀ E:Nat,1074<=E->0<=i+E->9007199254740992*(kept*2 ^ (L+1074).toNat*2 ^ (E - 1074))<=9007199254740992*(m*2 ^ (i+E).toNat)+(m*2 ^ (i+E).toNat+if -1074<=i then 0 else 4503599627370496*2 ^ (E - 1074)) /\
    9007199254740992*(m*2 ^ (i+E).toNat)<=9007199254740992*(kept*2 ^ (L+1074).toNat*2 ^ (E - 1074))+(m*2 ^ (i+E).toNat+if -1074<=i then 0 else 4503599627370496*2 ^ (E - 1074)):=by
  refine⟨_,rfl,?_,?_,?_⟩
  ·have h1:m <<< (i - L).toNat ≠ 0:=by rw[Nat.shiftLeft_eq];exact ahT h0 (Nat.pos_iff_ne_zero.1 (afy _))
   refine afG (VA s _ _ h1) ?_;have h2:(m <<< (i - L).toNat).log2+1 - (L - i).toNat<=53:=by rw[Pm h0]; omega
   exact afG (afz (by decide) h2) (by decide)
  ·by_cases hz:(L+1074).toNat=0
   ·exact .inl hz
   ·right;have hL2:L=i+(m.log2:Int) - 52:=by omega
    by_cases hl:52<=m.log2
    ·have e1:(i - L).toNat=0:=by omega
     have e2:(L - i).toNat=m.log2 - 52:=by omega
     rw[e1,e2,Nat.shiftLeft_zero];refine afG ?_ (N1 s m (m.log2 - 52) (by omega));rw[Nat.shiftLeft_eq,agQ,agT (afy _)];have:4503599627370496*2 ^ (m.log2 - 52)=2 ^ m.log2:=by rw[show(4503599627370496:Nat)=2 ^ 52 by decide,<- afx,show 52+(m.log2 - 52)=m.log2 by omega]
     omega
    ·have e1:(i - L).toNat=52 - m.log2:=by omega
     have e2:(L - i).toNat=0:=by omega
     rw[e1,e2];refine afG ?_ (N1 s _ 0 (by omega));rw[Nat.shiftLeft_eq,Nat.shiftLeft_zero,ag_];have:4503599627370496=2 ^ m.log2*2 ^ (52 - m.log2):=by rw[<- afx,show m.log2+(52 - m.log2)=52 by omega]
     rw[this];exact afm _ hlg
  ·intro E hE hiE;by_cases hLi:L<=i
   ·have e1:(L - i).toNat=0:=by omega
    rw[e1,N3,Nat.shiftLeft_eq,aft,aft,<- afx,<- afx,show(i - L).toNat+((L+1074).toNat+(E - 1074))=(i+E).toNat by omega];exact⟨ag1 _ _,ag1 _ _⟩
   ·have e1:(i - L).toNat=0:=by omega
    rw[e1,Nat.shiftLeft_zero];obtain⟨c1,c2⟩:=N2 s m (L - i).toNat (by omega);generalize Toward.even.cut s m (L - i).toNat=kept at c1 c2;have e2:kept*2 ^ (L+1074).toNat*2 ^ (E - 1074)=kept*2 ^ (L - i).toNat*2 ^ (i+E).toNat:=by
     have ee:(L+1074).toNat+(E - 1074)=(L - i).toNat+(i+E).toNat:=by omega
     rw[aft,aft,<- afx,<- afx,ee]
    rw[e2];have e3:4503599627370496*(2 ^ (L - i).toNat*2 ^ (i+E).toNat)<=m*2 ^ (i+E).toNat+if -1074<=i then 0 else 4503599627370496*2 ^ (E - 1074):=by
     rw[<- afx];by_cases hz:L = -1074
     ·rw[if_neg (by omega),show(L - i).toNat+(i+E).toNat=E - 1074 by omega];exact Nat.le_add_left _ _
     ·have:4503599627370496*2 ^ ((L - i).toNat+(i+E).toNat)=2 ^ m.log2*2 ^ (i+E).toNat:=by
       have ee:52+((L - i).toNat+(i+E).toNat)=m.log2+(i+E).toNat:=by omega
       rw[show(4503599627370496:Nat)=2 ^ 52 by decide,<- afx,<- afx,ee]
      rw[this];exact afG (afm _ hlg) (ag1 _ _)
    generalize 2 ^ (i+E).toNat=P at e3 ⊢;generalize (if -1074<=i then 0 else 4503599627370496*2 ^ (E - 1074))=z at e3 ⊢;generalize kept*2 ^ (L - i).toNat=K at c1 c2 ⊢;generalize 2 ^ (L - i).toNat=D at c1 c2 e3;have c3:2*(K*P)<=2*(m*P)+D*P:=by
     have:=afm P c1
     rwa [afM,aft,aft]at this
    have c4:2*(m*P)<=2*(K*P)+D*P:=by
     have:=afm P c2
     rwa [afM,aft,aft]at this
    generalize K*P=x at c3 c4 ⊢;generalize D*P=y at c3 c4 e3;generalize m*P=w at c3 c4 e3 ⊢;omega
 obtain⟨kept,hk,k1,k2,k3⟩:=key;simp only[hk];have hr:(L - -1074).toNat*4503599627370496+kept<9218868437227405312:=by
  rcases hb with hb | hb
  ·omega
  ·unfold Format.nearest at hb;rw[if_neg h0,kD,kf,eI,hf,hL]at hb;simp only[hk]at hb;by_cases hc:(L - -1074).toNat*4503599627370496+kept<9218868437227405312
   ·exact hc
   ·rw[Nat.min_eq_right (by omega)]at hb;cases s
    ·exact absurd hb (by decide)
    ·exact absurd hb (by decide)
 rw[agz (by omega)];obtain⟨m',i',h1,h2,h3⟩:=LZ s hr;refine⟨m',i',kept*2 ^ (L+1074).toNat,h1,?_,k3⟩;rw[h3,show(L - -1074).toNat=(L+1074).toNat by omega];exact Mi _ _ k1 k2
theorem Xz (a b:Nat):(2:Rat) ^ (a+b)=2 ^ a*2 ^ b:=by
 induction b with
 | zero=>rw[afR,Rat.pow_zero,Rat.mul_one]
 | succ n ih=>rw[<- afY,Rat.pow_succ,Rat.pow_succ,ih,Rat.mul_assoc]
def Bd (d e:Rat):Prop:=-e<=d/\d<=e
abbrev uu:Rat:=1 / 9007199254740992
theorem W6 {v x w A:Rat} (g1:0<=9007199254740992*x+(x+9007199254740992*w) - 9007199254740992*v) (g2:0<=9007199254740992*v+(x+9007199254740992*w) - 9007199254740992*x) (a:x<=A):Bd (v - x) (uu*A+w)/\Bd (-v - -x) (uu*A+w):=by unfold Bd; grind
theorem XU {V P z X U v:Rat} (h:9007199254740992*(V*P)<=9007199254740992*X+(X+z)) (hU:0<=U) (e:V*P*U=v):0<=9007199254740992*(X*U)+(X*U+z*U) - 9007199254740992*v:=by have:=Rat.mul_nonneg (by grind:(0:Rat)<=9007199254740992*X+(X+z) - 9007199254740992*(V*P)) hU;rw[<- e]; grind
theorem XV {V P z X U v:Rat} (h:9007199254740992*X<=9007199254740992*(V*P)+(X+z)) (hU:0<=U) (e:V*P*U=v):0<=9007199254740992*v+(X*U+z*U) - 9007199254740992*(X*U):=by have:=Rat.mul_nonneg (by grind:(0:Rat)<=9007199254740992*(V*P)+(X+z) - 9007199254740992*X) hU;rw[<- e]; grind
theorem XW {P U S e:Rat} (h:P*U=1) (h2:e*2=S):4503599627370496*P*(S*U)=9007199254740992*e:=by
 have:P*(S*U)=S*(P*U):=by grind
 grind
theorem XX {x A:Rat} (h:Bd (-x) A):x<=A:=by have:=h.1; grind
theorem SC (V F:Nat):((9007199254740992*(V*2 ^ F):Nat):Rat)=(9007199254740992:Rat)*((V:Rat)*2 ^ F):=by rw[Rat.natCast_mul,Rat.natCast_mul,Rat.natCast_pow]; rfl
theorem Xa (X z:Nat):((9007199254740992*X+(X+z):Nat):Rat)=(9007199254740992:Rat)*X+(X+z):=by rw[Rat.natCast_add,Rat.natCast_add,Rat.natCast_mul]; rfl
theorem Xb (X:Nat):((9007199254740992*X:Nat):Rat)=(9007199254740992:Rat)*X:=by rw[Rat.natCast_mul]; rfl
theorem Xc (Y X z:Nat):((9007199254740992*Y+(X+z):Nat):Rat)=((9007199254740992*Y:Nat):Rat)+(X+z):=by rw[Rat.natCast_add,Rat.natCast_add]
theorem Xd (F:Nat):((4503599627370496*2 ^ F:Nat):Rat)=(4503599627370496:Rat)*2 ^ F:=by rw[Rat.natCast_mul,Rat.natCast_pow]; rfl
@[irreducible] def Ue (E:Nat):Rat:=1 / 2 ^ E
theorem EE (E:Nat):(0:Rat)<2 ^ E:=by
 induction E with
 | zero=>decide
 | succ n ih=>rw[Rat.pow_succ]; exact Rat.mul_pos ih (by decide)
theorem se (E:Nat):(2:Rat) ^ E*Ue E=1:=by unfold Ue;have:=EE E;grind
theorem xD (E:Nat):0<Ue E:=by
 have h1:=se E;have h2:=EE E;rcases (Rat.le_total:Ue E<=0\/0<=Ue E)with h | h
 ·have:=Rat.mul_nonneg (by grind:0 <= -(Ue E)) (by grind:(0:Rat)<=2 ^ E);grind
 ·by_cases h0:Ue E=0
  ·rw[h0,Rat.mul_zero]at h1; exact absurd h1 (by decide)
  ·exact Rat.lt_of_le_of_ne h (λe=>h0 e.symm)
theorem Hm (a b:Nat):Ue (a+b)=Ue a*Ue b:=by
 have h1:=se a;have h2:=se b;have h3:=se (a+b);have h4:(2:Rat) ^ (a+b)=2 ^ a*2 ^ b:=by grind
 have h5:(2:Rat) ^ (a+b)*(Ue a*Ue b)=1:=by rw[h4]; grind
 have h6:(2:Rat) ^ (a+b) ≠ 0:=by have:=EE (a+b); grind
 grind
@[irreducible] def Sp:Nat:=1074
theorem Sz:Sp=1074:=by unfold Sp; rfl
def rv (x:Fl):Rat:=(vl x:Rat)*Ue Sp
def eta:Rat:=Ue (Sp+1)
@[irreducible] def Bg:Rat:=2 ^ 900
theorem pc (s:Bool) (m k:Nat):((signed s m k:Int):Rat)=if s=true then -((m*2 ^ k:Nat):Rat)else((m*2 ^ k:Nat):Rat):=by
 unfold signed;rw[Nat.shiftLeft_eq];cases s
 ·simp only[af9,afS,Rat.intCast_natCast]
 ·simp only[agU,Rat.intCast_neg,Rat.intCast_natCast]
theorem LR (s:Bool) {m:Nat} (hm:m ≠ 0) {i:Int} (hb:i+m.log2<=1000\/aE (some (Ieee.double.nearest s m i))=true) {E:Nat} (hE:1074<=E) (hi:0<=i+E) :
  aE (some (Ieee.double.nearest s m i))=true /\ ∀ A,Bd (((signed s m (i+E).toNat:Int):Rat)*Ue E) A->Bd (rv (some (Ieee.double.nearest s m i)) - ((signed s m (i+E).toNat:Int):Rat)*Ue E) (uu*A+if -1074<=i then 0 else eta):=by
 obtain⟨m',i',V,h1,h2,h3⟩:=DZ s hm hb;refine⟨Js h1,λA hA=>?_⟩;obtain⟨g1,g2⟩:=h3 E hE hi;unfold rv;rw[Qo h1,pc,h2];rw[pc]at hA ⊢;generalize m*2 ^ (i+E).toNat=X at *;have c1:=Rat.natCast_le_natCast.2 g1;have c2:=Rat.natCast_le_natCast.2 g2;have eE:E=1074+(E - 1074):=by omega
 have u1:=se (E - 1074);have u2:Ue E=Ue Sp*Ue (E - 1074):=by rw[Sz,<- Hm,<- eE]
 have u3:=xD E;have u4:eta*2=Ue Sp:=by unfold eta;rw[Hm,Rat.mul_assoc,Rat.mul_comm (Ue 1)];have:(2:Rat)*Ue 1=1:=se 1;rw[this,Rat.mul_one]
 have u5:=xD Sp;generalize E - 1074=F at *;generalize hz:(if -1074<=i then 0 else 4503599627370496*2 ^ F:Nat)=z at *;have hzr:(z:Rat)*Ue E=9007199254740992*(if -1074<=i then 0 else eta):=by
  rw[<- hz];by_cases hc : -1074<=i
  ·rw[if_pos hc,if_pos hc,Rat.mul_zero]; exact Rat.zero_mul _
  ·rw[if_neg hc,if_neg hc,u2,Xd];exact XW u1 u4
 generalize (if -1074<=i then(0:Rat)else eta)=w at *;rw[SC,Xa]at c1;rw[Xb,Xc,SC]at c2;have ev:(V:Rat)*2 ^ F*Ue E=V*Ue Sp:=by rw[u2,Rat.mul_comm (Ue Sp),<- Rat.mul_assoc,Rat.mul_assoc (V:Rat),u1,Rat.mul_one]
 have f1:=XU c1 (Rat.le_of_lt u3) ev;have f2:=XV c2 (Rat.le_of_lt u3) ev;rw[hzr]at f1 f2;cases s
 ·rw[if_neg (by decide)]at hA ⊢;rw[if_neg (by decide)];exact(W6 f1 f2 hA.2).1
 ·rw[if_pos rfl]at hA ⊢;rw[if_pos rfl,Rat.neg_mul,Rat.neg_mul];rw[Rat.neg_mul]at hA;exact(W6 f1 f2 (XX hA)).2
theorem Pt (s:Bool) {m:Nat} (hm:m ≠ 0) {i:Int} (hb:i+m.log2<=1000) {E:Nat} (hE:1074<=E) (hi:0<=i+E) :
  aE (some (Ieee.double.nearest s m i))=true /\ ∀ A,Bd (((signed s m (i+E).toNat:Int):Rat)*Ue E) A->Bd (rv (some (Ieee.double.nearest s m i)) - ((signed s m (i+E).toNat:Int):Rat)*Ue E) (uu*A+if -1074<=i then 0 else eta):=LR s hm (.inl hb) hE hi
theorem II {b:Nat} {s:Bool} {m:Nat} {i:Int} (h:Ieee.double.read b=.number s m i):rv (some b)=((signed s m (i+1074).toNat:Int):Rat)*Ue Sp:=by unfold rv; rw[Qo h]
theorem Zz {P ay ax q A h y:Rat} (hay:0<ay) (h1:Bd (P*ay - ax) (P*ay / 18014398509481984)) (hq:q*ay=ax) (hqA:q<=A) (hy:Bd (y - P) (uu*P+h)) (hP:0<=P) (hA:0<=A):Bd (y - q) (2*uu*A+h):=by
 subst hq;obtain⟨a1,a2⟩:=h1;obtain⟨b1,b2⟩:=hy;have c1:P - q<=P / 18014398509481984:=by
  rcases (Rat.le_total:P - q - P / 18014398509481984<=0\/0<=P - q - P / 18014398509481984)with h | h
  ·grind
  ·by_cases hz:P - q - P / 18014398509481984=0
   ·grind
   ·have:=Rat.mul_pos (Rat.lt_of_le_of_ne h (λe=>hz e.symm)) hay;grind
 have c2:q - P<=P / 18014398509481984:=by
  rcases (Rat.le_total:q - P - P / 18014398509481984<=0\/0<=q - P - P / 18014398509481984)with h | h
  ·grind
  ·by_cases hz:q - P - P / 18014398509481984=0
   ·grind
   ·have:=Rat.mul_pos (Rat.lt_of_le_of_ne h (λe=>hz e.symm)) hay;grind
 constructor <;> grind
@[irreducible] def Gq:Nat:=2200
theorem Nu:Gq=2200:=by unfold Gq; rfl
theorem W5 {P B:Rat} (h:0<P) (hB:P<=B):Bd P B/\Bd (-P) B:=by unfold Bd; grind
theorem pu {n:Nat}:∀(todo root:Nat),root*root<=n->n<(root+2 ^ todo)*(root+2 ^ todo)->Datum.rootFrom n todo root*Datum.rootFrom n todo root<=n/\n<(Datum.rootFrom n todo root+1)*(Datum.rootFrom n todo root+1)
 | 0,root,h1,h2=>⟨h1,h2⟩
 | todo+1,root,h1,h2=>by
  unfold Datum.rootFrom;rw[Nat.shiftLeft_eq,agQ];dsimp only;by_cases h:(root+2 ^ todo)*(root+2 ^ todo)<=n
  ·rw[if_pos h];refine pu todo _ h ?_;have:root+2 ^ todo+2 ^ todo=root+2 ^ (todo+1):=by rw[afv]; omega
   rw[this]; exact h2
  ·rw[if_neg h];exact pu todo _ h1 (by omega)
theorem Mc (n:Nat):Datum.rootFrom n (n.log2 / 2+1) 0*Datum.rootFrom n (n.log2 / 2+1) 0<=n/\n<(Datum.rootFrom n (n.log2 / 2+1) 0+1)*(Datum.rootFrom n (n.log2 / 2+1) 0+1):=by refine pu _ 0 (by omega) ?_;rw[afL,<- afx];have:n<2 ^ (n.log2+1):=Nat.lt_log2_self;exact afD this (afz (by decide) (by omega))
theorem Gz {n w:Nat} (h1:w*w<=n) (h2:n<(w+1)*(w+1)):∃ D,2*w+(w*w != n).toNat=D/\D*D<=4*n+2*D/\4*n<=D*D+2*D/\2*w<=D/\D<=2*w+1:=by
 refine⟨_,rfl,?_⟩;have e:(w+1)*(w+1)=w*w+2*w+1:=by grind
 rw[e]at h2;by_cases h:w*w=n
 ·have hb:(w*w != n)=false:=by rw[h]; exact bne_self_eq_false n
  rw[hb];have e2:(2*w+false.toNat)*(2*w+false.toNat)=4*(w*w):=by show(2*w+0)*(2*w+0)=_; grind
  rw[e2];refine⟨by omega,by omega,ag1 _ _,by show 2*w+0<=_; omega⟩
 ·have hb:(w*w != n)=true:=by rw[bne_iff_ne]; exact h
  rw[hb];have e2:(2*w+true.toNat)*(2*w+true.toNat)=4*(w*w)+4*w+1:=by show(2*w+1)*(2*w+1)=_; grind
  rw[e2];show 4*(w*w)+4*w+1<=4*n+2*(2*w+1)/\4*n<=4*(w*w)+4*w+1+2*(2*w+1)/\2*w<=2*w+1/\2*w+1<=2*w+1;omega
theorem W7 {D4 n4 D W:Rat} (hW:0<=W) (h1:D4<=n4+D) (h2:n4<=D4+D) (hD:D*18014398509481984<=D4):Bd (D4*W - n4*W) (D4*W / 18014398509481984):=by have a1:=Rat.mul_nonneg (by grind:0<=n4+D - D4) hW;have a2:=Rat.mul_nonneg (by grind:0<=D4+D - n4) hW;have a3:=Rat.mul_nonneg (by grind:0<=D4 - D*18014398509481984) hW;constructor <;> grind
theorem W8 {y P x:Rat} (hP:0<P) (h1:Bd (y - P) (uu*P)) (h2:Bd (P*P - x) (P*P / 18014398509481984)):0<y/\Bd (y*y - x) (3*uu*x):=by
 obtain⟨a1,a2⟩:=h1;obtain⟨b1,b2⟩:=h2;have hy:0<y:=by grind
 refine⟨hy,?_⟩;have hPP:=Rat.mul_pos hP hP;have c1:=Rat.mul_nonneg (by grind:0<=P+uu*P - y) (by grind:0<=y);have c2:=Rat.mul_nonneg (by grind:0<=P+uu*P - y) (by grind:0<=P);have c3:=Rat.mul_nonneg (by grind:0<=y - P+uu*P) (by grind:0<=y);have c4:=Rat.mul_nonneg (by grind:0<=y - P+uu*P) (by grind:0<=P);constructor <;> grind
theorem W9 (f d b u v:Rat):f*d*b*u*v=f*(d*u)*(b*v):=by grind
theorem Mu {x:Fl} (hx:aE x=true) (h0:0<rv x):aE (ba x)=true/\0<rv (ba x)/\Bd (rv (ba x)*rv (ba x) - rv x) (3*uu*rv x):=by
 obtain⟨c,s,m,i,rfl,rc⟩:=mj hx;have gi:=Bm rc;obtain⟨hi2,hmb⟩:=ob rc;have hcx:=II rc;rw[pc]at hcx;have hm:m ≠ 0:=by intro hc;rw[II rc,hc,GP]at h0;rw[show(((0:Int):Rat))*Ue Sp=0 from Rat.zero_mul _]at h0;exact absurd h0 (by decide)
 have hs:s=false:=by
  cases s
  ·rfl
  ·rw[hcx,if_pos rfl,Rat.neg_mul]at h0;have:=Rat.mul_nonneg (Rat.natCast_nonneg:(0:Rat)<=((m*2 ^ (i+1074).toNat:Nat):Rat)) (Rat.le_of_lt (xD Sp));generalize ((m*2 ^ (i+1074).toNat:Nat):Rat)*Ue Sp=q at *;grind
 subst hs;rw[if_neg (by decide)]at hcx;have hml:m.log2<=52:=by have:=(Nat.log2_lt hm).2 (by simpa using hmb:m<2 ^ 53); omega
 have e0:ba (some c)=((Datum.number false m i).root 54).map Ieee.double.write:=by show((Ieee.double.read c).root (Ieee.double.fractionBits+2)).map Ieee.double.write=_;rw[rc]; rfl
 rw[e0];simp only[Datum.root,if_neg hm,af9,afS];generalize hmore:2*54 - m.log2+((i - ((2*54 - m.log2:Nat):Int))%2).toNat=more;have hm1:108<=m.log2+more/\more<=109:=by omega
 obtain⟨r1,r2⟩:=Mc (m <<< more);generalize Datum.rootFrom (m <<< more) ((m <<< more).log2 / 2+1) 0=w at r1 r2;obtain⟨D,hD,d1,d2,d3,d4⟩:=Gz r1 r2;rw[hD,agL,xv];rw[Nat.shiftLeft_eq]at *;have hn1:324518553658426726783156020576256<=m*2 ^ more:=by
  have h1:=afm (2 ^ more) (Nat.log2_self_le hm);rw[<- afx]at h1;have h2:2 ^ 108<=2 ^ (m.log2+more):=afz (by decide) hm1.1;have h3:(2:Nat) ^ 108=324518553658426726783156020576256:=by decide
  omega
 have hn2:m*2 ^ more<2 ^ 164:=by have h1:m*2 ^ more<2 ^ 53*2 ^ more:=af2 (by simpa using hmb) (afy _);rw[<- afx]at h1;exact afD h1 (afz (by decide) (by omega))
 have hw1:18014398509481984<=w:=by
  rcases agb w 18014398509481984 with h | h
  ·have:(w+1)*(w+1)<=18014398509481984*18014398509481984:=af7 (by omega) (by omega);omega
  ·exact h
 have hw2:w<2 ^ 82:=by
  rcases agb w (2 ^ 82)with h | h
  ·exact h
  ·have h1:2 ^ 82*2 ^ 82<=w*w:=af7 h h;rw[<- afx]at h1;omega
 have hD0:D ≠ 0:=by omega
 have hDl:D.log2<=84:=by
  have h1:D<2 ^ 85:=by
   have:(2:Nat) ^ 85=8*2 ^ 82:=by rw[<- afx 2 3 82]
   omega
  have:=(Nat.log2_lt hD0).2 h1;omega
 generalize hp:(i - (more:Int)) / 2 - 1=p;have hp2:i=2*p+2+more:=by omega
 obtain⟨n1,n2⟩:=Pt false hD0 (i:=p) (by omega) (E:=Gq) (by rw[Nu]; decide) (by rw[Nu]; omega);have hG:=Nu;generalize Gq=G at *;rw[pc,if_neg (by decide),if_pos (by omega)]at n2;have hP:0<((D*2 ^ (p+(G:Int)).toNat:Nat):Rat)*Ue G:=Rat.mul_pos (Rat.natCast_pos.2 (ahj (ahs hD0) (afy _))) (xD _);have n3:=n2 _ (W5 hP Rat.le_refl).1;rw[Rat.add_zero]at n3;have hsq:Bd (((D*2 ^ (p+(G:Int)).toNat:Nat):Rat)*Ue G*(((D*2 ^ (p+(G:Int)).toNat:Nat):Rat)*Ue G) - rv (some c)) (((D*2 ^ (p+(G:Int)).toNat:Nat):Rat)*Ue G*(((D*2 ^ (p+(G:Int)).toNat:Nat):Rat)*Ue G) / 18014398509481984):=by
  have e1:((D*2 ^ (p+(G:Int)).toNat:Nat):Rat)*Ue G*(((D*2 ^ (p+(G:Int)).toNat:Nat):Rat)*Ue G)=((D*D:Nat):Rat)*(((2 ^ ((p+(G:Int)).toNat+(p+(G:Int)).toNat):Nat):Rat)*Ue (G+G)):=by rw[afx,Hm,Rat.natCast_mul,Rat.natCast_mul,Rat.natCast_mul];generalize ((2 ^ (p+(G:Int)).toNat:Nat):Rat)=a;generalize Ue G=b;generalize (D:Rat)=d;grind
  have e2:rv (some c)=((4*(m*2 ^ more):Nat):Rat)*(((2 ^ ((p+(G:Int)).toNat+(p+(G:Int)).toNat):Nat):Rat)*Ue (G+G)):=by
   rw[hcx];have h1:m*2 ^ (i+1074).toNat*2 ^ (G+G)=4*(m*2 ^ more)*2 ^ ((p+(G:Int)).toNat+(p+(G:Int)).toNat)*2 ^ Sp:=by
    have hSp:=Sz;have ex:(i+1074).toNat+(G+G)=2+more+((p+(G:Int)).toNat+(p+(G:Int)).toNat)+Sp:=by omega
    rw[aft,<- afx,ex,afx 2 _ Sp,afx 2 (2+more),afx 2 2];generalize 2 ^ ((p+(G:Int)).toNat+(p+(G:Int)).toNat)=a;generalize 2 ^ more=b;generalize 2 ^ Sp=d;have e4:(2:Nat) ^ 2=4:=rfl;rw[e4];ac_rfl
   generalize ((p+(G:Int)).toNat+(p+(G:Int)).toNat)=q at *;generalize hXX:m*2 ^ (i+1074).toNat=X at *;have h2:(X:Rat)*((2 ^ (G+G):Nat):Rat)=((4*(m*2 ^ more):Nat):Rat)*((2 ^ q:Nat):Rat)*((2 ^ Sp:Nat):Rat):=by rw[<- Rat.natCast_mul,<- Rat.natCast_mul,<- Rat.natCast_mul,h1]
   have h3:((2 ^ (G+G):Nat):Rat)*Ue (G+G)=1:=by rw[Rat.natCast_pow]; exact se _
   have h4:((2 ^ Sp:Nat):Rat)*Ue Sp=1:=by rw[Rat.natCast_pow]; exact se _
   generalize ((2 ^ (G+G):Nat):Rat)=a at *;generalize ((2 ^ Sp:Nat):Rat)=b at *;generalize ((2 ^ q:Nat):Rat)=d at *;generalize ((4*(m*2 ^ more):Nat):Rat)=f at *;generalize Ue (G+G)=u at *;generalize Ue Sp=v at *;have:(X:Rat)*v=(X:Rat)*a*u*v:=by rw[Rat.mul_assoc (X:Rat) a u,h3,Rat.mul_one]
   rw[this,h2];rw[W9,h4,Rat.mul_one]
  rw[e1,e2];have hW:(0:Rat)<=((2 ^ ((p+(G:Int)).toNat+(p+(G:Int)).toNat):Nat):Rat)*Ue (G+G):=Rat.mul_nonneg Rat.natCast_nonneg (Rat.le_of_lt (xD _));generalize ((2 ^ ((p+(G:Int)).toNat+(p+(G:Int)).toNat):Nat):Rat)*Ue (G+G)=W at *;refine W7 hW (D:=((2*D:Nat):Rat)) ?_ ?_ ?_
  ·rw[<- Rat.natCast_add]; exact Rat.natCast_le_natCast.2 d1
  ·rw[<- Rat.natCast_add]; exact Rat.natCast_le_natCast.2 d2
  ·have:((2*D*18014398509481984:Nat):Rat)=((2*D:Nat):Rat)*18014398509481984:=by rw[Rat.natCast_mul]; rfl
   rw[<- this];refine Rat.natCast_le_natCast.2 ?_;have h5:D*36028797018963968<=D*D:=afq _ (by omega);have h6:∀ x:Nat,2*x*18014398509481984=x*36028797018963968:=λx=>by omega
   rw[h6]; exact h5
 exact⟨n1,W8 hP n3 hsq⟩
end Go.Proofs.YtdinakfmablagaaGreatDoor
end
