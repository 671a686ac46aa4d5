/- Laws in plain Lean. Conditions: none. -/
import Derived.Test.YtdinakfmablagaaGreatDoorFlA
import Derived.Test.YtdinakfmablagaaGreatDoorK1
set_option linter.unusedVariables false
section
namespace Go.Proofs.YtdinakfmablagaaGreatDoor
open Go Go.Mach Ieee
def N5 (r:Nat):Nat:=if r<4503599627370496 then r else(4503599627370496+r%4503599627370496)*2 ^ (r / 4503599627370496 - 1)
theorem IM (s:Bool) {r:Nat} (h:r<9218868437227405312):∃ m i,Ieee.double.read (Ieee.double.word s r)=.number s m i /\ -1074<=i/\m*2 ^ (i+1074).toNat=N5 r:=by
 have hw:Ieee.double.word s r%9223372036854775808=r:=by unfold Format.word; rw[b_]; cases s <;> simp <;> omega
 have hs:(Ieee.double.word s r / 9223372036854775808%2==1)=s:=by
  unfold Format.word; rw[b_];cases s
  ·simp; omega
  ·have:(9223372036854775808+r) / 9223372036854775808=1:=by omega
   simp[this]
 unfold Format.read N5;simp only[b_,jv,dQ,jN,hw,hs];split
 ·refine⟨_,_,rfl,by omega,?_⟩;show r*2 ^ 0=r;omega
 ·refine⟨_,_,rfl,by omega,?_⟩;congr 2;omega
theorem IW (p kept:Nat) (h1:kept<=9007199254740992) (h2:p=0\/4503599627370496<=kept):N5 (p*4503599627370496+kept)=kept*2 ^ p:=by
 unfold N5;by_cases hp:p=0
 ·subst hp;rw[abr,aay,abV,abX];split
  ·rfl
  ·by_cases hk:kept=9007199254740992
   ·subst hk; decide
   ·have e1:kept / 4503599627370496=1:=by omega
    rw[e1,aaH,abV]; omega
 ·have hk:=h2.resolve_left hp;rw[if_neg (by omega)];by_cases he:kept=9007199254740992
  ·subst he;have e1:(p*4503599627370496+9007199254740992)%4503599627370496=0:=by omega
   have e2:(p*4503599627370496+9007199254740992) / 4503599627370496 - 1=p+1:=by omega
   generalize (p*4503599627370496+9007199254740992)%4503599627370496=a at e1 ⊢;generalize (p*4503599627370496+9007199254740992) / 4503599627370496 - 1=b at e2 ⊢;have e3:2 ^ b=2 ^ p*2:=by rw[e2,aaj]
   subst e1;rw[e3];generalize 2 ^ p=y;omega
  ·have e1:(p*4503599627370496+kept)%4503599627370496=kept - 4503599627370496:=by omega
   have e2:(p*4503599627370496+kept) / 4503599627370496 - 1=p:=by omega
   rw[e2];exact adg (λz=>z*2 ^ p) (by rw[e1]; omega)
theorem Kw (s:Bool) (n d:Nat) (hd:1<=d):2*(Toward.even.cut s n d*2 ^ d)<=2*n+2 ^ d/\2*n<=2*(Toward.even.cut s n d*2 ^ d)+2 ^ d:=by
 unfold Toward.cut;dsimp only;have h2:n<2 ^ (n.log2+1):=Nat.lt_log2_self;have hg:∀ g low rest:Nat,0<g->n=g*low+rest->rest<g -> ∀ b:Bool,(b=true->g<=2*rest)->(b=false->2*rest<=g)->2*((low+b.toNat)*g)<=2*n+g/\2*n<=2*((low+b.toNat)*g)+g:=by
  intro g low rest hg hn hr b h1 h2;have e:(low+b.toNat)*g=g*low+b.toNat*g:=by rw[aaz,aab low g]
  rw[e];cases b
  ·have:=h2 rfl;simp only[Bool.toNat_false,abr]; omega
  ·have:=h1 rfl;simp only[Bool.toNat_true,abD]; omega
 by_cases h:d<=n.log2+2
 ·rw[abm h,Nat.shiftLeft_eq,abD];refine hg (2 ^ d) _ _ (aam d) (aaY n (2 ^ d)).symm (aao _ (aam d)) _ (λhb=>?_) (λhb=>?_)
  ·simp only[ac4,abR,aaB,abL]at hb;rcases hb with h | h <;> omega
  ·simp only[Bool.or_eq_false_iff,ab2]at hb;omega
 ·rw[Nat.min_eq_right (by omega),Nat.shiftLeft_eq,abD];have hlt:n<2 ^ (n.log2+2):=abO h2 (Nat.pow_lt_pow_right (by decide) (by omega));have e1:n / 2 ^ (n.log2+2)=0:=aaC hlt;have e2:n%2 ^ (n.log2+2)=n:=aai hlt;have e3:2 ^ (n.log2+2)=2*2 ^ (n.log2+1):=by rw[aaj]; omega
  rw[e1,e2];have hb:(decide (2 ^ (n.log2+2)<2*n)||(2 ^ (n.log2+2)==2*n&&0%2==1))=false:=by simp only[Bool.or_eq_false_iff,ab2,Bool.and_eq_false_iff];exact⟨by omega,.inr rfl⟩
  rw[hb];simp only[Bool.toNat_false,aaF,abr,abt,aay];have:2 ^ (n.log2+2)<=2 ^ d:=aan (by decide) (by omega);omega
theorem BI (s:Bool) {m:Nat} (h0:m ≠ 0) {i:Int} (hb:i+m.log2<=1000\/aG (some (Ieee.double.nearest s m i))=true):∃ m' i' V,Ieee.double.read (Ieee.double.nearest s m i)=.number s m' i'/\m'*2 ^ (i'+1074).toNat=V /\
  ∀ E:Nat,1074<=E->0<=i+E->9007199254740992*(V*2 ^ (E - 1074))<=9007199254740992*(m*2 ^ (i+E).toNat)+(m*2 ^ (i+E).toNat+if -1074<=i then 0 else 4503599627370496*2 ^ (E - 1074)) /\
   9007199254740992*(m*2 ^ (i+E).toNat)<=9007199254740992*(V*2 ^ (E - 1074))+(m*2 ^ (i+E).toNat+if -1074<=i then 0 else 4503599627370496*2 ^ (E - 1074)):=by
 unfold Format.nearest;rw[if_neg h0,jN,jv,dQ];have hf:Ieee.double.fractionBits=52:=rfl;rw[hf];generalize hL:max (i+(m.log2:Int) - ((52:Nat):Int)) (-1074)=L;have hL1 : -1074<=L:=by omega
 have hlg:=Nat.log2_self_le h0;have hlg2:m<2 ^ (m.log2+1):=Nat.lt_log2_self;have key:∃ kept,Toward.even.cut s (m <<< (i - L).toNat) (L - i).toNat=kept/\kept<=9007199254740992/\((L+1074).toNat=0\/4503599627370496<=kept) /\
   ∀ E:Nat,1074<=E->0<=i+E->9007199254740992*(kept*2 ^ (L+1074).toNat*2 ^ (E - 1074))<=9007199254740992*(m*2 ^ (i+E).toNat)+(m*2 ^ (i+E).toNat+if -1074<=i then 0 else 4503599627370496*2 ^ (E - 1074)) /\
    9007199254740992*(m*2 ^ (i+E).toNat)<=9007199254740992*(kept*2 ^ (L+1074).toNat*2 ^ (E - 1074))+(m*2 ^ (i+E).toNat+if -1074<=i then 0 else 4503599627370496*2 ^ (E - 1074)):=by
  refine⟨_,rfl,?_,?_,?_⟩
  ·have h1:m <<< (i - L).toNat ≠ 0:=by rw[Nat.shiftLeft_eq];exact acH h0 (Nat.pos_iff_ne_zero.1 (aam _))
   refine aau (Rk s _ _ h1) ?_;have h2:(m <<< (i - L).toNat).log2+1 - (L - i).toNat<=53:=by rw[LC h0]; omega
   exact aau (aan (by decide) h2) (by decide)
  ·by_cases hz:(L+1074).toNat=0
   ·exact .inl hz
   ·right;have hL2:L=i+(m.log2:Int) - 52:=by omega
    by_cases hl:52<=m.log2
    ·have e1:(i - L).toNat=0:=by omega
     have e2:(L - i).toNat=m.log2 - 52:=by omega
     rw[e1,e2,Nat.shiftLeft_zero];refine aau ?_ (Kv s m (m.log2 - 52) (by omega));rw[Nat.shiftLeft_eq,abD,abH (aam _)];have:4503599627370496*2 ^ (m.log2 - 52)=2 ^ m.log2:=by rw[show(4503599627370496:Nat)=2 ^ 52 by decide,<- aal,show 52+(m.log2 - 52)=m.log2 by omega]
     omega
    ·have e1:(i - L).toNat=52 - m.log2:=by omega
     have e2:(L - i).toNat=0:=by omega
     rw[e1,e2];refine aau ?_ (Kv s _ 0 (by omega));rw[Nat.shiftLeft_eq,Nat.shiftLeft_zero,abY];have:4503599627370496=2 ^ m.log2*2 ^ (52 - m.log2):=by rw[<- aal,show m.log2+(52 - m.log2)=52 by omega]
     rw[this];exact aaa _ hlg
  ·intro E hE hiE;by_cases hLi:L<=i
   ·have e1:(L - i).toNat=0:=by omega
    rw[e1,Kx,Nat.shiftLeft_eq,aah,aah,<- aal,<- aal,show(i - L).toNat+((L+1074).toNat+(E - 1074))=(i+E).toNat by omega];exact⟨abP _ _,abP _ _⟩
   ·have e1:(i - L).toNat=0:=by omega
    rw[e1,Nat.shiftLeft_zero];obtain⟨c1,c2⟩:=Kw s m (L - i).toNat (by omega);generalize Toward.even.cut s m (L - i).toNat=kept at c1 c2;have e2:kept*2 ^ (L+1074).toNat*2 ^ (E - 1074)=kept*2 ^ (L - i).toNat*2 ^ (i+E).toNat:=by
     have ee:(L+1074).toNat+(E - 1074)=(L - i).toNat+(i+E).toNat:=by omega
     rw[aah,aah,<- aal,<- aal,ee]
    rw[e2];have e3:4503599627370496*(2 ^ (L - i).toNat*2 ^ (i+E).toNat)<=m*2 ^ (i+E).toNat+if -1074<=i then 0 else 4503599627370496*2 ^ (E - 1074):=by
     rw[<- aal];by_cases hz:L = -1074
     ·rw[if_neg (by omega),show(L - i).toNat+(i+E).toNat=E - 1074 by omega];exact Nat.le_add_left _ _
     ·have:4503599627370496*2 ^ ((L - i).toNat+(i+E).toNat)=2 ^ m.log2*2 ^ (i+E).toNat:=by
       have ee:52+((L - i).toNat+(i+E).toNat)=m.log2+(i+E).toNat:=by omega
       rw[show(4503599627370496:Nat)=2 ^ 52 by decide,<- aal,<- aal,ee]
      rw[this];exact aau (aaa _ hlg) (abP _ _)
    generalize 2 ^ (i+E).toNat=P at e3 ⊢;generalize (if -1074<=i then 0 else 4503599627370496*2 ^ (E - 1074))=z at e3 ⊢;generalize kept*2 ^ (L - i).toNat=K at c1 c2 ⊢;generalize 2 ^ (L - i).toNat=D at c1 c2 e3;have c3:2*(K*P)<=2*(m*P)+D*P:=by
     have:=aaa P c1
     rwa [aaz,aah,aah]at this
    have c4:2*(m*P)<=2*(K*P)+D*P:=by
     have:=aaa P c2
     rwa [aaz,aah,aah]at this
    generalize K*P=x at c3 c4 ⊢;generalize D*P=y at c3 c4 e3;generalize m*P=w at c3 c4 e3 ⊢;omega
 obtain⟨kept,hk,k1,k2,k3⟩:=key;simp only[hk];have hr:(L - -1074).toNat*4503599627370496+kept<9218868437227405312:=by
  rcases hb with hb | hb
  ·omega
  ·unfold Format.nearest at hb;rw[if_neg h0,jN,jv,dQ,hf,hL]at hb;simp only[hk]at hb;by_cases hc:(L - -1074).toNat*4503599627370496+kept<9218868437227405312
   ·exact hc
   ·rw[Nat.min_eq_right (by omega)]at hb;cases s
    ·exact absurd hb (by decide)
    ·exact absurd hb (by decide)
 rw[abm (by omega)];obtain⟨m',i',h1,h2,h3⟩:=IM s hr;refine⟨m',i',kept*2 ^ (L+1074).toNat,h1,?_,k3⟩;rw[h3,show(L - -1074).toNat=(L+1074).toNat by omega];exact IW _ _ k1 k2
theorem Tc (a b:Nat):(2:Rat) ^ (a+b)=2 ^ a*2 ^ b:=by
 induction b with
 | zero=>rw[aaF,Rat.pow_zero,Rat.mul_one]
 | succ n ih=>rw[<- aaM,Rat.pow_succ,Rat.pow_succ,ih,Rat.mul_assoc]
def Bd (d e:Rat):Prop:=-e<=d/\d<=e
abbrev uu:Rat:=1 / 9007199254740992
theorem SM {v x w A:Rat} (g1:0<=9007199254740992*x+(x+9007199254740992*w) - 9007199254740992*v) (g2:0<=9007199254740992*v+(x+9007199254740992*w) - 9007199254740992*x) (a:x<=A):Bd (v - x) (uu*A+w)/\Bd (-v - -x) (uu*A+w):=by unfold Bd; grind
theorem TA {V P z X U v:Rat} (h:9007199254740992*(V*P)<=9007199254740992*X+(X+z)) (hU:0<=U) (e:V*P*U=v):0<=9007199254740992*(X*U)+(X*U+z*U) - 9007199254740992*v:=by have:=Rat.mul_nonneg (by grind:(0:Rat)<=9007199254740992*X+(X+z) - 9007199254740992*(V*P)) hU;rw[<- e]; grind
theorem TB {V P z X U v:Rat} (h:9007199254740992*X<=9007199254740992*(V*P)+(X+z)) (hU:0<=U) (e:V*P*U=v):0<=9007199254740992*v+(X*U+z*U) - 9007199254740992*(X*U):=by have:=Rat.mul_nonneg (by grind:(0:Rat)<=9007199254740992*(V*P)+(X+z) - 9007199254740992*X) hU;rw[<- e]; grind
theorem TC {P U S e:Rat} (h:P*U=1) (h2:e*2=S):4503599627370496*P*(S*U)=9007199254740992*e:=by
 have:P*(S*U)=S*(P*U):=by grind
 grind
theorem TD {x A:Rat} (h:Bd (-x) A):x<=A:=by have:=h.1; grind
theorem OT (V F:Nat):((9007199254740992*(V*2 ^ F):Nat):Rat)=(9007199254740992:Rat)*((V:Rat)*2 ^ F):=by rw[Rat.natCast_mul,Rat.natCast_mul,Rat.natCast_pow]; rfl
theorem SQ (X z:Nat):((9007199254740992*X+(X+z):Nat):Rat)=(9007199254740992:Rat)*X+(X+z):=by rw[Rat.natCast_add,Rat.natCast_add,Rat.natCast_mul]; rfl
theorem SR (X:Nat):((9007199254740992*X:Nat):Rat)=(9007199254740992:Rat)*X:=by rw[Rat.natCast_mul]; rfl
theorem SS (Y X z:Nat):((9007199254740992*Y+(X+z):Nat):Rat)=((9007199254740992*Y:Nat):Rat)+(X+z):=by rw[Rat.natCast_add,Rat.natCast_add]
theorem SU (F:Nat):((4503599627370496*2 ^ F:Nat):Rat)=(4503599627370496:Rat)*2 ^ F:=by rw[Rat.natCast_mul,Rat.natCast_pow]; rfl
@[irreducible] def Ue (E:Nat):Rat:=1 / 2 ^ E
theorem Ce (E:Nat):(0:Rat)<2 ^ E:=by
 induction E with
 | zero=>decide
 | succ n ih=>rw[Rat.pow_succ]; exact Rat.mul_pos ih (by decide)
theorem p7 (E:Nat):(2:Rat) ^ E*Ue E=1:=by unfold Ue;have:=Ce E;grind
theorem uT (E:Nat):0<Ue E:=by
 have h1:=p7 E;have h2:=Ce E;rcases (Rat.le_total:Ue E<=0\/0<=Ue E)with h | h
 ·have:=Rat.mul_nonneg (by grind:0 <= -(Ue E)) (by grind:(0:Rat)<=2 ^ E);grind
 ·by_cases h0:Ue E=0
  ·rw[h0,Rat.mul_zero]at h1; exact absurd h1 (by decide)
  ·exact Rat.lt_of_le_of_ne h (λe=>h0 e.symm)
theorem EH (a b:Nat):Ue (a+b)=Ue a*Ue b:=by
 have h1:=p7 a;have h2:=p7 b;have h3:=p7 (a+b);have h4:(2:Rat) ^ (a+b)=2 ^ a*2 ^ b:=by grind
 have h5:(2:Rat) ^ (a+b)*(Ue a*Ue b)=1:=by rw[h4]; grind
 have h6:(2:Rat) ^ (a+b) ≠ 0:=by have:=Ce (a+b); grind
 grind
@[irreducible] def Sp:Nat:=1074
theorem OP:Sp=1074:=by unfold Sp; rfl
def rv (x:Fl):Rat:=(vl x:Rat)*Ue Sp
def eta:Rat:=Ue (Sp+1)
@[irreducible] def Bg:Rat:=2 ^ 900
theorem nk (s:Bool) (m k:Nat):((signed s m k:Int):Rat)=if s=true then -((m*2 ^ k:Nat):Rat)else((m*2 ^ k:Nat):Rat):=by
 unfold signed;rw[Nat.shiftLeft_eq];cases s
 ·simp only[aaX,aaG,Rat.intCast_natCast]
 ·simp only[abI,Rat.intCast_neg,Rat.intCast_natCast]
theorem IG (s:Bool) {m:Nat} (hm:m ≠ 0) {i:Int} (hb:i+m.log2<=1000\/aG (some (Ieee.double.nearest s m i))=true) {E:Nat} (hE:1074<=E) (hi:0<=i+E) :
  aG (some (Ieee.double.nearest s m i))=true /\ ∀ A,Bd (((signed s m (i+E).toNat:Int):Rat)*Ue E) A->Bd (rv (some (Ieee.double.nearest s m i)) - ((signed s m (i+E).toNat:Int):Rat)*Ue E) (uu*A+if -1074<=i then 0 else eta):=by
 obtain⟨m',i',V,h1,h2,h3⟩:=BI s hm hb;refine⟨GC h1,λA hA=>?_⟩;obtain⟨g1,g2⟩:=h3 E hE hi;unfold rv;rw[MH h1,nk,h2];rw[nk]at hA ⊢;generalize m*2 ^ (i+E).toNat=X at *;have c1:=Rat.natCast_le_natCast.2 g1;have c2:=Rat.natCast_le_natCast.2 g2;have eE:E=1074+(E - 1074):=by omega
 have u1:=p7 (E - 1074);have u2:Ue E=Ue Sp*Ue (E - 1074):=by rw[OP,<- EH,<- eE]
 have u3:=uT E;have u4:eta*2=Ue Sp:=by unfold eta;rw[EH,Rat.mul_assoc,Rat.mul_comm (Ue 1)];have:(2:Rat)*Ue 1=1:=p7 1;rw[this,Rat.mul_one]
 have u5:=uT Sp;generalize E - 1074=F at *;generalize hz:(if -1074<=i then 0 else 4503599627370496*2 ^ F:Nat)=z at *;have hzr:(z:Rat)*Ue E=9007199254740992*(if -1074<=i then 0 else eta):=by
  rw[<- hz];by_cases hc : -1074<=i
  ·rw[if_pos hc,if_pos hc,Rat.mul_zero]; exact Rat.zero_mul _
  ·rw[if_neg hc,if_neg hc,u2,SU];exact TC u1 u4
 generalize (if -1074<=i then(0:Rat)else eta)=w at *;rw[OT,SQ]at c1;rw[SR,SS,OT]at c2;have ev:(V:Rat)*2 ^ F*Ue E=V*Ue Sp:=by rw[u2,Rat.mul_comm (Ue Sp),<- Rat.mul_assoc,Rat.mul_assoc (V:Rat),u1,Rat.mul_one]
 have f1:=TA c1 (Rat.le_of_lt u3) ev;have f2:=TB c2 (Rat.le_of_lt u3) ev;rw[hzr]at f1 f2;cases s
 ·rw[if_neg (by decide)]at hA ⊢;rw[if_neg (by decide)];exact(SM f1 f2 hA.2).1
 ·rw[if_pos rfl]at hA ⊢;rw[if_pos rfl,Rat.neg_mul,Rat.neg_mul];rw[Rat.neg_mul]at hA;exact(SM f1 f2 (TD hA)).2
theorem LO (s:Bool) {m:Nat} (hm:m ≠ 0) {i:Int} (hb:i+m.log2<=1000) {E:Nat} (hE:1074<=E) (hi:0<=i+E) :
  aG (some (Ieee.double.nearest s m i))=true /\ ∀ A,Bd (((signed s m (i+E).toNat:Int):Rat)*Ue E) A->Bd (rv (some (Ieee.double.nearest s m i)) - ((signed s m (i+E).toNat:Int):Rat)*Ue E) (uu*A+if -1074<=i then 0 else eta):=IG s hm (.inl hb) hE hi
theorem FU {b:Nat} {s:Bool} {m:Nat} {i:Int} (h:Ieee.double.read b=.number s m i):rv (some b)=((signed s m (i+1074).toNat:Int):Rat)*Ue Sp:=by unfold rv; rw[MH h]
theorem UT {P ay ax q A h y:Rat} (hay:0<ay) (h1:Bd (P*ay - ax) (P*ay / 18014398509481984)) (hq:q*ay=ax) (hqA:q<=A) (hy:Bd (y - P) (uu*P+h)) (hP:0<=P) (hA:0<=A):Bd (y - q) (2*uu*A+h):=by
 subst hq;obtain⟨a1,a2⟩:=h1;obtain⟨b1,b2⟩:=hy;have c1:P - q<=P / 18014398509481984:=by
  rcases (Rat.le_total:P - q - P / 18014398509481984<=0\/0<=P - q - P / 18014398509481984)with h | h
  ·grind
  ·by_cases hz:P - q - P / 18014398509481984=0
   ·grind
   ·have:=Rat.mul_pos (Rat.lt_of_le_of_ne h (λe=>hz e.symm)) hay;grind
 have c2:q - P<=P / 18014398509481984:=by
  rcases (Rat.le_total:q - P - P / 18014398509481984<=0\/0<=q - P - P / 18014398509481984)with h | h
  ·grind
  ·by_cases hz:q - P - P / 18014398509481984=0
   ·grind
   ·have:=Rat.mul_pos (Rat.lt_of_le_of_ne h (λe=>hz e.symm)) hay;grind
 constructor <;> grind
@[irreducible] def Gq:Nat:=2200
theorem J2:Gq=2200:=by unfold Gq; rfl
theorem SL {P B:Rat} (h:0<P) (hB:P<=B):Bd P B/\Bd (-P) B:=by unfold Bd; grind
theorem nt {n:Nat}:∀(todo root:Nat),root*root<=n->n<(root+2 ^ todo)*(root+2 ^ todo)->Datum.rootFrom n todo root*Datum.rootFrom n todo root<=n/\n<(Datum.rootFrom n todo root+1)*(Datum.rootFrom n todo root+1)
 | 0,root,h1,h2=>⟨h1,h2⟩
 | todo+1,root,h1,h2=>by
  unfold Datum.rootFrom;rw[Nat.shiftLeft_eq,abD];dsimp only;by_cases h:(root+2 ^ todo)*(root+2 ^ todo)<=n
  ·rw[if_pos h];refine nt todo _ h ?_;have:root+2 ^ todo+2 ^ todo=root+2 ^ (todo+1):=by rw[aaj]; omega
   rw[this]; exact h2
  ·rw[if_neg h];exact nt todo _ h1 (by omega)
theorem IR (n:Nat):Datum.rootFrom n (n.log2 / 2+1) 0*Datum.rootFrom n (n.log2 / 2+1) 0<=n/\n<(Datum.rootFrom n (n.log2 / 2+1) 0+1)*(Datum.rootFrom n (n.log2 / 2+1) 0+1):=by refine nt _ 0 (by omega) ?_;rw[aay,<- aal];have:n<2 ^ (n.log2+1):=Nat.lt_log2_self;exact aar this (aan (by decide) (by omega))
theorem DS {n w:Nat} (h1:w*w<=n) (h2:n<(w+1)*(w+1)):∃ D,2*w+(w*w != n).toNat=D/\D*D<=4*n+2*D/\4*n<=D*D+2*D/\2*w<=D/\D<=2*w+1:=by
 refine⟨_,rfl,?_⟩;have e:(w+1)*(w+1)=w*w+2*w+1:=by grind
 rw[e]at h2;by_cases h:w*w=n
 ·have hb:(w*w != n)=false:=by rw[h]; exact bne_self_eq_false n
  rw[hb];have e2:(2*w+false.toNat)*(2*w+false.toNat)=4*(w*w):=by show(2*w+0)*(2*w+0)=_; grind
  rw[e2];refine⟨by omega,by omega,abP _ _,by show 2*w+0<=_; omega⟩
 ·have hb:(w*w != n)=true:=by rw[bne_iff_ne]; exact h
  rw[hb];have e2:(2*w+true.toNat)*(2*w+true.toNat)=4*(w*w)+4*w+1:=by show(2*w+1)*(2*w+1)=_; grind
  rw[e2];show 4*(w*w)+4*w+1<=4*n+2*(2*w+1)/\4*n<=4*(w*w)+4*w+1+2*(2*w+1)/\2*w<=2*w+1/\2*w+1<=2*w+1;omega
theorem SN {D4 n4 D W:Rat} (hW:0<=W) (h1:D4<=n4+D) (h2:n4<=D4+D) (hD:D*18014398509481984<=D4):Bd (D4*W - n4*W) (D4*W / 18014398509481984):=by have a1:=Rat.mul_nonneg (by grind:0<=n4+D - D4) hW;have a2:=Rat.mul_nonneg (by grind:0<=D4+D - n4) hW;have a3:=Rat.mul_nonneg (by grind:0<=D4 - D*18014398509481984) hW;constructor <;> grind
theorem SO {y P x:Rat} (hP:0<P) (h1:Bd (y - P) (uu*P)) (h2:Bd (P*P - x) (P*P / 18014398509481984)):0<y/\Bd (y*y - x) (3*uu*x):=by
 obtain⟨a1,a2⟩:=h1;obtain⟨b1,b2⟩:=h2;have hy:0<y:=by grind
 refine⟨hy,?_⟩;have hPP:=Rat.mul_pos hP hP;have c1:=Rat.mul_nonneg (by grind:0<=P+uu*P - y) (by grind:0<=y);have c2:=Rat.mul_nonneg (by grind:0<=P+uu*P - y) (by grind:0<=P);have c3:=Rat.mul_nonneg (by grind:0<=y - P+uu*P) (by grind:0<=y);have c4:=Rat.mul_nonneg (by grind:0<=y - P+uu*P) (by grind:0<=P);constructor <;> grind
theorem SP (f d b u v:Rat):f*d*b*u*v=f*(d*u)*(b*v):=by grind
theorem I8 {x:Fl} (hx:aG x=true) (h0:0<rv x):aG (aW x)=true/\0<rv (aW x)/\Bd (rv (aW x)*rv (aW x) - rv x) (3*uu*rv x):=by
 obtain⟨c,s,m,i,rfl,rc⟩:=jD hx;have gi:=zb rc;obtain⟨hi2,hmb⟩:=mB rc;have hcx:=FU rc;rw[nk]at hcx;have hm:m ≠ 0:=by intro hc;rw[FU rc,hc,Eb]at h0;rw[show(((0:Int):Rat))*Ue Sp=0 from Rat.zero_mul _]at h0;exact absurd h0 (by decide)
 have hs:s=false:=by
  cases s
  ·rfl
  ·rw[hcx,if_pos rfl,Rat.neg_mul]at h0;have:=Rat.mul_nonneg (Rat.natCast_nonneg:(0:Rat)<=((m*2 ^ (i+1074).toNat:Nat):Rat)) (Rat.le_of_lt (uT Sp));generalize ((m*2 ^ (i+1074).toNat:Nat):Rat)*Ue Sp=q at *;grind
 subst hs;rw[if_neg (by decide)]at hcx;have hml:m.log2<=52:=by have:=(Nat.log2_lt hm).2 (by simpa using hmb:m<2 ^ 53); omega
 have e0:aW (some c)=((Datum.number false m i).root 54).map Ieee.double.write:=by show((Ieee.double.read c).root (Ieee.double.fractionBits+2)).map Ieee.double.write=_;rw[rc]; rfl
 rw[e0];simp only[Datum.root,if_neg hm,aaX,aaG];generalize hmore:2*54 - m.log2+((i - ((2*54 - m.log2:Nat):Int))%2).toNat=more;have hm1:108<=m.log2+more/\more<=109:=by omega
 obtain⟨r1,r2⟩:=IR (m <<< more);generalize Datum.rootFrom (m <<< more) ((m <<< more).log2 / 2+1) 0=w at r1 r2;obtain⟨D,hD,d1,d2,d3,d4⟩:=DS r1 r2;rw[hD,abz,uK];rw[Nat.shiftLeft_eq]at *;have hn1:324518553658426726783156020576256<=m*2 ^ more:=by
  have h1:=aaa (2 ^ more) (Nat.log2_self_le hm);rw[<- aal]at h1;have h2:2 ^ 108<=2 ^ (m.log2+more):=aan (by decide) hm1.1;have h3:(2:Nat) ^ 108=324518553658426726783156020576256:=by decide
  omega
 have hn2:m*2 ^ more<2 ^ 164:=by have h1:m*2 ^ more<2 ^ 53*2 ^ more:=aaQ (by simpa using hmb) (aam _);rw[<- aal]at h1;exact aar h1 (aan (by decide) (by omega))
 have hw1:18014398509481984<=w:=by
  rcases aa0 w 18014398509481984 with h | h
  ·have:(w+1)*(w+1)<=18014398509481984*18014398509481984:=aaV (by omega) (by omega);omega
  ·exact h
 have hw2:w<2 ^ 82:=by
  rcases aa0 w (2 ^ 82)with h | h
  ·exact h
  ·have h1:2 ^ 82*2 ^ 82<=w*w:=aaV h h;rw[<- aal]at h1;omega
 have hD0:D ≠ 0:=by omega
 have hDl:D.log2<=84:=by
  have h1:D<2 ^ 85:=by
   have:(2:Nat) ^ 85=8*2 ^ 82:=by rw[<- aal 2 3 82]
   omega
  have:=(Nat.log2_lt hD0).2 h1;omega
 generalize hp:(i - (more:Int)) / 2 - 1=p;have hp2:i=2*p+2+more:=by omega
 obtain⟨n1,n2⟩:=LO false hD0 (i:=p) (by omega) (E:=Gq) (by rw[J2]; decide) (by rw[J2]; omega);have hG:=J2;generalize Gq=G at *;rw[nk,if_neg (by decide),if_pos (by omega)]at n2;have hP:0<((D*2 ^ (p+(G:Int)).toNat:Nat):Rat)*Ue G:=Rat.mul_pos (Rat.natCast_pos.2 (ab8 (ach hD0) (aam _))) (uT _);have n3:=n2 _ (SL hP Rat.le_refl).1;rw[Rat.add_zero]at n3;have hsq:Bd (((D*2 ^ (p+(G:Int)).toNat:Nat):Rat)*Ue G*(((D*2 ^ (p+(G:Int)).toNat:Nat):Rat)*Ue G) - rv (some c)) (((D*2 ^ (p+(G:Int)).toNat:Nat):Rat)*Ue G*(((D*2 ^ (p+(G:Int)).toNat:Nat):Rat)*Ue G) / 18014398509481984):=by
  have e1:((D*2 ^ (p+(G:Int)).toNat:Nat):Rat)*Ue G*(((D*2 ^ (p+(G:Int)).toNat:Nat):Rat)*Ue G)=((D*D:Nat):Rat)*(((2 ^ ((p+(G:Int)).toNat+(p+(G:Int)).toNat):Nat):Rat)*Ue (G+G)):=by rw[aal,EH,Rat.natCast_mul,Rat.natCast_mul,Rat.natCast_mul];generalize ((2 ^ (p+(G:Int)).toNat:Nat):Rat)=a;generalize Ue G=b;generalize (D:Rat)=d;grind
  have e2:rv (some c)=((4*(m*2 ^ more):Nat):Rat)*(((2 ^ ((p+(G:Int)).toNat+(p+(G:Int)).toNat):Nat):Rat)*Ue (G+G)):=by
   rw[hcx];have h1:m*2 ^ (i+1074).toNat*2 ^ (G+G)=4*(m*2 ^ more)*2 ^ ((p+(G:Int)).toNat+(p+(G:Int)).toNat)*2 ^ Sp:=by
    have hSp:=OP;have ex:(i+1074).toNat+(G+G)=2+more+((p+(G:Int)).toNat+(p+(G:Int)).toNat)+Sp:=by omega
    rw[aah,<- aal,ex,aal 2 _ Sp,aal 2 (2+more),aal 2 2];generalize 2 ^ ((p+(G:Int)).toNat+(p+(G:Int)).toNat)=a;generalize 2 ^ more=b;generalize 2 ^ Sp=d;have e4:(2:Nat) ^ 2=4:=rfl;rw[e4];ac_rfl
   generalize ((p+(G:Int)).toNat+(p+(G:Int)).toNat)=q at *;generalize hXX:m*2 ^ (i+1074).toNat=X at *;have h2:(X:Rat)*((2 ^ (G+G):Nat):Rat)=((4*(m*2 ^ more):Nat):Rat)*((2 ^ q:Nat):Rat)*((2 ^ Sp:Nat):Rat):=by rw[<- Rat.natCast_mul,<- Rat.natCast_mul,<- Rat.natCast_mul,h1]
   have h3:((2 ^ (G+G):Nat):Rat)*Ue (G+G)=1:=by rw[Rat.natCast_pow]; exact p7 _
   have h4:((2 ^ Sp:Nat):Rat)*Ue Sp=1:=by rw[Rat.natCast_pow]; exact p7 _
   generalize ((2 ^ (G+G):Nat):Rat)=a at *;generalize ((2 ^ Sp:Nat):Rat)=b at *;generalize ((2 ^ q:Nat):Rat)=d at *;generalize ((4*(m*2 ^ more):Nat):Rat)=f at *;generalize Ue (G+G)=u at *;generalize Ue Sp=v at *;have:(X:Rat)*v=(X:Rat)*a*u*v:=by rw[Rat.mul_assoc (X:Rat) a u,h3,Rat.mul_one]
   rw[this,h2];rw[SP,h4,Rat.mul_one]
  rw[e1,e2];have hW:(0:Rat)<=((2 ^ ((p+(G:Int)).toNat+(p+(G:Int)).toNat):Nat):Rat)*Ue (G+G):=Rat.mul_nonneg Rat.natCast_nonneg (Rat.le_of_lt (uT _));generalize ((2 ^ ((p+(G:Int)).toNat+(p+(G:Int)).toNat):Nat):Rat)*Ue (G+G)=W at *;refine SN hW (D:=((2*D:Nat):Rat)) ?_ ?_ ?_
  ·rw[<- Rat.natCast_add]; exact Rat.natCast_le_natCast.2 d1
  ·rw[<- Rat.natCast_add]; exact Rat.natCast_le_natCast.2 d2
  ·have:((2*D*18014398509481984:Nat):Rat)=((2*D:Nat):Rat)*18014398509481984:=by rw[Rat.natCast_mul]; rfl
   rw[<- this];refine Rat.natCast_le_natCast.2 ?_;have h5:D*36028797018963968<=D*D:=aae _ (by omega);have h6:∀ x:Nat,2*x*18014398509481984=x*36028797018963968:=λx=>by omega
   rw[h6]; exact h5
 exact⟨n1,SO hP n3 hsq⟩
end Go.Proofs.YtdinakfmablagaaGreatDoor
end
