/- Laws in plain Lean. Conditions: none. -/
import Derived.Test.YtdinakfmablagaaGreatDoorFlA
import Derived.Test.YtdinakfmablagaaGreatDoorK1
set_option linter.defProp false
set_option linter.unusedVariables false
section
namespace Go.Proofs.YtdinakfmablagaaGreatDoor
open Go Go.Mach Ieee
def Nz (r:Nat):Nat:=if r<4503599627370496 then r else(4503599627370496+r%4503599627370496)*2 ^ (r / 4503599627370496 - 1)
def Io (s:Bool) {r:Nat} (h:r<9218868437227405312):∃ m i,Ieee.double.read (Ieee.double.word s r)=.number s m i /\ -1074<=i/\m*2 ^ (i+1074).toNat=Nz r:=by
 have hw:Ieee.double.word s r%9223372036854775808=r:=by unfold Format.word; rw[dj]; cases s <;> simp <;> omega
 have hs:(Ieee.double.word s r / 9223372036854775808%2==1)=s:=by
  unfold Format.word; rw[dj];cases s
  ·simp; omega
  ·have:(9223372036854775808+r) / 9223372036854775808=1:=by omega
   simp[this]
 unfold Format.read Nz;simp only[dj,kt,fF,jr,hw,hs];split
 ·refine⟨_,_,rfl,by omega,?_⟩;show r*2 ^ 0=r;omega
 ·refine⟨_,_,rfl,by omega,?_⟩;congr 2;omega
def Is (p kept:Nat) (h1:kept<=9007199254740992) (h2:p=0\/4503599627370496<=kept):Nz (p*4503599627370496+kept)=kept*2 ^ p:=by
 unfold Nz;by_cases hp:p=0
 ·subst hp;rw[aaq,Zx,aaR,aaT];split
  ·rfl
  ·by_cases hk:kept=9007199254740992
   ·subst hk; decide
   ·have e1:kept / 4503599627370496=1:=by omega
    rw[e1,ZF,aaR]; omega
 ·have hk:=h2.resolve_left hp;rw[if_neg (by omega)];by_cases he:kept=9007199254740992
  ·subst he;have e1:(p*4503599627370496+9007199254740992)%4503599627370496=0:=by omega
   have e2:(p*4503599627370496+9007199254740992) / 4503599627370496 - 1=p+1:=by omega
   generalize (p*4503599627370496+9007199254740992)%4503599627370496=a at e1 ⊢;generalize (p*4503599627370496+9007199254740992) / 4503599627370496 - 1=b at e2 ⊢;have e3:2 ^ b=2 ^ p*2:=by rw[e2,Zh]
   subst e1;rw[e3];generalize 2 ^ p=y;omega
  ·have e1:(p*4503599627370496+kept)%4503599627370496=kept - 4503599627370496:=by omega
   have e2:(p*4503599627370496+kept) / 4503599627370496 - 1=p:=by omega
   rw[e2];exact acf (λz=>z*2 ^ p) (by rw[e1]; omega)
def J4 (s:Bool) (n d:Nat) (hd:1<=d):2*(Toward.even.cut s n d*2 ^ d)<=2*n+2 ^ d/\2*n<=2*(Toward.even.cut s n d*2 ^ d)+2 ^ d:=by
 unfold Toward.cut;dsimp only;have h2:n<2 ^ (n.log2+1):=Nat.lt_log2_self;have hg:∀ g low rest:Nat,0<g->n=g*low+rest->rest<g -> ∀ b:Bool,(b=true->g<=2*rest)->(b=false->2*rest<=g)->2*((low+b.toNat)*g)<=2*n+g/\2*n<=2*((low+b.toNat)*g)+g:=by
  intro g low rest hg hn hr b h1 h2;have e:(low+b.toNat)*g=g*low+b.toNat*g:=by rw[Zw,Y_ low g]
  rw[e];cases b
  ·have:=h2 rfl;simp only[Bool.toNat_false,aaq]; omega
  ·have:=h1 rfl;simp only[Bool.toNat_true,aaC]; omega
 by_cases h:d<=n.log2+2
 ·rw[aal h,Nat.shiftLeft_eq,aaC];refine hg (2 ^ d) _ _ (Zj d) (ZW n (2 ^ d)).symm (Zm _ (Zj d)) _ (λhb=>?_) (λhb=>?_)
  ·simp only[ab3,aa0,Zz,aaI]at hb;rcases hb with h | h <;> omega
  ·simp only[Bool.or_eq_false_iff,aaZ]at hb;omega
 ·rw[Nat.min_eq_right (by omega),Nat.shiftLeft_eq,aaC];have hlt:n<2 ^ (n.log2+2):=aaL h2 (Nat.pow_lt_pow_right (by decide) (by omega));have e1:n / 2 ^ (n.log2+2)=0:=ZA hlt;have e2:n%2 ^ (n.log2+2)=n:=Zg hlt;have e3:2 ^ (n.log2+2)=2*2 ^ (n.log2+1):=by rw[Zh]; omega
  rw[e1,e2];have hb:(decide (2 ^ (n.log2+2)<2*n)||(2 ^ (n.log2+2)==2*n&&0%2==1))=false:=by simp only[Bool.or_eq_false_iff,aaZ,Bool.and_eq_false_iff];exact⟨by omega,.inr rfl⟩
  rw[hb];simp only[Bool.toNat_false,ZD,aaq,aar,Zx];have:2 ^ (n.log2+2)<=2 ^ d:=Zl (by decide) (by omega);omega
def Bv (s:Bool) {m:Nat} (h0:m ≠ 0) {i:Int} (hb:i+m.log2<=1000\/aL (some (Ieee.double.nearest s m i))=true):∃ m' i' V,Ieee.double.read (Ieee.double.nearest s m i)=.number s m' i'/\m'*2 ^ (i'+1074).toNat=V /\
  ∀ E:Nat,1074<=E->0<=i+E->9007199254740992*(V*2 ^ (E - 1074))<=9007199254740992*(m*2 ^ (i+E).toNat)+(m*2 ^ (i+E).toNat+if -1074<=i then 0 else 4503599627370496*2 ^ (E - 1074)) /\
   9007199254740992*(m*2 ^ (i+E).toNat)<=9007199254740992*(V*2 ^ (E - 1074))+(m*2 ^ (i+E).toNat+if -1074<=i then 0 else 4503599627370496*2 ^ (E - 1074)):=by
 unfold Format.nearest;rw[if_neg h0,jr,kt,fF];have hf:Ieee.double.fractionBits=52:=rfl;rw[hf];generalize hL:max (i+(m.log2:Int) - ((52:Nat):Int)) (-1074)=L;have hL1 : -1074<=L:=by omega
 have hlg:=Nat.log2_self_le h0;have hlg2:m<2 ^ (m.log2+1):=Nat.lt_log2_self;have key:∃ kept,Toward.even.cut s (m <<< (i - L).toNat) (L - i).toNat=kept/\kept<=9007199254740992/\((L+1074).toNat=0\/4503599627370496<=kept) /\
   ∀ E:Nat,1074<=E->0<=i+E->9007199254740992*(kept*2 ^ (L+1074).toNat*2 ^ (E - 1074))<=9007199254740992*(m*2 ^ (i+E).toNat)+(m*2 ^ (i+E).toNat+if -1074<=i then 0 else 4503599627370496*2 ^ (E - 1074)) /\
    9007199254740992*(m*2 ^ (i+E).toNat)<=9007199254740992*(kept*2 ^ (L+1074).toNat*2 ^ (E - 1074))+(m*2 ^ (i+E).toNat+if -1074<=i then 0 else 4503599627370496*2 ^ (E - 1074)):=by
  refine⟨_,rfl,?_,?_,?_⟩
  ·have h1:m <<< (i - L).toNat ≠ 0:=by rw[Nat.shiftLeft_eq];exact abF h0 (Nat.pos_iff_ne_zero.1 (Zj _))
   refine Zs (QF s _ _ h1) ?_;have h2:(m <<< (i - L).toNat).log2+1 - (L - i).toNat<=53:=by rw[KZ h0]; omega
   exact Zs (Zl (by decide) h2) (by decide)
  ·by_cases hz:(L+1074).toNat=0
   ·exact .inl hz
   ·right;have hL2:L=i+(m.log2:Int) - 52:=by omega
    by_cases hl:52<=m.log2
    ·have e1:(i - L).toNat=0:=by omega
     have e2:(L - i).toNat=m.log2 - 52:=by omega
     rw[e1,e2,Nat.shiftLeft_zero];refine Zs ?_ (J3 s m (m.log2 - 52) (by omega));rw[Nat.shiftLeft_eq,aaC,aaF (Zj _)];have:4503599627370496*2 ^ (m.log2 - 52)=2 ^ m.log2:=by rw[show(4503599627370496:Nat)=2 ^ 52 by decide,<- Zk,show 52+(m.log2 - 52)=m.log2 by omega]
     omega
    ·have e1:(i - L).toNat=52 - m.log2:=by omega
     have e2:(L - i).toNat=0:=by omega
     rw[e1,e2];refine Zs ?_ (J3 s _ 0 (by omega));rw[Nat.shiftLeft_eq,Nat.shiftLeft_zero,aaU];have:4503599627370496=2 ^ m.log2*2 ^ (52 - m.log2):=by rw[<- Zk,show m.log2+(52 - m.log2)=52 by omega]
     rw[this];exact Y9 _ hlg
  ·intro E hE hiE;by_cases hLi:L<=i
   ·have e1:(L - i).toNat=0:=by omega
    rw[e1,J5,Nat.shiftLeft_eq,Zf,Zf,<- Zk,<- Zk,show(i - L).toNat+((L+1074).toNat+(E - 1074))=(i+E).toNat by omega];exact⟨aaX _ _,aaX _ _⟩
   ·have e1:(i - L).toNat=0:=by omega
    rw[e1,Nat.shiftLeft_zero];obtain⟨c1,c2⟩:=J4 s m (L - i).toNat (by omega);generalize Toward.even.cut s m (L - i).toNat=kept at c1 c2;have e2:kept*2 ^ (L+1074).toNat*2 ^ (E - 1074)=kept*2 ^ (L - i).toNat*2 ^ (i+E).toNat:=by
     have ee:(L+1074).toNat+(E - 1074)=(L - i).toNat+(i+E).toNat:=by omega
     rw[Zf,Zf,<- Zk,<- Zk,ee]
    rw[e2];have e3:4503599627370496*(2 ^ (L - i).toNat*2 ^ (i+E).toNat)<=m*2 ^ (i+E).toNat+if -1074<=i then 0 else 4503599627370496*2 ^ (E - 1074):=by
     rw[<- Zk];by_cases hz:L = -1074
     ·rw[if_neg (by omega),show(L - i).toNat+(i+E).toNat=E - 1074 by omega];exact Nat.le_add_left _ _
     ·have:4503599627370496*2 ^ ((L - i).toNat+(i+E).toNat)=2 ^ m.log2*2 ^ (i+E).toNat:=by
       have ee:52+((L - i).toNat+(i+E).toNat)=m.log2+(i+E).toNat:=by omega
       rw[show(4503599627370496:Nat)=2 ^ 52 by decide,<- Zk,<- Zk,ee]
      rw[this];exact Zs (Y9 _ hlg) (aaX _ _)
    generalize 2 ^ (i+E).toNat=P at e3 ⊢;generalize (if -1074<=i then 0 else 4503599627370496*2 ^ (E - 1074))=z at e3 ⊢;generalize kept*2 ^ (L - i).toNat=K at c1 c2 ⊢;generalize 2 ^ (L - i).toNat=D at c1 c2 e3;have c3:2*(K*P)<=2*(m*P)+D*P:=by
     have:=Y9 P c1
     rwa [Zw,Zf,Zf]at this
    have c4:2*(m*P)<=2*(K*P)+D*P:=by
     have:=Y9 P c2
     rwa [Zw,Zf,Zf]at this
    generalize K*P=x at c3 c4 ⊢;generalize D*P=y at c3 c4 e3;generalize m*P=w at c3 c4 e3 ⊢;omega
 obtain⟨kept,hk,k1,k2,k3⟩:=key;simp only[hk];have hr:(L - -1074).toNat*4503599627370496+kept<9218868437227405312:=by
  rcases hb with hb | hb
  ·omega
  ·unfold Format.nearest at hb;rw[if_neg h0,jr,kt,fF,hf,hL]at hb;simp only[hk]at hb;by_cases hc:(L - -1074).toNat*4503599627370496+kept<9218868437227405312
   ·exact hc
   ·rw[Nat.min_eq_right (by omega)]at hb;cases s
    ·exact absurd hb (by decide)
    ·exact absurd hb (by decide)
 rw[aal (by omega)];obtain⟨m',i',h1,h2,h3⟩:=Io s hr;refine⟨m',i',kept*2 ^ (L+1074).toNat,h1,?_,k3⟩;rw[h3,show(L - -1074).toNat=(L+1074).toNat by omega];exact Is _ _ k1 k2
def Lf (a b:Nat):(2:Rat) ^ (a+b)=2 ^ a*2 ^ b:=by
 induction b with
 | zero=>rw[ZD,Rat.pow_zero,Rat.mul_one]
 | succ n ih=>rw[<- ZK,Rat.pow_succ,Rat.pow_succ,ih,Rat.mul_assoc]
def Bd (d e:Rat):Prop:=-e<=d/\d<=e
abbrev uu:Rat:=1 / 9007199254740992
def SU {B x U P:Rat} (h:P*U=1) (h2:0<=(B - x*U)*P):x<=B*P:=by
 have:x*U*P=x:=by rw[Rat.mul_assoc,Rat.mul_comm U P,h,Rat.mul_one]
 grind
def R5 {v x w A:Rat} (g1:0<=9007199254740992*x+(x+9007199254740992*w) - 9007199254740992*v) (g2:0<=9007199254740992*v+(x+9007199254740992*w) - 9007199254740992*x) (a:x<=A):Bd (v - x) (uu*A+w)/\Bd (-v - -x) (uu*A+w):=by unfold Bd; grind
def SV {V P z X U v:Rat} (h:9007199254740992*(V*P)<=9007199254740992*X+(X+z)) (hU:0<=U) (e:V*P*U=v):0<=9007199254740992*(X*U)+(X*U+z*U) - 9007199254740992*v:=by have:=Rat.mul_nonneg (by grind:(0:Rat)<=9007199254740992*X+(X+z) - 9007199254740992*(V*P)) hU;rw[<- e]; grind
def SW {V P z X U v:Rat} (h:9007199254740992*X<=9007199254740992*(V*P)+(X+z)) (hU:0<=U) (e:V*P*U=v):0<=9007199254740992*v+(X*U+z*U) - 9007199254740992*(X*U):=by have:=Rat.mul_nonneg (by grind:(0:Rat)<=9007199254740992*(V*P)+(X+z) - 9007199254740992*X) hU;rw[<- e]; grind
def SX {P U S e:Rat} (h:P*U=1) (h2:e*2=S):4503599627370496*P*(S*U)=9007199254740992*e:=by
 have:P*(S*U)=S*(P*U):=by grind
 grind
def R6 {x A:Rat} (h:Bd (-x) A):x<=A:=by have:=h.1; grind
def Og (V F:Nat):((9007199254740992*(V*2 ^ F):Nat):Rat)=(9007199254740992:Rat)*((V:Rat)*2 ^ F):=by rw[Rat.natCast_mul,Rat.natCast_mul,Rat.natCast_pow]; rfl
def R7 (X z:Nat):((9007199254740992*X+(X+z):Nat):Rat)=(9007199254740992:Rat)*X+(X+z):=by rw[Rat.natCast_add,Rat.natCast_add,Rat.natCast_mul]; rfl
def R8 (X:Nat):((9007199254740992*X:Nat):Rat)=(9007199254740992:Rat)*X:=by rw[Rat.natCast_mul]; rfl
def R9 (Y X z:Nat):((9007199254740992*Y+(X+z):Nat):Rat)=((9007199254740992*Y:Nat):Rat)+(X+z):=by rw[Rat.natCast_add,Rat.natCast_add]
def R_ (F:Nat):((4503599627370496*2 ^ F:Nat):Rat)=(4503599627370496:Rat)*2 ^ F:=by rw[Rat.natCast_mul,Rat.natCast_pow]; rfl
@[irreducible] def Ue (E:Nat):Rat:=1 / 2 ^ E
def xi (E:Nat):(0:Rat)<2 ^ E:=by
 induction E with
 | zero=>decide
 | succ n ih=>rw[Rat.pow_succ]; exact Rat.mul_pos ih (by decide)
def sD (E:Nat):(2:Rat) ^ E*Ue E=1:=by unfold Ue;have:=xi E;grind
def AX (E:Nat):0<Ue E:=by
 have h1:=sD E;have h2:=xi E;rcases (Rat.le_total:Ue E<=0\/0<=Ue E)with h | h
 ·have:=Rat.mul_nonneg (by grind:0 <= -(Ue E)) (by grind:(0:Rat)<=2 ^ E);grind
 ·by_cases h0:Ue E=0
  ·rw[h0,Rat.mul_zero]at h1; exact absurd h1 (by decide)
  ·exact Rat.lt_of_le_of_ne h (λe=>h0 e.symm)
def JI (a b:Nat):Ue (a+b)=Ue a*Ue b:=by
 have h1:=sD a;have h2:=sD b;have h3:=sD (a+b);have h4:(2:Rat) ^ (a+b)=2 ^ a*2 ^ b:=by grind
 have h5:(2:Rat) ^ (a+b)*(Ue a*Ue b)=1:=by rw[h4]; grind
 have h6:(2:Rat) ^ (a+b) ≠ 0:=by have:=xi (a+b); grind
 grind
@[irreducible] def Sp:Nat:=1074
def Ob:Sp=1074:=by unfold Sp; rfl
def rv (x:Fl):Rat:=(vl x:Rat)*Ue Sp
def eta:Rat:=Ue (Sp+1)
@[irreducible] def Bg:Rat:=2 ^ 900
def qQ (s:Bool) (m k:Nat):((signed s m k:Int):Rat)=if s=true then -((m*2 ^ k:Nat):Rat)else((m*2 ^ k:Nat):Rat):=by
 unfold signed;rw[Nat.shiftLeft_eq];cases s
 ·simp only[ZU,ZE,Rat.intCast_natCast]
 ·simp only[aaD,Rat.intCast_neg,Rat.intCast_natCast]
def Ii {s:Bool} {m:Nat} {i:Int} (hm:m ≠ 0) {E:Nat} (hi:0<=i+E) (h:Bd (((signed s m (i+E).toNat:Int):Rat)*Ue E) Bg):i+m.log2<=900:=by
 have h0:((m*2 ^ (i+E).toNat:Nat):Rat)*Ue E<=Bg:=by
  rw[qQ]at h;obtain⟨h1,h2⟩:=h;cases s
  ·simpa using h2
  ·rw[if_pos rfl,Rat.neg_mul]at h1 h2;exact R6 ⟨h1,h2⟩
 have h1:((m*2 ^ (i+E).toNat:Nat):Rat)<=2 ^ (900+E):=by
  have e1:=sD E;have e2:=xi E;have e3:=Rat.mul_nonneg ((Rat.le_iff_sub_nonneg _ _).1 h0) (Rat.le_of_lt e2);have e4:(2:Rat) ^ (900+E)=Bg*2 ^ E:=by rw[Lf]; unfold Bg; rfl
  rw[e4];exact SU e1 e3
 have h2:m*2 ^ (i+E).toNat<=2 ^ (900+E):=by
  have e:((2 ^ (900+E):Nat):Rat)=2 ^ (900+E):=by rw[Rat.natCast_pow]; rfl
  rw[<- e]at h1;exact Rat.natCast_le_natCast.1 h1
 have h3:2 ^ (m.log2+(i+E).toNat)<=2 ^ (900+E):=by rw[Zk];exact Zs (Y9 _ (Nat.log2_self_le hm)) h2
 have h4:=(Nat.pow_le_pow_iff_right (by decide:1<2)).1 h3;omega
def Ig (s:Bool) {m:Nat} (hm:m ≠ 0) {i:Int} (hb:i+m.log2<=1000\/aL (some (Ieee.double.nearest s m i))=true) {E:Nat} (hE:1074<=E) (hi:0<=i+E) :
  aL (some (Ieee.double.nearest s m i))=true /\ ∀ A,Bd (((signed s m (i+E).toNat:Int):Rat)*Ue E) A->Bd (rv (some (Ieee.double.nearest s m i)) - ((signed s m (i+E).toNat:Int):Rat)*Ue E) (uu*A+if -1074<=i then 0 else eta):=by
 obtain⟨m',i',V,h1,h2,h3⟩:=Bv s hm hb;refine⟨A7 h1,λA hA=>?_⟩;obtain⟨g1,g2⟩:=h3 E hE hi;unfold rv;rw[Mi h1,qQ,h2];rw[qQ]at hA ⊢;generalize m*2 ^ (i+E).toNat=X at *;have c1:=Rat.natCast_le_natCast.2 g1;have c2:=Rat.natCast_le_natCast.2 g2;have eE:E=1074+(E - 1074):=by omega
 have u1:=sD (E - 1074);have u2:Ue E=Ue Sp*Ue (E - 1074):=by rw[Ob,<- JI,<- eE]
 have u3:=AX E;have u4:eta*2=Ue Sp:=by unfold eta;rw[JI,Rat.mul_assoc,Rat.mul_comm (Ue 1)];have:(2:Rat)*Ue 1=1:=sD 1;rw[this,Rat.mul_one]
 have u5:=AX Sp;generalize E - 1074=F at *;generalize hz:(if -1074<=i then 0 else 4503599627370496*2 ^ F:Nat)=z at *;have hzr:(z:Rat)*Ue E=9007199254740992*(if -1074<=i then 0 else eta):=by
  rw[<- hz];by_cases hc : -1074<=i
  ·rw[if_pos hc,if_pos hc,Rat.mul_zero]; exact Rat.zero_mul _
  ·rw[if_neg hc,if_neg hc,u2,R_];exact SX u1 u4
 generalize (if -1074<=i then(0:Rat)else eta)=w at *;rw[Og,R7]at c1;rw[R8,R9,Og]at c2;have ev:(V:Rat)*2 ^ F*Ue E=V*Ue Sp:=by rw[u2,Rat.mul_comm (Ue Sp),<- Rat.mul_assoc,Rat.mul_assoc (V:Rat),u1,Rat.mul_one]
 have f1:=SV c1 (Rat.le_of_lt u3) ev;have f2:=SW c2 (Rat.le_of_lt u3) ev;rw[hzr]at f1 f2;cases s
 ·rw[if_neg (by decide)]at hA ⊢;rw[if_neg (by decide)];exact(R5 f1 f2 hA.2).1
 ·rw[if_pos rfl]at hA ⊢;rw[if_pos rfl,Rat.neg_mul,Rat.neg_mul];rw[Rat.neg_mul]at hA;exact(R5 f1 f2 (R6 hA)).2
def BF {b:Nat} {s:Bool} {m:Nat} {i:Int} (h:Ieee.double.read b=.number s m i):rv (some b)=((signed s m (i+1074).toNat:Int):Rat)*Ue Sp:=by unfold rv; rw[Mi h]
def Ll (s:Bool):aL (some (Ieee.double.word s 0))=true/\rv (some (Ieee.double.word s 0))=0:=by have h:=Fv s;exact⟨A7 h,by rw[BF h,nd]; exact Rat.zero_mul _⟩
def Bd.nonneg {d e:Rat} (h:Bd d e):0<=e:=by obtain⟨h1,h2⟩:=h; grind
def Mk {e:Rat} (h:0<=e):Bd (0 - 0) e:=by unfold Bd; grind
def IF {s t:Bool} {m n:Nat} {i j:Int} (hi : -1074<=i) (hj : -1074<=j) {X:Rat} (hX:X=((signed s m (i+1074).toNat+signed t n (j+1074).toNat:Int):Rat)*Ue Sp) (hb:Bd X Bg \/ ∀ w,((Datum.number s m i).sum (.number t n j)).map Ieee.double.write=some w->aL (some w)=true) :
  ∃ w,((Datum.number s m i).sum (.number t n j)).map Ieee.double.write=some w/\aL (some w)=true /\ ∀ A,Bd X A->Bd (rv (some w) - X) (uu*A):=by
 obtain⟨sg,e,hsg⟩:=NU s t m n i j;refine⟨_,e,?_⟩;generalize hT:signed s m (i - min i j).toNat+signed t n (j - min i j).toNat=T at hsg;have hE:T*2 ^ (min i j+((1074:Nat):Int)).toNat=signed s m (i+1074).toNat+signed t n (j+1074).toNat:=by
  rw[<- hT,Int.add_mul,<- yQ,<- yQ];have e1:(i - min i j).toNat+(min i j+((1074:Nat):Int)).toNat=(i+1074).toNat:=by omega
  have e2:(j - min i j).toNat+(min i j+((1074:Nat):Int)).toNat=(j+1074).toNat:=by omega
  rw[e1,e2]
 have hs:signed sg T.natAbs (min i j+((1074:Nat):Int)).toNat=signed s m (i+1074).toNat+signed t n (j+1074).toNat:=by
  rw[<- hE];generalize (min i j+((1074:Nat):Int)).toNat=q;by_cases h0:T=0
  ·subst h0; rw[Int.natAbs_zero,nd,Int.zero_mul]
  ·rw[hsg h0];unfold signed;rw[Nat.shiftLeft_eq];have ec:((T.natAbs*2 ^ q:Nat):Int)=(T.natAbs:Int)*2 ^ q:=by rw[Zp,aab]; rfl
   rw[ec];by_cases hl:T<0
   ·rw[Y5 hl,if_pos rfl,show((T.natAbs:Nat):Int) = -T by omega,abw,Int.neg_neg]
   ·rw[Y6 hl,if_neg (by decide),show((T.natAbs:Nat):Int)=T by omega]
 have ex:((signed sg T.natAbs (min i j+((1074:Nat):Int)).toNat:Int):Rat)*Ue 1074=X:=by rw[hs,hX,Ob]
 by_cases h0:T.natAbs=0
 ·rw[h0,Bw];obtain⟨w1,w2⟩:=Ll sg;have e1:X=0:=by rw[<- ex,h0,nd]; exact Rat.zero_mul _
  refine⟨w1,λA hA=>?_⟩;rw[w2,e1];refine Mk ?_;have:=hA.nonneg;grind
 ·rw[<- ex]at hb;have hg:min i j+T.natAbs.log2<=1000\/aL (some (Ieee.double.nearest sg T.natAbs (min i j)))=true:=hb.imp (λhb=>by have:=Ii h0 (by omega) hb; omega) (λhb=>by have:=hb _ e; rw[hT]at this; exact this);obtain⟨n1,n2⟩:=Ig sg h0 (i:=min i j) hg (E:=1074) (by omega) (by omega);refine⟨n1,λA hA=>?_⟩;rw[<- ex]at hA ⊢;have h3:=n2 A hA;rw[if_pos (by omega)]at h3;obtain⟨a1,a2⟩:=h3;exact⟨by grind,by grind⟩
def rg {x y:Fl} (hx:aL x=true) (hy:aL y=true) (hb:aL (bL x y)=true):aL (bL x y)=true /\ ∀ A,Bd (rv x+rv y) A->Bd (rv (bL x y) - (rv x+rv y)) (uu*A):=by
 obtain⟨c,s,m,i,rfl,rc⟩:=gz hx;obtain⟨d,t,n,j,rfl,rd⟩:=gz hy;have hX:rv (some c)+rv (some d)=((signed s m (i+1074).toNat+signed t n (j+1074).toNat:Int):Rat)*Ue Sp:=by rw[BF rc,BF rd,Rat.intCast_add,Rat.add_mul]
 obtain⟨w,h1,h2,h3⟩:=IF (qA rc) (qA rd) hX (.inr λw hw=>by
  have e0:bL (some c) (some d)=some w:=by show((Ieee.double.read c).sum (Ieee.double.read d)).map Ieee.double.write=_;rw[rc,rd]; exact hw
  rw[e0]at hb; exact hb)
 have e0:bL (some c) (some d)=some w:=by show((Ieee.double.read c).sum (Ieee.double.read d)).map Ieee.double.write=_;rw[rc,rd]; exact h1
 rw[e0];exact⟨h2,h3⟩
end Go.Proofs.YtdinakfmablagaaGreatDoor
end
