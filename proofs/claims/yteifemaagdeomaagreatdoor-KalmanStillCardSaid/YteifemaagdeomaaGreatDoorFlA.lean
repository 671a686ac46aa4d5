/-
  FLOATS, first part: what is written and read again; noughts; one.
  Conditions: none.
-/
import Derived.Test.YteifemaagdeomaaGreatDoorMachT
set_option linter.unusedVariables false
section
namespace Go.Mach
open Ieee
theorem vb:Ieee.double.leastPlace = -1074:=by decide
theorem tB:Ieee.double.binade=4503599627370496:=by decide
theorem gH:Ieee.double.signWeight=9223372036854775808:=by decide
theorem lL:Ieee.double.infRung=9218868437227405312:=by decide
abbrev W64 (b:Nat):Prop:=b<18446744073709551616
theorem IP (s:Bool) (n:Nat):Toward.even.cut s n 0=n:=by simp[Toward.cut,al_]
theorem Lc (s:Bool) (n d:Nat) (hn:0<n):Toward.even.cut s (2*n) (d+1)=Toward.even.cut s n d:=by
 have hl:(2*n).log2=n.log2+1:=Nat.log2_two_mul (by omega);unfold Toward.cut;have hm:min (d+1) ((2*n).log2+2)=min d (n.log2+2)+1:=by rw[hl]; omega
 rw[hm];generalize min d (n.log2+2)=g;have hg:1 <<< (g+1)=2*(1 <<< g):=by rw[Nat.shiftLeft_eq,Nat.shiftLeft_eq,ajK]; omega
 have e1:2*n / (1 <<< (g+1))=n / (1 <<< g):=by rw[hg]; exact Nat.mul_div_mul_left _ _ (by decide)
 have e2:2*n%(1 <<< (g+1))=2*(n%(1 <<< g)):=by rw[hg]; exact ak_ _ _ _
 have e3:∀ q r:Nat,(decide (2*(1 <<< g)<2*(2*r))||(2*(1 <<< g)==2*(2*r)&&q%2==1))=(decide (1 <<< g<2*r)||(1 <<< g==2*r&&q%2==1)):=by intro q r;rw[ak0];simp only[amq,akG,al9,al8];omega
 show 2*n / (1 <<< (g+1))+(decide (1 <<< (g+1)<2*(2*n%(1 <<< (g+1))))||(1 <<< (g+1)==2*(2*n%(1 <<< (g+1)))&&2*n / (1 <<< (g+1))%2==1)).toNat=_;rw[e1,e2,hg,e3]
theorem EH (s:Bool) (m:Nat) (i:Int):Ieee.double.nearest s (2*m) (i - 1)=Ieee.double.nearest s m i:=by
 unfold Format.nearest;by_cases hm:m=0
 ·simp[hm]
 ·rw[if_neg (by omega),if_neg hm];have hl:(2*m).log2=m.log2+1:=Nat.log2_two_mul hm;have hp:i - 1+((2*m).log2:Int)=i+(m.log2:Int):=by rw[hl]; omega
  rw[hp];generalize hL:max (i+(m.log2:Int) - Ieee.double.fractionBits) Ieee.double.leastPlace=L;simp only;have key:Toward.even.cut s ((2*m) <<< (i - 1 - L).toNat) (L - (i - 1)).toNat=Toward.even.cut s (m <<< (i - L).toNat) (L - i).toNat:=by
   by_cases h:i<=L
   ·have e1:(i - 1 - L).toNat=0:=by omega
    have e2:(i - L).toNat=0:=by omega
    have e3:(L - (i - 1)).toNat=(L - i).toNat+1:=by omega
    rw[e1,e2,e3,Nat.shiftLeft_zero,Nat.shiftLeft_zero];exact Lc s m _ (by omega)
   ·have e1:(L - (i - 1)).toNat=0:=by omega
    have e2:(L - i).toNat=0:=by omega
    have e3:(i - L).toNat=(i - 1 - L).toNat+1:=by omega
    rw[e1,e2,e3,Nat.shiftLeft_eq,Nat.shiftLeft_eq,ajK];congr 1;rw[ajB 2 m,ajI,ajB 2]
  rw[key]
theorem ti (s:Bool) (m:Nat) (i:Int):∀ k:Nat,Ieee.double.nearest s (m <<< k) (i - k)=Ieee.double.nearest s m i
 | 0=>by simp
 | k+1=>by
  have e1:m <<< (k+1)=2*(m <<< k):=by rw[Nat.shiftLeft_eq,Nat.shiftLeft_eq,ajK]; rw[ajB 2,ajI]
  have e2:i - ((k+1:Nat):Int)=(i - (k:Int)) - 1:=by omega
  rw[e1,e2,EH,ti s m i k]
theorem jv {b:Nat} {s:Bool} {m:Nat} {i:Int} (h:Ieee.double.read b=.number s m i) :
    (s=(b / 9223372036854775808%2==1))/\b%9223372036854775808<9218868437227405312 /\
    ((b%9223372036854775808<4503599627370496/\m=b%9223372036854775808/\i = -1074) \/
     (4503599627370496<=b%9223372036854775808/\m=4503599627370496+b%9223372036854775808%4503599627370496/\i = -1074+((b%9223372036854775808 / 4503599627370496 - 1:Nat):Int))):=by
  unfold Format.read at h;simp only[gH,tB,lL,vb]at h;split at h
  · cases h
    exact⟨rfl,by omega,.inl ⟨by assumption,rfl,rfl⟩⟩
  · split at h
    · cases h
      exact⟨rfl,by omega,.inr ⟨by omega,rfl,rfl⟩⟩
    · split at h <;> cases h
theorem B8 {b:Nat} (hb:W64 b):Ieee.double.word (b / 9223372036854775808%2==1) (b%9223372036854775808)=b:=by
 unfold Format.word;rw[gH];by_cases h:b / 9223372036854775808%2=1
 ·rw[h]; simp; omega
 ·have:b / 9223372036854775808%2=0:=by omega
  rw[this]; simp; omega
theorem vC {b:Nat} (hb:W64 b) {s:Bool} {m:Nat} {i:Int} (h:Ieee.double.read b=.number s m i):Ieee.double.nearest s m i=b:=by
 obtain⟨rfl,hlt,h⟩:=jv h;unfold Format.nearest;have hf:Ieee.double.fractionBits=52:=rfl;rw[vb,tB,lL,hf];rcases h with⟨h1,rfl,rfl⟩ | ⟨h1,rfl,rfl⟩
 ·by_cases h0:b%9223372036854775808=0
  ·rw[if_pos h0];have:=B8 hb
   rwa [h0]at this
  ·rw[if_neg h0];have hlog:(b%9223372036854775808).log2<52:=(Nat.log2_lt h0).2 (by simpa using h1);have hL:max ((-1074:Int)+((b%9223372036854775808).log2:Int) - (52:Nat)) (-1074) = -1074:=by omega
   simp only[hL];have e0:((-1074:Int) - -1074).toNat=0:=by decide
   rw[e0,Nat.shiftLeft_zero,IP,akW,aj1,akS (by omega)];exact B8 hb
 ·generalize hr:b%9223372036854775808=r at *;have hm:4503599627370496+r%4503599627370496 ≠ 0:=by omega
  rw[if_neg hm];have hlog:(4503599627370496+r%4503599627370496).log2=52:=by rw[Nat.log2_eq_iff hm]; constructor <;> omega
  simp only[hlog];have hL:max ((-1074:Int)+((r / 4503599627370496 - 1:Nat):Int)+((52:Nat):Int) - (52:Nat)) (-1074) = -1074+((r / 4503599627370496 - 1:Nat):Int):=by omega
  rw[hL];have e0:((-1074:Int)+((r / 4503599627370496 - 1:Nat):Int) - (-1074+((r / 4503599627370496 - 1:Nat):Int))).toNat=0:=by omega
  have e1:((-1074:Int)+((r / 4503599627370496 - 1:Nat):Int) - -1074).toNat=r / 4503599627370496 - 1:=by omega
  rw[e0,e1,Nat.shiftLeft_zero,IP];have e2:(r / 4503599627370496 - 1)*4503599627370496+(4503599627370496+r%4503599627370496)=r:=by
   have:=aks r 4503599627370496;have h3:1<=r / 4503599627370496:=by omega
   rw[Nat.sub_mul]; omega
  rw[e2,akS (by omega),<- hr];exact B8 hb
theorem nc (s:Bool) (m:Nat) (i:Int):Ieee.double.write (.number s m i)=Ieee.double.nearest s m i:=rfl
theorem qB (s:Bool) (i:Int):Ieee.double.nearest s 0 i=Ieee.double.word s 0:=by simp[Format.nearest]
theorem qW:Ieee.double.read 0=.number false 0 (-1074):=by decide
theorem lB (s:Bool):Ieee.double.read (Ieee.double.word s 0)=.number s 0 (-1074):=by cases s <;> decide
theorem JX:Ieee.double.read 4607182418800017408=.number false 4503599627370496 (-52):=by decide
theorem xp {b:Nat} {s:Bool} {m:Nat} {i:Int} (h:Ieee.double.read b=.number s m i) : -1074<=i:=by obtain⟨-,-,h⟩:=jv h;omega
theorem sW (s:Bool) (k:Nat):signed s 0 k=0:=by cases s <;> simp[signed]
theorem xJ {s t:Bool} {m:Nat} {i:Int} (hi : -1074<=i) (hm:m ≠ 0):((Datum.number s m i).sum (.number t 0 (-1074))).map Ieee.double.write=some (Ieee.double.nearest s m i):=by
 have hb:min i (-1074) = -1074:=by omega
 have hp:0<m <<< (i - -1074).toNat:=by rw[Nat.shiftLeft_eq]; exact alr (by omega) (ajM _)
 have e2:i - ((i - -1074).toNat:Int) = -1074:=by omega
 have e3:=ti s m i (i - -1074).toNat;rw[e2]at e3;simp only[Datum.sum,hb,sW,Int.add_zero,akB,nc];rw[<- e3];cases s
 ·have h1:signed false m (i - -1074).toNat=((m <<< (i - -1074).toNat:Nat):Int):=rfl;rw[h1,if_neg (by omega),ake];have h2:decide (((m <<< (i - -1074).toNat:Nat):Int)<0)=false:=ajy (by omega);rw[h2]
 ·have h1:signed true m (i - -1074).toNat = -((m <<< (i - -1074).toNat:Nat):Int):=rfl;rw[h1,if_neg (by omega),alA,ake];have h2:decide (-((m <<< (i - -1074).toNat:Nat):Int)<0)=true:=ajx (by omega);rw[h2]
theorem GN (s t:Bool):((Datum.number s 0 (-1074)).sum (.number t 0 (-1074))).map Ieee.double.write=some (Ieee.double.word (s&&t) 0):=by cases s <;> cases t <;> decide
theorem PG {b:Nat} {s:Bool} {i:Int} (h:Ieee.double.read b=.number s 0 i):i = -1074:=by obtain⟨-,-,h⟩:=jv h;omega
theorem q9 {b:Nat} (hb:W64 b) {s t:Bool} {m:Nat} {i:Int} (h:Ieee.double.read b=.number s m i) (hm:m ≠ 0):Ieee.double.add b (Ieee.double.word t 0)=some b:=by unfold Format.add;rw[h,lB,xJ (xp h) hm,vC hb h]
theorem wB (s t:Bool):Ieee.double.add (Ieee.double.word s 0) (Ieee.double.word t 0)=some (Ieee.double.word (s&&t) 0):=by unfold Format.add;rw[lB,lB,GN]
theorem yy {b:Nat} (hb:W64 b) {s:Bool} {i:Int} (h:Ieee.double.read b=.number s 0 i):b=Ieee.double.word s 0:=by rw[<- vC hb h,qB]
theorem MS {b:Nat} (hb:W64 b) {s:Bool} {m:Nat} {i:Int} (h:Ieee.double.read b=.number s m i):Ieee.double.sub b 0=some b:=by
 unfold Format.sub;rw[h,qW];show((Datum.number s m i).sum (.number true 0 (-1074))).map Ieee.double.write=some b;by_cases hm:m=0
 ·subst hm;obtain rfl:=PG h;rw[GN,Bool.and_true,<- yy hb h]
 ·rw[xJ (xp h) hm,vC hb h]
theorem EF {b:Nat} {s t:Bool} {m:Nat} {i:Int} (h:Ieee.double.read b=.number s m i):Ieee.double.mul b (Ieee.double.word t 0)=some (Ieee.double.word (s ^^ t) 0):=by unfold Format.mul;rw[h,lB];simp only[Datum.product,akQ,akB,nc,qB]
theorem MV {b:Nat} {s t:Bool} {m:Nat} {i:Int} (h:Ieee.double.read b=.number s m i):Ieee.double.mul (Ieee.double.word t 0) b=some (Ieee.double.word (t ^^ s) 0):=by unfold Format.mul;rw[h,lB];simp only[Datum.product,akW,akB,nc,qB]
theorem PE {b:Nat} (hb:W64 b) {s:Bool} {m:Nat} {i:Int} (h:Ieee.double.read b=.number s m i):Ieee.double.mul 4607182418800017408 b=some b:=by
 unfold Format.mul;rw[h,JX];simp only[Datum.product,akB,nc,Bool.false_xor];have e1:4503599627370496*m=m <<< 52:=by rw[Nat.shiftLeft_eq,ajB]
 have e2:(-52:Int)+i=i - ((52:Nat):Int):=by omega
 rw[e1,e2,ti,vC hb h]
theorem MU {p:Nat} {s:Bool} {n:Nat} {j:Int} (h:Ieee.double.read p=.number s n j) (hn:n ≠ 0):Ieee.double.div 0 p=some (Ieee.double.word s 0):=by
 unfold Format.div;rw[h,qW];simp only[Datum.quotient,if_neg hn,Nat.zero_shiftLeft,Nat.zero_div,Nat.zero_mod,akB,nc,Bool.false_xor];have:(2*0+((0:Nat) != 0).toNat)=0:=by decide
 rw[this,qB]
def FW (x:Fl):Prop:=∀ b,x=some b->W64 b
def isZ (x:Fl):Prop:=∃ s,x=some (Ieee.double.word s 0)
theorem GR:Ieee.double.word false 0=0:=by decide
theorem rA:isZ (some 0):=⟨false,by decide⟩
theorem cI {x:Fl} (h:aL x=true):∃ b s m i,x=some b/\Ieee.double.read b=.number s m i:=by
 cases x with
 | none=>cases h
 | some b=>
  simp only[aL]at h;cases e:Ieee.double.read b with
  | number s m i=>exact⟨b,s,m,i,rfl,e⟩
  | infinity s=>rw[e]at h; cases h
  | nan s t=>rw[e]at h; cases h
theorem yi {b:Nat} {s:Bool} {m:Nat} {i:Int} (h:Ieee.double.read b=.number s m i):aL (some b)=true:=by simp[aL,h,Eg]
theorem yj {x:Fl} (h:aL x=true):isZ (bA x (some 0)):=by
 obtain⟨b,s,m,i,rfl,hb⟩:=cI h;refine⟨s ^^ false,?_⟩;have:=EF (t:=false) hb
 rwa [GR]at this
theorem um {x:Fl} (h:aL x=true):isZ (bA (some 0) x):=by
 obtain⟨b,s,m,i,rfl,hb⟩:=cI h;refine⟨false ^^ s,?_⟩;have:=MV (t:=false) hb
 rwa [GR]at this
theorem yI {z:Fl} (h:isZ z):cD (some 0) z=some 0:=by
 obtain⟨s,rfl⟩:=h;have:=wB false s
 rwa [GR,alR,GR]at this
theorem oe {z:Fl} (h:isZ z):aL z=true:=by obtain⟨s,rfl⟩:=h;exact yi (lB s)
theorem NS {x:Fl} (h:aL x=true) (hp:fgt x (some 0)=true):∃ b m i,x=some b/\Ieee.double.read b=.number false m i/\m ≠ 0:=by
 obtain⟨b,s,m,i,rfl,hb⟩:=cI h;unfold fgt yK Format.order at hp;simp only[hb,qW,Datum.order,sW]at hp;refine⟨b,m,i,rfl,?_⟩;have hgt:compare (signed s m (i - min i (-1074)).toNat) 0=.gt:=by simpa using hp
 have hlt:0<signed s m (i - min i (-1074)).toNat:=by rw[Int.compare_eq_gt]at hgt; exact hgt
 cases s
 ·refine⟨hb,λhm=>?_⟩;subst hm;rw[sW]at hlt; omega
 ·exfalso;have h1:signed true m (i - min i (-1074)).toNat = -((m <<< (i - min i (-1074)).toNat:Nat):Int):=rfl;rw[h1]at hlt;generalize m <<< (i - min i (-1074)).toNat=q at hlt;omega
theorem Fv {x z:Fl} (hw:FW x) (h:aL x=true) (hp:fgt x (some 0)=true) (hz:isZ z):cD x z=x:=by obtain⟨b,m,i,rfl,hb,hm⟩:=NS h hp;obtain⟨s,rfl⟩:=hz;exact q9 (hw b rfl) hb hm
theorem AC {x z:Fl} (hw:FW x) (h:aL x=true) (hz:isZ z):feq (cD x z) x=true:=by
 obtain⟨b,s,m,i,rfl,hb⟩:=cI h;obtain⟨t,rfl⟩:=hz;by_cases hm:m=0
 ·subst hm;rw[yy (hw b rfl) hb];have e:cD (some (Ieee.double.word s 0)) (some (Ieee.double.word t 0))=some (Ieee.double.word (s&&t) 0):=wB s t;rw[e];cases s <;> cases t <;> decide
 ·have e:cD (some b) (some (Ieee.double.word t 0))=some b:=q9 (hw b rfl) hb hm;rw[e];simp only[feq,yK,Format.order,hb,Datum.order];simp[compare,compareOfLessAndEq]
theorem Hc {x z:Fl} (hw:FW x) (h:aL x=true) (hz:isZ z):aL (cD x z)=true:=by
 obtain⟨b,s,m,i,rfl,hb⟩:=cI h;obtain⟨t,rfl⟩:=hz;by_cases hm:m=0
 ·subst hm;rw[yy (hw b rfl) hb];have e:cD (some (Ieee.double.word s 0)) (some (Ieee.double.word t 0))=some (Ieee.double.word (s&&t) 0):=wB s t;rw[e];exact oe ⟨_,rfl⟩
 ·have e:cD (some b) (some (Ieee.double.word t 0))=some b:=q9 (hw b rfl) hb hm;rw[e]; exact yi hb
theorem F8 {x:Fl} (hw:FW x) (h:aL x=true):lj x (some 0)=x:=by obtain⟨b,s,m,i,rfl,hb⟩:=cI h;exact MS (hw b rfl) hb
theorem JP {x:Fl} (hw:FW x) (h:aL x=true):bA (some 4607182418800017408) x=x:=by obtain⟨b,s,m,i,rfl,hb⟩:=cI h;exact PE (hw b rfl) hb
theorem FO {r:Fl} (h:aL r=true) (hp:fgt r (some 0)=true):fdiv (some 0) r=some 0:=by
 obtain⟨b,m,i,rfl,hb,hm⟩:=NS h hp;have:=MU hb hm
 rwa [GR]at this
theorem Sd {x:Fl} (h:aL x=true):feq x x=true:=by obtain⟨b,s,m,i,rfl,hb⟩:=cI h;simp only[feq,yK,Format.order,hb,Datum.order];simp[compare,compareOfLessAndEq]
theorem DN {n:Nat} (h:W64 n):FW (ik n):=by
 intro b hb;unfold ik at hb;cases hn:isNaN n with
 | true=>rw[hn]at hb; cases hb
 | false=>rw[hn]at hb; cases hb; exact h
theorem tX {b:Nat} {s:Bool} {m:Nat} {i:Int} (h:Ieee.double.read b=.number s m i):i<=971/\m<9007199254740992:=by
 obtain⟨-,h1,h⟩:=jv h;rcases h with⟨h2,rfl,rfl⟩ | ⟨h2,rfl,rfl⟩
 ·exact⟨by omega,by omega⟩
 ·refine⟨by omega,by omega⟩
theorem Fj (s:Bool) {r:Nat} (h:r<9223372036854775808):W64 (Ieee.double.word s r):=by unfold W64 Format.word; rw[gH]; cases s <;> simp <;> omega
end Go.Mach
end
section
namespace Go.Proofs.YteifemaagdeomaaGreatDoor
open Go Go.Mach Ieee
theorem aaO (s:Bool) (n d:Nat) (hd:d<=n.log2+2):n / (1 <<< d)<=Toward.even.cut s n d:=by unfold Toward.cut;rw[akS hd];exact alU _ _
end Go.Proofs.YteifemaagdeomaaGreatDoor
end
section
namespace Go.Mach
open Ieee
theorem MH (s:Bool) (m k:Nat):(signed s m k).natAbs=m*2 ^ k:=by
 unfold signed;rw[Nat.shiftLeft_eq];cases s
 ·exact ake _
 ·show(-(((m*2 ^ k:Nat):Int))).natAbs=_;rw[alA]; exact ake _
theorem Te (E:Nat):(0:Int)<2 ^ E:=Int.pow_pos (by decide)
end Go.Mach
end
