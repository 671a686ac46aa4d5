/- Laws in plain Lean. Conditions: none. -/
import Derived.Test.YtdinakfmablagaaGreatDoorMachT
set_option linter.defProp false
set_option linter.unusedVariables false
section
namespace Go.Mach
open Ieee
def jr:Ieee.double.leastPlace = -1074:=by decide
def kt:Ieee.double.binade=4503599627370496:=by decide
def dj:Ieee.double.signWeight=9223372036854775808:=by decide
def fF:Ieee.double.infRung=9218868437227405312:=by decide
abbrev W64 (b:Nat):Prop:=b<18446744073709551616
def J5 (s:Bool) (n:Nat):Toward.even.cut s n 0=n:=by simp[Toward.cut,abH]
def kI {b:Nat} {s:Bool} {m:Nat} {i:Int} (h:Ieee.double.read b=.number s m i) :
    (s=(b / 9223372036854775808%2==1))/\b%9223372036854775808<9218868437227405312 /\
    ((b%9223372036854775808<4503599627370496/\m=b%9223372036854775808/\i = -1074) \/
     (4503599627370496<=b%9223372036854775808/\m=4503599627370496+b%9223372036854775808%4503599627370496/\i = -1074+((b%9223372036854775808 / 4503599627370496 - 1:Nat):Int))):=by
  unfold Format.read at h;simp only[dj,kt,fF,jr]at h;split at h
  · cases h
    exact⟨rfl,by omega,.inl ⟨by assumption,rfl,rfl⟩⟩
  · split at h
    · cases h
      exact⟨rfl,by omega,.inr ⟨by omega,rfl,rfl⟩⟩
    · split at h <;> cases h
def Bw (s:Bool) (i:Int):Ieee.double.nearest s 0 i=Ieee.double.word s 0:=by simp[Format.nearest]
def Fv (s:Bool):Ieee.double.read (Ieee.double.word s 0)=.number s 0 (-1074):=by cases s <;> decide
def qA {b:Nat} {s:Bool} {m:Nat} {i:Int} (h:Ieee.double.read b=.number s m i) : -1074<=i:=by obtain⟨-,-,h⟩:=kI h;omega
def nd (s:Bool) (k:Nat):signed s 0 k=0:=by cases s <;> simp[signed]
def FW (x:Fl):Prop:=∀ b,x=some b->W64 b
def gz {x:Fl} (h:aL x=true):∃ b s m i,x=some b/\Ieee.double.read b=.number s m i:=by
 cases x with
 | none=>cases h
 | some b=>
  simp only[aL]at h;cases e:Ieee.double.read b with
  | number s m i=>exact⟨b,s,m,i,rfl,e⟩
  | infinity s=>rw[e]at h; cases h
  | nan s t=>rw[e]at h; cases h
def A7 {b:Nat} {s:Bool} {m:Nat} {i:Int} (h:Ieee.double.read b=.number s m i):aL (some b)=true:=by simp[aL,h,yd]
def Kl {x:Fl} (h:aL x=true):feq x x=true:=by obtain⟨b,s,m,i,rfl,hb⟩:=gz h;simp only[feq,tL,Format.order,hb,Datum.order];simp[compare,compareOfLessAndEq]
def JT {n:Nat} (h:W64 n):FW (dD n):=by
 intro b hb;unfold dD at hb;cases hn:isNaN n with
 | true=>rw[hn]at hb; cases hb
 | false=>rw[hn]at hb; cases hb; exact h
def kH {b:Nat} {s:Bool} {m:Nat} {i:Int} (h:Ieee.double.read b=.number s m i):i<=971/\m<9007199254740992:=by
 obtain⟨-,h1,h⟩:=kI h;rcases h with⟨h2,rfl,rfl⟩ | ⟨h2,rfl,rfl⟩
 ·exact⟨by omega,by omega⟩
 ·refine⟨by omega,by omega⟩
def zj (s:Bool) {r:Nat} (h:r<9223372036854775808):W64 (Ieee.double.word s r):=by unfold W64 Format.word; rw[dj]; cases s <;> simp <;> omega
end Go.Mach
end
section
namespace Go.Proofs.YtdinakfmablagaaGreatDoor
open Go Go.Mach Ieee
def J3 (s:Bool) (n d:Nat) (hd:d<=n.log2+2):n / (1 <<< d)<=Toward.even.cut s n d:=by unfold Toward.cut;rw[aal hd];exact aaX _ _
def QF (s:Bool) (n d:Nat) (hn:n ≠ 0):Toward.even.cut s n d<=2 ^ (n.log2+1 - d):=by
 have hb:∀ b:Bool,b.toNat<=1:=by decide
 unfold Toward.cut;dsimp only;have h2:n<2 ^ (n.log2+1):=Nat.lt_log2_self;by_cases h:d<=n.log2+1
 ·rw[aal (by omega),Nat.shiftLeft_eq,aaC];have e:2 ^ (n.log2+1)=2 ^ d*2 ^ (n.log2+1 - d):=by rw[<- Zk,show d+(n.log2+1 - d)=n.log2+1 by omega]
  have h3:n / 2 ^ d<2 ^ (n.log2+1 - d):=by rw[Ze (Zj _),Y_,<- e]; exact h2
  generalize 2 ^ (n.log2+1 - d)=q at *;refine Zs (Nat.add_le_add_left (hb _) _) h3
 ·rw[show n.log2+1 - d=0 by omega,Nat.min_eq_right (by omega),Nat.shiftLeft_eq,aaC];have h3:n / 2 ^ (n.log2+2)=0:=ZA (aaL h2 (Nat.pow_lt_pow_right (by decide) (by omega)));rw[h3,Zx]; exact hb _
def KZ {m:Nat} (h0:m ≠ 0) (k:Nat):(m <<< k).log2=m.log2+k:=by
 have h1:=Nat.log2_self_le h0;have h2:m<2 ^ (m.log2+1):=Nat.lt_log2_self;rw[Nat.shiftLeft_eq,Nat.log2_eq_iff (abF h0 (Nat.pos_iff_ne_zero.1 (Zj _)))];have e1:2 ^ (m.log2+k)=2 ^ m.log2*2 ^ k:=Zk ..;have e2:2 ^ (m.log2+k+1)=2 ^ (m.log2+1)*2 ^ k:=by rw[<- Zk]; congr 1; omega
 exact⟨by rw[e1]; exact Y9 _ h1,by rw[e2]; exact ZS h2 (Zj _)⟩
end Go.Proofs.YtdinakfmablagaaGreatDoor
end
section
namespace Go.Mach
open Ieee
def yQ (s:Bool) (m a c:Nat):signed s m (a+c)=signed s m a*2 ^ c:=by
 unfold signed;rw[Nat.shiftLeft_add];generalize m <<< a=q;have:((q <<< c:Nat):Int)=(q:Int)*2 ^ c:=by rw[Nat.shiftLeft_eq]; push_cast; rfl
 cases s
 ·simp only[ZU,ZE]; exact this
 ·simp only[aaD]; rw[this,abw]
def FD (s:Bool) (m k:Nat):(signed s m k).natAbs=m*2 ^ k:=by
 unfold signed;rw[Nat.shiftLeft_eq];cases s
 ·exact ZV _
 ·show(-(((m*2 ^ k:Nat):Int))).natAbs=_;rw[abo]; exact ZV _
def Le (E:Nat):(0:Int)<2 ^ E:=Int.pow_pos (by decide)
def vB (n:Int) (E:Nat):(n*2 ^ E).natAbs=n.natAbs*2 ^ E:=by rw[aaP,Int.natAbs_pow]; rfl
def NU (s t:Bool) (m n:Nat) (i j:Int):∃ sg,((Datum.number s m i).sum (.number t n j)).map Ieee.double.write=some (Ieee.double.nearest sg (signed s m (i - min i j).toNat+signed t n (j - min i j).toNat).natAbs (min i j)) /\
  (signed s m (i - min i j).toNat+signed t n (j - min i j).toNat ≠ 0->sg=decide (signed s m (i - min i j).toNat+signed t n (j - min i j).toNat<0)):=by
 refine⟨_,rfl,λh=>?_⟩;rw[if_neg h];congr
end Go.Mach
end
