/- Laws in plain Lean. Conditions: none. -/
import Derived.Test.YtbiingchhnlcnaaGreatDoorMachT
set_option linter.defProp false
set_option linter.unusedVariables false
section
namespace Go.Mach
open Ieee
def xl:Ieee.double.leastPlace = -1074:=by decide
def ta:Ieee.double.binade=4503599627370496:=by decide
def iJ:Ieee.double.signWeight=9223372036854775808:=by decide
def mn:Ieee.double.infRung=9218868437227405312:=by decide
abbrev W64 (b:Nat):Prop:=b<18446744073709551616
def m_ {b:Nat} {s:Bool} {m:Nat} {i:Int} (h:Ieee.double.read b=.number s m i) :
    (s=(b / 9223372036854775808%2==1))/\b%9223372036854775808<9218868437227405312 /\
    ((b%9223372036854775808<4503599627370496/\m=b%9223372036854775808/\i = -1074) \/
     (4503599627370496<=b%9223372036854775808/\m=4503599627370496+b%9223372036854775808%4503599627370496/\i = -1074+((b%9223372036854775808 / 4503599627370496 - 1:Nat):Int))):=by
  unfold Format.read at h;simp only[iJ,ta,mn,xl]at h;split at h
  · cases h
    exact⟨rfl,by omega,.inl ⟨by assumption,rfl,rfl⟩⟩
  · split at h
    · cases h
      exact⟨rfl,by omega,.inr ⟨by omega,rfl,rfl⟩⟩
    · split at h <;> cases h
def EE (s:Bool) (i:Int):Ieee.double.nearest s 0 i=Ieee.double.word s 0:=by simp[Format.nearest]
def I3 (s:Bool):Ieee.double.read (Ieee.double.word s 0)=.number s 0 (-1074):=by cases s <;> decide
def GV {b:Nat} {s:Bool} {m:Nat} {i:Int} (h:Ieee.double.read b=.number s m i) : -1074<=i:=by obtain⟨-,-,h⟩:=m_ h;omega
def FW (x:Fl):Prop:=∀ b,x=some b->W64 b
def isZ (x:Fl):Prop:=∃ s,x=some (Ieee.double.word s 0)
def Ou:isZ (some 0):=⟨false,by decide⟩
def mT {x:Fl} (h:bA x=true):∃ b s m i,x=some b/\Ieee.double.read b=.number s m i:=by
 cases x with
 | none=>cases h
 | some b=>
  simp only[bA]at h;cases e:Ieee.double.read b with
  | number s m i=>exact⟨b,s,m,i,rfl,e⟩
  | infinity s=>rw[e]at h; cases h
  | nan s t=>rw[e]at h; cases h
def Ec {b:Nat} {s:Bool} {m:Nat} {i:Int} (h:Ieee.double.read b=.number s m i):bA (some b)=true:=by simp[bA,h,xf]
def Qv {z:Fl} (h:isZ z):bA z=true:=by obtain⟨s,rfl⟩:=h;exact Ec (I3 s)
def Oe {x:Fl} (h:bA x=true):feq x x=true:=by obtain⟨b,s,m,i,rfl,hb⟩:=mT h;simp only[feq,wn,Format.order,hb,Datum.order];simp[compare,compareOfLessAndEq]
def NQ {n:Nat} (h:W64 n):FW (js n):=by
 intro b hb;unfold js at hb;cases hn:isNaN n with
 | true=>rw[hn]at hb; cases hb
 | false=>rw[hn]at hb; cases hb; exact h
def qp {b:Nat} {s:Bool} {m:Nat} {i:Int} (h:Ieee.double.read b=.number s m i):i<=971/\m<9007199254740992:=by
 obtain⟨-,h1,h⟩:=m_ h;rcases h with⟨h2,rfl,rfl⟩ | ⟨h2,rfl,rfl⟩
 ·exact⟨by omega,by omega⟩
 ·refine⟨by omega,by omega⟩
def Cn (s:Bool) {r:Nat} (h:r<9223372036854775808):W64 (Ieee.double.word s r):=by unfold W64 Format.word; rw[iJ]; cases s <;> simp <;> omega
end Go.Mach
end
section
namespace Go.Proofs.YtbiingchhnlcnaaGreatDoor
open Go Go.Mach Ieee
def W7 (s:Bool) (n d:Nat) (hd:d<=n.log2+2):n / (1 <<< d)<=Toward.even.cut s n d:=by unfold Toward.cut;rw[amh hd];exact am_ _ _
end Go.Proofs.YtbiingchhnlcnaaGreatDoor
end
section
namespace Go.Mach
open Ieee
def Pb (E:Nat):(0:Int)<2 ^ E:=Int.pow_pos (by decide)
def Rl (s t:Bool) (m n:Nat) (i j:Int):∃ sg,((Datum.number s m i).sum (.number t n j)).map Ieee.double.write=some (Ieee.double.nearest sg (signed s m (i - min i j).toNat+signed t n (j - min i j).toNat).natAbs (min i j)) /\
  (signed s m (i - min i j).toNat+signed t n (j - min i j).toNat ≠ 0->sg=decide (signed s m (i - min i j).toNat+signed t n (j - min i j).toNat<0)):=by
 refine⟨_,rfl,λh=>?_⟩;rw[if_neg h];congr
def I_ (t:Bool) (n k:Nat):signed (!t) n k = - signed t n k:=by unfold signed; cases t <;> simp
end Go.Mach
end
