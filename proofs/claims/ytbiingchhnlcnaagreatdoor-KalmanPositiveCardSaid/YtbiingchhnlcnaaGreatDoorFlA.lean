/- Laws in plain Lean. Conditions: none. -/
import Derived.Test.YtbiingchhnlcnaaGreatDoorMachT
set_option linter.defProp false
set_option linter.unusedVariables false
section
namespace Go.Mach
open Ieee
def w_:Ieee.double.leastPlace = -1074:=by decide
def sO:Ieee.double.binade=4503599627370496:=by decide
def i7:Ieee.double.signWeight=9223372036854775808:=by decide
def mA:Ieee.double.infRung=9218868437227405312:=by decide
abbrev W64 (b:Nat):Prop:=b<18446744073709551616
def nh {b:Nat} {s:Bool} {m:Nat} {i:Int} (h:Ieee.double.read b=.number s m i) :
    (s=(b / 9223372036854775808%2==1))/\b%9223372036854775808<9218868437227405312 /\
    ((b%9223372036854775808<4503599627370496/\m=b%9223372036854775808/\i = -1074) \/
     (4503599627370496<=b%9223372036854775808/\m=4503599627370496+b%9223372036854775808%4503599627370496/\i = -1074+((b%9223372036854775808 / 4503599627370496 - 1:Nat):Int))):=by
  unfold Format.read at h;simp only[i7,sO,mA,w_]at h;split at h
  · cases h
    exact⟨rfl,by omega,.inl ⟨by assumption,rfl,rfl⟩⟩
  · split at h
    · cases h
      exact⟨rfl,by omega,.inr ⟨by omega,rfl,rfl⟩⟩
    · split at h <;> cases h
def DP (s:Bool) (i:Int):Ieee.double.nearest s 0 i=Ieee.double.word s 0:=by simp[Format.nearest]
def Ga {b:Nat} {s:Bool} {m:Nat} {i:Int} (h:Ieee.double.read b=.number s m i) : -1074<=i:=by obtain⟨-,-,h⟩:=nh h;omega
def FW (x:Fl):Prop:=∀ b,x=some b->W64 b
def qf {x:Fl} (h:be x=true):∃ b s m i,x=some b/\Ieee.double.read b=.number s m i:=by
 cases x with
 | none=>cases h
 | some b=>
  simp only[be]at h;cases e:Ieee.double.read b with
  | number s m i=>exact⟨b,s,m,i,rfl,e⟩
  | infinity s=>rw[e]at h; cases h
  | nan s t=>rw[e]at h; cases h
def IL {b:Nat} {s:Bool} {m:Nat} {i:Int} (h:Ieee.double.read b=.number s m i):be (some b)=true:=by simp[be,h,wY]
def MY {x:Fl} (h:be x=true):feq x x=true:=by obtain⟨b,s,m,i,rfl,hb⟩:=qf h;simp only[feq,wT,Format.order,hb,Datum.order];simp[compare,compareOfLessAndEq]
def MA {n:Nat} (h:W64 n):FW (gw n):=by
 intro b hb;unfold gw at hb;cases hn:isNaN n with
 | true=>rw[hn]at hb; cases hb
 | false=>rw[hn]at hb; cases hb; exact h
def qu {b:Nat} {s:Bool} {m:Nat} {i:Int} (h:Ieee.double.read b=.number s m i):i<=971/\m<9007199254740992:=by
 obtain⟨-,h1,h⟩:=nh h;rcases h with⟨h2,rfl,rfl⟩ | ⟨h2,rfl,rfl⟩
 ·exact⟨by omega,by omega⟩
 ·refine⟨by omega,by omega⟩
def BE (s:Bool) {r:Nat} (h:r<9223372036854775808):W64 (Ieee.double.word s r):=by unfold W64 Format.word; rw[i7]; cases s <;> simp <;> omega
end Go.Mach
end
section
namespace Go.Proofs.YtbiingchhnlcnaaGreatDoor
open Go Go.Mach Ieee
def Vg (s:Bool) (n d:Nat) (hd:d<=n.log2+2):n / (1 <<< d)<=Toward.even.cut s n d:=by unfold Toward.cut;rw[ajU hd];exact akM _ _
end Go.Proofs.YtbiingchhnlcnaaGreatDoor
end
section
namespace Go.Mach
open Ieee
def NS (E:Nat):(0:Int)<2 ^ E:=Int.pow_pos (by decide)
def P2 (s t:Bool) (m n:Nat) (i j:Int):∃ sg,((Datum.number s m i).sum (.number t n j)).map Ieee.double.write=some (Ieee.double.nearest sg (signed s m (i - min i j).toNat+signed t n (j - min i j).toNat).natAbs (min i j)) /\
  (signed s m (i - min i j).toNat+signed t n (j - min i j).toNat ≠ 0->sg=decide (signed s m (i - min i j).toNat+signed t n (j - min i j).toNat<0)):=by
 refine⟨_,rfl,λh=>?_⟩;rw[if_neg h];congr
def Ig (t:Bool) (n k:Nat):signed (!t) n k = - signed t n k:=by unfold signed; cases t <;> simp
end Go.Mach
end
