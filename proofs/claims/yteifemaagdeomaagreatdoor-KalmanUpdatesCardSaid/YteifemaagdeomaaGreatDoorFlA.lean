/-
  FLOATS, first part: what is written and read again; noughts; one.
  Conditions: none.
-/
import Derived.Test.YteifemaagdeomaaGreatDoorMachT
set_option linter.unusedVariables false
section
namespace Go.Mach
open Ieee
theorem uu:Ieee.double.leastPlace = -1074:=by decide
theorem qq:Ieee.double.binade=4503599627370496:=by decide
theorem ix:Ieee.double.signWeight=9223372036854775808:=by decide
theorem kA:Ieee.double.infRung=9218868437227405312:=by decide
abbrev W64 (b:Nat):Prop:=b<18446744073709551616
theorem ly {b:Nat} {s:Bool} {m:Nat} {i:Int} (h:Ieee.double.read b=.number s m i) :
    (s=(b / 9223372036854775808%2==1))/\b%9223372036854775808<9218868437227405312 /\
    ((b%9223372036854775808<4503599627370496/\m=b%9223372036854775808/\i = -1074) \/
     (4503599627370496<=b%9223372036854775808/\m=4503599627370496+b%9223372036854775808%4503599627370496/\i = -1074+((b%9223372036854775808 / 4503599627370496 - 1:Nat):Int))):=by
  unfold Format.read at h;simp only[ix,qq,kA,uu]at h;split at h
  · cases h
    exact⟨rfl,by omega,.inl ⟨by assumption,rfl,rfl⟩⟩
  · split at h
    · cases h
      exact⟨rfl,by omega,.inr ⟨by omega,rfl,rfl⟩⟩
    · split at h <;> cases h
theorem Ir:Ieee.double.read 0=.number false 0 (-1074):=by decide
theorem FC (s:Bool):Ieee.double.read (Ieee.double.word s 0)=.number s 0 (-1074):=by cases s <;> decide
theorem Ds {b:Nat} {s:Bool} {m:Nat} {i:Int} (h:Ieee.double.read b=.number s m i) : -1074<=i:=by obtain⟨-,-,h⟩:=ly h;omega
def FW (x:Fl):Prop:=∀ b,x=some b->W64 b
def isZ (x:Fl):Prop:=∃ s,x=some (Ieee.double.word s 0)
theorem CT:isZ (some 0):=⟨false,by decide⟩
theorem ms {x:Fl} (h:aY x=true):∃ b s m i,x=some b/\Ieee.double.read b=.number s m i:=by
 cases x with
 | none=>cases h
 | some b=>
  simp only[aY]at h;cases e:Ieee.double.read b with
  | number s m i=>exact⟨b,s,m,i,rfl,e⟩
  | infinity s=>rw[e]at h; cases h
  | nan s t=>rw[e]at h; cases h
theorem Gk {b:Nat} {s:Bool} {m:Nat} {i:Int} (h:Ieee.double.read b=.number s m i):aY (some b)=true:=by simp[aY,h,x_]
theorem Gp {z:Fl} (h:isZ z):aY z=true:=by obtain⟨s,rfl⟩:=h;exact Gk (FC s)
theorem Km {x:Fl} (h:aY x=true):feq x x=true:=by obtain⟨b,s,m,i,rfl,hb⟩:=ms h;simp only[feq,ug,Format.order,hb,Datum.order];simp[compare,compareOfLessAndEq]
theorem JZ {n:Nat} (h:W64 n):FW (fJ n):=by
 intro b hb;unfold fJ at hb;cases hn:isNaN n with
 | true=>rw[hn]at hb; cases hb
 | false=>rw[hn]at hb; cases hb; exact h
theorem oc {b:Nat} {s:Bool} {m:Nat} {i:Int} (h:Ieee.double.read b=.number s m i):i<=971/\m<9007199254740992:=by
 obtain⟨-,h1,h⟩:=ly h;rcases h with⟨h2,rfl,rfl⟩ | ⟨h2,rfl,rfl⟩
 ·exact⟨by omega,by omega⟩
 ·refine⟨by omega,by omega⟩
theorem zi (s:Bool) {r:Nat} (h:r<9223372036854775808):W64 (Ieee.double.word s r):=by unfold W64 Format.word; rw[ix]; cases s <;> simp <;> omega
end Go.Mach
end
section
namespace Go.Proofs.YteifemaagdeomaaGreatDoor
open Go Go.Mach Ieee
theorem SR (s:Bool) (n d:Nat) (hd:d<=n.log2+2):n / (1 <<< d)<=Toward.even.cut s n d:=by unfold Toward.cut;rw[aeH hd];exact afA _ _
end Go.Proofs.YteifemaagdeomaaGreatDoor
end
section
namespace Go.Mach
open Ieee
theorem Ld (E:Nat):(0:Int)<2 ^ E:=Int.pow_pos (by decide)
end Go.Mach
end
