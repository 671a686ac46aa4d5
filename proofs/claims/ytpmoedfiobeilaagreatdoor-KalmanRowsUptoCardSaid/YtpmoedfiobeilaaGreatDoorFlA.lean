/- Laws in plain Lean. Conditions: none. -/
import Derived.Test.YtpmoedfiobeilaaGreatDoorMachT
set_option linter.defProp false
set_option linter.unusedVariables false
section
namespace Go.Mach
open Ieee
def uR:Ieee.double.leastPlace = -1074:=by decide
def qD:Ieee.double.binade=4503599627370496:=by decide
def iz:Ieee.double.signWeight=9223372036854775808:=by decide
def kE:Ieee.double.infRung=9218868437227405312:=by decide
abbrev W64 (b:Nat):Prop:=b<18446744073709551616
def lE {b:Nat} {s:Bool} {m:Nat} {i:Int} (h:Ieee.double.read b=.number s m i) :
    (s=(b / 9223372036854775808%2==1))/\b%9223372036854775808<9218868437227405312 /\
    ((b%9223372036854775808<4503599627370496/\m=b%9223372036854775808/\i = -1074) \/
     (4503599627370496<=b%9223372036854775808/\m=4503599627370496+b%9223372036854775808%4503599627370496/\i = -1074+((b%9223372036854775808 / 4503599627370496 - 1:Nat):Int))):=by
  unfold Format.read at h;simp only[iz,qD,kE,uR]at h;split at h
  · cases h
    exact⟨rfl,by omega,.inl ⟨by assumption,rfl,rfl⟩⟩
  · split at h
    · cases h
      exact⟨rfl,by omega,.inr ⟨by omega,rfl,rfl⟩⟩
    · split at h <;> cases h
def I2:Ieee.double.read 0=.number false 0 (-1074):=by decide
def DW {b:Nat} {s:Bool} {m:Nat} {i:Int} (h:Ieee.double.read b=.number s m i) : -1074<=i:=by obtain⟨-,-,h⟩:=lE h;omega
def FW (x:Fl):Prop:=∀ b,x=some b->W64 b
def mz {x:Fl} (h:bb x=true):∃ b s m i,x=some b/\Ieee.double.read b=.number s m i:=by
 cases x with
 | none=>cases h
 | some b=>
  simp only[bb]at h;cases e:Ieee.double.read b with
  | number s m i=>exact⟨b,s,m,i,rfl,e⟩
  | infinity s=>rw[e]at h; cases h
  | nan s t=>rw[e]at h; cases h
def Nt {b:Nat} {s:Bool} {m:Nat} {i:Int} (h:Ieee.double.read b=.number s m i):bb (some b)=true:=by simp[bb,h,yJ]
def K3 {x:Fl} (h:bb x=true):feq x x=true:=by obtain⟨b,s,m,i,rfl,hb⟩:=mz h;simp only[feq,uD,Format.order,hb,Datum.order];simp[compare,compareOfLessAndEq]
def KE {n:Nat} (h:W64 n):FW (fD n):=by
 intro b hb;unfold fD at hb;cases hn:isNaN n with
 | true=>rw[hn]at hb; cases hb
 | false=>rw[hn]at hb; cases hb; exact h
def ou {b:Nat} {s:Bool} {m:Nat} {i:Int} (h:Ieee.double.read b=.number s m i):i<=971/\m<9007199254740992:=by
 obtain⟨-,h1,h⟩:=lE h;rcases h with⟨h2,rfl,rfl⟩ | ⟨h2,rfl,rfl⟩
 ·exact⟨by omega,by omega⟩
 ·refine⟨by omega,by omega⟩
def zT (s:Bool) {r:Nat} (h:r<9223372036854775808):W64 (Ieee.double.word s r):=by unfold W64 Format.word; rw[iz]; cases s <;> simp <;> omega
end Go.Mach
end
section
namespace Go.Proofs.YtpmoedfiobeilaaGreatDoor
open Go Go.Mach Ieee
def TN (s:Bool) (n d:Nat) (hd:d<=n.log2+2):n / (1 <<< d)<=Toward.even.cut s n d:=by unfold Toward.cut;rw[aeO hd];exact afH _ _
end Go.Proofs.YtpmoedfiobeilaaGreatDoor
end
section
namespace Go.Mach
open Ieee
def Mc (E:Nat):(0:Int)<2 ^ E:=Int.pow_pos (by decide)
end Go.Mach
end
