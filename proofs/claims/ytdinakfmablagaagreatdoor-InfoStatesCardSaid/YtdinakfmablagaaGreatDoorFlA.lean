/- Laws in plain Lean. Conditions: none. -/
import Derived.Test.YtdinakfmablagaaGreatDoorMachT
set_option linter.unusedVariables false
section
namespace Go.Mach
open Ieee
theorem wK:Ieee.double.leastPlace = -1074:=by decide
theorem sm:Ieee.double.binade=4503599627370496:=by decide
theorem i5:Ieee.double.signWeight=9223372036854775808:=by decide
theorem lQ:Ieee.double.infRung=9218868437227405312:=by decide
abbrev W64 (b:Nat):Prop:=b<18446744073709551616
theorem mJ {b:Nat} {s:Bool} {m:Nat} {i:Int} (h:Ieee.double.read b=.number s m i) :
    (s=(b / 9223372036854775808%2==1))/\b%9223372036854775808<9218868437227405312 /\
    ((b%9223372036854775808<4503599627370496/\m=b%9223372036854775808/\i = -1074) \/
     (4503599627370496<=b%9223372036854775808/\m=4503599627370496+b%9223372036854775808%4503599627370496/\i = -1074+((b%9223372036854775808 / 4503599627370496 - 1:Nat):Int))):=by
  unfold Format.read at h;simp only[i5,sm,lQ,wK]at h;split at h
  · cases h
    exact⟨rfl,by omega,.inl ⟨by assumption,rfl,rfl⟩⟩
  · split at h
    · cases h
      exact⟨rfl,by omega,.inr ⟨by omega,rfl,rfl⟩⟩
    · split at h <;> cases h
theorem Gg {b:Nat} {s:Bool} {m:Nat} {i:Int} (h:Ieee.double.read b=.number s m i) : -1074<=i:=by obtain⟨-,-,h⟩:=mJ h;omega
def FW (x:Fl):Prop:=∀ b,x=some b->W64 b
theorem pA {x:Fl} (h:bC x=true):∃ b s m i,x=some b/\Ieee.double.read b=.number s m i:=by
 cases x with
 | none=>cases h
 | some b=>
  simp only[bC]at h;cases e:Ieee.double.read b with
  | number s m i=>exact⟨b,s,m,i,rfl,e⟩
  | infinity s=>rw[e]at h; cases h
  | nan s t=>rw[e]at h; cases h
theorem Qb {b:Nat} {s:Bool} {m:Nat} {i:Int} (h:Ieee.double.read b=.number s m i):bC (some b)=true:=by simp[bC,h,AP]
theorem NW {x:Fl} (h:bC x=true):feq x x=true:=by obtain⟨b,s,m,i,rfl,hb⟩:=pA h;simp only[feq,wr,Format.order,hb,Datum.order];simp[compare,compareOfLessAndEq]
theorem P7 {x:Fl} (h:cn x=cn (some 0)):x=some 0:=by
 have h0:cn (some 0)=some 0:=by decide
 rw[h0]at h;cases x with
 | none=>cases h
 | some b=>
  have cf:cn (some b)=if isNaN b=true then none else some b:=rfl
  rw[cf]at h;split at h
  ·cases h
  ·exact h
theorem Nw {n:Nat} (h:W64 n):FW (jF n):=by
 intro b hb;unfold jF at hb;cases hn:isNaN n with
 | true=>rw[hn]at hb; cases hb
 | false=>rw[hn]at hb; cases hb; exact h
theorem pQ {b:Nat} {s:Bool} {m:Nat} {i:Int} (h:Ieee.double.read b=.number s m i):i<=971/\m<9007199254740992:=by
 obtain⟨-,h1,h⟩:=mJ h;rcases h with⟨h2,rfl,rfl⟩ | ⟨h2,rfl,rfl⟩
 ·exact⟨by omega,by omega⟩
 ·refine⟨by omega,by omega⟩
theorem B0 (s:Bool) {r:Nat} (h:r<9223372036854775808):W64 (Ieee.double.word s r):=by unfold W64 Format.word; rw[i5]; cases s <;> simp <;> omega
end Go.Mach
end
section
namespace Go.Proofs.YtdinakfmablagaaGreatDoor
open Go Go.Mach Ieee
theorem Xq (s:Bool) (n d:Nat) (hd:d<=n.log2+2):n / (1 <<< d)<=Toward.even.cut s n d:=by unfold Toward.cut;rw[ahf hd];exact ah_ _ _
end Go.Proofs.YtdinakfmablagaaGreatDoor
end
section
namespace Go.Mach
open Ieee
theorem OY (E:Nat):(0:Int)<2 ^ E:=Int.pow_pos (by decide)
end Go.Mach
end
