/- Laws in plain Lean. Conditions: none. -/
import Derived.Test.YtdinakfmablagaaGreatDoorMachT
set_option linter.unusedVariables false
section
namespace Go.Mach
open Ieee
theorem kD:Ieee.double.leastPlace = -1074:=by decide
theorem kf:Ieee.double.binade=4503599627370496:=by decide
theorem cw:Ieee.double.signWeight=9223372036854775808:=by decide
theorem eI:Ieee.double.infRung=9218868437227405312:=by decide
abbrev W64 (b:Nat):Prop:=b<18446744073709551616
theorem N3 (s:Bool) (n:Nat):Toward.even.cut s n 0=n:=by simp[Toward.cut,ahV]
theorem mC {b:Nat} {s:Bool} {m:Nat} {i:Int} (h:Ieee.double.read b=.number s m i) :
    (s=(b / 9223372036854775808%2==1))/\b%9223372036854775808<9218868437227405312 /\
    ((b%9223372036854775808<4503599627370496/\m=b%9223372036854775808/\i = -1074) \/
     (4503599627370496<=b%9223372036854775808/\m=4503599627370496+b%9223372036854775808%4503599627370496/\i = -1074+((b%9223372036854775808 / 4503599627370496 - 1:Nat):Int))):=by
  unfold Format.read at h;simp only[cw,kf,eI,kD]at h;split at h
  · cases h
    exact⟨rfl,by omega,.inl ⟨by assumption,rfl,rfl⟩⟩
  · split at h
    · cases h
      exact⟨rfl,by omega,.inr ⟨by omega,rfl,rfl⟩⟩
    · split at h <;> cases h
theorem xv (s:Bool) (m:Nat) (i:Int):Ieee.double.write (.number s m i)=Ieee.double.nearest s m i:=rfl
theorem Bm {b:Nat} {s:Bool} {m:Nat} {i:Int} (h:Ieee.double.read b=.number s m i) : -1074<=i:=by obtain⟨-,-,h⟩:=mC h;omega
theorem GP (s:Bool) (k:Nat):signed s 0 k=0:=by cases s <;> simp[signed]
def FW (x:Fl):Prop:=∀ b,x=some b->W64 b
theorem mj {x:Fl} (h:aE x=true):∃ b s m i,x=some b/\Ieee.double.read b=.number s m i:=by
 cases x with
 | none=>cases h
 | some b=>
  simp only[aE]at h;cases e:Ieee.double.read b with
  | number s m i=>exact⟨b,s,m,i,rfl,e⟩
  | infinity s=>rw[e]at h; cases h
  | nan s t=>rw[e]at h; cases h
theorem Js {b:Nat} {s:Bool} {m:Nat} {i:Int} (h:Ieee.double.read b=.number s m i):aE (some b)=true:=by simp[aE,h,wT]
theorem Ol {x:Fl} (h:aE x=true):feq x x=true:=by obtain⟨b,s,m,i,rfl,hb⟩:=mj h;simp only[feq,wL,Format.order,hb,Datum.order];simp[compare,compareOfLessAndEq]
theorem Jk {x:Fl} (h:cn x=cn (some 0)):x=some 0:=by
 have h0:cn (some 0)=some 0:=by decide
 rw[h0]at h;cases x with
 | none=>cases h
 | some b=>
  have cf:cn (some b)=if isNaN b=true then none else some b:=rfl
  rw[cf]at h;split at h
  ·cases h
  ·exact h
theorem NR {n:Nat} (h:W64 n):FW (fp n):=by
 intro b hb;unfold fp at hb;cases hn:isNaN n with
 | true=>rw[hn]at hb; cases hb
 | false=>rw[hn]at hb; cases hb; exact h
theorem ob {b:Nat} {s:Bool} {m:Nat} {i:Int} (h:Ieee.double.read b=.number s m i):i<=971/\m<9007199254740992:=by
 obtain⟨-,h1,h⟩:=mC h;rcases h with⟨h2,rfl,rfl⟩ | ⟨h2,rfl,rfl⟩
 ·exact⟨by omega,by omega⟩
 ·refine⟨by omega,by omega⟩
theorem xt (s:Bool) {r:Nat} (h:r<9223372036854775808):W64 (Ieee.double.word s r):=by unfold W64 Format.word; rw[cw]; cases s <;> simp <;> omega
end Go.Mach
end
section
namespace Go.Proofs.YtdinakfmablagaaGreatDoor
open Go Go.Mach Ieee
theorem N1 (s:Bool) (n d:Nat) (hd:d<=n.log2+2):n / (1 <<< d)<=Toward.even.cut s n d:=by unfold Toward.cut;rw[agz hd];exact ag1 _ _
theorem VA (s:Bool) (n d:Nat) (hn:n ≠ 0):Toward.even.cut s n d<=2 ^ (n.log2+1 - d):=by
 have hb:∀ b:Bool,b.toNat<=1:=by decide
 unfold Toward.cut;dsimp only;have h2:n<2 ^ (n.log2+1):=Nat.lt_log2_self;by_cases h:d<=n.log2+1
 ·rw[agz (by omega),Nat.shiftLeft_eq,agQ];have e:2 ^ (n.log2+1)=2 ^ d*2 ^ (n.log2+1 - d):=by rw[<- afx,show d+(n.log2+1 - d)=n.log2+1 by omega]
  have h3:n / 2 ^ d<2 ^ (n.log2+1 - d):=by rw[afs (afy _),afn,<- e]; exact h2
  generalize 2 ^ (n.log2+1 - d)=q at *;refine afG (Nat.add_le_add_left (hb _) _) h3
 ·rw[show n.log2+1 - d=0 by omega,Nat.min_eq_right (by omega),Nat.shiftLeft_eq,agQ];have h3:n / 2 ^ (n.log2+2)=0:=afO (ag0 h2 (Nat.pow_lt_pow_right (by decide) (by omega)));rw[h3,afL]; exact hb _
theorem Pm {m:Nat} (h0:m ≠ 0) (k:Nat):(m <<< k).log2=m.log2+k:=by
 have h1:=Nat.log2_self_le h0;have h2:m<2 ^ (m.log2+1):=Nat.lt_log2_self;rw[Nat.shiftLeft_eq,Nat.log2_eq_iff (ahT h0 (Nat.pos_iff_ne_zero.1 (afy _)))];have e1:2 ^ (m.log2+k)=2 ^ m.log2*2 ^ k:=afx ..;have e2:2 ^ (m.log2+k+1)=2 ^ (m.log2+1)*2 ^ k:=by rw[<- afx]; congr 1; omega
 exact⟨by rw[e1]; exact afm _ h1,by rw[e2]; exact af2 h2 (afy _)⟩
end Go.Proofs.YtdinakfmablagaaGreatDoor
end
section
namespace Go.Mach
open Ieee
theorem Py (E:Nat):(0:Int)<2 ^ E:=Int.pow_pos (by decide)
end Go.Mach
end
