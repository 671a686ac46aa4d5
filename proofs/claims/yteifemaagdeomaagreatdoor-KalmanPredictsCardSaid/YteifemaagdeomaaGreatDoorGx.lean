/- The program's functions and their ties. Conditions: none. -/
import Derived.Test.YteifemaagdeomaaGreatDoorGs
import Derived.Test.YteifemaagdeomaaGreatDoorMachT
import Derived.Test.YteifemaagdeomaaGreatDoorX0
set_option linter.defProp false
set_option linter.unusedVariables false
namespace Go.Proofs.YteifemaagdeomaaGreatDoor
open Go Go.Mach Go.Proofs
set_option maxRecDepth 20000
variable (N:Nat)
def abS:ab Pg 40 (Ud (JW N)):=
 wH (MA (fn:=Tryz.f40) (by kernel_rfl) (by kernel_rfl) (by kernel_rfl) (by kernel_rfl) (by kernel_rfl)) λa k h=>by
  unfold agd at h; split at h
  ·exact h
  ·cases h
def abT:ab Pg 40 (Ul (L6 N)):=
 wH (W6 (fn:=Tryz.f40) (by kernel_rfl) (by kernel_rfl) (by kernel_rfl) (by kernel_rfl) (by kernel_rfl)) λa k h=>by
  unfold agu L6 at h; split at h
  ·split at h
   ·exact h
   ·cases h
  ·cases h
def alV:ab Pg 36 (NX (Qg N)):=
 wH (Kw (fn:=Tryz.f36) (by kernel_rfl) (by kernel_rfl) (by kernel_rfl) (by kernel_rfl) (by kernel_rfl)) λa k h=>by
  unfold agt at h; split at h
  ·exact h
  ·cases h
def W3:ab Pg 228 (Gn (CQ N)):=
 wH (RO (fn:=Tryz.f228) (by kernel_rfl) (by kernel_rfl) (by kernel_rfl) (by kernel_rfl) (by kernel_rfl)) λa k h=>by
  unfold amb at h; split at h
  ·exact h
  ·cases h
def aoD:ab Pg 237 (QM (aeR N)):=
 wH (RS (fn:=Tryz.f237) (by kernel_rfl) (by kernel_rfl) (by kernel_rfl) (by kernel_rfl) (by kernel_rfl)) λa k h=>by
  unfold amm at h; split at h
  ·exact h
  ·cases h
def as_ (h:ab Pg 99 (Un (L7 N))):ab Pg 99 (NW (Qf N)):=by
 have q:∀ b,IG (cn (some b))=IG (some b):=by intro b; by_cases hb:isNaN b=true <;> simp[cn,IG,cls,hb]
 refine I5 (TB (Qf N)) (λx=>.int .i64 (IG x)) h rfl (λa k hk=>?_) (λb k=>?_) (λb=>by rw[q])
 ·unfold TB at hk; split at hk
  ·exact⟨_,rfl,hk⟩
  ·cases hk
 ·have e:Un (L7 N) [.val (.float .f64 b)] [] k=L7 N b (λr0=>k (.int .i64 r0) []):=by kernel_rfl
  rw[e,Xd,q]; rfl
def as9 (h:ab Pg 88 (Uo (L8 N))):ab Pg 88 (Uj (Qe N)):=by
 have q:∀ x,cn (cn x)=cn x:=by
  intro x;cases x with
  | none=>rfl
  | some b=>by_cases hb:isNaN b=true <;> simp[cn,hb]
 refine RQ (Tz (Qe N)) (λx y=>.bool (decide (cn x=cn y))) h rfl (λa k hk=>?_) (λb c k=>?_) (λx y=>by simp only[q])
 ·unfold Tz at hk; split at hk
  ·exact⟨_,_,rfl,hk⟩
  ·cases hk
 ·have e:Uo (L8 N) [.val (.float .f64 b),.val (.float .f64 c)] [] k=L8 N b c (λr0=>k (.bool r0) []):=by kernel_rfl
  rw[e,adW]; simp only[q]
def aln (h:ab Pg 105 (Up (L9 N))):ab Pg 105 (Mk (Eb N)):=by
 have q:∀ b,Kt (cn (some b))=Kt (some b):=by
  intro b;by_cases hb:isNaN b=true
  ·have hb':=(kd b).1 hb;have:isNaN (b%9223372036854775808)=true:=(kd _).2 (by omega);simp[cn,Kt,ow,hb,this]
  ·simp[cn,hb]
 refine I5 (J_ (Eb N)) (λx=>.flt (Kt x)) h rfl (λa k hk=>?_) (λb k=>?_) (λb=>by rw[q])
 ·unfold J_ at hk; split at hk
  ·exact⟨_,rfl,hk⟩
  ·cases hk
 ·have e:Up (L9 N) [.val (.float .f64 b)] [] k=L9 N b (λr0=>k (.flt r0) []):=by kernel_rfl
  rw[e,ajb,q]
end Go.Proofs.YteifemaagdeomaaGreatDoor
