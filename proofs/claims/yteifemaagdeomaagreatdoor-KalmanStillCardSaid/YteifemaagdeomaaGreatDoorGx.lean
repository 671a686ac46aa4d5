/-
  The program's functions without a body, and those that av at bits, tied to their meanings.
  Conditions: none.
-/
import Derived.Test.YteifemaagdeomaaGreatDoorGs
import Derived.Test.YteifemaagdeomaaGreatDoorMachT
import Derived.Test.YteifemaagdeomaaGreatDoorC8
import Derived.Test.YteifemaagdeomaaGreatDoorGt0
import Derived.Test.YteifemaagdeomaaGreatDoorGt2
set_option linter.unusedVariables false
section
namespace Go.Proofs.YteifemaagdeomaaGreatDoor
open Go Go.Mach Go.Proofs
set_option maxRecDepth 20000
theorem aaV (N:Nat):ct Pg 40 (Zd (HK N)):=
 tL (Hi (fn:=Tryz.f40) (by kernel_rfl) (by kernel_rfl) (by kernel_rfl) (by kernel_rfl) (by kernel_rfl)) λa k h=>by
  unfold WU at h; split at h
  ·exact h
  ·cases h
theorem ZU (N:Nat):ct Pg 40 (VL (A8 N)):=
 tL (OR (fn:=Tryz.f40) (by kernel_rfl) (by kernel_rfl) (by kernel_rfl) (by kernel_rfl) (by kernel_rfl)) λa k h=>by
  unfold TY A8 at h; split at h
  ·split at h
   ·exact h
   ·cases h
  ·cases h
theorem ZV (N:Nat):ct Pg 36 (VM (EW N)):=
 tL (Fw (fn:=Tryz.f36) (by kernel_rfl) (by kernel_rfl) (by kernel_rfl) (by kernel_rfl) (by kernel_rfl)) λa k h=>by
  unfold TZ at h; split at h
  ·exact h
  ·cases h
theorem gQ6 (N:Nat):ct Pg 228 (FQ6 (sQ6 N)):=
 tL (Ls (fn:=Tryz.f228) (by kernel_rfl) (by kernel_rfl) (by kernel_rfl) (by kernel_rfl) (by kernel_rfl)) λa k h=>by
  unfold aaE at h; split at h
  ·exact h
  ·cases h
theorem aaS (N:Nat):ct Pg 237 (Zc (J5 N)):=
 tL (Lu (fn:=Tryz.f237) (by kernel_rfl) (by kernel_rfl) (by kernel_rfl) (by kernel_rfl) (by kernel_rfl)) λa k h=>by
  unfold WT at h; split at h
  ·exact h
  ·cases h
theorem aaI (N:Nat) (h:ct Pg 99 (W1 (Mv N))):ct Pg 99 (VJ (JZ N)):=by
 have q:∀ b,DP (cn (some b))=DP (some b):=by intro b; by_cases hb:isNaN b=true <;> simp[cn,DP,cls,hb]
 refine D9 (MN (JZ N)) (λx=>.int .i64 (DP x)) h rfl (λa k hk=>?_) (λb k=>?_) (λb=>by rw[q])
 ·unfold MN at hk; split at hk
  ·exact⟨_,rfl,hk⟩
  ·cases hk
 ·have e:W1 (Mv N) [.val (.float .f64 b)] [] k=Mv N b (λr0=>k (.int .i64 r0) []):=by kernel_rfl
  rw[e,O0,q]; rfl
theorem aaJ (N:Nat) (h:ct Pg 88 (W2 (Mw N))):ct Pg 88 (VK (J4 N)):=by
 have q:∀ x,cn (cn x)=cn x:=by
  intro x;cases x with
  | none=>rfl
  | some b=>by_cases hb:isNaN b=true <;> simp[cn,hb]
 refine Lt (MP (J4 N)) (λx y=>.bool (decide (cn x=cn y))) h rfl (λa k hk=>?_) (λb c k=>?_) (λx y=>by simp only[q])
 ·unfold MP at hk; split at hk
  ·exact⟨_,_,rfl,hk⟩
  ·cases hk
 ·have e:W2 (Mw N) [.val (.float .f64 b),.val (.float .f64 c)] [] k=Mw N b c (λr0=>k (.bool r0) []):=by kernel_rfl
  rw[e,SB]; simp only[q]
theorem VI (N:Nat) (h:ct Pg 105 (P7 (EU N))):ct Pg 105 (MZ (Bb N)):=by
 have q:∀ b,Fr (cn (some b))=Fr (some b):=by
  intro b;by_cases hb:isNaN b=true
  ·have hb':=(gb b).1 hb;have:isNaN (b%9223372036854775808)=true:=(gb _).2 (by omega);simp[cn,Fr,ik,hb,this]
  ·simp[cn,hb]
 refine D9 (E7 (Bb N)) (λx=>.flt (Fr x)) h rfl (λa k hk=>?_) (λb k=>?_) (λb=>by rw[q])
 ·unfold E7 at hk; split at hk
  ·exact⟨_,rfl,hk⟩
  ·cases hk
 ·have e:P7 (EU N) [.val (.float .f64 b)] [] k=EU N b (λr0=>k (.flt r0) []):=by kernel_rfl
  rw[e,UZ,q]
end Go.Proofs.YteifemaagdeomaaGreatDoor
end
section
namespace Go.Proofs.YteifemaagdeomaaGreatDoor
open Go Go.Mach Go.Proofs
set_option maxRecDepth 50000
noncomputable section
theorem o1 (N:Nat) (h:OKL Pg ab (L0 N)):OKL Pg ab (L1 N):=h.con (aaV N)
theorem o2 (N:Nat) (h:OKL Pg ab (L1 N)):OKL Pg ab (L2 N):=h.con (ZV N)
theorem o5 (N:Nat) (h:OKL Pg ab (L4 N)):OKL Pg ab (L5 N):=h.con (h.alt (ZU N))
theorem o40 (N:Nat) (h:OKL Pg ab (L39 N)):OKL Pg ab (L40 N):=h.con (gQ6 N)
theorem o43 (N:Nat) (h:OKL Pg ab (L42 N)):OKL Pg ab (L43 N):=h.con (aaS N)
theorem ZT (N:Nat) (h:OKL Pg ab (L48 N)):ct Pg 105 (P7 (EU N)):=by
 refine Hj (cx:=cxL Pg ab N (L48 N)) (h.os N) N8 (MO (EU N)) (λ_=>none) 0 0 (by kernel_rfl) (λi_ hi_=>by omega) ?_;intro a k h;unfold MO at h;split at h
 ·exact⟨[],rfl,rfl,.trans (by kernel_rfl) h⟩
 ·cases h
theorem o49 (N:Nat) (h:OKL Pg ab (L48 N)):OKL Pg ab (L49 N):=h.con (VI N (ZT N h))
theorem aaT (N:Nat) (h:OKL Pg ab (Q9 N)):ct Pg 99 (W1 (Mv N)):=by
 refine Hj (cx:=cxL Pg ab N (Q9 N)) (h.os N) TS (T0 (Mv N)) (λ_=>none) 0 0 (by kernel_rfl) (λi_ hi_=>by omega) ?_;intro a k h;unfold T0 at h;split at h
 ·exact⟨[],rfl,rfl,.trans (by kernel_rfl) h⟩
 ·cases h
theorem abH (N:Nat) (h:OKL Pg ab (Q9 N)):OKL Pg ab (Uz N):=h.con (aaI N (aaT N h))
theorem aaU (N:Nat) (h:OKL Pg ab (Q_ N)):ct Pg 88 (W2 (Mw N)):=by
 refine Hj (cx:=cxL Pg ab N (Q_ N)) (h.os N) TT (T1 (Mw N)) (λ_=>none) 0 0 (by kernel_rfl) (λi_ hi_=>by omega) ?_;intro a k h;unfold T1 at h;split at h
 ·exact⟨[],rfl,rfl,.trans (by kernel_rfl) h⟩
 ·cases h
theorem abK (N:Nat) (h:OKL Pg ab (Q_ N)):OKL Pg ab (Ra N):=h.con (aaJ N (aaU N h))
theorem okL (N:Nat):OKL Pg ab (vX N):=ab9 N <| ab8 N <| ab7 N <| ab6 N <| ab5 N <| ab4 N <| ab3 N <| ab2 N <| ab1 N <| ab0 N <| abZ N <| abY N <| abX N <| abW N <| abV N <| abU N <| abT N <| abS N <| abR N <| abQ N <| abP N <| abO N <| abN N <| abM N <| abL N <| abK N <| abJ N <| abI N <| abH N <| abG N <| abF N <| abE N <| abD N <| abC N <| abB N <| abA N <| abz N <| aby N <| abx N <| abw N <| abv N <| abu N <| abt N <| abr N <| abq N <| abp N <| abo N <| abn N <| abm N <| abl N <| abk N <| abj N <| abi N <| abh N <| abg N <| abf N <| abe N <| abd N <| abc N <| abb N <| aba N <| aa_ N <| aa9 N <| aa8 N <| aa7 N <| aa6 N <| aa5 N <| aa4 N <| aa3 N <| aa2 N <| aa1 N <| aa0 N <| o99 N <| o98 N <| o97 N <| o96 N <| o95 N <| o94 N <| o93 N <| o92 N <| o91 N <| o90 N <| o89 N <| o88 N <| o87 N <| o86 N <| o85 N <| o84 N <| o83 N <| o82 N <| o81 N <| o80 N <| o79 N <| o78 N <| o77 N <| o76 N <| o75 N <| o74 N <| o73 N <| o72 N <| o71 N <| o70 N <| o69 N <| o68 N <| o67 N <| o66 N <| o65 N <| o64 N <| o63 N <| o62 N <| o61 N <| o60 N <| o59 N <| o58 N <| o57 N <| o56 N <| o55 N <| o54 N <| o53 N <| o52 N <| o51 N <| o50 N <| o49 N <| o48 N <| o47 N <| o46 N <| o45 N <| o44 N <| o43 N <| o42 N <| o41 N <| o40 N <| o39 N <| o38 N <| o37 N <| o36 N <| o35 N <| o34 N <| o33 N <| o32 N <| o31 N <| o30 N <| o29 N <| o28 N <| o27 N <| o26 N <| o25 N <| o24 N <| o23 N <| o22 N <| o21 N <| o20 N <| o19 N <| o18 N <| o17 N <| o16 N <| o15 N <| o14 N <| o13 N <| o12 N <| o11 N <| o10 N <| o9 N <| o8 N <| o7 N <| o6 N <| o5 N <| o4 N <| o3 N <| o2 N <| o1 N <| Vf hD_
theorem tQ4 (N:Nat) (x:List Int) (n:Int) (p:List Int) (r z:Int) (hG:sQ4 N x n p r z (λb=>b)=true):OkC Pg 5 (GI.args [.ints x,.int n,.ints p,.int r,.int z]) [] (.bool true) []:=qP N (okL N) x n p r z hG
end
end Go.Proofs.YteifemaagdeomaaGreatDoor
end
