/-
  The program's functions without a body, and those that aq at bits, tied to their meanings.
  Conditions: none.
-/
import Derived.Test.YteifemaagdeomaaGreatDoorGs
import Derived.Test.YteifemaagdeomaaGreatDoorMachT
import Derived.Test.YteifemaagdeomaaGreatDoorC8
import Derived.Test.YteifemaagdeomaaGreatDoorGt0
import Derived.Test.YteifemaagdeomaaGreatDoorGt2
set_option linter.unusedVariables false
section
namespace Go.Proofs.YteifemaagdeomaaGreatDoor
open Go Go.Mach Go.Proofs
set_option maxRecDepth 20000
theorem SW (N:Nat):ct Pg 40 (Rv (BE N)):=
 nS (A6 (fn:=Tryz.f40) (by kernel_rfl) (by kernel_rfl) (by kernel_rfl) (by kernel_rfl) (by kernel_rfl)) λa k h=>by
  unfold Oq at h; split at h
  ·exact h
  ·cases h
theorem Sa (N:Nat):ct Pg 40 (Nz (wH N)):=
 nS (HB (fn:=Tryz.f40) (by kernel_rfl) (by kernel_rfl) (by kernel_rfl) (by kernel_rfl) (by kernel_rfl)) λa k h=>by
  unfold LN wH at h; split at h
  ·split at h
   ·exact h
   ·cases h
  ·cases h
theorem Sb (N:Nat):ct Pg 36 (NA (yM N)):=
 nS (zq (fn:=Tryz.f36) (by kernel_rfl) (by kernel_rfl) (by kernel_rfl) (by kernel_rfl) (by kernel_rfl)) λa k h=>by
  unfold LO at h; split at h
  ·exact h
  ·cases h
theorem gQ6 (N:Nat):ct Pg 228 (FQ6 (sQ6 N)):=
 nS (EH (fn:=Tryz.f228) (by kernel_rfl) (by kernel_rfl) (by kernel_rfl) (by kernel_rfl) (by kernel_rfl)) λa k h=>by
  unfold SI at h; split at h
  ·exact h
  ·cases h
theorem gQ9 (N:Nat):ct Pg 237 (FQ9 (sQ9 N)):=
 nS (EJ (fn:=Tryz.f237) (by kernel_rfl) (by kernel_rfl) (by kernel_rfl) (by kernel_rfl) (by kernel_rfl)) λa k h=>by
  unfold SJ at h; split at h
  ·exact h
  ·cases h
theorem Un (N:Nat) (h:ct Pg 99 (Ox (FG N))):ct Pg 99 (Rw (Ly N)):=by
 have q:∀ b,xB (cn (some b))=xB (some b):=by intro b; by_cases hb:isNaN b=true <;> simp[cn,xB,cls,hb]
 refine xT (LP (Ly N)) (λx=>.int .i64 (xB x)) h rfl (λa k hk=>?_) (λb k=>?_) (λb=>by rw[q])
 ·unfold LP at hk; split at hk
  ·exact⟨_,rfl,hk⟩
  ·cases hk
 ·have e:Ox (FG N) [.val (.float .f64 b)] [] k=FG N b (λr0=>k (.int .i64 r0) []):=by kernel_rfl
  rw[e,HK,q]; rfl
theorem SN (N:Nat) (h:ct Pg 88 (Oy (FH N))):ct Pg 88 (Ny (Dx N)):=by
 have q:∀ x,cn (cn x)=cn x:=by
  intro x;cases x with
  | none=>rfl
  | some b=>by_cases hb:isNaN b=true <;> simp[cn,hb]
 refine EI (FR (Dx N)) (λx y=>.bool (decide (cn x=cn y))) h rfl (λa k hk=>?_) (λb c k=>?_) (λx y=>by simp only[q])
 ·unfold FR at hk; split at hk
  ·exact⟨_,_,rfl,hk⟩
  ·cases hk
 ·have e:Oy (FH N) [.val (.float .f64 b),.val (.float .f64 c)] [] k=FH N b c (λr0=>k (.bool r0) []):=by kernel_rfl
  rw[e,KH]; simp only[q]
theorem Nx (N:Nat) (h:ct Pg 105 (Oz (FI N))):ct Pg 105 (FZ (uG N)):=by
 have q:∀ b,zo (cn (some b))=zo (some b):=by
  intro b;by_cases hb:isNaN b=true
  ·have hb':=(eZ b).1 hb;have:isNaN (b%9223372036854775808)=true:=(eZ _).2 (by omega);simp[cn,zo,fJ,hb,this]
  ·simp[cn,hb]
 refine xT (yU (uG N)) (λx=>.flt (zo x)) h rfl (λa k hk=>?_) (λb k=>?_) (λb=>by rw[q])
 ·unfold yU at hk; split at hk
  ·exact⟨_,rfl,hk⟩
  ·cases hk
 ·have e:Oz (FI N) [.val (.float .f64 b)] [] k=FI N b (λr0=>k (.flt r0) []):=by kernel_rfl
  rw[e,MG,q]
end Go.Proofs.YteifemaagdeomaaGreatDoor
end
section
namespace Go.Proofs.YteifemaagdeomaaGreatDoor
open Go Go.Mach Go.Proofs
set_option maxRecDepth 50000
noncomputable section
theorem o1:TbS L0 L1:=λN h=>h.con (SW N)
theorem o2:TbS L1 L2:=λN h=>h.con (Sb N)
theorem o4:TbS L3 L4:=λN h=>h.con (h.alt (Sa N))
theorem o13:TbS L12 L13:=λN h=>h.con (gQ6 N)
theorem o16:TbS L15 L16:=λN h=>h.con (gQ9 N)
theorem SX (N:Nat) (h:OKL Pg cW (L21 N)):ct Pg 105 (Oz (FI N)):=by
 refine A7 (cx:=cxL Pg cW N (L21 N)) (h.os N) LD (LQ (FI N)) (λ_=>none) 0 0 (by kernel_rfl) (λi_ hi_=>by omega) ?_;intro a k h;unfold LQ at h;split at h
 ·exact⟨[],rfl,rfl,.trans (by kernel_rfl) h⟩
 ·cases h
theorem o22:TbS L21 L22:=λN h=>h.con (Nx N (SX N h))
theorem SU (N:Nat) (h:OKL Pg cW (JM N)):ct Pg 99 (Ox (FG N)):=by
 refine A7 (cx:=cxL Pg cW N (JM N)) (h.os N) LB (LJ (FG N)) (λ_=>none) 0 0 (by kernel_rfl) (λi_ hi_=>by omega) ?_;intro a k h;unfold LJ at h;split at h
 ·exact⟨[],rfl,rfl,.trans (by kernel_rfl) h⟩
 ·cases h
theorem Tx:TbS JM PT:=λN h=>h.con (Un N (SU N h))
theorem SV (N:Nat) (h:OKL Pg cW (JN N)):ct Pg 88 (Oy (FH N)):=by
 refine A7 (cx:=cxL Pg cW N (JN N)) (h.os N) LC (LM (FH N)) (λ_=>none) 0 0 (by kernel_rfl) (λi_ hi_=>by omega) ?_;intro a k h;unfold LM at h;split at h
 ·exact⟨[],rfl,rfl,.trans (by kernel_rfl) h⟩
 ·cases h
theorem TB:TbS JN PV:=λN h=>h.con (SN N (SV N h))
theorem okL (N:Nat):OKL Pg cW (qp N):=Uj N <| Ui N <| Uh N <| Ug N <| Uf N <| Ue N <| Ud N <| Uc N <| Ub N <| Ua N <| T_ N <| T9 N <| T8 N <| T7 N <| T6 N <| T5 N <| T4 N <| T3 N <| T2 N <| T1 N <| T0 N <| TZ N <| TY N <| TX N <| TW N <| TV N <| TU N <| TT N <| TS N <| TR N <| TQ N <| TP N <| TO N <| TN N <| TM N <| TL N <| TK N <| TJ N <| TI N <| TH N <| TG N <| TF N <| TE N <| TD N <| TC N <| TB N <| TA N <| Tz N <| Tx N <| Tw N <| Tv N <| Tu N <| Tt N <| Ts N <| Tq N <| Tp N <| To N <| Tn N <| Tm N <| Tl N <| Tk N <| Tj N <| Ti N <| Th N <| Tg N <| Tf N <| Te N <| Td N <| Tc N <| Tb N <| Ta N <| S9 N <| S8 N <| S7 N <| S6 N <| S5 N <| S4 N <| S3 N <| S2 N <| S1 N <| S0 N <| SZ N <| SY N <| o99 N <| o98 N <| o97 N <| o96 N <| o95 N <| o94 N <| o93 N <| o92 N <| o91 N <| o90 N <| o89 N <| o88 N <| o87 N <| o86 N <| o85 N <| o84 N <| o83 N <| o82 N <| o81 N <| o80 N <| o79 N <| o78 N <| o77 N <| o76 N <| o75 N <| o74 N <| o73 N <| o72 N <| o71 N <| o70 N <| o69 N <| o68 N <| o67 N <| o66 N <| o65 N <| o64 N <| o63 N <| o62 N <| o61 N <| o60 N <| o59 N <| o58 N <| o57 N <| o56 N <| o55 N <| o54 N <| o53 N <| o52 N <| o51 N <| o50 N <| o49 N <| o48 N <| o47 N <| o46 N <| o45 N <| o44 N <| o43 N <| o42 N <| o41 N <| o40 N <| o39 N <| o38 N <| o37 N <| o36 N <| o35 N <| o34 N <| o33 N <| o32 N <| o31 N <| o30 N <| o29 N <| o28 N <| o27 N <| o26 N <| o25 N <| o24 N <| o23 N <| o22 N <| o21 N <| o20 N <| o19 N <| o18 N <| o17 N <| o16 N <| o15 N <| o14 N <| o13 N <| o12 N <| o11 N <| o10 N <| o9 N <| o8 N <| o7 N <| o6 N <| o5 N <| o4 N <| o3 N <| o2 N <| o1 N <| MX hD_
theorem tQ4 (N:Nat) (x:List Int) (rows:Int) (p U5:List Int) (UE UG:Int) (hG:sQ4 N x rows p U5 UE UG (λb=>b)=true):OkC Pg 3 (AF.args [.ints x,.int rows,.ints p,.ints U5,.int UE,.int UG]) [] (.bool true) []:=lF N (okL N) x rows p U5 UE UG hG
end
end Go.Proofs.YteifemaagdeomaaGreatDoor
end
