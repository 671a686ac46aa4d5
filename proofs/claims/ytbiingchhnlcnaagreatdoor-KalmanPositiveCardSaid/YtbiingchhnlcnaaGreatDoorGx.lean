/- The program's functions and their ties. Conditions: none. -/
import Derived.Test.YtbiingchhnlcnaaGreatDoorGs
import Derived.Test.YtbiingchhnlcnaaGreatDoorMachT
import Derived.Test.YtbiingchhnlcnaaGreatDoorX0
import Derived.Test.YtbiingchhnlcnaaGreatDoorGt0
import Derived.Test.YtbiingchhnlcnaaGreatDoorGt2
set_option linter.defProp false
set_option linter.unusedVariables false
section
namespace Go.Proofs.YtbiingchhnlcnaaGreatDoor
open Go Go.Mach Go.Proofs
set_option maxRecDepth 20000
def Vi (N:Nat):cK Pg 93 (T_ (D0 N)):=
 qi (Do (fn:=Tryz.f93) (by kernel_rfl) (by kernel_rfl) (by kernel_rfl) (by kernel_rfl) (by kernel_rfl)) λa k h=>by
  unfold QE at h; split at h
  ·exact h
  ·cases h
def UG (N:Nat):cK Pg 93 (P5 (CW N)):=
 qi (J0 (fn:=Tryz.f93) (by kernel_rfl) (by kernel_rfl) (by kernel_rfl) (by kernel_rfl) (by kernel_rfl)) λa k h=>by
  unfold Om CW at h; split at h
  ·split at h
   ·exact h
   ·cases h
  ·cases h
def UH (N:Nat):cK Pg 29 (P6 (Be N)):=
 qi (BM (fn:=Tryz.f29) (by kernel_rfl) (by kernel_rfl) (by kernel_rfl) (by kernel_rfl) (by kernel_rfl)) λa k h=>by
  unfold On at h; split at h
  ·exact h
  ·cases h
def gQ3 (N:Nat):cK Pg 247 (FQ3 (sQ3 N)):=
 qi (Hn (fn:=Tryz.f247) (by kernel_rfl) (by kernel_rfl) (by kernel_rfl) (by kernel_rfl) (by kernel_rfl)) λa k h=>by
  unfold U6 at h; split at h
  ·exact h
  ·cases h
def gQ6 (N:Nat):cK Pg 256 (FQ6 (sQ6 N)):=
 qi (Hp (fn:=Tryz.f256) (by kernel_rfl) (by kernel_rfl) (by kernel_rfl) (by kernel_rfl) (by kernel_rfl)) λa k h=>by
  unfold U7 at h; split at h
  ·exact h
  ·cases h
def WT (N:Nat) (h:cK Pg 62 (FQ8 (sQ8 N))):cK Pg 62 (Ua (Ob N)):=by
 have q:∀ b,Ad (cn (some b))=Ad (some b):=by intro b; by_cases hb:isNaN b=true <;> simp[cn,Ad,cls,hb]
 refine Ax (Oo (Ob N)) (λx=>.int .i64 (Ad x)) h rfl (λa k hk=>?_) (λb k=>?_) (λb=>by rw[q])
 ·unfold Oo at hk; split at hk
  ·exact⟨_,rfl,hk⟩
  ·cases hk
 ·have e:FQ8 (sQ8 N) [.val (.float .f64 b)] [] k=sQ8 N b (λr0=>k (.int .i64 r0) []):=by kernel_rfl
  rw[e,J9,q]; rfl
def WU (N:Nat) (h:cK Pg 63 (FQ9 (sQ9 N))):cK Pg 63 (Ub (Oe N)):=by
 have q:∀ x,cn (cn x)=cn x:=by
  intro x;cases x with
  | none=>rfl
  | some b=>by_cases hb:isNaN b=true <;> simp[cn,hb]
 refine Ho (Ot (Oe N)) (λx y=>.bool (decide (cn x=cn y))) h rfl (λa k hk=>?_) (λb c k=>?_) (λx y=>by simp only[q])
 ·unfold Ot at hk; split at hk
  ·exact⟨_,_,rfl,hk⟩
  ·cases hk
 ·have e:FQ9 (sQ9 N) [.val (.float .f64 b),.val (.float .f64 c)] [] k=sQ9 N b c (λr0=>k (.bool r0) []):=by kernel_rfl
  rw[e,Nl]; simp only[q]
def P4 (N:Nat) (h:cK Pg 110 (QJ (Ic N))):cK Pg 110 (Ir (xl N)):=by
 have q:∀ b,BK (cn (some b))=BK (some b):=by
  intro b;by_cases hb:isNaN b=true
  ·have hb':=(fB b).1 hb;have:isNaN (b%9223372036854775808)=true:=(fB _).2 (by omega);simp[cn,BK,gw,hb,this]
  ·simp[cn,hb]
 refine Ax (Bm (xl N)) (λx=>.flt (BK x)) h rfl (λa k hk=>?_) (λb k=>?_) (λb=>by rw[q])
 ·unfold Bm at hk; split at hk
  ·exact⟨_,rfl,hk⟩
  ·cases hk
 ·have e:QJ (Ic N) [.val (.float .f64 b)] [] k=Ic N b (λr0=>k (.flt r0) []):=by kernel_rfl
  rw[e,Pb,q]
end Go.Proofs.YtbiingchhnlcnaaGreatDoor
end
section
namespace Go.Proofs.YtbiingchhnlcnaaGreatDoor
open Go Go.Mach Go.Proofs
set_option maxRecDepth 50000
noncomputable section
def o1:TbS L0 L1:=λN h=>h.con (Vi N)
def o2:TbS L1 L2:=λN h=>h.con (UH N)
def o4:TbS L3 L4:=λN h=>h.con (h.alt (UG N))
def o13:TbS L12 L13:=λN h=>h.con (gQ3 N)
def o16:TbS L15 L16:=λN h=>h.con (gQ6 N)
def Vj (N:Nat) (h:OKL Pg jp (L21 N)):cK Pg 110 (QJ (Ic N)):=by
 refine Dp (cx:=cxL Pg jp N (L21 N)) (h.os N) Oh (Oq (Ic N)) (λ_=>none) 0 0 (by kernel_rfl) (λi_ hi_=>by omega) ?_;intro a k h;unfold Oq at h;split at h
 ·exact⟨[],rfl,rfl,.trans (by kernel_rfl) h⟩
 ·cases h
def o22:TbS L21 L22:=λN h=>h.con (P4 N (Vj N h))
def gQ8 (N:Nat) (h:OKL Pg jp (Mh N)):cK Pg 62 (FQ8 (sQ8 N)):=by
 refine Dp (cx:=cxL Pg jp N (Mh N)) (h.os N) QC (T2 (sQ8 N)) (λ_=>none) 0 0 (by kernel_rfl) (λi_ hi_=>by omega) ?_;intro a k h;unfold T2 at h;split at h
 ·exact⟨[],rfl,rfl,.trans (by kernel_rfl) h⟩
 ·cases h
def V8:TbS Mh Sp:=λN h=>h.con (WT N (gQ8 N h))
def gQ9 (N:Nat) (h:OKL Pg jp (Mi N)):cK Pg 63 (FQ9 (sQ9 N)):=by
 refine Dp (cx:=cxL Pg jp N (Mi N)) (h.os N) QD (T3 (sQ9 N)) (λ_=>none) 0 0 (by kernel_rfl) (λi_ hi_=>by omega) ?_;intro a k h;unfold T3 at h;split at h
 ·exact⟨[],rfl,rfl,.trans (by kernel_rfl) h⟩
 ·cases h
def Wa:TbS Mi Sr:=λN h=>h.con (WU N (gQ9 N h))
def okL (N:Nat):OKL Pg jp (Mj N):=WM N <| WL N <| WK N <| WJ N <| WI N <| WH N <| WG N <| WF N <| WE N <| WD N <| WC N <| WB N <| WA N <| Wz N <| Wy N <| Wx N <| Ww N <| Wv N <| Wu N <| Wt N <| Ws N <| Wr N <| Wq N <| Wp N <| Wo N <| Wn N <| Wm N <| Wl N <| Wk N <| Wj N <| Wi N <| Wh N <| Wg N <| Wf N <| We N <| Wd N <| Wc N <| Wb N <| Wa N <| V_ N <| V9 N <| V8 N <| V7 N <| V6 N <| V5 N <| V4 N <| V3 N <| V1 N <| V0 N <| VZ N <| VY N <| VX N <| VW N <| VV N <| VU N <| VT N <| VS N <| VR N <| VQ N <| VP N <| VO N <| VN N <| VM N <| VL N <| VK N <| VJ N <| VI N <| VH N <| VG N <| VF N <| VE N <| VD N <| VC N <| VB N <| VA N <| Vz N <| Vy N <| Vx N <| Vw N <| Vv N <| Vu N <| Vt N <| Vs N <| Vr N <| Vq N <| Vp N <| Vo N <| Vn N <| Vm N <| Vl N <| Vk N <| o99 N <| o98 N <| o97 N <| o96 N <| o95 N <| o94 N <| o93 N <| o92 N <| o91 N <| o90 N <| o89 N <| o88 N <| o87 N <| o86 N <| o85 N <| o84 N <| o83 N <| o82 N <| o81 N <| o80 N <| o79 N <| o78 N <| o77 N <| o76 N <| o75 N <| o74 N <| o73 N <| o72 N <| o71 N <| o70 N <| o69 N <| o68 N <| o67 N <| o66 N <| o65 N <| o64 N <| o63 N <| o62 N <| o61 N <| o60 N <| o59 N <| o58 N <| o57 N <| o56 N <| o55 N <| o54 N <| o53 N <| o52 N <| o51 N <| o50 N <| o49 N <| o48 N <| o47 N <| o46 N <| o45 N <| o44 N <| o43 N <| o42 N <| o41 N <| o40 N <| o39 N <| o38 N <| o37 N <| o36 N <| o35 N <| o34 N <| o33 N <| o32 N <| o31 N <| o30 N <| o29 N <| o28 N <| o27 N <| o26 N <| o25 N <| o24 N <| o23 N <| o22 N <| o21 N <| o20 N <| o19 N <| o18 N <| o17 N <| o16 N <| o15 N <| o14 N <| o13 N <| o12 N <| o11 N <| o10 N <| o9 N <| o8 N <| o7 N <| o6 N <| o5 N <| o4 N <| o3 N <| o2 N <| o1 N <| Pu hD_
def tQ1 (N:Nat) (x:List Int) (n:Int) (p:List Int) (l:List RY4) (m:List RY0) (ticks:Int) (hG:sQ1 N x n p l m ticks (λb=>b)=true):OkC Pg 4 (Og.args [.ints x,.int n,.ints p,.recs RT4 l,.recs RT0 m,.int ticks]) [] (.bool true) []:=mM N (okL N) x n p l m ticks hG
end
end Go.Proofs.YtbiingchhnlcnaaGreatDoor
end
