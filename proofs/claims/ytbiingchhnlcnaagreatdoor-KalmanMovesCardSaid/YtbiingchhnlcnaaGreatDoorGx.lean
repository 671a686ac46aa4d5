/- The program's functions and their ties. Conditions: none. -/
import Derived.Test.YtbiingchhnlcnaaGreatDoorGs
import Derived.Test.YtbiingchhnlcnaaGreatDoorMachT
import Derived.Test.YtbiingchhnlcnaaGreatDoorC8
import Derived.Test.YtbiingchhnlcnaaGreatDoorGt0
import Derived.Test.YtbiingchhnlcnaaGreatDoorGt2
set_option linter.defProp false
set_option linter.unusedVariables false
section
namespace Go.Proofs.YtbiingchhnlcnaaGreatDoor
open Go Go.Mach Go.Proofs
set_option maxRecDepth 20000
def Xa (N:Nat):ca Pg 93 (VW (EQ N)):=
 oe (Eh (fn:=Tryz.f93) (by kernel_rfl) (by kernel_rfl) (by kernel_rfl) (by kernel_rfl) (by kernel_rfl)) λa k h=>by
  unfold Sd at h; split at h
  ·exact h
  ·cases h
def Wx (N:Nat):ca Pg 93 (Ro (tY N)):=
 oe (K_ (fn:=Tryz.f93) (by kernel_rfl) (by kernel_rfl) (by kernel_rfl) (by kernel_rfl) (by kernel_rfl)) λa k h=>by
  unfold PO tY at h; split at h
  ·split at h
   ·exact h
   ·cases h
  ·cases h
def Wy (N:Nat):ca Pg 29 (Rp (xz N)):=
 oe (Cy (fn:=Tryz.f29) (by kernel_rfl) (by kernel_rfl) (by kernel_rfl) (by kernel_rfl) (by kernel_rfl)) λa k h=>by
  unfold PP at h; split at h
  ·exact h
  ·cases h
def Wz (N:Nat):ca Pg 177 (Rq (Pt N)):=
 oe (Ld (fn:=Tryz.f177) (by kernel_rfl) (by kernel_rfl) (by kernel_rfl) (by kernel_rfl) (by kernel_rfl) PU) λa k h=>by
  unfold PQ at h; split at h
  ·exact h
  ·cases h
def gQ2 (N:Nat):ca Pg 247 (FQ2 (sQ2 N)):=
 oe (Ie (fn:=Tryz.f247) (by kernel_rfl) (by kernel_rfl) (by kernel_rfl) (by kernel_rfl) (by kernel_rfl)) λa k h=>by
  unfold WY at h; split at h
  ·exact h
  ·cases h
def gQ3 (N:Nat):ca Pg 256 (FQ3 (sQ3 N)):=
 oe (Ih (fn:=Tryz.f256) (by kernel_rfl) (by kernel_rfl) (by kernel_rfl) (by kernel_rfl) (by kernel_rfl)) λa k h=>by
  unfold WZ at h; split at h
  ·exact h
  ·cases h
def Y2 (N:Nat) (h:ca Pg 62 (FQ5 (sQ5 N))):ca Pg 62 (VX (PD N)):=by
 have q:∀ b,AN (cn (some b))=AN (some b):=by intro b; by_cases hb:isNaN b=true <;> simp[cn,AN,cls,hb]
 refine A9 (PR (PD N)) (λx=>.int .i64 (AN x)) h rfl (λa k hk=>?_) (λb k=>?_) (λb=>by rw[q])
 ·unfold PR at hk; split at hk
  ·exact⟨_,rfl,hk⟩
  ·cases hk
 ·have e:FQ5 (sQ5 N) [.val (.float .f64 b)] [] k=sQ5 N b (λr0=>k (.int .i64 r0) []):=by kernel_rfl
  rw[e,Lk,q]; rfl
def Y3 (N:Nat) (h:ca Pg 63 (FQ6 (sQ6 N))):ca Pg 63 (VY (PF N)):=by
 have q:∀ x,cn (cn x)=cn x:=by
  intro x;cases x with
  | none=>rfl
  | some b=>by_cases hb:isNaN b=true <;> simp[cn,hb]
 refine Ig (PT (PF N)) (λx y=>.bool (decide (cn x=cn y))) h rfl (λa k hk=>?_) (λb c k=>?_) (λx y=>by simp only[q])
 ·unfold PT at hk; split at hk
  ·exact⟨_,_,rfl,hk⟩
  ·cases hk
 ·have e:FQ6 (sQ6 N) [.val (.float .f64 b),.val (.float .f64 c)] [] k=sQ6 N b c (λr0=>k (.bool r0) []):=by kernel_rfl
  rw[e,OB]; simp only[q]
def Rn (N:Nat) (h:ca Pg 110 (Sj (I8 N))):ca Pg 110 (Jk (vh N)):=by
 have q:∀ b,Cv (cn (some b))=Cv (some b):=by
  intro b;by_cases hb:isNaN b=true
  ·have hb':=(eW b).1 hb;have:isNaN (b%9223372036854775808)=true:=(eW _).2 (by omega);simp[cn,Cv,js,hb,this]
  ·simp[cn,hb]
 refine A9 (B9 (vh N)) (λx=>.flt (Cv x)) h rfl (λa k hk=>?_) (λb k=>?_) (λb=>by rw[q])
 ·unfold B9 at hk; split at hk
  ·exact⟨_,rfl,hk⟩
  ·cases hk
 ·have e:Sj (I8 N) [.val (.float .f64 b)] [] k=I8 N b (λr0=>k (.flt r0) []):=by kernel_rfl
  rw[e,Qz,q]
end Go.Proofs.YtbiingchhnlcnaaGreatDoor
end
section
namespace Go.Proofs.YtbiingchhnlcnaaGreatDoor
open Go Go.Mach Go.Proofs
set_option maxRecDepth 50000
noncomputable section
def o1:TbS L0 L1:=λN h=>h.con (Xa N)
def o2:TbS L1 L2:=λN h=>h.con (Wy N)
def o4:TbS L3 L4:=λN h=>h.con (h.alt (Wx N))
def o13:TbS L12 L13:=λN h=>h.con (gQ2 N)
def o16:TbS L15 L16:=λN h=>h.con (gQ3 N)
def Xb (N:Nat) (h:OKL Pg km (L25 N)):ca Pg 110 (Sj (I8 N)):=by
 refine Ei (cx:=cxL Pg km N (L25 N)) (h.os N) PL (PS (I8 N)) (λ_=>none) 0 0 (by kernel_rfl) (λi_ hi_=>by omega) ?_;intro a k h;unfold PS at h;split at h
 ·exact⟨[],rfl,rfl,.trans (by kernel_rfl) h⟩
 ·cases h
def o26:TbS L25 L26:=λN h=>h.con (Rn N (Xb N h))
def o72:TbS L71 L72:=λN h=>h.con (Wz N)
def gQ5 (N:Nat) (h:OKL Pg km (NC N)):ca Pg 62 (FQ5 (sQ5 N)):=by
 refine Ei (cx:=cxL Pg km N (NC N)) (h.os N) Sb (VM (sQ5 N)) (λ_=>none) 0 0 (by kernel_rfl) (λi_ hi_=>by omega) ?_;intro a k h;unfold VM at h;split at h
 ·exact⟨[],rfl,rfl,.trans (by kernel_rfl) h⟩
 ·cases h
def X8:TbS NC T3:=λN h=>h.con (Y2 N (gQ5 N h))
def gQ6 (N:Nat) (h:OKL Pg km (ND N)):ca Pg 63 (FQ6 (sQ6 N)):=by
 refine Ei (cx:=cxL Pg km N (ND N)) (h.os N) Sc (VN (sQ6 N)) (λ_=>none) 0 0 (by kernel_rfl) (λi_ hi_=>by omega) ?_;intro a k h;unfold VN at h;split at h
 ·exact⟨[],rfl,rfl,.trans (by kernel_rfl) h⟩
 ·cases h
def Ya:TbS ND T5:=λN h=>h.con (Y3 N (gQ6 N h))
def okL (N:Nat):OKL Pg km (UP N):=YV N <| YU N <| YT N <| YS N <| YR N <| YQ N <| YP N <| YO N <| YN N <| YM N <| YL N <| YK N <| YJ N <| YI N <| YH N <| YG N <| YF N <| YE N <| YD N <| YC N <| YB N <| YA N <| Yz N <| Yy N <| Yx N <| Yw N <| Yv N <| Yu N <| Yt N <| Ys N <| Yr N <| Yq N <| Yp N <| Yo N <| Yn N <| Ym N <| Yl N <| Yk N <| Yj N <| Yi N <| Yh N <| Yg N <| Yf N <| Ye N <| Yd N <| Yc N <| Yb N <| Ya N <| X_ N <| X9 N <| X8 N <| X7 N <| X6 N <| X5 N <| X4 N <| X3 N <| X2 N <| X1 N <| X0 N <| XZ N <| XY N <| XX N <| XW N <| XV N <| XU N <| XT N <| XS N <| XR N <| XQ N <| XP N <| XO N <| XN N <| XM N <| XL N <| XK N <| XJ N <| XI N <| XH N <| XG N <| XF N <| XE N <| XD N <| XC N <| XB N <| XA N <| Xz N <| Xy N <| Xx N <| Xw N <| Xv N <| Xu N <| Xt N <| Xs N <| Xr N <| Xq N <| Xp N <| Xo N <| Xn N <| Xm N <| Xl N <| Xk N <| Xj N <| Xi N <| Xh N <| Xg N <| Xf N <| Xe N <| Xd N <| Xc N <| o99 N <| o98 N <| o97 N <| o96 N <| o95 N <| o94 N <| o93 N <| o92 N <| o91 N <| o90 N <| o89 N <| o88 N <| o87 N <| o86 N <| o85 N <| o84 N <| o83 N <| o82 N <| o81 N <| o80 N <| o79 N <| o78 N <| o77 N <| o76 N <| o75 N <| o74 N <| o73 N <| o72 N <| o71 N <| o70 N <| o69 N <| o68 N <| o67 N <| o66 N <| o65 N <| o64 N <| o63 N <| o62 N <| o61 N <| o60 N <| o59 N <| o58 N <| o57 N <| o56 N <| o55 N <| o54 N <| o53 N <| o52 N <| o51 N <| o50 N <| o49 N <| o48 N <| o47 N <| o46 N <| o45 N <| o44 N <| o43 N <| o42 N <| o41 N <| o40 N <| o39 N <| o38 N <| o37 N <| o36 N <| o35 N <| o34 N <| o33 N <| o32 N <| o31 N <| o30 N <| o29 N <| o28 N <| o27 N <| o26 N <| o25 N <| o24 N <| o23 N <| o22 N <| o21 N <| o20 N <| o19 N <| o18 N <| o17 N <| o16 N <| o15 N <| o14 N <| o13 N <| o12 N <| o11 N <| o10 N <| o9 N <| o8 N <| o7 N <| o6 N <| o5 N <| o4 N <| o3 N <| o2 N <| o1 N <| QS hD_
def tQ1 (N:Nat) (x:List Int) (rows:Int) (p:List Int) (m:List RY0) (ticks:Int) (hG:sQ1 N x rows p m ticks (λb=>b)=true):OkC Pg 3 (PK.args [.ints x,.int rows,.ints p,.recs RT0 m,.int ticks]) [] (.bool true) []:=ob N (okL N) x rows p m ticks hG
end
end Go.Proofs.YtbiingchhnlcnaaGreatDoor
end
