/- The program's functions and their ties. Conditions: none. -/
import Derived.Test.YtdinakfmablagaaGreatDoorGs
import Derived.Test.YtdinakfmablagaaGreatDoorMachT
import Derived.Test.YtdinakfmablagaaGreatDoorX0
import Derived.Test.YtdinakfmablagaaGreatDoorMachZr
import Derived.Test.YtdinakfmablagaaGreatDoorGt0
set_option linter.unusedVariables false
section
namespace Go.Proofs.YtdinakfmablagaaGreatDoor
open Go Go.Mach Go.Proofs
set_option maxRecDepth 20000
theorem Xu (N:Nat):bJ Pg 19 (Wh (Ef N)):=
 iT (DI (fn:=Tryz.f19) (by kernel_rfl) (by kernel_rfl) (by kernel_rfl) (by kernel_rfl) (by kernel_rfl)) λa k h=>by
  unfold Sv at h; split at h
  ·exact h
  ·cases h
theorem R9 (N:Nat):bJ Pg 19 (Mg (wU N)):=
 iT (KB (fn:=Tryz.f19) (by kernel_rfl) (by kernel_rfl) (by kernel_rfl) (by kernel_rfl) (by kernel_rfl)) λa k h=>by
  unfold PA wU at h; split at h
  ·split at h
   ·exact h
   ·cases h
  ·cases h
theorem R_ (N:Nat):bJ Pg 44 (Mh (Bw N)):=
 iT (B_ (fn:=Tryz.f44) (by kernel_rfl) (by kernel_rfl) (by kernel_rfl) (by kernel_rfl) (by kernel_rfl)) λa k h=>by
  unfold PB at h; split at h
  ·exact h
  ·cases h
theorem WQ (N:Nat):bJ Pg 110 (RF (Gv N)):=
 iT (CJ (fn:=Tryz.f110) (by kernel_rfl) (by kernel_rfl) (by kernel_rfl) (by kernel_rfl) (by kernel_rfl) GN) λa k h=>by
  unfold PC at h; split at h
  ·exact h
  ·cases h
theorem gQ2 (N:Nat):bJ Pg 308 (FQ2 (sQ2 N)):=
 iT (AD (fn:=Tryz.f308) (by kernel_rfl) (by kernel_rfl) (by kernel_rfl) (by kernel_rfl) (by kernel_rfl)) λa k h=>by
  unfold Xg at h; split at h
  ·exact h
  ·cases h
theorem gQ4 (N:Nat):bJ Pg 317 (FQ4 (sQ4 N)):=
 iT (AG (fn:=Tryz.f317) (by kernel_rfl) (by kernel_rfl) (by kernel_rfl) (by kernel_rfl) (by kernel_rfl)) λa k h=>by
  unfold Xh at h; split at h
  ·exact h
  ·cases h
theorem Ze (N:Nat) (h:bJ Pg 122 (FQ6 (sQ6 N))):bJ Pg 122 (Wi (Po N)):=by
 have q:∀ b,Ai (cn (some b))=Ai (some b):=by intro b; by_cases hb:isNaN b=true <;> simp[cn,Ai,cls,hb]
 refine AE (PD (Po N)) (λx=>.int .i64 (Ai x)) h rfl (λa k hk=>?_) (λb k=>?_) (λb=>by rw[q])
 ·unfold PD at hk; split at hk
  ·exact⟨_,rfl,hk⟩
  ·cases hk
 ·have e:FQ6 (sQ6 N) [.val (.float .f64 b)] [] k=sQ6 N b (λr0=>k (.int .i64 r0) []):=by kernel_rfl
  rw[e,KL,q]; rfl
theorem Zf (N:Nat) (h:bJ Pg 123 (FQ7 (sQ7 N))):bJ Pg 123 (Wj (Pq N)):=by
 have q:∀ x,cn (cn x)=cn x:=by
  intro x;cases x with
  | none=>rfl
  | some b=>by_cases hb:isNaN b=true <;> simp[cn,hb]
 refine HF (PF (Pq N)) (λx y=>.bool (decide (cn x=cn y))) h rfl (λa k hk=>?_) (λb c k=>?_) (λx y=>by simp only[q])
 ·unfold PF at hk; split at hk
  ·exact⟨_,_,rfl,hk⟩
  ·cases hk
 ·have e:FQ7 (sQ7 N) [.val (.float .f64 b),.val (.float .f64 c)] [] k=sQ7 N b c (λr0=>k (.bool r0) []):=by kernel_rfl
  rw[e,Ol]; simp only[q]
theorem RE (N:Nat) (h:bJ Pg 167 (SB (Iw N))):bJ Pg 167 (II (wZ N)):=by
 have q:∀ b,B8 (cn (some b))=B8 (some b):=by
  intro b;by_cases hb:isNaN b=true
  ·have hb':=(fv b).1 hb;have:isNaN (b%9223372036854775808)=true:=(fv _).2 (by omega);simp[cn,B8,jF,hb,this]
  ·simp[cn,hb]
 refine AE (BG (wZ N)) (λx=>.flt (B8 x)) h rfl (λa k hk=>?_) (λb k=>?_) (λb=>by rw[q])
 ·unfold BG at hk; split at hk
  ·exact⟨_,rfl,hk⟩
  ·cases hk
 ·have e:SB (Iw N) [.val (.float .f64 b)] [] k=Iw N b (λr0=>k (.flt r0) []):=by kernel_rfl
  rw[e,Qx,q]
end Go.Proofs.YtdinakfmablagaaGreatDoor
end
section
namespace Go.Proofs.YtdinakfmablagaaGreatDoor
open Go Go.Mach Go.Proofs
set_option maxRecDepth 50000
def xC (S:Int->Int->Int->(Int->Int->Bool)->Bool):List Atom->(V->List Blk->Bool)->Bool:=λa_ kk_=>match a_ with
 | [.int x,.int y,.int z]=>S x y z λr s=>kk_ (.tup [.int .u64 r,.int .u64 s]) []
 | _=>false
def Qw:FnSh:=⟨[.int .u64,.int .u64,.int .u64],[]⟩
def WU:Int->Int->Int->(Int->Int->Bool)->Bool:=λx y c k=>(decide (c.toNat<=1))&&k (((x.toNat+y.toNat+c.toNat)%18446744073709551616:Nat):Int) (((x.toNat+y.toNat+c.toNat) / 18446744073709551616:Nat):Int)
def WV:Int->Int->Int->(Int->Int->Bool)->Bool:=λx y c k=>(decide (c.toNat<=1))&&k (((x.toNat+18446744073709551616 - y.toNat - c.toNat)%18446744073709551616:Nat):Int) (cond (decide (x.toNat<y.toNat+c.toNat)) 1 0)
theorem Ql:bJ Tryz.prog 308 (fJ Qw (xC WU)):=
 iT (AD (fn:=Tryz.f308) (by kernel_rfl) (by kernel_rfl) (by kernel_rfl) (by kernel_rfl) (by kernel_rfl)) λa k h=>by
  unfold xC at h; split at h
  ·exact h
  ·cases h
theorem Qn:bJ Tryz.prog 317 (fJ Qw (xC WV)):=
 iT (AG (fn:=Tryz.f317) (by kernel_rfl) (by kernel_rfl) (by kernel_rfl) (by kernel_rfl) (by kernel_rfl)) λa k h=>by
  unfold xC at h; split at h
  ·exact h
  ·cases h
def Vl:List Atom->(V->List Blk->Bool)->Bool:=λa_ kk_=>match a_ with
 | [.fl x]=>kk_ (.flt (uJ x)) []
 | _=>false
def WW:FnSh:=⟨[.flt],[]⟩
theorem Qm:bJ Tryz.prog 110 (fJ WW Vl):=
 iT (CJ (fn:=Tryz.f110) (by kernel_rfl) (by kernel_rfl) (by kernel_rfl) (by kernel_rfl) (by kernel_rfl) GN) λa k h=>by
  unfold Vl at h; split at h
  ·exact h
  ·cases h
def Of:Nat->Bool:=λg=>Nat.ble g 999999||g==2000180||g==3000048||g==3000047||(Nat.ble 4000185 g&&Nat.ble g 4000188)||g==4000146||g==4000147||g==4000061||g==4000128||g==4000184
def kdf:Nat->Bool:=λg=>g==125
noncomputable def Od:List (Nat × Fs):=[(19,Mg (wU 1000)),(110,fJ WW Vl),(44,Mh (Bw 1000)),(308,fJ Qw (xC WU)),(317,fJ Qw (xC WV))]
theorem FF:nP Tryz.prog (dL Od)/\FrL Of Od:=
 ⟨iN (R9 1000) (iN Qm (iN (R_ 1000) (iN Ql (iN Qn (Bm _))))),Fy _ (by kernel_rfl)⟩
theorem khD:∀ g,g<1000000->Of (2000000+g)=true->uC Tryz.prog g:=by
 intro g hg h;have e:g=180:=by
  unfold Of at h;have hb:Nat.ble (2000000+g) 999999=false:=by
   cases hh:Nat.ble (2000000+g) 999999 with
   | false=>rfl
   | true=>have:=Nat.le_of_ble_eq_true hh; omega
  rw[hb]at h;simp at h; omega
 rcases e with rfl
 exact R4
noncomputable def kcx (L:List Nat):Cx:=⟨Tryz.prog,dL (upS Tryz.prog Of 400 kdf Od L),Of,400⟩
theorem kos (L:List Nat):OS (kcx L):=Wd FF.1 FF.2 khD L
def kL:List Nat:=[43,28,84,143,83,141,196,195,140,194,223,222,221,144,133,78,131,130,127,139,193,134,126,142,10,50,184,224,220,197,188,187,59,185,186,147,146,180,181,128,129,92,61,49,46,48,47,107,167,45,25,77,125,183,217,247,273,246,272,245,271,294,295,270,269,216,244,268,293,243,267,292,291,310,318,309,296,242,182,215,241,266,240,265,239,264,287,302,301,314,313,300,299,298,289,306,312,305,316,290,307,303,315,304,311,288,238,263,237,262,236,261,235,260,286,259,234,258,285,214,76,124,123,74,121,75,122,178,177,211,179,213,232,212,233,231]
theorem gQ0 (N_:Nat):bJ Tryz.prog 22 (FQ0 (sQ0 N_)):=by
 refine zD (cx:=kcx kL) (kos kL) Sr (V5 λk=>k true) (λ_=>none) 0 0 (by kernel_rfl) (λi_ hi_=>by omega) ?_;intro a k h;unfold V5 at h;split at h
 ·exact⟨[],rfl,rfl,.trans (by kernel_rfl) h⟩
 ·cases h
end Go.Proofs.YtdinakfmablagaaGreatDoor
end
section
namespace Go.Proofs.YtdinakfmablagaaGreatDoor
open Go Go.Mach Go.Proofs
set_option maxRecDepth 50000
noncomputable section
theorem o1:TbS L0 L1:=λN h=>h.con (Xu N)
theorem o2:TbS L1 L2:=λN h=>h.con (R_ N)
theorem o4:TbS L3 L4:=λN h=>h.con (h.alt (R9 N))
theorem o13:TbS L12 L13:=λN h=>h.con (gQ2 N)
theorem o16:TbS L15 L16:=λN h=>h.con (gQ4 N)
theorem o21:TbS L20 L21:=λN h=>h.con (WQ N)
theorem Xv (N:Nat) (h:OKL Pg km (L23 N)):bJ Pg 167 (SB (Iw N)):=by
 refine zD (cx:=cxL Pg km N (L23 N)) (h.os N) Px (PE (Iw N)) (λ_=>none) 0 0 (by kernel_rfl) (λi_ hi_=>by omega) ?_;intro a k h;unfold PE at h;split at h
 ·exact⟨[],rfl,rfl,.trans (by kernel_rfl) h⟩
 ·cases h
theorem o24:TbS L23 L24:=λN h=>h.con (RE N (Xv N h))
theorem o69:TbS L68 L69:=λN h=>h.con (gQ0 N)
theorem gQ6 (N:Nat) (h:OKL Pg km (Nd N)):bJ Pg 122 (FQ6 (sQ6 N)):=by
 refine zD (cx:=cxL Pg km N (Nd N)) (h.os N) Ss (V6 (sQ6 N)) (λ_=>none) 0 0 (by kernel_rfl) (λi_ hi_=>by omega) ?_;intro a k h;unfold V6 at h;split at h
 ·exact⟨[],rfl,rfl,.trans (by kernel_rfl) h⟩
 ·cases h
theorem X7:TbS Nd TY:=λN h=>h.con (Ze N (gQ6 N h))
theorem gQ7 (N:Nat) (h:OKL Pg km (Nf N)):bJ Pg 123 (FQ7 (sQ7 N)):=by
 refine zD (cx:=cxL Pg km N (Nf N)) (h.os N) Su (V7 (sQ7 N)) (λ_=>none) 0 0 (by kernel_rfl) (λi_ hi_=>by omega) ?_;intro a k h;unfold V7 at h;split at h
 ·exact⟨[],rfl,rfl,.trans (by kernel_rfl) h⟩
 ·cases h
theorem X_:TbS Nf T0:=λN h=>h.con (Zf N (gQ7 N h))
theorem okL (N:Nat):OKL Pg km (U2 N):=Za N <| Y_ N <| Y9 N <| Y8 N <| Y7 N <| Y6 N <| Y5 N <| Y4 N <| Y3 N <| Y2 N <| Y1 N <| Y0 N <| YZ N <| YY N <| YX N <| YW N <| YV N <| YU N <| YT N <| YS N <| YR N <| YQ N <| YP N <| YO N <| YN N <| YM N <| YL N <| YK N <| YJ N <| YI N <| YH N <| YG N <| YF N <| YE N <| YD N <| YC N <| YB N <| YA N <| Yz N <| Yy N <| Yx N <| Yw N <| Yv N <| Yu N <| Yt N <| Ys N <| Yr N <| Yq N <| Yp N <| Yo N <| Yn N <| Ym N <| Yl N <| Yk N <| Yj N <| Yi N <| Yh N <| Yg N <| Yf N <| Ye N <| Yd N <| Yc N <| Yb N <| Ya N <| X_ N <| X9 N <| X8 N <| X7 N <| X6 N <| X5 N <| X4 N <| X3 N <| X2 N <| X1 N <| X0 N <| XZ N <| XY N <| XX N <| XW N <| XV N <| XU N <| XT N <| XS N <| XR N <| XQ N <| XP N <| XO N <| XN N <| XM N <| XL N <| XK N <| XJ N <| XI N <| XH N <| XG N <| XF N <| XE N <| XD N <| XC N <| XB N <| XA N <| o99 N <| o98 N <| o97 N <| o96 N <| o95 N <| o94 N <| o93 N <| o92 N <| o91 N <| o90 N <| o89 N <| o88 N <| o87 N <| o86 N <| o85 N <| o84 N <| o83 N <| o82 N <| o81 N <| o80 N <| o79 N <| o78 N <| o77 N <| o76 N <| o75 N <| o74 N <| o73 N <| o72 N <| o71 N <| o70 N <| o69 N <| o68 N <| o67 N <| o66 N <| o65 N <| o64 N <| o63 N <| o62 N <| o61 N <| o60 N <| o59 N <| o58 N <| o57 N <| o56 N <| o55 N <| o54 N <| o53 N <| o52 N <| o51 N <| o50 N <| o49 N <| o48 N <| o47 N <| o46 N <| o45 N <| o44 N <| o43 N <| o42 N <| o41 N <| o40 N <| o39 N <| o38 N <| o37 N <| o36 N <| o35 N <| o34 N <| o33 N <| o32 N <| o31 N <| o30 N <| o29 N <| o28 N <| o27 N <| o26 N <| o25 N <| o24 N <| o23 N <| o22 N <| o21 N <| o20 N <| o19 N <| o18 N <| o17 N <| o16 N <| o15 N <| o14 N <| o13 N <| o12 N <| o11 N <| o10 N <| o9 N <| o8 N <| o7 N <| o6 N <| o5 N <| o4 N <| o3 N <| o2 N <| o1 N <| Q0 hD_
theorem tQ3 (N:Nat) (x:List Int) (rows:Int) (p m q:List Int) (hG:sQ3 N x rows p m q (λb=>b)=true):OkC Pg 6 (Pw.args [.ints x,.int rows,.ints p,.ints m,.ints q]) [] (.bool true) []:=oy N (okL N) x rows p m q hG
end
end Go.Proofs.YtdinakfmablagaaGreatDoor
end
