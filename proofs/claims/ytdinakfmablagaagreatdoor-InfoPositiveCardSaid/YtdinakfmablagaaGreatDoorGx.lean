/- The program's functions and their ties. Conditions: none. -/
import Derived.Test.YtdinakfmablagaaGreatDoorGs
import Derived.Test.YtdinakfmablagaaGreatDoorMachT
import Derived.Test.YtdinakfmablagaaGreatDoorX0
import Derived.Test.YtdinakfmablagaaGreatDoorMachZr
import Derived.Test.YtdinakfmablagaaGreatDoorGt0
set_option linter.unusedVariables false
section
namespace Go.Proofs.YtdinakfmablagaaGreatDoor
open Go Go.Mach Go.Proofs
set_option maxRecDepth 20000
theorem XZ (N:Nat):bO Pg 19 (WF (Ef N)):=
 iT (DF (fn:=Tryz.f19) (by kernel_rfl) (by kernel_rfl) (by kernel_rfl) (by kernel_rfl) (by kernel_rfl)) λa k h=>by
  unfold S6 at h; split at h
  ·exact h
  ·cases h
theorem SJ (N:Nat):bO Pg 19 (MJ (zd N)):=
 iT (K0 (fn:=Tryz.f19) (by kernel_rfl) (by kernel_rfl) (by kernel_rfl) (by kernel_rfl) (by kernel_rfl)) λa k h=>by
  unfold P7 zd at h; split at h
  ·split at h
   ·exact h
   ·cases h
  ·cases h
theorem SK (N:Nat):bO Pg 44 (MK (ze N)):=
 iT (B8 (fn:=Tryz.f44) (by kernel_rfl) (by kernel_rfl) (by kernel_rfl) (by kernel_rfl) (by kernel_rfl)) λa k h=>by
  unfold P8 at h; split at h
  ·exact h
  ·cases h
theorem Xk (N:Nat):bO Pg 110 (Si (J2 N)):=
 iT (CG (fn:=Tryz.f110) (by kernel_rfl) (by kernel_rfl) (by kernel_rfl) (by kernel_rfl) (by kernel_rfl) GZ) λa k h=>by
  unfold P9 at h; split at h
  ·exact h
  ·cases h
theorem gQ3 (N:Nat):bO Pg 308 (FQ3 (sQ3 N)):=
 iT (AB (fn:=Tryz.f308) (by kernel_rfl) (by kernel_rfl) (by kernel_rfl) (by kernel_rfl) (by kernel_rfl)) λa k h=>by
  unfold XL at h; split at h
  ·exact h
  ·cases h
theorem gQ5 (N:Nat):bO Pg 317 (FQ5 (sQ5 N)):=
 iT (AE (fn:=Tryz.f317) (by kernel_rfl) (by kernel_rfl) (by kernel_rfl) (by kernel_rfl) (by kernel_rfl)) λa k h=>by
  unfold XM at h; split at h
  ·exact h
  ·cases h
theorem Zt (N:Nat) (h:bO Pg 122 (FQ7 (sQ7 N))):bO Pg 122 (WG (PU N)):=by
 have q:∀ b,Ag (cn (some b))=Ag (some b):=by intro b; by_cases hb:isNaN b=true <;> simp[cn,Ag,cls,hb]
 refine AC (P_ (PU N)) (λx=>.int .i64 (Ag x)) h rfl (λa k hk=>?_) (λb k=>?_) (λb=>by rw[q])
 ·unfold P_ at hk; split at hk
  ·exact⟨_,rfl,hk⟩
  ·cases hk
 ·have e:FQ7 (sQ7 N) [.val (.float .f64 b)] [] k=sQ7 N b (λr0=>k (.int .i64 r0) []):=by kernel_rfl
  rw[e,Lc,q]; rfl
theorem Zu (N:Nat) (h:bO Pg 123 (FQ8 (sQ8 N))):bO Pg 123 (WH (IL N)):=by
 have q:∀ x,cn (cn x)=cn x:=by
  intro x;cases x with
  | none=>rfl
  | some b=>by_cases hb:isNaN b=true <;> simp[cn,hb]
 refine HR (Qb (IL N)) (λx y=>.bool (decide (cn x=cn y))) h rfl (λa k hk=>?_) (λb c k=>?_) (λx y=>by simp only[q])
 ·unfold Qb at hk; split at hk
  ·exact⟨_,_,rfl,hk⟩
  ·cases hk
 ·have e:FQ8 (sQ8 N) [.val (.float .f64 b),.val (.float .f64 c)] [] k=sQ8 N b c (λr0=>k (.bool r0) []):=by kernel_rfl
  rw[e,OP]; simp only[q]
theorem Sg (N:Nat) (h:bO Pg 167 (Td (IJ N))):bO Pg 167 (I4 (xi N)):=by
 have q:∀ b,B5 (cn (some b))=B5 (some b):=by
  intro b;by_cases hb:isNaN b=true
  ·have hb':=(fK b).1 hb;have:isNaN (b%9223372036854775808)=true:=(fK _).2 (by omega);simp[cn,B5,fp,hb,this]
  ·simp[cn,hb]
 refine AC (BF (xi N)) (λx=>.flt (B5 x)) h rfl (λa k hk=>?_) (λb k=>?_) (λb=>by rw[q])
 ·unfold BF at hk; split at hk
  ·exact⟨_,rfl,hk⟩
  ·cases hk
 ·have e:Td (IJ N) [.val (.float .f64 b)] [] k=IJ N b (λr0=>k (.flt r0) []):=by kernel_rfl
  rw[e,Q_,q]
theorem kc (N:Nat):bO Pg 60 (eC (aO N)):=by
 refine HQ (cx:=⟨Pg,dH [],λ_=>false,1⟩) (RB (vW _) (by kernel_rfl)) (e:=36) (λ_ _=>by kernel_rfl) (λ_ _ _=>by kernel_rfl) (λ_ _ _=>by kernel_rfl) rfl _ λa k h=>?_
 unfold eo aO at h;split at h
 ·rename_i s;rw[Bool.and_eq_true,decide_eq_true_eq]at h;exact⟨s,rfl,h.1,h.2⟩
 ·cases h
end Go.Proofs.YtdinakfmablagaaGreatDoor
end
section
namespace Go.Proofs.YtdinakfmablagaaGreatDoor
open Go Go.Mach Go.Proofs
set_option maxRecDepth 50000
def xS (S:Int->Int->Int->(Int->Int->Bool)->Bool):List Atom->(V->List Blk->Bool)->Bool:=λa_ kk_=>match a_ with
 | [.int x,.int y,.int z]=>S x y z λr s=>kk_ (.tup [.int .u64 r,.int .u64 s]) []
 | _=>false
def Q9:FnSh:=⟨[.int .u64,.int .u64,.int .u64],[]⟩
def Xp:Int->Int->Int->(Int->Int->Bool)->Bool:=λx y c k=>(decide (c.toNat<=1))&&k (((x.toNat+y.toNat+c.toNat)%18446744073709551616:Nat):Int) (((x.toNat+y.toNat+c.toNat) / 18446744073709551616:Nat):Int)
def Xq:Int->Int->Int->(Int->Int->Bool)->Bool:=λx y c k=>(decide (c.toNat<=1))&&k (((x.toNat+18446744073709551616 - y.toNat - c.toNat)%18446744073709551616:Nat):Int) (cond (decide (x.toNat<y.toNat+c.toNat)) 1 0)
theorem QW:bO Tryz.prog 308 (fe Q9 (xS Xp)):=
 iT (AB (fn:=Tryz.f308) (by kernel_rfl) (by kernel_rfl) (by kernel_rfl) (by kernel_rfl) (by kernel_rfl)) λa k h=>by
  unfold xS at h; split at h
  ·exact h
  ·cases h
theorem QY:bO Tryz.prog 317 (fe Q9 (xS Xq)):=
 iT (AE (fn:=Tryz.f317) (by kernel_rfl) (by kernel_rfl) (by kernel_rfl) (by kernel_rfl) (by kernel_rfl)) λa k h=>by
  unfold xS at h; split at h
  ·exact h
  ·cases h
def VM:List Atom->(V->List Blk->Bool)->Bool:=λa_ kk_=>match a_ with
 | [.fl x]=>kk_ (.flt (ba x)) []
 | _=>false
def Xr:FnSh:=⟨[.flt],[]⟩
theorem QX:bO Tryz.prog 110 (fe Xr VM):=
 iT (CG (fn:=Tryz.f110) (by kernel_rfl) (by kernel_rfl) (by kernel_rfl) (by kernel_rfl) (by kernel_rfl) GZ) λa k h=>by
  unfold VM at h; split at h
  ·exact h
  ·cases h
def OK:Nat->Bool:=λg=>Nat.ble g 999999||g==2000180||g==3000048||g==3000047||(Nat.ble 4000185 g&&Nat.ble g 4000188)||g==4000146||g==4000147||g==4000061||g==4000128||g==4000184
def kdf:Nat->Bool:=λg=>g==125
noncomputable def OI:List (Nat × Fs):=[(19,MJ (zd 1000)),(110,fe Xr VM),(44,MK (ze 1000)),(308,fe Q9 (xS Xp)),(317,fe Q9 (xS Xq))]
theorem FL:mM Tryz.prog (dH OI)/\FrL OK OI:=
 ⟨iM (SJ 1000) (iM QX (iM (SK 1000) (iM QW (iM QY (vW _))))),Ay _ (by kernel_rfl)⟩
theorem khD:∀ g,g<1000000->OK (2000000+g)=true->uJ Tryz.prog g:=by
 intro g hg h;have e:g=180:=by
  unfold OK at h;have hb:Nat.ble (2000000+g) 999999=false:=by
   cases hh:Nat.ble (2000000+g) 999999 with
   | false=>rfl
   | true=>have:=Nat.le_of_ble_eq_true hh; omega
  rw[hb]at h;simp at h; omega
 rcases e with rfl
 exact SE
noncomputable def kcx (L:List Nat):Cx:=⟨Tryz.prog,dH (upS Tryz.prog OK 400 kdf OI L),OK,400⟩
theorem kos (L:List Nat):OS (kcx L):=WC FL.1 FL.2 khD L
def kL:List Nat:=[43,28,84,143,83,141,196,195,140,194,223,222,221,144,133,78,131,130,127,139,193,134,126,142,10,50,184,224,220,197,188,187,59,185,186,147,146,180,181,128,129,92,61,49,46,48,47,107,167,45,25,77,125,183,217,247,273,246,272,245,271,294,295,270,269,216,244,268,293,243,267,292,291,310,318,309,296,242,182,215,241,266,240,265,239,264,287,302,301,314,313,300,299,298,289,306,312,305,316,290,307,303,315,304,311,288,238,263,237,262,236,261,235,260,286,259,234,258,285,214,76,124,123,74,121,75,122,178,177,211,179,213,232,212,233,231]
theorem gQ0 (N_:Nat):bO Tryz.prog 22 (FQ0 (sQ0 N_)):=by
 refine zL (cx:=kcx kL) (kos kL) S3 (Wu λk=>k true) (λ_=>none) 0 0 (by kernel_rfl) (λi_ hi_=>by omega) ?_;intro a k h;unfold Wu at h;split at h
 ·exact⟨[],rfl,rfl,.trans (by kernel_rfl) h⟩
 ·cases h
end Go.Proofs.YtdinakfmablagaaGreatDoor
end
section
namespace Go.Proofs.YtdinakfmablagaaGreatDoor
open Go Go.Mach Go.Proofs
set_option maxRecDepth 50000
noncomputable section
theorem o1:TbS L0 L1:=λN h=>h.con (XZ N)
theorem o2:TbS L1 L2:=λN h=>h.con (SK N)
theorem o4:TbS L3 L4:=λN h=>h.con (h.alt (SJ N))
theorem o13:TbS L12 L13:=λN h=>h.con (gQ3 N)
theorem o16:TbS L15 L16:=λN h=>h.con (gQ5 N)
theorem o21:TbS L20 L21:=λN h=>h.con (gQ0 N)
theorem o22:TbS L21 L22:=λN h=>h.con (Xk N)
theorem X0 (N:Nat) (h:OKL Pg jh (L22 N)):bO Pg 167 (Td (IJ N)):=by
 refine zL (cx:=cxL Pg jh N (L22 N)) (h.os N) P2 (Qa (IJ N)) (λ_=>none) 0 0 (by kernel_rfl) (λi_ hi_=>by omega) ?_;intro a k h;unfold Qa at h;split at h
 ·exact⟨[],rfl,rfl,.trans (by kernel_rfl) h⟩
 ·cases h
theorem o23:TbS L22 L23:=λN h=>h.con (Sg N (X0 N h))
theorem o60:TbS L59 L60:=λN h=>h.con (kc N)
theorem gQ7 (N:Nat) (h:OKL Pg jh (Nz N)):bO Pg 122 (FQ7 (sQ7 N)):=by
 refine zL (cx:=cxL Pg jh N (Nz N)) (h.os N) S4 (Wv (sQ7 N)) (λ_=>none) 0 0 (by kernel_rfl) (λi_ hi_=>by omega) ?_;intro a k h;unfold Wv at h;split at h
 ·exact⟨[],rfl,rfl,.trans (by kernel_rfl) h⟩
 ·cases h
theorem Yu:TbS Nz Us:=λN h=>h.con (Zt N (gQ7 N h))
theorem gQ8 (N:Nat) (h:OKL Pg jh (NA N)):bO Pg 123 (FQ8 (sQ8 N)):=by
 refine zL (cx:=cxL Pg jh N (NA N)) (h.os N) S5 (Ww (sQ8 N)) (λ_=>none) 0 0 (by kernel_rfl) (λi_ hi_=>by omega) ?_;intro a k h;unfold Ww at h;split at h
 ·exact⟨[],rfl,rfl,.trans (by kernel_rfl) h⟩
 ·cases h
theorem Yx:TbS NA Uu:=λN h=>h.con (Zu N (gQ8 N h))
theorem okL (N:Nat):OKL Pg jh (NB N):=Zp N <| Zo N <| Zn N <| Zm N <| Zl N <| Zk N <| Zj N <| Zi N <| Zh N <| Zg N <| Zf N <| Ze N <| Zd N <| Zc N <| Zb N <| Za N <| Y_ N <| Y9 N <| Y8 N <| Y7 N <| Y6 N <| Y5 N <| Y4 N <| Y3 N <| Y2 N <| Y1 N <| Y0 N <| YZ N <| YY N <| YX N <| YW N <| YV N <| YU N <| YT N <| YS N <| YR N <| YQ N <| YP N <| YO N <| YN N <| YM N <| YL N <| YK N <| YJ N <| YI N <| YH N <| YG N <| YF N <| YE N <| YD N <| YC N <| YB N <| YA N <| Yz N <| Yy N <| Yx N <| Yw N <| Yv N <| Yu N <| Yt N <| Ys N <| Yr N <| Yq N <| Yp N <| Yo N <| Yn N <| Ym N <| Yl N <| Yk N <| Yj N <| Yi N <| Yh N <| Yg N <| Yf N <| Ye N <| Yd N <| Yc N <| Yb N <| Ya N <| X_ N <| X9 N <| X8 N <| X7 N <| X6 N <| X5 N <| o99 N <| o98 N <| o97 N <| o96 N <| o95 N <| o94 N <| o93 N <| o92 N <| o91 N <| o90 N <| o89 N <| o88 N <| o87 N <| o86 N <| o85 N <| o84 N <| o83 N <| o82 N <| o81 N <| o80 N <| o79 N <| o78 N <| o77 N <| o76 N <| o75 N <| o74 N <| o73 N <| o72 N <| o71 N <| o70 N <| o69 N <| o68 N <| o67 N <| o66 N <| o65 N <| o64 N <| o63 N <| o62 N <| o61 N <| o60 N <| o59 N <| o58 N <| o57 N <| o56 N <| o55 N <| o54 N <| o53 N <| o52 N <| o51 N <| o50 N <| o49 N <| o48 N <| o47 N <| o46 N <| o45 N <| o44 N <| o43 N <| o42 N <| o41 N <| o40 N <| o39 N <| o38 N <| o37 N <| o36 N <| o35 N <| o34 N <| o33 N <| o32 N <| o31 N <| o30 N <| o29 N <| o28 N <| o27 N <| o26 N <| o25 N <| o24 N <| o23 N <| o22 N <| o21 N <| o20 N <| o19 N <| o18 N <| o17 N <| o16 N <| o15 N <| o14 N <| o13 N <| o12 N <| o11 N <| o10 N <| o9 N <| o8 N <| o7 N <| o6 N <| o5 N <| o4 N <| o3 N <| o2 N <| o1 N <| Rx hD_
theorem tQ1 (N:Nat) (v:List Int) (n:Int) (y:List Int) (l:List RY3) (hG:sQ1 N v n y l (λb=>b)=true):OkC Pg 5 (P1.args [.ints v,.int n,.ints y,.recs RT3 l]) [] (.bool true) []:=mU N (okL N) v n y l hG
end
end Go.Proofs.YtdinakfmablagaaGreatDoor
end
