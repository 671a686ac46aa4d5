/- The program's functions and their ties. Conditions: none. -/
import Derived.Test.YtdinakfmablagaaGreatDoorGs
import Derived.Test.YtdinakfmablagaaGreatDoorMachT
import Derived.Test.YtdinakfmablagaaGreatDoorX0
import Derived.Test.YtdinakfmablagaaGreatDoorMachZr
import Derived.Test.YtdinakfmablagaaGreatDoorGt0
set_option linter.unusedVariables false
section
namespace Go.Proofs.YtdinakfmablagaaGreatDoor
open Go Go.Mach Go.Proofs
set_option maxRecDepth 20000
theorem X6 (N:Nat):bL Pg 19 (WU (Ev N)):=
 iU (D2 (fn:=Tryz.f19) (by kernel_rfl) (by kernel_rfl) (by kernel_rfl) (by kernel_rfl) (by kernel_rfl)) λa k h=>by
  unfold S5 at h; split at h
  ·exact h
  ·cases h
theorem Xw (N:Nat):bL Pg 19 (Td (yn N)):=
 iU (K9 (fn:=Tryz.f19) (by kernel_rfl) (by kernel_rfl) (by kernel_rfl) (by kernel_rfl) (by kernel_rfl)) λa k h=>by
  unfold S6 yn at h; split at h
  ·split at h
   ·exact h
   ·cases h
  ·cases h
theorem SG (N:Nat):bL Pg 44 (MM (BJ N)):=
 iU (Cq (fn:=Tryz.f44) (by kernel_rfl) (by kernel_rfl) (by kernel_rfl) (by kernel_rfl) (by kernel_rfl)) λa k h=>by
  unfold P3 at h; split at h
  ·exact h
  ·cases h
theorem Xv (N:Nat):bL Pg 110 (Sc (GT N)):=
 iU (C1 (fn:=Tryz.f110) (by kernel_rfl) (by kernel_rfl) (by kernel_rfl) (by kernel_rfl) (by kernel_rfl) He) λa k h=>by
  unfold P4 at h; split at h
  ·exact h
  ·cases h
theorem gQ2 (N:Nat):bL Pg 308 (FQ2 (sQ2 N)):=
 iU (AU (fn:=Tryz.f308) (by kernel_rfl) (by kernel_rfl) (by kernel_rfl) (by kernel_rfl) (by kernel_rfl)) λa k h=>by
  unfold XV at h; split at h
  ·exact h
  ·cases h
theorem gQ4 (N:Nat):bL Pg 317 (FQ4 (sQ4 N)):=
 iU (AX (fn:=Tryz.f317) (by kernel_rfl) (by kernel_rfl) (by kernel_rfl) (by kernel_rfl) (by kernel_rfl)) λa k h=>by
  unfold XW at h; split at h
  ·exact h
  ·cases h
theorem ZQ (N:Nat) (h:bL Pg 122 (FQ6 (sQ6 N))):bL Pg 122 (WV (PV N)):=by
 have q:∀ b,Av (cn (some b))=Av (some b):=by intro b; by_cases hb:isNaN b=true <;> simp[cn,Av,cls,hb]
 refine AV (P5 (PV N)) (λx=>.int .i64 (Av x)) h rfl (λa k hk=>?_) (λb k=>?_) (λb=>by rw[q])
 ·unfold P5 at hk; split at hk
  ·exact⟨_,rfl,hk⟩
  ·cases hk
 ·have e:FQ6 (sQ6 N) [.val (.float .f64 b)] [] k=sQ6 N b (λr0=>k (.int .i64 r0) []):=by kernel_rfl
  rw[e,Lk,q]; rfl
theorem ZR (N:Nat) (h:bL Pg 123 (FQ7 (sQ7 N))):bL Pg 123 (WW (I1 N)):=by
 have q:∀ x,cn (cn x)=cn x:=by
  intro x;cases x with
  | none=>rfl
  | some b=>by_cases hb:isNaN b=true <;> simp[cn,hb]
 refine H6 (P7 (I1 N)) (λx y=>.bool (decide (cn x=cn y))) h rfl (λa k hk=>?_) (λb c k=>?_) (λx y=>by simp only[q])
 ·unfold P7 at hk; split at hk
  ·exact⟨_,_,rfl,hk⟩
  ·cases hk
 ·have e:FQ7 (sQ7 N) [.val (.float .f64 b),.val (.float .f64 c)] [] k=sQ7 N b c (λr0=>k (.bool r0) []):=by kernel_rfl
  rw[e,OY]; simp only[q]
theorem Sb (N:Nat) (h:bL Pg 167 (Tc (I0 N))):bL Pg 167 (Je (xk N)):=by
 have q:∀ b,Co (cn (some b))=Co (some b):=by
  intro b;by_cases hb:isNaN b=true
  ·have hb':=(fj b).1 hb;have:isNaN (b%9223372036854775808)=true:=(fj _).2 (by omega);simp[cn,Co,jt,hb,this]
  ·simp[cn,hb]
 refine AV (BT (xk N)) (λx=>.flt (Co x)) h rfl (λa k hk=>?_) (λb k=>?_) (λb=>by rw[q])
 ·unfold BT at hk; split at hk
  ·exact⟨_,rfl,hk⟩
  ·cases hk
 ·have e:Tc (I0 N) [.val (.float .f64 b)] [] k=I0 N b (λr0=>k (.flt r0) []):=by kernel_rfl
  rw[e,Q0,q]
end Go.Proofs.YtdinakfmablagaaGreatDoor
end
section
namespace Go.Proofs.YtdinakfmablagaaGreatDoor
open Go Go.Mach Go.Proofs
set_option maxRecDepth 50000
def xT (S:Int->Int->Int->(Int->Int->Bool)->Bool):List Atom->(V->List Blk->Bool)->Bool:=λa_ kk_=>match a_ with
 | [.int x,.int y,.int z]=>S x y z λr s=>kk_ (.tup [.int .u64 r,.int .u64 s]) []
 | _=>false
def QZ:FnSh:=⟨[.int .u64,.int .u64,.int .u64],[]⟩
def XA:Int->Int->Int->(Int->Int->Bool)->Bool:=λx y c k=>(decide (c.toNat<=1))&&k (((x.toNat+y.toNat+c.toNat)%18446744073709551616:Nat):Int) (((x.toNat+y.toNat+c.toNat) / 18446744073709551616:Nat):Int)
def XB:Int->Int->Int->(Int->Int->Bool)->Bool:=λx y c k=>(decide (c.toNat<=1))&&k (((x.toNat+18446744073709551616 - y.toNat - c.toNat)%18446744073709551616:Nat):Int) (cond (decide (x.toNat<y.toNat+c.toNat)) 1 0)
theorem QO:bL Tryz.prog 308 (fD QZ (xT XA)):=
 iU (AU (fn:=Tryz.f308) (by kernel_rfl) (by kernel_rfl) (by kernel_rfl) (by kernel_rfl) (by kernel_rfl)) λa k h=>by
  unfold xT at h; split at h
  ·exact h
  ·cases h
theorem QQ:bL Tryz.prog 317 (fD QZ (xT XB)):=
 iU (AX (fn:=Tryz.f317) (by kernel_rfl) (by kernel_rfl) (by kernel_rfl) (by kernel_rfl) (by kernel_rfl)) λa k h=>by
  unfold xT at h; split at h
  ·exact h
  ·cases h
def VT:List Atom->(V->List Blk->Bool)->Bool:=λa_ kk_=>match a_ with
 | [.fl x]=>kk_ (.flt (vg x)) []
 | _=>false
def XC:FnSh:=⟨[.flt],[]⟩
theorem QP:bL Tryz.prog 110 (fD XC VT):=
 iU (C1 (fn:=Tryz.f110) (by kernel_rfl) (by kernel_rfl) (by kernel_rfl) (by kernel_rfl) (by kernel_rfl) He) λa k h=>by
  unfold VT at h; split at h
  ·exact h
  ·cases h
def OT:Nat->Bool:=λg=>Nat.ble g 999999||g==2000180||g==3000048||g==3000047||(Nat.ble 4000185 g&&Nat.ble g 4000188)||g==4000146||g==4000147||g==4000061||g==4000128||g==4000184
def kdf:Nat->Bool:=λg=>g==125
noncomputable def OQ:List (Nat × Fs):=[(19,Td (yn 1000)),(110,fD XC VT),(44,MM (BJ 1000)),(308,fD QZ (xT XA)),(317,fD QZ (xT XB))]
theorem F1:nL Tryz.prog (dM OQ)/\FrL OT OQ:=
 ⟨iO (Xw 1000) (iO QP (iO (SG 1000) (iO QO (iO QQ (BA _))))),FT _ (by kernel_rfl)⟩
theorem khD:∀ g,g<1000000->OT (2000000+g)=true->uZ Tryz.prog g:=by
 intro g hg h;have e:g=180:=by
  unfold OT at h;have hb:Nat.ble (2000000+g) 999999=false:=by
   cases hh:Nat.ble (2000000+g) 999999 with
   | false=>rfl
   | true=>have:=Nat.le_of_ble_eq_true hh; omega
  rw[hb]at h;simp at h; omega
 rcases e with rfl
 exact SB
noncomputable def kcx (L:List Nat):Cx:=⟨Tryz.prog,dM (upS Tryz.prog OT 400 kdf OQ L),OT,400⟩
theorem kos (L:List Nat):OS (kcx L):=WQ F1.1 F1.2 khD L
def kL:List Nat:=[43,28,84,143,83,141,196,195,140,194,223,222,221,144,133,78,131,130,127,139,193,134,126,142,10,50,184,224,220,197,188,187,59,185,186,147,146,180,181,128,129,92,61,49,46,48,47,107,167,45,25,77,125,183,217,247,273,246,272,245,271,294,295,270,269,216,244,268,293,243,267,292,291,310,318,309,296,242,182,215,241,266,240,265,239,264,287,302,301,314,313,300,299,298,289,306,312,305,316,290,307,303,315,304,311,288,238,263,237,262,236,261,235,260,286,259,234,258,285,214,76,124,123,74,121,75,122,178,177,211,179,213,232,212,233,231]
theorem gQ0 (N_:Nat):bL Tryz.prog 22 (FQ0 (sQ0 N_)):=by
 refine zU (cx:=kcx kL) (kos kL) S2 (WF λk=>k true) (λ_=>none) 0 0 (by kernel_rfl) (λi_ hi_=>by omega) ?_;intro a k h;unfold WF at h;split at h
 ·exact⟨[],rfl,rfl,.trans (by kernel_rfl) h⟩
 ·cases h
end Go.Proofs.YtdinakfmablagaaGreatDoor
end
section
namespace Go.Proofs.YtdinakfmablagaaGreatDoor
open Go Go.Mach Go.Proofs
set_option maxRecDepth 50000
noncomputable section
theorem o1:TbS L0 L1:=λN h=>h.con (X6 N)
theorem o2:TbS L1 L2:=λN h=>h.con (SG N)
theorem o4:TbS L3 L4:=λN h=>h.con (h.alt (Xw N))
theorem o13:TbS L12 L13:=λN h=>h.con (gQ2 N)
theorem o16:TbS L15 L16:=λN h=>h.con (gQ4 N)
theorem o21:TbS L20 L21:=λN h=>h.con (Xv N)
theorem X7 (N:Nat) (h:OKL Pg kc (L52 N)):bL Pg 167 (Tc (I0 N)):=by
 refine zU (cx:=cxL Pg kc N (L52 N)) (h.os N) PZ (P6 (I0 N)) (λ_=>none) 0 0 (by kernel_rfl) (λi_ hi_=>by omega) ?_;intro a k h;unfold P6 at h;split at h
 ·exact⟨[],rfl,rfl,.trans (by kernel_rfl) h⟩
 ·cases h
theorem o53:TbS L52 L53:=λN h=>h.con (Sb N (X7 N h))
theorem o60:TbS L59 L60:=λN h=>h.con (gQ0 N)
theorem gQ6 (N:Nat) (h:OKL Pg kc (NK N)):bL Pg 122 (FQ6 (sQ6 N)):=by
 refine zU (cx:=cxL Pg kc N (NK N)) (h.os N) S3 (WG (sQ6 N)) (λ_=>none) 0 0 (by kernel_rfl) (λi_ hi_=>by omega) ?_;intro a k h;unfold WG at h;split at h
 ·exact⟨[],rfl,rfl,.trans (by kernel_rfl) h⟩
 ·cases h
theorem YD:TbS NK Up:=λN h=>h.con (ZQ N (gQ6 N h))
theorem gQ7 (N:Nat) (h:OKL Pg kc (NL N)):bL Pg 123 (FQ7 (sQ7 N)):=by
 refine zU (cx:=cxL Pg kc N (NL N)) (h.os N) S4 (WH (sQ7 N)) (λ_=>none) 0 0 (by kernel_rfl) (λi_ hi_=>by omega) ?_;intro a k h;unfold WH at h;split at h
 ·exact⟨[],rfl,rfl,.trans (by kernel_rfl) h⟩
 ·cases h
theorem YG:TbS NL Ur:=λN h=>h.con (ZR N (gQ7 N h))
theorem okL (N:Nat):OKL Pg kc (Vz N):=ZM N <| ZL N <| ZK N <| ZJ N <| ZI N <| ZH N <| ZG N <| ZF N <| ZE N <| ZD N <| ZC N <| ZB N <| ZA N <| Zz N <| Zy N <| Zx N <| Zw N <| Zv N <| Zu N <| Zt N <| Zs N <| Zr N <| Zq N <| Zp N <| Zo N <| Zn N <| Zm N <| Zl N <| Zk N <| Zj N <| Zi N <| Zh N <| Zg N <| Zf N <| Ze N <| Zd N <| Zc N <| Zb N <| Za N <| Y_ N <| Y9 N <| Y8 N <| Y7 N <| Y6 N <| Y5 N <| Y4 N <| Y3 N <| Y2 N <| Y1 N <| Y0 N <| YZ N <| YY N <| YX N <| YW N <| YV N <| YU N <| YT N <| YS N <| YR N <| YQ N <| YP N <| YO N <| YN N <| YM N <| YL N <| YK N <| YJ N <| YI N <| YH N <| YG N <| YF N <| YE N <| YD N <| YC N <| YB N <| YA N <| Yz N <| Yy N <| Yx N <| Yw N <| Yv N <| Yu N <| Yt N <| Ys N <| Yr N <| Yq N <| Yp N <| Yo N <| Yn N <| Ym N <| Yl N <| Yk N <| Yj N <| Yi N <| Yh N <| Yg N <| Yf N <| Ye N <| Yd N <| Yc N <| Yb N <| o99 N <| o98 N <| o97 N <| o96 N <| o95 N <| o94 N <| o93 N <| o92 N <| o91 N <| o90 N <| o89 N <| o88 N <| o87 N <| o86 N <| o85 N <| o84 N <| o83 N <| o82 N <| o81 N <| o80 N <| o79 N <| o78 N <| o77 N <| o76 N <| o75 N <| o74 N <| o73 N <| o72 N <| o71 N <| o70 N <| o69 N <| o68 N <| o67 N <| o66 N <| o65 N <| o64 N <| o63 N <| o62 N <| o61 N <| o60 N <| o59 N <| o58 N <| o57 N <| o56 N <| o55 N <| o54 N <| o53 N <| o52 N <| o51 N <| o50 N <| o49 N <| o48 N <| o47 N <| o46 N <| o45 N <| o44 N <| o43 N <| o42 N <| o41 N <| o40 N <| o39 N <| o38 N <| o37 N <| o36 N <| o35 N <| o34 N <| o33 N <| o32 N <| o31 N <| o30 N <| o29 N <| o28 N <| o27 N <| o26 N <| o25 N <| o24 N <| o23 N <| o22 N <| o21 N <| o20 N <| o19 N <| o18 N <| o17 N <| o16 N <| o15 N <| o14 N <| o13 N <| o12 N <| o11 N <| o10 N <| o9 N <| o8 N <| o7 N <| o6 N <| o5 N <| o4 N <| o3 N <| o2 N <| o1 N <| Rp hD_
theorem tQ3 (N:Nat) (v:List Int) (rows cols:Int) (y r:List Int) (hG:sQ3 N v rows cols y r (λb=>b)=true):OkC Pg 7 (PY.args [.ints v,.int rows,.int cols,.ints y,.ints r]) [] (.bool true) []:=oA N (okL N) v rows cols y r hG
end
end Go.Proofs.YtdinakfmablagaaGreatDoor
end
