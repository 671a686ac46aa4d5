/- The program's functions and their ties. Conditions: none. -/
import Derived.Test.YtdinakfmablagaaGreatDoorGs
import Derived.Test.YtdinakfmablagaaGreatDoorMachT
import Derived.Test.YtdinakfmablagaaGreatDoorX0
import Derived.Test.YtdinakfmablagaaGreatDoorMachZr
import Derived.Test.YtdinakfmablagaaGreatDoorGt0
set_option linter.defProp false
set_option linter.unusedVariables false
section
namespace Go.Proofs.YtdinakfmablagaaGreatDoor
open Go Go.Mach Go.Proofs
set_option maxRecDepth 20000
def S0 (N:Nat):bO Pg 19 (RB (BI N)):=
 i8 (Bb (fn:=Tryz.f19) (by kernel_rfl) (by kernel_rfl) (by kernel_rfl) (by kernel_rfl) (by kernel_rfl)) λa k h=>by
  unfold OK at h; split at h
  ·exact h
  ·cases h
def Om (N:Nat):bO Pg 19 (IR (uf N)):=
 i8 (Hu (fn:=Tryz.f19) (by kernel_rfl) (by kernel_rfl) (by kernel_rfl) (by kernel_rfl) (by kernel_rfl)) λa k h=>by
  unfold LP uf at h; split at h
  ·split at h
   ·exact h
   ·cases h
  ·cases h
def On (N:Nat):bO Pg 44 (IU (wl N)):=
 i8 (zt (fn:=Tryz.f44) (by kernel_rfl) (by kernel_rfl) (by kernel_rfl) (by kernel_rfl) (by kernel_rfl)) λa k h=>by
  unfold LR at h; split at h
  ·exact h
  ·cases h
def gQ6 (N:Nat):bO Pg 308 (FQ6 (sQ6 N)):=
 i8 (xU (fn:=Tryz.f308) (by kernel_rfl) (by kernel_rfl) (by kernel_rfl) (by kernel_rfl) (by kernel_rfl)) λa k h=>by
  unfold SI at h; split at h
  ·exact h
  ·cases h
def gQ8 (N:Nat):bO Pg 317 (FQ8 (sQ8 N)):=
 i8 (xX (fn:=Tryz.f317) (by kernel_rfl) (by kernel_rfl) (by kernel_rfl) (by kernel_rfl) (by kernel_rfl)) λa k h=>by
  unfold SJ at h; split at h
  ·exact h
  ·cases h
def T5 (N:Nat) (h:bO Pg 122 (OP (Fy N))):bO Pg 122 (RC (Ly N)):=by
 have q:∀ b,xA (cn (some b))=xA (some b):=by intro b; by_cases hb:isNaN b=true <;> simp[cn,xA,cls,hb]
 refine xV (LS (Ly N)) (λx=>.int .i64 (xA x)) h rfl (λa k hk=>?_) (λb k=>?_) (λb=>by rw[q])
 ·unfold LS at hk; split at hk
  ·exact⟨_,rfl,hk⟩
  ·cases hk
 ·have e:OP (Fy N) [.val (.float .f64 b)] [] k=Fy N b (λr0=>k (.int .i64 r0) []):=by kernel_rfl
  rw[e,HE,q]; rfl
def T6 (N:Nat) (h:bO Pg 123 (OQ (Fz N))):bO Pg 123 (RD (LB N)):=by
 have q:∀ x,cn (cn x)=cn x:=by
  intro x;cases x with
  | none=>rfl
  | some b=>by_cases hb:isNaN b=true <;> simp[cn,hb]
 refine EM (LW (LB N)) (λx y=>.bool (decide (cn x=cn y))) h rfl (λa k hk=>?_) (λb c k=>?_) (λx y=>by simp only[q])
 ·unfold LW at hk; split at hk
  ·exact⟨_,_,rfl,hk⟩
  ·cases hk
 ·have e:OQ (Fz N) [.val (.float .f64 b),.val (.float .f64 c)] [] k=Fz N b c (λr0=>k (.bool r0) []):=by kernel_rfl
  rw[e,KG]; simp only[q]
def NX (N:Nat) (h:bO Pg 167 (OR (FC N))):bO Pg 167 (FP (uk N)):=by
 have q:∀ b,zp (cn (some b))=zp (some b):=by
  intro b;by_cases hb:isNaN b=true
  ·have hb':=(eA b).1 hb;have:isNaN (b%9223372036854775808)=true:=(eA _).2 (by omega);simp[cn,zp,dD,hb,this]
  ·simp[cn,hb]
 refine xV (yU (uk N)) (λx=>.flt (zp x)) h rfl (λa k hk=>?_) (λb k=>?_) (λb=>by rw[q])
 ·unfold yU at hk; split at hk
  ·exact⟨_,rfl,hk⟩
  ·cases hk
 ·have e:OR (FC N) [.val (.float .f64 b)] [] k=FC N b (λr0=>k (.flt r0) []):=by kernel_rfl
  rw[e,M3,q]
end Go.Proofs.YtdinakfmablagaaGreatDoor
end
section
namespace Go.Proofs.YtdinakfmablagaaGreatDoor
open Go Go.Mach Go.Proofs
set_option maxRecDepth 50000
def uR (S:Int->Int->Int->(Int->Int->Bool)->Bool):List Atom->(V->List Blk->Bool)->Bool:=λa_ kk_=>match a_ with
 | [.int x,.int y,.int z]=>S x y z λr s=>kk_ (.tup [.int .u64 r,.int .u64 s]) []
 | _=>false
def M0:FnSh:=⟨[.int .u64,.int .u64,.int .u64],[]⟩
def Sl:Int->Int->Int->(Int->Int->Bool)->Bool:=λx y c k=>(decide (c.toNat<=1))&&k (((x.toNat+y.toNat+c.toNat)%18446744073709551616:Nat):Int) (((x.toNat+y.toNat+c.toNat) / 18446744073709551616:Nat):Int)
def Sm:Int->Int->Int->(Int->Int->Bool)->Bool:=λx y c k=>(decide (c.toNat<=1))&&k (((x.toNat+18446744073709551616 - y.toNat - c.toNat)%18446744073709551616:Nat):Int) (cond (decide (x.toNat<y.toNat+c.toNat)) 1 0)
def MO:bO Tryz.prog 308 (fe M0 (uR Sl)):=
 i8 (xU (fn:=Tryz.f308) (by kernel_rfl) (by kernel_rfl) (by kernel_rfl) (by kernel_rfl) (by kernel_rfl)) λa k h=>by
  unfold uR at h; split at h
  ·exact h
  ·cases h
def MQ:bO Tryz.prog 317 (fe M0 (uR Sm)):=
 i8 (xX (fn:=Tryz.f317) (by kernel_rfl) (by kernel_rfl) (by kernel_rfl) (by kernel_rfl) (by kernel_rfl)) λa k h=>by
  unfold uR at h; split at h
  ·exact h
  ·cases h
def QQ:List Atom->(V->List Blk->Bool)->Bool:=λa_ kk_=>match a_ with
 | [.fl x]=>kk_ (.flt (Gc x)) []
 | _=>false
def Sn:FnSh:=⟨[.flt],[]⟩
def MP:bO Tryz.prog 110 (fe Sn QQ):=
 i8 (Hw (fn:=Tryz.f110) (by kernel_rfl) (by kernel_rfl) (by kernel_rfl) (by kernel_rfl) (by kernel_rfl) LX) λa k h=>by
  unfold QQ at h; split at h
  ·exact h
  ·cases h
def KC:Nat->Bool:=λg=>Nat.ble g 999999||g==2000180||g==3000048||g==3000047||(Nat.ble 4000185 g&&Nat.ble g 4000188)||g==4000146||g==4000147||g==4000061||g==4000128||g==4000184
def kdf:Nat->Bool:=λg=>g==125
noncomputable def KA:List (Nat × Fs):=[(19,IR (uf 1000)),(110,fe Sn QQ),(44,IU (wl 1000)),(308,fe M0 (uR Sl)),(317,fe M0 (uR Sm))]
def C2:lO Tryz.prog (dE KA)/\FrL KC KA:=
 ⟨gP (Om 1000) (gP MP (gP (On 1000) (gP MO (gP MQ (yE _))))),CS _ (by kernel_rfl)⟩
def khD:∀ g,g<1000000->KC (2000000+g)=true->rV Tryz.prog g:=by
 intro g hg h;have e:g=180:=by
  unfold KC at h;have hb:Nat.ble (2000000+g) 999999=false:=by
   cases hh:Nat.ble (2000000+g) 999999 with
   | false=>rfl
   | true=>have:=Nat.le_of_ble_eq_true hh; omega
  rw[hb]at h;simp at h; omega
 rcases e with rfl
 exact Oh
noncomputable def kcx (L:List Nat):Cx:=⟨Tryz.prog,dE (upS Tryz.prog KC 400 kdf KA L),KC,400⟩
def kos (L:List Nat):OS (kcx L):=Ry C2.1 C2.2 khD L
def kL:List Nat:=[43,28,84,143,83,141,196,195,140,194,223,222,221,144,133,78,131,130,127,139,193,134,126,142,10,50,184,224,220,197,188,187,59,185,186,147,146,180,181,128,129,92,61,49,46,48,47,107,167,45,25,77,125,183,217,247,273,246,272,245,271,294,295,270,269,216,244,268,293,243,267,292,291,310,318,309,296,242,182,215,241,266,240,265,239,264,287,302,301,314,313,300,299,298,289,306,312,305,316,290,307,303,315,304,311,288,238,263,237,262,236,261,235,260,286,259,234,258,285,214,76,124,123,74,121,75,122,178,177,211,179,213,232,212,233,231]
theorem gQ4 (N_:Nat):bO Tryz.prog 22 (FQ4 (sQ4 N_)):=by
 refine wV (cx:=kcx kL) (kos kL) OJ (Rt λk=>k true) (λ_=>none) 0 0 (by kernel_rfl) (λi_ hi_=>by omega) ?_;intro a k h;unfold Rt at h;split at h
 ·exact⟨[],rfl,rfl,.trans (by kernel_rfl) h⟩
 ·cases h
end Go.Proofs.YtdinakfmablagaaGreatDoor
end
section
namespace Go.Proofs.YtdinakfmablagaaGreatDoor
open Go Go.Mach Go.Proofs
set_option maxRecDepth 50000
noncomputable section
def o1:TbS L0 L1:=λN h=>h.con (S0 N)
def o2:TbS L1 L2:=λN h=>h.con (On N)
def o5:TbS L4 L5:=λN h=>h.con (h.alt (Om N))
def o32:TbS L31 L32:=λN h=>h.con (gQ4 N)
def o41:TbS L40 L41:=λN h=>h.con (gQ6 N)
def o44:TbS L43 L44:=λN h=>h.con (gQ8 N)
def S1 (N:Nat) (h:OKL Pg ij (L48 N)):bO Pg 167 (OR (FC N)):=by
 refine wV (cx:=cxL Pg ij N (L48 N)) (h.os N) LH (LU (FC N)) (λ_=>none) 0 0 (by kernel_rfl) (λi_ hi_=>by omega) ?_;intro a k h;unfold LU at h;split at h
 ·exact⟨[],rfl,rfl,.trans (by kernel_rfl) h⟩
 ·cases h
def o49:TbS L48 L49:=λN h=>h.con (NX N (S1 N h))
def SY (N:Nat) (h:OKL Pg ij (Jz N)):bO Pg 122 (OP (Fy N)):=by
 refine wV (cx:=cxL Pg ij N (Jz N)) (h.os N) LD (LO (Fy N)) (λ_=>none) 0 0 (by kernel_rfl) (λi_ hi_=>by omega) ?_;intro a k h;unfold LO at h;split at h
 ·exact⟨[],rfl,rfl,.trans (by kernel_rfl) h⟩
 ·cases h
def Tv:TbS Jz P1:=λN h=>h.con (T5 N (SY N h))
def SZ (N:Nat) (h:OKL Pg ij (JA N)):bO Pg 123 (OQ (Fz N)):=by
 refine wV (cx:=cxL Pg ij N (JA N)) (h.os N) LG (LQ (Fz N)) (λ_=>none) 0 0 (by kernel_rfl) (λi_ hi_=>by omega) ?_;intro a k h;unfold LQ at h;split at h
 ·exact⟨[],rfl,rfl,.trans (by kernel_rfl) h⟩
 ·cases h
def Tz:TbS JA P3:=λN h=>h.con (T6 N (SZ N h))
def okL (N:Nat):OKL Pg ij (JB N):=T2 N <| T1 N <| T0 N <| TZ N <| TY N <| TX N <| TW N <| TV N <| TU N <| TT N <| TS N <| TR N <| TQ N <| TP N <| TO N <| TN N <| TM N <| TL N <| TK N <| TJ N <| TI N <| TH N <| TG N <| TF N <| TE N <| TD N <| TC N <| TB N <| TA N <| Tz N <| Tx N <| Tw N <| Tv N <| Tu N <| Tt N <| Ts N <| Tq N <| Tp N <| To N <| Tn N <| Tm N <| Tl N <| Tk N <| Tj N <| Ti N <| Th N <| Tg N <| Tf N <| Te N <| Td N <| Tc N <| Tb N <| Ta N <| S9 N <| S8 N <| S7 N <| o99 N <| o98 N <| o97 N <| o96 N <| o95 N <| o94 N <| o93 N <| o92 N <| o91 N <| o90 N <| o89 N <| o88 N <| o87 N <| o86 N <| o85 N <| o84 N <| o83 N <| o82 N <| o81 N <| o80 N <| o79 N <| o78 N <| o77 N <| o76 N <| o75 N <| o74 N <| o73 N <| o72 N <| o71 N <| o70 N <| o69 N <| o68 N <| o67 N <| o66 N <| o65 N <| o64 N <| o63 N <| o62 N <| o61 N <| o60 N <| o59 N <| o58 N <| o57 N <| o56 N <| o55 N <| o54 N <| o53 N <| o52 N <| o51 N <| o50 N <| o49 N <| o48 N <| o47 N <| o46 N <| o45 N <| o44 N <| o43 N <| o42 N <| o41 N <| o40 N <| o39 N <| o38 N <| o37 N <| o36 N <| o35 N <| o34 N <| o33 N <| o32 N <| o31 N <| o30 N <| o29 N <| o28 N <| o27 N <| o26 N <| o25 N <| o24 N <| o23 N <| o22 N <| o21 N <| o20 N <| o19 N <| o18 N <| o17 N <| o16 N <| o15 N <| o14 N <| o13 N <| o12 N <| o11 N <| o10 N <| o9 N <| o8 N <| o7 N <| o6 N <| o5 N <| o4 N <| o3 N <| o2 N <| o1 N <| Nk hD_
def tQ7 (N:Nat) (v:List Int) (n:Int) (y u k_ WX:List Int) (Wj Wc:Int) (hG:sQ7 N v n y u k_ WX Wj Wc (λb=>b)=true):OkC Pg 4 (LJ.args [.ints v,.int n,.ints y,.ints u,.ints k_,.ints WX,.int Wj,.int Wc]) [] (.bool true) []:=mC N (okL N) v n y u k_ WX Wj Wc hG
end
end Go.Proofs.YtdinakfmablagaaGreatDoor
end
