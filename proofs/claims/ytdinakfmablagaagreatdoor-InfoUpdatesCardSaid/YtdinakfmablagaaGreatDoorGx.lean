/- The program's functions and their ties. Conditions: none. -/
import Derived.Test.YtdinakfmablagaaGreatDoorGs
import Derived.Test.YtdinakfmablagaaGreatDoorMachT
import Derived.Test.YtdinakfmablagaaGreatDoorX0
import Derived.Test.YtdinakfmablagaaGreatDoorMachZr
import Derived.Test.YtdinakfmablagaaGreatDoorGt0
set_option linter.unusedVariables false
section
namespace Go.Proofs.YtdinakfmablagaaGreatDoor
open Go Go.Mach Go.Proofs
set_option maxRecDepth 20000
theorem TG (N:Nat):bF Pg 19 (Sk (BV N)):=
 ik (Bs (fn:=Tryz.f19) (by kernel_rfl) (by kernel_rfl) (by kernel_rfl) (by kernel_rfl) (by kernel_rfl)) λa k h=>by
  unfold Pj at h; split at h
  ·exact h
  ·cases h
theorem SZ (N:Nat):bF Pg 19 (Ps (tB N)):=
 ik (HW (fn:=Tryz.f19) (by kernel_rfl) (by kernel_rfl) (by kernel_rfl) (by kernel_rfl) (by kernel_rfl)) λa k h=>by
  unfold Pk tB at h; split at h
  ·split at h
   ·exact h
   ·cases h
  ·cases h
theorem O0 (N:Nat):bF Pg 44 (Jk (wH N)):=
 ik (zO (fn:=Tryz.f44) (by kernel_rfl) (by kernel_rfl) (by kernel_rfl) (by kernel_rfl) (by kernel_rfl)) λa k h=>by
  unfold Mu at h; split at h
  ·exact h
  ·cases h
theorem SY (N:Nat):bF Pg 110 (OC (Mj N)):=
 ik (Ar (fn:=Tryz.f110) (by kernel_rfl) (by kernel_rfl) (by kernel_rfl) (by kernel_rfl) (by kernel_rfl) El) λa k h=>by
  unfold Mv at h; split at h
  ·exact h
  ·cases h
theorem gQ3 (N:Nat):bF Pg 308 (FQ3 (sQ3 N)):=
 ik (yn (fn:=Tryz.f308) (by kernel_rfl) (by kernel_rfl) (by kernel_rfl) (by kernel_rfl) (by kernel_rfl)) λa k h=>by
  unfold To at h; split at h
  ·exact h
  ·cases h
theorem gQ4 (N:Nat):bF Pg 317 (FQ4 (sQ4 N)):=
 ik (yq (fn:=Tryz.f317) (by kernel_rfl) (by kernel_rfl) (by kernel_rfl) (by kernel_rfl) (by kernel_rfl)) λa k h=>by
  unfold Tp at h; split at h
  ·exact h
  ·cases h
theorem jt (N:Nat):bF Pg 60 (dM (aO N)):=by
 refine Fa (cx:=⟨Pg,dc [],λ_=>false,1⟩) (NV (tw _) (by kernel_rfl)) (e:=36) (λ_ _=>by kernel_rfl) (λ_ _ _=>by kernel_rfl) (λ_ _ _=>by kernel_rfl) rfl _ λa k h=>?_
 unfold dJ aO at h;split at h
 ·rename_i s;rw[Bool.and_eq_true,decide_eq_true_eq]at h;exact⟨s,rfl,h.1,h.2⟩
 ·cases h
theorem UP (N:Nat) (h:bF Pg 122 (FQ6 (sQ6 N))):bF Pg 122 (Sl (Mn N)):=by
 have q:∀ b,xT (cn (some b))=xT (some b):=by intro b; by_cases hb:isNaN b=true <;> simp[cn,xT,cls,hb]
 refine yo (Mw (Mn N)) (λx=>.int .i64 (xT x)) h rfl (λa k hk=>?_) (λb k=>?_) (λb=>by rw[q])
 ·unfold Mw at hk; split at hk
  ·exact⟨_,rfl,hk⟩
  ·cases hk
 ·have e:FQ6 (sQ6 N) [.val (.float .f64 b)] [] k=sQ6 N b (λr0=>k (.int .i64 r0) []):=by kernel_rfl
  rw[e,H9,q]; rfl
theorem Tu (N:Nat) (h:bF Pg 123 (FQ7 (sQ7 N))):bF Pg 123 (OB (DT N)):=by
 have q:∀ x,cn (cn x)=cn x:=by
  intro x;cases x with
  | none=>rfl
  | some b=>by_cases hb:isNaN b=true <;> simp[cn,hb]
 refine Fb (F5 (DT N)) (λx y=>.bool (decide (cn x=cn y))) h rfl (λa k hk=>?_) (λb c k=>?_) (λx y=>by simp only[q])
 ·unfold F5 at hk; split at hk
  ·exact⟨_,_,rfl,hk⟩
  ·cases hk
 ·have e:FQ7 (sQ7 N) [.val (.float .f64 b),.val (.float .f64 c)] [] k=sQ7 N b c (λr0=>k (.bool r0) []):=by kernel_rfl
  rw[e,Ld]; simp only[q]
theorem OA (N:Nat) (h:bF Pg 167 (Pq (FV N))):bF Pg 167 (Ga (uC N)):=by
 have q:∀ b,zM (cn (some b))=zM (some b):=by
  intro b;by_cases hb:isNaN b=true
  ·have hb':=(eZ b).1 hb;have:isNaN (b%9223372036854775808)=true:=(eZ _).2 (by omega);simp[cn,zM,gk,hb,this]
  ·simp[cn,hb]
 refine yo (zn (uC N)) (λx=>.flt (zM x)) h rfl (λa k hk=>?_) (λb k=>?_) (λb=>by rw[q])
 ·unfold zn at hk; split at hk
  ·exact⟨_,rfl,hk⟩
  ·cases hk
 ·have e:Pq (FV N) [.val (.float .f64 b)] [] k=FV N b (λr0=>k (.flt r0) []):=by kernel_rfl
  rw[e,Nt,q]
end Go.Proofs.YtdinakfmablagaaGreatDoor
end
section
namespace Go.Proofs.YtdinakfmablagaaGreatDoor
open Go Go.Mach Go.Proofs
set_option maxRecDepth 50000
def vj (S:Int->Int->Int->(Int->Int->Bool)->Bool):List Atom->(V->List Blk->Bool)->Bool:=λa_ kk_=>match a_ with
 | [.int x,.int y,.int z]=>S x y z λr s=>kk_ (.tup [.int .u64 r,.int .u64 s]) []
 | _=>false
def Ns:FnSh:=⟨[.int .u64,.int .u64,.int .u64],[]⟩
def S3:Int->Int->Int->(Int->Int->Bool)->Bool:=λx y c k=>(decide (c.toNat<=1))&&k (((x.toNat+y.toNat+c.toNat)%18446744073709551616:Nat):Int) (((x.toNat+y.toNat+c.toNat) / 18446744073709551616:Nat):Int)
def S4:Int->Int->Int->(Int->Int->Bool)->Bool:=λx y c k=>(decide (c.toNat<=1))&&k (((x.toNat+18446744073709551616 - y.toNat - c.toNat)%18446744073709551616:Nat):Int) (cond (decide (x.toNat<y.toNat+c.toNat)) 1 0)
theorem Nc:bF Tryz.prog 308 (eg Ns (vj S3)):=
 ik (yn (fn:=Tryz.f308) (by kernel_rfl) (by kernel_rfl) (by kernel_rfl) (by kernel_rfl) (by kernel_rfl)) λa k h=>by
  unfold vj at h; split at h
  ·exact h
  ·cases h
theorem Nf:bF Tryz.prog 317 (eg Ns (vj S4)):=
 ik (yq (fn:=Tryz.f317) (by kernel_rfl) (by kernel_rfl) (by kernel_rfl) (by kernel_rfl) (by kernel_rfl)) λa k h=>by
  unfold vj at h; split at h
  ·exact h
  ·cases h
def Rt:List Atom->(V->List Blk->Bool)->Bool:=λa_ kk_=>match a_ with
 | [.fl x]=>kk_ (.flt (aW x)) []
 | _=>false
def S5:FnSh:=⟨[.flt],[]⟩
theorem Nd:bF Tryz.prog 110 (eg S5 Rt):=
 ik (Ar (fn:=Tryz.f110) (by kernel_rfl) (by kernel_rfl) (by kernel_rfl) (by kernel_rfl) (by kernel_rfl) El) λa k h=>by
  unfold Rt at h; split at h
  ·exact h
  ·cases h
def K9:Nat->Bool:=λg=>Nat.ble g 999999||g==2000180||g==3000048||g==3000047||(Nat.ble 4000185 g&&Nat.ble g 4000188)||g==4000146||g==4000147||g==4000061||g==4000128||g==4000184
def kdf:Nat->Bool:=λg=>g==125
noncomputable def K7:List (Nat × Fs):=[(19,Ps (tB 1000)),(110,eg S5 Rt),(44,Jk (wH 1000)),(308,eg Ns (vj S3)),(317,eg Ns (vj S4))]
theorem Dd:lA Tryz.prog (dc K7)/\FrL K9 K7:=
 ⟨ib (SZ 1000) (ib Nd (ib (O0 1000) (ib Nc (ib Nf (tw _))))),yk _ (by kernel_rfl)⟩
theorem khD:∀ g,g<1000000->K9 (2000000+g)=true->rW Tryz.prog g:=by
 intro g hg h;have e:g=180:=by
  unfold K9 at h;have hb:Nat.ble (2000000+g) 999999=false:=by
   cases hh:Nat.ble (2000000+g) 999999 with
   | false=>rfl
   | true=>have:=Nat.le_of_ble_eq_true hh; omega
  rw[hb]at h;simp at h; omega
 rcases e with rfl
 exact OU
noncomputable def kcx (L:List Nat):Cx:=⟨Tryz.prog,dc (upS Tryz.prog K9 400 kdf K7 L),K9,400⟩
theorem kos (L:List Nat):OS (kcx L):=Sg Dd.1 Dd.2 khD L
def kL:List Nat:=[43,28,84,143,83,141,196,195,140,194,223,222,221,144,133,78,131,130,127,139,193,134,126,142,10,50,184,224,220,197,188,187,59,185,186,147,146,180,181,128,129,92,61,49,46,48,47,107,167,45,25,77,125,183,217,247,273,246,272,245,271,294,295,270,269,216,244,268,293,243,267,292,291,310,318,309,296,242,182,215,241,266,240,265,239,264,287,302,301,314,313,300,299,298,289,306,312,305,316,290,307,303,315,304,311,288,238,263,237,262,236,261,235,260,286,259,234,258,285,214,76,124,123,74,121,75,122,178,177,211,179,213,232,212,233,231]
theorem gQ0 (N_:Nat):bF Tryz.prog 22 (FQ0 (sQ0 N_)):=by
 refine xk (cx:=kcx kL) (kos kL) Pf (R9 λk=>k true) (λ_=>none) 0 0 (by kernel_rfl) (λi_ hi_=>by omega) ?_;intro a k h;unfold R9 at h;split at h
 ·exact⟨[],rfl,rfl,.trans (by kernel_rfl) h⟩
 ·cases h
end Go.Proofs.YtdinakfmablagaaGreatDoor
end
section
namespace Go.Proofs.YtdinakfmablagaaGreatDoor
open Go Go.Mach Go.Proofs
set_option maxRecDepth 50000
noncomputable section
theorem o1:TbS L0 L1:=λN h=>h.con (TG N)
theorem o2:TbS L1 L2:=λN h=>h.con (O0 N)
theorem o4:TbS L3 L4:=λN h=>h.con (h.alt (SZ N))
theorem o13:TbS L12 L13:=λN h=>h.con (gQ3 N)
theorem o16:TbS L15 L16:=λN h=>h.con (gQ4 N)
theorem TH (N:Nat) (h:OKL Pg jp (L20 N)):bF Pg 167 (Pq (FV N)):=by
 refine xk (cx:=cxL Pg jp N (L20 N)) (h.os N) Mq (Mx (FV N)) (λ_=>none) 0 0 (by kernel_rfl) (λi_ hi_=>by omega) ?_;intro a k h;unfold Mx at h;split at h
 ·exact⟨[],rfl,rfl,.trans (by kernel_rfl) h⟩
 ·cases h
theorem o21:TbS L20 L21:=λN h=>h.con (OA N (TH N h))
theorem o57:TbS L56 L57:=λN h=>h.con (SY N)
theorem o58:TbS L57 L58:=λN h=>h.con (jt N)
theorem o61:TbS L60 L61:=λN h=>h.con (gQ0 N)
theorem gQ6 (N:Nat) (h:OKL Pg jp (J6 N)):bF Pg 122 (FQ6 (sQ6 N)):=by
 refine xk (cx:=cxL Pg jp N (J6 N)) (h.os N) Ph (R_ (sQ6 N)) (λ_=>none) 0 0 (by kernel_rfl) (λi_ hi_=>by omega) ?_;intro a k h;unfold R_ at h;split at h
 ·exact⟨[],rfl,rfl,.trans (by kernel_rfl) h⟩
 ·cases h
theorem T4:TbS J6 Qs:=λN h=>h.con (UP N (gQ6 N h))
theorem gQ7 (N:Nat) (h:OKL Pg jp (J7 N)):bF Pg 123 (FQ7 (sQ7 N)):=by
 refine xk (cx:=cxL Pg jp N (J7 N)) (h.os N) Pi (Sa (sQ7 N)) (λ_=>none) 0 0 (by kernel_rfl) (λi_ hi_=>by omega) ?_;intro a k h;unfold Sa at h;split at h
 ·exact⟨[],rfl,rfl,.trans (by kernel_rfl) h⟩
 ·cases h
theorem T7:TbS J7 Qu:=λN h=>h.con (Tu N (gQ7 N h))
theorem okL (N:Nat):OKL Pg jp (Q8 N):=UL N <| UK N <| UJ N <| UI N <| UH N <| UG N <| UF N <| UE N <| UD N <| UC N <| UB N <| UA N <| Uz N <| Uy N <| Ux N <| Uw N <| Uv N <| Uu N <| Ut N <| Us N <| Ur N <| Uq N <| Up N <| Uo N <| Un N <| Um N <| Ul N <| Uk N <| Uj N <| Ui N <| Uh N <| Ug N <| Uf N <| Ud N <| Uc N <| Ub N <| Ua N <| T_ N <| T9 N <| T8 N <| T7 N <| T6 N <| T5 N <| T4 N <| T3 N <| T2 N <| T1 N <| T0 N <| TZ N <| TY N <| TX N <| TW N <| TV N <| TU N <| TT N <| TS N <| TR N <| TQ N <| TP N <| TO N <| TN N <| TM N <| o99 N <| o98 N <| o97 N <| o96 N <| o95 N <| o94 N <| o93 N <| o92 N <| o91 N <| o90 N <| o89 N <| o88 N <| o87 N <| o86 N <| o85 N <| o84 N <| o83 N <| o82 N <| o81 N <| o80 N <| o79 N <| o78 N <| o77 N <| o76 N <| o75 N <| o74 N <| o73 N <| o72 N <| o71 N <| o70 N <| o69 N <| o68 N <| o67 N <| o66 N <| o65 N <| o64 N <| o63 N <| o62 N <| o61 N <| o60 N <| o59 N <| o58 N <| o57 N <| o56 N <| o55 N <| o54 N <| o53 N <| o52 N <| o51 N <| o50 N <| o49 N <| o48 N <| o47 N <| o46 N <| o45 N <| o44 N <| o43 N <| o42 N <| o41 N <| o40 N <| o39 N <| o38 N <| o37 N <| o36 N <| o35 N <| o34 N <| o33 N <| o32 N <| o31 N <| o30 N <| o29 N <| o28 N <| o27 N <| o26 N <| o25 N <| o24 N <| o23 N <| o22 N <| o21 N <| o20 N <| o19 N <| o18 N <| o17 N <| o16 N <| o15 N <| o14 N <| o13 N <| o12 N <| o11 N <| o10 N <| o9 N <| o8 N <| o7 N <| o6 N <| o5 N <| o4 N <| o3 N <| o2 N <| o1 N <| NQ hD_
theorem tQ2 (N:Nat) (v:List Int) (rows:Int) (y r Yz:List Int) (W_ VB:Int) (u k_:List Int) (hG:sQ2 N v rows y r Yz W_ VB u k_ (λb=>b)=true):OkC Pg 3 (Mp.args [.ints v,.int rows,.ints y,.ints r,.ints Yz,.int W_,.int VB,.ints u,.ints k_]) [] (.bool true) []:=lY N (okL N) v rows y r Yz W_ VB u k_ hG
end
end Go.Proofs.YtdinakfmablagaaGreatDoor
end
