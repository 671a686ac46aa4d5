/- The program's functions and their ties. Conditions: none. -/
import Derived.Test.YtpmoedfiobeilaaGreatDoorGs
import Derived.Test.YtpmoedfiobeilaaGreatDoorMachT
import Derived.Test.YtpmoedfiobeilaaGreatDoorC8
import Derived.Test.YtpmoedfiobeilaaGreatDoorGt0
set_option linter.defProp false
set_option linter.unusedVariables false
section
namespace Go.Proofs.YtpmoedfiobeilaaGreatDoor
open Go Go.Mach Go.Proofs
set_option maxRecDepth 20000
def TP (N:Nat):bW Pg 37 (SO (B3 N)):=
 ob (BB (fn:=Tryz.f37) (by kernel_rfl) (by kernel_rfl) (by kernel_rfl) (by kernel_rfl) (by kernel_rfl)) λa k h=>by
  unfold Pv at h; split at h
  ·exact h
  ·cases h
def Tj (N:Nat):bW Pg 37 (OJ (xa N)):=
 ob (H_ (fn:=Tryz.f37) (by kernel_rfl) (by kernel_rfl) (by kernel_rfl) (by kernel_rfl) (by kernel_rfl)) λa k h=>by
  unfold MK xa at h; split at h
  ·split at h
   ·exact h
   ·cases h
  ·cases h
def Tk (N:Nat):bW Pg 25 (OK (zz N)):=
 ob (z9 (fn:=Tryz.f25) (by kernel_rfl) (by kernel_rfl) (by kernel_rfl) (by kernel_rfl) (by kernel_rfl)) λa k h=>by
  unfold ML at h; split at h
  ·exact h
  ·cases h
def gQ1 (N:Nat):bW Pg 201 (FQ1 (sQ1 N)):=
 ob (Fg (fn:=Tryz.f201) (by kernel_rfl) (by kernel_rfl) (by kernel_rfl) (by kernel_rfl) (by kernel_rfl)) λa k h=>by
  unfold TE at h; split at h
  ·exact h
  ·cases h
def gQ4 (N:Nat):bW Pg 210 (FQ4 (sQ4 N)):=
 ob (Fj (fn:=Tryz.f210) (by kernel_rfl) (by kernel_rfl) (by kernel_rfl) (by kernel_rfl) (by kernel_rfl)) λa k h=>by
  unfold TF at h; split at h
  ·exact h
  ·cases h
def jC (N:Nat):bW Pg 20 (dS (aw N)):=by
 refine Fh (cx:=⟨Pg,iO [],λ_=>false,1⟩) (N8 (zm _) (by kernel_rfl)) (e:=41) (λ_ _=>by kernel_rfl) (λ_ _ _=>by kernel_rfl) (λ_ _ _=>by kernel_rfl) rfl _ λa k h=>?_
 unfold dP aw at h;split at h
 ·rename_i s;rw[Bool.and_eq_true,decide_eq_true_eq]at h;exact⟨s,rfl,h.1,h.2⟩
 ·cases h
def Vj (N:Nat) (h:bW Pg 52 (FQ8 (sQ8 N))):bW Pg 52 (SP (ME N)):=by
 have q:∀ b,yg (cn (some b))=yg (some b):=by intro b; by_cases hb:isNaN b=true <;> simp[cn,yg,cls,hb]
 refine yA (MM (ME N)) (λx=>.int .i64 (yg x)) h rfl (λa k hk=>?_) (λb k=>?_) (λb=>by rw[q])
 ·unfold MM at hk; split at hk
  ·exact⟨_,rfl,hk⟩
  ·cases hk
 ·have e:FQ8 (sQ8 N) [.val (.float .f64 b)] [] k=sQ8 N b (λr0=>k (.int .i64 r0) []):=by kernel_rfl
  rw[e,Ij,q]; rfl
def TJ (N:Nat) (h:bW Pg 53 (FQ9 (sQ9 N))):bW Pg 53 (OI (D0 N)):=by
 have q:∀ x,cn (cn x)=cn x:=by
  intro x;cases x with
  | none=>rfl
  | some b=>by_cases hb:isNaN b=true <;> simp[cn,hb]
 refine Fi (Ge (D0 N)) (λx y=>.bool (decide (cn x=cn y))) h rfl (λa k hk=>?_) (λb c k=>?_) (λx y=>by simp only[q])
 ·unfold Ge at hk; split at hk
  ·exact⟨_,_,rfl,hk⟩
  ·cases hk
 ·have e:FQ9 (sQ9 N) [.val (.float .f64 b),.val (.float .f64 c)] [] k=sQ9 N b c (λr0=>k (.bool r0) []):=by kernel_rfl
  rw[e,Lq]; simp only[q]
def OH (N:Nat) (h:bW Pg 107 (PA (F9 N))):bW Pg 107 (Gn (vc N)):=by
 have q:∀ b,z7 (cn (some b))=z7 (some b):=by
  intro b;by_cases hb:isNaN b=true
  ·have hb':=(fk b).1 hb;have:isNaN (b%9223372036854775808)=true:=(fk _).2 (by omega);simp[cn,z7,fD,hb,this]
  ·simp[cn,hb]
 refine yA (zG (vc N)) (λx=>.flt (z7 x)) h rfl (λa k hk=>?_) (λb k=>?_) (λb=>by rw[q])
 ·unfold zG at hk; split at hk
  ·exact⟨_,rfl,hk⟩
  ·cases hk
 ·have e:PA (F9 N) [.val (.float .f64 b)] [] k=F9 N b (λr0=>k (.flt r0) []):=by kernel_rfl
  rw[e,NL,q]
end Go.Proofs.YtpmoedfiobeilaaGreatDoor
end
section
namespace Go.Proofs.YtpmoedfiobeilaaGreatDoor
open Go Go.Mach Go.Proofs
set_option maxRecDepth 50000
noncomputable section
def o1:TbS L0 L1:=λN h=>h.con (TP N)
def o2:TbS L1 L2:=λN h=>h.con (Tk N)
def o5:TbS L4 L5:=λN h=>h.con (h.alt (Tj N))
def o42:TbS L41 L42:=λN h=>h.con (gQ1 N)
def o45:TbS L44 L45:=λN h=>h.con (gQ4 N)
def o50:TbS L49 L50:=λN h=>h.con (jC N)
def TQ (N:Nat) (h:OKL Pg iI (L52 N)):bW Pg 107 (PA (F9 N)):=by
 refine BC (cx:=cxL Pg iI N (L52 N)) (h.os N) MH (MN (F9 N)) (λ_=>none) 0 0 (by kernel_rfl) (λi_ hi_=>by omega) ?_;intro a k h;unfold MN at h;split at h
 ·exact⟨[],rfl,rfl,.trans (by kernel_rfl) h⟩
 ·cases h
def o53:TbS L52 L53:=λN h=>h.con (OH N (TQ N h))
def gQ8 (N:Nat) (h:OKL Pg iI (Kp N)):bW Pg 52 (FQ8 (sQ8 N)):=by
 refine BC (cx:=cxL Pg iI N (Kp N)) (h.os N) Pt (SF (sQ8 N)) (λ_=>none) 0 0 (by kernel_rfl) (λi_ hi_=>by omega) ?_;intro a k h;unfold SF at h;split at h
 ·exact⟨[],rfl,rfl,.trans (by kernel_rfl) h⟩
 ·cases h
def UE:TbS Kp Q7:=λN h=>h.con (Vj N (gQ8 N h))
def gQ9 (N:Nat) (h:OKL Pg iI (Kq N)):bW Pg 53 (FQ9 (sQ9 N)):=by
 refine BC (cx:=cxL Pg iI N (Kq N)) (h.os N) Pu (SG (sQ9 N)) (λ_=>none) 0 0 (by kernel_rfl) (λi_ hi_=>by omega) ?_;intro a k h;unfold SG at h;split at h
 ·exact⟨[],rfl,rfl,.trans (by kernel_rfl) h⟩
 ·cases h
def UH:TbS Kq Q9:=λN h=>h.con (TJ N (gQ9 N h))
def okL (N:Nat):OKL Pg iI (Kr N):=Ve N <| Vd N <| Vc N <| Vb N <| Va N <| U_ N <| U9 N <| U8 N <| U7 N <| U6 N <| U5 N <| U4 N <| U2 N <| U0 N <| UZ N <| UY N <| UX N <| UW N <| UV N <| UU N <| UT N <| US N <| UR N <| UQ N <| UP N <| UO N <| UN N <| UM N <| UL N <| UK N <| UJ N <| UI N <| UH N <| UG N <| UF N <| UE N <| UD N <| UC N <| UB N <| UA N <| Uz N <| Uy N <| Ux N <| Uw N <| Uv N <| Uu N <| Ut N <| Us N <| Ur N <| Uq N <| Up N <| Uo N <| Un N <| Um N <| Ul N <| Uk N <| Uj N <| Ui N <| Uh N <| Ug N <| Uf N <| Ue N <| Ud N <| Uc N <| Ub N <| Ua N <| T_ N <| T9 N <| T8 N <| T7 N <| T6 N <| T5 N <| T4 N <| T3 N <| T2 N <| T1 N <| T0 N <| TZ N <| TY N <| TX N <| TW N <| TV N <| TU N <| TT N <| TS N <| TR N <| o99 N <| o98 N <| o97 N <| o96 N <| o95 N <| o94 N <| o93 N <| o92 N <| o91 N <| o90 N <| o89 N <| o88 N <| o87 N <| o86 N <| o85 N <| o84 N <| o83 N <| o82 N <| o81 N <| o80 N <| o79 N <| o78 N <| o77 N <| o76 N <| o75 N <| o74 N <| o73 N <| o72 N <| o71 N <| o70 N <| o69 N <| o68 N <| o67 N <| o66 N <| o65 N <| o64 N <| o63 N <| o62 N <| o61 N <| o60 N <| o59 N <| o58 N <| o57 N <| o56 N <| o55 N <| o54 N <| o53 N <| o52 N <| o51 N <| o50 N <| o49 N <| o48 N <| o47 N <| o46 N <| o45 N <| o44 N <| o43 N <| o42 N <| o41 N <| o40 N <| o39 N <| o38 N <| o37 N <| o36 N <| o35 N <| o34 N <| o33 N <| o32 N <| o31 N <| o30 N <| o29 N <| o28 N <| o27 N <| o26 N <| o25 N <| o24 N <| o23 N <| o22 N <| o21 N <| o20 N <| o19 N <| o18 N <| o17 N <| o16 N <| o15 N <| o14 N <| o13 N <| o12 N <| o11 N <| o10 N <| o9 N <| o8 N <| o7 N <| o6 N <| o5 N <| o4 N <| o3 N <| o2 N <| o1 N <| N5 hD_
def tQ2 (N:Nat) (x:List Int) (n:Int) (p:List Int) (l:List RY3) (cut:Int) (hG:sQ2 N x n p l cut (λb=>b)=true):OkC Pg 3 (MG.args [.ints x,.int n,.ints p,.recs RT3 l,.int cut]) [] (.bool true) []:=na N (okL N) x n p l cut hG
end
end Go.Proofs.YtpmoedfiobeilaaGreatDoor
end
