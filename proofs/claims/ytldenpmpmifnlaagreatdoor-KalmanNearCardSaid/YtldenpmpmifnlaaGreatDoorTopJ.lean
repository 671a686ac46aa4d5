/-
  KalmanNear holds of the given program: for every input the law answers true, and what came in reads as it read; math/bits.deBruijn64tab holds what the program's text lays (tied on the card). No other condition.
-/
import Derived.Test.YtldenpmpmifnlaaGreatDoorRows
import Derived.Test.YtldenpmpmifnlaaGreatDoorCards
import Derived.Test.YtldenpmpmifnlaaGreatDoorTie
import Derived.Test.YtldenpmpmifnlaaGreatDoorMachT
import Derived.Test.YtldenpmpmifnlaaGreatDoorGx
import Derived.Test.YtldenpmpmifnlaaGreatDoorM1
import Derived.Laws.IdiomArrays
import Derived.Lib.LaidTab
import Derived.LaidHandle
import Derived.SevenTiedAt
import Derived.Stop.Joined
set_option linter.unusedVariables false
namespace Go.Proofs.YtldenpmpmifnlaaGreatDoor
open Go Go.Mach Go.Proofs
open Go.ChangeShapes Go.WideShapes Go.ChangeAt Go.RowKit
set_option maxRecDepth 100000
theorem aju:ownKnob Tryz.prog.godebug=none:=by kernel_rfl
theorem Ht {ok:Nat->Prop} {w:World} {ρ:Rho}:RepL ok w ρ [] []:=⟨rfl,λi u v hu _=>by simp at hu⟩
theorem rC {ok:Nat->Prop} {w:World} {ρ:Rho} {a:V} {x:Value} {us:List V} {xs:List Value} (h1:Rep ok w ρ a x) (h2:RepL ok w ρ us xs):RepL ok w ρ (a::us) (x::xs):=by
 refine⟨by simp[h2.1],λi u v hu hv=>?_⟩;cases i with
 | zero=>simp at hu hv; subst hu; subst hv; exact h1
 | succ i=>exact h2.2 i u v (by simpa using hu) (by simpa using hv)
theorem DC {z:Int} (h:(Lit.int .u64 z).wf=true):z.toNat<18446744073709551616:=by have:=bounds_u64 h;omega
theorem abT (a:Nat):∃ N,Fuel N/\a+1000<N:=by
 obtain⟨E,hE⟩:∃ E,E=4398046511104+a+1000:=⟨_,rfl⟩
 have h:=Nat.lt_two_pow_self (n:=E);exact⟨2 ^ E,⟨E,by omega,Nat.le_refl _⟩,by omega⟩
theorem Lv:Tryz.prog.globalNamed "math/bits.deBruijn64tab" = some 1:=by kernel_rfl
theorem adE:(Rows.laid_math_bits_deBruijn64tab:DataW Unit)=Lib.tabData .u8 CY:=by kernel_rfl
theorem aeD {W:World} (h:laidMetH Tryz.prog [("math/bits.deBruijn64tab",Rows.laid_math_bits_deBruijn64tab)] W):∀ b zs,Do b=some zs->TabAt W b zs:=by
 have h':laidMet Tryz.prog [("math/bits.deBruijn64tab",Rows.laid_math_bits_deBruijn64tab)] W:=h;rw[adE]at h';have ht:=Lib.tabIs_of_head (e:=5) (t:=170) (n:=64) Lv (by kernel_rfl) (by kernel_rfl) (by kernel_rfl) (by kernel_rfl) (by kernel_rfl) h';have hc:=λi hi=>ht.cell Lv i hi
 have hsz:1<W.heap.size:=by
  have h0:=hc 0 (by decide);unfold World.cell? at h0;rcases Nat.lt_or_ge 1 W.heap.size with h | h
  ·exact h
  ·rw[Array.getElem?_eq_none h]at h0; cases h0
 intro b zs e;unfold Do at e;split at e
 ·cases e;exact⟨hsz,hc⟩
 ·cases e
noncomputable def Hi (os:Os):World:=
 let w0:=World.holding Tryz.prog os ⟨#[],#[],[]⟩
 { w0 with heap:=w0.heap.modify 1 fun
   | .cells _ t frozen=>.cells (CY.map λz=>Value.int .u8 z).toArray t frozen
   | o=>o }
theorem Ge (os:Os) (args:Array Value):laidMetH Tryz.prog [("math/bits.deBruijn64tab",Rows.laid_math_bits_deBruijn64tab)] ((Hi os).forCall (λ_ _=>0) ⟨#[],args,[]⟩).memory:=
 laidMetH_of_parts (laidMet_of_run' 8 (by kernel_rfl) (by kernel_rfl)) (by kernel_rfl)
set_option maxRecDepth 100000 in
theorem B8 (os:Os) (started:os.Started) (H:Type) (enc:TypeId × Value->H) :
  ReturnsInHanded {} Tryz.checked os 3 .any (λw args=>(Rows.kalmanNearSpec.pre enc Tryz.prog Tryz.f3 [] false w args/\laidMetH Tryz.prog [("math/bits.deBruijn64tab",Rows.laid_math_bits_deBruijn64tab)] w)/\sizedMet enc Tryz.prog Tryz.f3 (OpenSpec.ofChange Rows.kalmanNearSpec) false w args)
   (Rows.kalmanNearSpec.post enc Tryz.prog Tryz.f3 false true false false):=by
 refine returnsInHanded_of_change_and (C:=Tryz.checked) (X:=λw _=>laidMetH Tryz.prog [("math/bits.deBruijn64tab",Rows.laid_math_bits_deBruijn64tab)] w) (λ_ _ _ hh h=>h.of_heap hh) aju started (by kernel_rfl) Tryz.func3
  (ChangeSpec.witness_at (enc:=enc) (C:=Tryz.checked) (os:=os) (X:=λw _=>laidMetH Tryz.prog [("math/bits.deBruijn64tab",Rows.laid_math_bits_deBruijn64tab)] w) false (Hi os) #[.int .u64 0,.int .u64 0,.int .u64 0,.int .u64 0] 8 rfl (by kernel_rfl) (by kernel_rfl) (by kernel_rfl) (by kernel_rfl) (by kernel_rfl) (Ge os _)) ?_
 intro W base args ds gs before hval0 hW hcnd hsz hL _;have hval:∀(j:Nat) t v,Tryz.f3.params[j]? = some t->args[j]? = some v->Value.okWide Tryz.prog W .any base t v:=hval0;have hW':=hW;obtain⟨p,q,hA0,hV,rfl,hfz,hnd⟩:=hW;have hA:DataW.TrodAll enc Tryz.prog W 0 (λ_=>true) true Tryz.f3.params.toList args.toList ds p:=hA0;rw[Tryz.params3]at hA hval;obtain⟨v0,vs0,d0,ds0,p0,q0,hargs,rfl,rfl,h0,r0⟩:=trodAll_cons hA;obtain⟨v1,vs1,d1,ds1,p1,q1,rfl,rfl,rfl,h1,r1⟩:=trodAll_cons r0;obtain⟨v2,vs2,d2,ds2,p2,q2,rfl,rfl,rfl,h2,r2⟩:=trodAll_cons r1;obtain⟨v3,vs3,d3,ds3,p3,q3,rfl,rfl,rfl,h3,r3⟩:=trodAll_cons r2;obtain⟨rfl,rfl,rfl⟩:=trodAll_nil r3;obtain rfl:args = #[v0,v1,v2,v3]:=by cases args; simp_all
 obtain⟨rfl,rfl⟩:=trodVars_none hV;clear hA0 hval0;obtain⟨a0,rfl,rfl,rfl,wa0⟩:=open_int Tryz.underlying22 (hval 0 22 v0 rfl rfl) h0;obtain⟨a1,rfl,rfl,rfl,wa1⟩:=open_int Tryz.underlying22 (hval 1 22 v1 rfl rfl) h1;obtain⟨a2,rfl,rfl,rfl,wa2⟩:=open_int Tryz.underlying22 (hval 2 22 v2 rfl rfl) h2;obtain⟨a3,rfl,rfl,rfl,wa3⟩:=open_int Tryz.underlying22 (hval 3 22 v3 rfl rfl) h3;obtain⟨N,hF,hNl⟩:=abT 0;have hC:=ak3 N a0 a1 a2 a3 (E4 hF a0 a1 a2 a3 (DC wa0) (DC wa1) (DC wa2) (DC wa3) _);have hA:IH.args [.int a0,.int a1,.int a2,.int a3]=[.int .u64 a0,.int .u64 a1,.int .u64 a2,.int .u64 a3]:=by kernel_rfl
 rw[hA]at hC;refine(HW (vs:=[.int .u64 a0,.int .u64 a1,.int .u64 a2,.int .u64 a3]) hC (aeD hL) λok hok=>rC (.int _ _) (rC (.int _ _) (rC (.int _ _) (rC (.int _ _) Ht)))).mono λe W' ⟨he,bel⟩=>?_
 subst he;exact⟨_,rfl,_,_,_,[],_,[],hW',trodAll_mk1 (shut_bool Tryz.underlying4 _),(trodAll_cons_mk (shut_int Tryz.underlying22 wa0) (trodAll_cons_mk (shut_int Tryz.underlying22 wa1) (trodAll_cons_mk (shut_int Tryz.underlying22 wa2) (trodAll_cons_mk (shut_int Tryz.underlying22 wa3) trodAll_mk0)))),rfl,bel.frame _,λh=>by cases h⟩
theorem Fi:Rows.kalmanNearRow.holds Tryz.pinned (OpenSpec.ofChange Rows.kalmanNearSpec):=
 OpenClaim.holds_of_wide 3 Tryz.f3 rfl rfl rfl rfl rfl rfl rfl ⟨rfl,rfl,rfl,rfl,rfl⟩ rfl rfl rfl rfl rfl (by kernel_rfl) Tryz.func3 (by kernel_rfl)
  (of_decide_eq_true (by kernel_rfl)) (by unfold Func.isWrapper; first | (rw[if_pos (by decide +kernel)]; kernel_rfl) | (rw[if_neg (by decide +kernel)]; exact⟨rfl,rfl⟩))
  (λos started H enc _=>B8 os started H enc)
theorem Dp:∀(j:Nat) t,Tryz.f3.params[j]? = some t->Tryz.prog.wantsStandIn t=false:=by
 intro j t ht;rw[Tryz.params3]at ht;have s22:Tryz.prog.wantsStandIn 22=false:=by kernel_rfl
 cases j with
 | zero=>simp at ht; subst ht; exact s22
 | succ j=>
  cases j with
  | zero=>simp at ht; subst ht; exact s22
  | succ j=>
   cases j with
   | zero=>simp at ht; subst ht; exact s22
   | succ j=>
    cases j with
    | zero=>simp at ht; subst ht; exact s22
    | succ j=>
     simp at ht
theorem kalmanNearProved:Rows.KalmanNearCardSaid:=
 Claim7.holds_tied_plain_at .later [] [.data] true (true, "bcf88b0bd5d80388dc15b74647cf4f2d1ced65dabbaa9ea2c8d43d1fc932136c") true
  Fi (λ_ h=>by cases h) (by kernel_rfl) (λ_ h=>by cases h) kalmanNear_row_tie rfl ⟨rfl,rfl⟩ (by kernel_rfl) rfl
  (λf fn hf hfn=>by
   obtain rfl:f=3:=Option.some.inj ((show Tryz.prog.funcNamed "binnacle/binnaclelaw15.KalmanNear" = some 3 by kernel_rfl).symm.trans hf) |>.symm
   obtain rfl:fn=Tryz.f3:=(Option.some.inj (Tryz.func3.symm.trans hfn)).symm;exact⟨by kernel_rfl,Dp⟩)
  (by kernel_rfl)
#print axioms kalmanNearProved
end Go.Proofs.YtldenpmpmifnlaaGreatDoor
