/-
  THE FRAME of the laws on quaternions: the table that the program reads; arguments of three and of four words.
  Conditions: none.
-/
import Derived.Test.YtadejnnigmcpdaaGreatDoorRows
import Derived.Test.YtadejnnigmcpdaaGreatDoorCards
import Derived.Test.YtadejnnigmcpdaaGreatDoorTie
import Derived.Test.YtadejnnigmcpdaaGreatDoorMachP
import Derived.Laws.IdiomArrays
import Derived.Lib.LaidTab
import Derived.LaidHandle
import Derived.SevenTiedAt
import Derived.Stop.Joined
import Derived.Test.YtadejnnigmcpdaaGreatDoorGx
import Derived.Test.YtadejnnigmcpdaaGreatDoorY1
set_option linter.unusedVariables false
section
namespace Go.Proofs.YtadejnnigmcpdaaGreatDoor
open Go Go.Mach Go.Proofs
open Go.ChangeShapes Go.WideShapes Go.ChangeAt Go.RowKit
set_option maxRecDepth 100000
theorem akZ:ownKnob Tryz.prog.godebug=none:=by kernel_rfl
theorem AD:laidOutB Tryz.prog=true:=by kernel_rfl
theorem AO {ok:Nat->Prop} {w:World} {ρ:Rho}:RepL ok w ρ [] []:=⟨rfl,λi u v hu _=>by simp at hu⟩
theorem j5 {ok:Nat->Prop} {w:World} {ρ:Rho} {a:V} {x:Value} {us:List V} {xs:List Value} (h1:Rep ok w ρ a x) (h2:RepL ok w ρ us xs):RepL ok w ρ (a::us) (x::xs):=by
 refine⟨by simp[h2.1],λi u v hu hv=>?_⟩;cases i with
 | zero=>simp at hu hv; subst hu; subst hv; exact h1
 | succ i=>exact h2.2 i u v (by simpa using hu) (by simpa using hv)
theorem abw {ok:Nat->Prop} {w:World} {ρ:Rho} {us:List V} {xs:List Value} (h:RepL ok w ρ us xs) (ho:xs.all (·.oneCell')=true):Rep ok w ρ (.agg us) (.agg xs.toArray):=
 .agg us xs h.1 (λv hv=>List.all_eq_true.1 ho v hv) h.2
theorem ak4 {ok:Nat->Prop} {w:World} {ρ:Rho} (k:IntKind) (a b c:Int):Rep ok w ρ (.agg [.int k a,.int k b,.int k c]) (.agg #[.int k a,.int k b,.int k c]):=
 abw (xs:=[.int k a,.int k b,.int k c]) (j5 (.int _ _) (j5 (.int _ _) (j5 (.int _ _) AO))) rfl
theorem xN {H:Type} {enc:TypeId × Value->H} {P:Program} {w:World} {sp:Nat->Bool} {held:Bool} {r:Reach} {b0 base:Nat} {t e:TypeId} {k:IntKind} {v:Value} {d:DataW H} {ps:List MemPlace}
  (ht:P.underlying t=some (.array 3 e)) (he:P.underlying e=some (.int k)) (hce:P.cellsOf e=1) (hct:P.cellsOf t=3) (hval:Value.okWide P w r b0 t v) (hd:DataW.Trod enc P w base sp held t v d ps) :
  ∃ x y z,v=.agg #[.int k x,.int k y,.int k z]/\(Lit.int k x).wf=true/\(Lit.int k y).wf=true/\(Lit.int k z).wf=true:=by
 simp only[Value.okWide,ht]at hval;obtain⟨cs,rfl,h2,-⟩:=hval;rw[hct]at h2;obtain⟨fuel,hf⟩:=hd;have hcells:(Value.cells (.agg cs))=cs:=rfl;rw[hcells]at hf;obtain⟨l⟩:=cs
 match l,h2 with
 | [c0,c1,c2],_=>
  obtain⟨y0,y1,y2,n,-,t0,t1,t2⟩:=trod_array3 ht hce hf;obtain⟨x,rfl,wx⟩:=uF he t0;obtain⟨y,rfl,wy⟩:=uF he t1;obtain⟨z,rfl,wz⟩:=uF he t2;exact⟨x,y,z,rfl,wx,wy,wz⟩
theorem oz {z:Int} (h:(Lit.int .u64 z).wf=true):z.toNat<18446744073709551616:=by have:=bounds_u64 h;omega
theorem Ek:Tryz.prog.globalNamed "math/bits.deBruijn64tab" = some 1:=by kernel_rfl
theorem abf:(Rows.laid_math_bits_deBruijn64tab:DataW Unit)=Lib.tabData .u8 yn:=by kernel_rfl
theorem abX {W:World} (h:laidMetH Tryz.prog [("math/bits.deBruijn64tab",Rows.laid_math_bits_deBruijn64tab)] W):∀ b zs,y6 b=some zs->TabAt W b zs:=by
 have h':laidMet Tryz.prog [("math/bits.deBruijn64tab",Rows.laid_math_bits_deBruijn64tab)] W:=h;rw[abf]at h';have ht:=Lib.tabIs_of_head (e:=5) (t:=217) (n:=64) Ek (by kernel_rfl) (by kernel_rfl) (by kernel_rfl) (by kernel_rfl) (by kernel_rfl) h';have hc:=λi hi=>ht.cell Ek i hi
 have hsz:1<W.heap.size:=by
  have h0:=hc 0 (by decide);unfold World.cell? at h0;rcases Nat.lt_or_ge 1 W.heap.size with h | h
  ·exact h
  ·rw[Array.getElem?_eq_none h]at h0; cases h0
 intro b zs e;unfold y6 at e;split at e
 ·cases e;exact⟨hsz,hc⟩
 ·cases e
noncomputable def AE (os:Os):World:=
 let w0:=World.holding Tryz.prog os ⟨#[],#[],[]⟩
 { w0 with heap:=w0.heap.modify 1 fun
   | .cells _ t frozen=>.cells (yn.map λz=>Value.int .u8 z).toArray t frozen
   | o=>o }
theorem yR (os:Os) (args:Array Value):laidMetH Tryz.prog [("math/bits.deBruijn64tab",Rows.laid_math_bits_deBruijn64tab)] ((AE os).forCall (λ_ _=>0) ⟨#[],args,[]⟩).memory:=
 laidMetH_of_parts (laidMet_of_run' 8 (by kernel_rfl) (by kernel_rfl)) (by kernel_rfl)
open Go.ChangeShapes Go.WideShapes Go.ChangeAt Go.RowKit
set_option maxRecDepth 100000 in
theorem pR (os:Os) (started:os.Started) (H:Type) (enc:TypeId × Value->H) :
  ReturnsInHanded {} Tryz.checked os 5 .any (λw args=>(Rows.quatShortestSpec.pre enc Tryz.prog Tryz.f5 [] false w args/\laidMetH Tryz.prog [("math/bits.deBruijn64tab",Rows.laid_math_bits_deBruijn64tab)] w)/\sizedMet enc Tryz.prog Tryz.f5 (OpenSpec.ofChange Rows.quatShortestSpec) false w args)
   (Rows.quatShortestSpec.post enc Tryz.prog Tryz.f5 false true false false):=by
 refine returnsInHanded_of_change_and (C:=Tryz.checked) (X:=λw _=>laidMetH Tryz.prog [("math/bits.deBruijn64tab",Rows.laid_math_bits_deBruijn64tab)] w) (λ_ _ _ hh h=>h.of_heap hh) akZ started (by kernel_rfl) Tryz.func5
  (ChangeSpec.witness_at (enc:=enc) (C:=Tryz.checked) (os:=os) (X:=λw _=>laidMetH Tryz.prog [("math/bits.deBruijn64tab",Rows.laid_math_bits_deBruijn64tab)] w) false (AE os) #[.agg #[.int .u64 0,.int .u64 0,.int .u64 0],.agg #[.int .u64 0,.int .u64 0,.int .u64 0]] 8 rfl (by kernel_rfl) (by kernel_rfl) (by kernel_rfl) (by kernel_rfl) (by kernel_rfl) (yR os _)) ?_
 intro W base args ds gs before hval0 hW hcnd hsz hL _;have hval:∀(j:Nat) t v,Tryz.f5.params[j]? = some t->args[j]? = some v->Value.okWide Tryz.prog W .any base t v:=hval0;have hW':=hW;obtain⟨p,q,hA0,hV,rfl,hfz,hnd⟩:=hW;have hA:DataW.TrodAll enc Tryz.prog W 0 (λ_=>true) true Tryz.f5.params.toList args.toList ds p:=hA0;rw[Tryz.params5]at hA hval;obtain⟨v0,vs0,d0,ds0,p0,q0,hargs,rfl,rfl,h0,r0⟩:=trodAll_cons hA;obtain⟨v1,vs1,d1,ds1,p1,q1,rfl,rfl,rfl,h1,r1⟩:=trodAll_cons r0;obtain⟨rfl,rfl,rfl⟩:=trodAll_nil r1;obtain rfl:args = #[v0,v1]:=by cases args; simp_all
 obtain⟨rfl,rfl⟩:=trodVars_none hV;have lt0:∀ x ∈ p0,x.block<W.heap.size:=by obtain⟨m,hm⟩:=h0; exact DataW.trod_lt m _ _ _ hm
 have lt1:∀ x ∈ p1,x.block<W.heap.size:=by obtain⟨m,hm⟩:=h1; exact DataW.trod_lt m _ _ _ hm
 clear hA0 hval0;have c26:Tryz.prog.cellsOf 26=3:=by kernel_rfl
 have c22:Tryz.prog.cellsOf 22=1:=by kernel_rfl
 obtain⟨a0_0,a0_1,a0_2,rfl,wa0_0,wa0_1,wa0_2⟩:=xN Tryz.underlying26 Tryz.underlying22 c22 c26 (hval 0 26 v0 rfl rfl) h0;obtain⟨a1_0,a1_1,a1_2,rfl,wa1_0,wa1_1,wa1_2⟩:=xN Tryz.underlying26 Tryz.underlying22 c22 c26 (hval 1 26 v1 rfl rfl) h1;have hC:=amL (1000) a0_0 a0_1 a0_2 a1_0 a1_1 a1_2 (uA (by omega) (oz wa0_0) (oz wa0_1) (oz wa0_2) (oz wa1_0) (oz wa1_1) (oz wa1_2) _);have hA:B6.args [.int a0_0,.int a0_1,.int a0_2,.int a1_0,.int a1_1,.int a1_2]=[.agg [.int .u64 a0_0,.int .u64 a0_1,.int .u64 a0_2],.agg [.int .u64 a1_0,.int .u64 a1_1,.int .u64 a1_2]]:=by kernel_rfl
 rw[hA]at hC;refine(Bw (vs:=[.agg #[.int .u64 a0_0,.int .u64 a0_1,.int .u64 a0_2],.agg #[.int .u64 a1_0,.int .u64 a1_1,.int .u64 a1_2]]) hC (abX hL) λok hok=>j5 (ak4 _ _ _ _) (j5 (ak4 _ _ _ _) AO)).mono λe W' ⟨he,bel⟩=>?_
 subst he;exact⟨_,rfl,_,_,_,[],_,[],hW',trodAll_mk1 (shut_bool Tryz.underlying4 _),(trodAll_cons_mk (Below.trod AD (by kernel_rfl) (of_decide_eq_true (by kernel_rfl)) h0 bel lt0) (trodAll_cons_mk (Below.trod AD (by kernel_rfl) (of_decide_eq_true (by kernel_rfl)) h1 bel lt1) trodAll_mk0)),rfl,bel.frame _,λh=>by cases h⟩
theorem uG:Rows.quatShortestRow.holds Tryz.pinned (OpenSpec.ofChange Rows.quatShortestSpec):=
 OpenClaim.holds_of_wide 5 Tryz.f5 rfl rfl rfl rfl rfl rfl rfl ⟨rfl,rfl,rfl,rfl,rfl⟩ rfl rfl rfl rfl rfl (by kernel_rfl) Tryz.func5 (by kernel_rfl)
  (of_decide_eq_true (by kernel_rfl)) (by unfold Func.isWrapper; first | (rw[if_pos (by decide +kernel)]; kernel_rfl) | (rw[if_neg (by decide +kernel)]; exact⟨rfl,rfl⟩))
  (λos started H enc _=>pR os started H enc)
theorem se:∀(j:Nat) t,Tryz.f5.params[j]? = some t->Tryz.prog.wantsStandIn t=false:=by
 intro j t ht;rw[Tryz.params5]at ht;have s26:Tryz.prog.wantsStandIn 26=false:=by kernel_rfl
 cases j with
 | zero=>simp at ht; subst ht; exact s26
 | succ j=>
  cases j with
  | zero=>simp at ht; subst ht; exact s26
  | succ j=>
   simp at ht
theorem quatShortestProved:Rows.QuatShortestCardSaid:=
 Claim7.holds_tied_plain_at .later [] [.data] true (true, "2ac09f5fad80a0833add6d076231e7efe57b343c1868c14a8dbdd9cb10592176") false
  uG (λ_ h=>by cases h) (by kernel_rfl) (λ_ h=>by cases h) quatShortest_row_tie rfl ⟨rfl,rfl⟩ (by kernel_rfl) rfl
  (λf fn hf hfn=>by
   obtain rfl:f=5:=Option.some.inj ((show Tryz.prog.funcNamed "binnacle/binnaclelaw12.QuatShortest" = some 5 by kernel_rfl).symm.trans hf) |>.symm
   obtain rfl:fn=Tryz.f5:=(Option.some.inj (Tryz.func5.symm.trans hfn)).symm;exact⟨by kernel_rfl,se⟩)
  (by kernel_rfl)
#print axioms quatShortestProved
end Go.Proofs.YtadejnnigmcpdaaGreatDoor
end
