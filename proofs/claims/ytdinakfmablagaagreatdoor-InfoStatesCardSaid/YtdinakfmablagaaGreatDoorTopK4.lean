/-
  THE FRAME of the Kalman laws: the two tables that the program reads; the fuel.
  Conditions: none.
-/
import Derived.Test.YtdinakfmablagaaGreatDoorRows
import Derived.Test.YtdinakfmablagaaGreatDoorCards
import Derived.Test.YtdinakfmablagaaGreatDoorTie
import Derived.Test.YtdinakfmablagaaGreatDoorMachT
import Derived.Test.YtdinakfmablagaaGreatDoorMachZr
import Derived.Test.YtdinakfmablagaaGreatDoorC13
import Derived.Laws.IdiomArrays
import Derived.Lib.LaidTab
import Derived.LaidHandle
import Derived.SevenTiedAt
import Derived.Stop.Joined
import Derived.Stop.LaidErr
import Derived.Test.YtdinakfmablagaaGreatDoorGx
import Derived.Test.YtdinakfmablagaaGreatDoorH6
set_option linter.unusedVariables false
section
namespace Go.Proofs.YtdinakfmablagaaGreatDoor
open Go Go.Mach Go.Proofs
open Go.ChangeShapes Go.WideShapes Go.ChangeAt Go.RowKit
set_option maxRecDepth 100000
theorem W2:ownKnob Tryz.prog.godebug=none:=by kernel_rfl
theorem pH:laidOutB Tryz.prog=true:=by kernel_rfl
theorem xa {N n:Nat} (h:n*8<=reachBytes) (hN:n<N):ji N n:=by refine⟨hN,?_⟩;unfold reachBytes at h;omega
theorem Wc {zs:List Int} (h:∀ z ∈ zs,(Lit.int .u64 z).wf=true):∀ n ∈ zs,n.toNat<18446744073709551616:=λn hn=>by have:=bounds_u64 (h n hn);omega
theorem Qk (a:Nat):∃ N,Fuel N/\a+1000<N:=by
 obtain⟨E,hE⟩:∃ E,E=4398046511104+a+1000:=⟨_,rfl⟩
 have h:=Nat.lt_two_pow_self (n:=E);exact⟨2 ^ E,⟨E,by omega,Nat.le_refl _⟩,by omega⟩
theorem BR:Tryz.prog.globalNamed "math/bits.deBruijn32tab" = some 1:=by kernel_rfl
theorem BS:Tryz.prog.globalNamed "math/bits.deBruijn64tab" = some 2:=by kernel_rfl
theorem KJ:(Rows.laid_math_bits_deBruijn32tab:DataW Unit)=Lib.tabData .u8 zg:=by kernel_rfl
theorem KK:(Rows.laid_math_bits_deBruijn64tab:DataW Unit)=Lib.tabData .u8 zh:=by kernel_rfl
abbrev qC:List (String × DataW Unit):=[("math/bits.deBruijn32tab",Rows.laid_math_bits_deBruijn32tab),("math/bits.deBruijn64tab",Rows.laid_math_bits_deBruijn64tab)]
theorem RD {W:World} (h:laidMetH Tryz.prog qC W):∀ b zs,zA b=some zs->TabAt W b zs:=by
 have h':laidMet Tryz.prog qC W:=h;unfold qC at h';rw[KJ,KK]at h';have t32:=Lib.tabIs_of_head (e:=5) (t:=315) (n:=32) BR (by kernel_rfl) (by kernel_rfl) (by kernel_rfl) (by kernel_rfl) (by kernel_rfl) h';have t64:=Lib.tabIs_of_head (e:=5) (t:=317) (n:=64) BS (by kernel_rfl) (by kernel_rfl) (by kernel_rfl) (by kernel_rfl) (by kernel_rfl) (laidMet.tail h');have c32:=λi hi=>t32.cell BR i hi
 have c64:=λi hi=>t64.cell BS i hi
 have s32:1<W.heap.size:=by
  have h0:=c32 0 (by decide);unfold World.cell? at h0;rcases Nat.lt_or_ge 1 W.heap.size with h | h
  ·exact h
  ·rw[Array.getElem?_eq_none h]at h0; cases h0
 have s64:2<W.heap.size:=by
  have h0:=c64 0 (by decide);unfold World.cell? at h0;rcases Nat.lt_or_ge 2 W.heap.size with h | h
  ·exact h
  ·rw[Array.getElem?_eq_none h]at h0; cases h0
 intro b zs e;unfold zA at e;split at e
 ·cases e;exact⟨s32,c32⟩
 ·cases e;exact⟨s64,c64⟩
 ·cases e
noncomputable def CM (os:Os):World:=
 let w0:=World.holding Tryz.prog os ⟨#[],#[],[]⟩
 { w0 with heap:=(w0.heap.modify 1 fun
   | .cells _ t frozen=>.cells (zg.map λz=>Value.int .u8 z).toArray t frozen
   | o=>o).modify 2 fun
   | .cells _ t frozen=>.cells (zh.map λz=>Value.int .u8 z).toArray t frozen
   | o=>o }
theorem Ca (os:Os) (args:Array Value):laidMetH Tryz.prog qC ((CM os).forCall (λ_ _=>0) ⟨#[],args,[]⟩).memory:=
 laidMetH_of_parts (laidMet_of_run' 8 (by kernel_rfl) (by kernel_rfl)) (by kernel_rfl)
open Go.ChangeShapes Go.WideShapes Go.ChangeAt Go.RowKit
set_option maxRecDepth 100000 in
theorem xN (os:Os) (started:os.Started) (H:Type) (enc:TypeId × Value->H) :
  ReturnsInHanded {} Tryz.checked os 6 .any (λw args=>(Rows.infoStatesSpec.pre enc Tryz.prog Tryz.f6 [] false w args/\laidMetH Tryz.prog qC w)/\sizedMet enc Tryz.prog Tryz.f6 (OpenSpec.ofChange Rows.infoStatesSpec) false w args)
   (Rows.infoStatesSpec.post enc Tryz.prog Tryz.f6 false true false false):=by
 refine returnsInHanded_of_change_and (C:=Tryz.checked) (X:=λw _=>laidMetH Tryz.prog qC w) (λ_ _ _ hh h=>h.of_heap hh) W2 started (by kernel_rfl) Tryz.func6
  (ChangeSpec.witness_at (enc:=enc) (C:=Tryz.checked) (os:=os) (X:=λw _=>laidMetH Tryz.prog qC w) false (CM os) #[.slice none 0 0,.int .i64 0,.slice none 0 0,.slice none 0 0,.slice none 0 0] 8 rfl (by kernel_rfl) (by kernel_rfl) (by kernel_rfl) (by kernel_rfl) (by kernel_rfl) (Ca os _)) ?_
 intro W base args ds gs before hval0 hW hcnd hsz hL _;have hval:∀(j:Nat) t v,Tryz.f6.params[j]? = some t->args[j]? = some v->Value.okWide Tryz.prog W .any base t v:=hval0;have hW':=hW;obtain⟨p,q,hA0,hV,rfl,hfz,hnd⟩:=hW;have hA:DataW.TrodAll enc Tryz.prog W 0 (λ_=>true) true Tryz.f6.params.toList args.toList ds p:=hA0;rw[Tryz.params6]at hA hval;have hsz2:(DataW.weightsEach Tryz.prog (Tryz.f6.params.toList++Rows.infoStatesSpec.plain.varTypes Tryz.prog) (ds++gs)).all (· <= reachBytes)=true:=hsz;rw[Tryz.params6]at hsz2;obtain⟨v0,vs0,d0,ds0,p0,q0,hargs,rfl,rfl,h0,r0⟩:=trodAll_cons hA;obtain⟨v1,vs1,d1,ds1,p1,q1,rfl,rfl,rfl,h1,r1⟩:=trodAll_cons r0;obtain⟨v2,vs2,d2,ds2,p2,q2,rfl,rfl,rfl,h2,r2⟩:=trodAll_cons r1;obtain⟨v3,vs3,d3,ds3,p3,q3,rfl,rfl,rfl,h3,r3⟩:=trodAll_cons r2;obtain⟨v4,vs4,d4,ds4,p4,q4,rfl,rfl,rfl,h4,r4⟩:=trodAll_cons r3;obtain⟨rfl,rfl,rfl⟩:=trodAll_nil r4;obtain rfl:args = #[v0,v1,v2,v3,v4]:=by cases args; simp_all
 obtain⟨rfl,rfl⟩:=trodVars_none hV;have lt0:∀ x ∈ p0,x.block<W.heap.size:=by obtain⟨m,hm⟩:=h0; exact DataW.trod_lt m _ _ _ hm
 have lt1:∀ x ∈ p1,x.block<W.heap.size:=by obtain⟨m,hm⟩:=h1; exact DataW.trod_lt m _ _ _ hm
 have lt2:∀ x ∈ p2,x.block<W.heap.size:=by obtain⟨m,hm⟩:=h2; exact DataW.trod_lt m _ _ _ hm
 have lt3:∀ x ∈ p3,x.block<W.heap.size:=by obtain⟨m,hm⟩:=h3; exact DataW.trod_lt m _ _ _ hm
 have lt4:∀ x ∈ p4,x.block<W.heap.size:=by obtain⟨m,hm⟩:=h4; exact DataW.trod_lt m _ _ _ hm
 clear hA0 hval0;obtain⟨x0,⟨w0,-⟩,r0⟩:=s_ (d:=6) (rt:=.ints .u64) (by kernel_rfl) (by kernel_rfl) (hval 0 22 v0 rfl rfl) h0 (pX hsz2 (j:=0) rfl rfl);obtain⟨x1,⟨w1,-⟩,r1⟩:=s_ (d:=6) (rt:=.int .i64) (by kernel_rfl) (by kernel_rfl) (hval 1 3 v1 rfl rfl) h1 (pX hsz2 (j:=1) rfl rfl);obtain⟨x2,⟨w2,-⟩,r2⟩:=s_ (d:=6) (rt:=.ints .u64) (by kernel_rfl) (by kernel_rfl) (hval 2 22 v2 rfl rfl) h2 (pX hsz2 (j:=2) rfl rfl);obtain⟨x3,⟨w3,-⟩,r3⟩:=s_ (d:=6) (rt:=.ints .u64) (by kernel_rfl) (by kernel_rfl) (hval 3 22 v3 rfl rfl) h3 (pX hsz2 (j:=3) rfl rfl);obtain⟨x4,⟨w4,-⟩,r4⟩:=s_ (d:=6) (rt:=.ints .u64) (by kernel_rfl) (by kernel_rfl) (hval 4 22 v4 rfl rfl) h4 (pX hsz2 (j:=4) rfl rfl);have e0:Hf Tryz.prog 22 (.ints .u64) x0=.roi .u64 x0:=by kernel_rfl
 rw[e0]at r0;have sm0:∀ N,x0.length<N->ji N x0.length:=λN hN=>xa w0.1 hN
 have e1:Hf Tryz.prog 3 (.int .i64) x1=.int .i64 x1:=by kernel_rfl
 rw[e1]at r1;have e2:Hf Tryz.prog 22 (.ints .u64) x2=.roi .u64 x2:=by kernel_rfl
 rw[e2]at r2;have sm2:∀ N,x2.length<N->ji N x2.length:=λN hN=>xa w2.1 hN
 have e3:Hf Tryz.prog 22 (.ints .u64) x3=.roi .u64 x3:=by kernel_rfl
 rw[e3]at r3;have sm3:∀ N,x3.length<N->ji N x3.length:=λN hN=>xa w3.1 hN
 have e4:Hf Tryz.prog 22 (.ints .u64) x4=.roi .u64 x4:=by kernel_rfl
 rw[e4]at r4;have sm4:∀ N,x4.length<N->ji N x4.length:=λN hN=>xa w4.1 hN
 obtain⟨N,hF,hNl⟩:=Qk (x0.length+x2.length+x3.length+x4.length);have hC:=tQ3 N x0 x1 x2 x3 x4 (AY hF x0 x1 x2 x3 x4 (sm0 _ (by omega)) (sm2 _ (by omega)) (sm3 _ (by omega)) (sm4 _ (by omega)) (Wc w2.2));have hA:Pw.args [.ints x0,.int x1,.ints x2,.ints x3,.ints x4]=[.roi .u64 x0,.int .i64 x1,.roi .u64 x2,.roi .u64 x3,.roi .u64 x4]:=by kernel_rfl
 rw[hA]at hC;refine(Dx (vs:=[v0,v1,v2,v3,v4]) hC (RD hL) λok hok=>oe (r0 ok hok _) (oe (r1 ok hok _) (oe (r2 ok hok _) (oe (r3 ok hok _) (oe (r4 ok hok _) Lp))))).mono λe W' ⟨he,bel⟩=>?_
 subst he;exact⟨_,rfl,_,_,_,[],_,[],hW',trodAll_mk1 (shut_bool Tryz.underlying4 _),(trodAll_cons_mk (Below.trod pH (by kernel_rfl) (of_decide_eq_true (by kernel_rfl)) h0 bel lt0) (trodAll_cons_mk (Below.trod pH (by kernel_rfl) (of_decide_eq_true (by kernel_rfl)) h1 bel lt1) (trodAll_cons_mk (Below.trod pH (by kernel_rfl) (of_decide_eq_true (by kernel_rfl)) h2 bel lt2) (trodAll_cons_mk (Below.trod pH (by kernel_rfl) (of_decide_eq_true (by kernel_rfl)) h3 bel lt3) (trodAll_cons_mk (Below.trod pH (by kernel_rfl) (of_decide_eq_true (by kernel_rfl)) h4 bel lt4) trodAll_mk0))))),rfl,bel.frame _,λh=>by cases h⟩
theorem Xw:(Rows.infoStatesRow.inPlace==Tryz.pinned.checked.prog.inPlace 6)=true:=by kernel_rfl
theorem Xy:(Rows.infoStatesRow.unfollowed==Tryz.pinned.checked.prog.unfollowed 6)=true:=by kernel_rfl
theorem Xx:(Rows.infoStatesRow.recurses==Tryz.pinned.checked.prog.recurses 6)=true:=by kernel_rfl
theorem Xz:(Rows.infoStatesRow.named==Tryz.pinned.checked.prog.varsNamed 6)=true:=by kernel_rfl
theorem WS:joinedFacts Tryz.pinned.checked.prog 6 Tryz.f6 Rows.infoStatesSpec Rows.infoStatesRow=true:=by unfold joinedFacts;rw[Xw,Xy,Xx,Xz];kernel_rfl
theorem Bo:Rows.infoStatesRow.holds Tryz.pinned (OpenSpec.ofChange Rows.infoStatesSpec):=
 OpenClaim.holds_of_wide 6 Tryz.f6 rfl rfl rfl rfl rfl rfl rfl ⟨rfl,rfl,rfl,rfl,rfl⟩ rfl rfl rfl rfl rfl (by kernel_rfl) Tryz.func6 WS
  (of_decide_eq_true (by kernel_rfl)) (by unfold Func.isWrapper; first | (rw[if_pos (by decide +kernel)]; kernel_rfl) | (rw[if_neg (by decide +kernel)]; exact⟨rfl,rfl⟩))
  (λos started H enc _=>xN os started H enc)
theorem zB:∀(j:Nat) t,Tryz.f6.params[j]? = some t->Tryz.prog.wantsStandIn t=false:=by
 intro j t ht;rw[Tryz.params6]at ht;have s3:Tryz.prog.wantsStandIn 3=false:=by kernel_rfl
 have s22:Tryz.prog.wantsStandIn 22=false:=by kernel_rfl
 cases j with
 | zero=>simp at ht; subst ht; exact s22
 | succ j=>
  cases j with
  | zero=>simp at ht; subst ht; exact s3
  | succ j=>
   cases j with
   | zero=>simp at ht; subst ht; exact s22
   | succ j=>
    cases j with
    | zero=>simp at ht; subst ht; exact s22
    | succ j=>
     cases j with
     | zero=>simp at ht; subst ht; exact s22
     | succ j=>
      simp at ht
theorem infoStatesProved:Rows.InfoStatesCardSaid:=
 Claim7.holds_tied_plain_at .later [] [.data,.data] true (true, "6a0a3b3b1d628bdfb13218d14dc264b9d98e4dde3b62b93d0f9796b9ab836762") true
  Bo (λ_ h=>by cases h) (by kernel_rfl) (λ_ h=>by cases h) infoStates_row_tie rfl ⟨rfl,rfl⟩ (by kernel_rfl) rfl
  (λf fn hf hfn=>by
   obtain rfl:f=6:=Option.some.inj ((show Tryz.prog.funcNamed "binnacle/binnaclelaw17.InfoStates" = some 6 by kernel_rfl).symm.trans hf) |>.symm
   obtain rfl:fn=Tryz.f6:=(Option.some.inj (Tryz.func6.symm.trans hfn)).symm;exact⟨by kernel_rfl,zB⟩)
  (by kernel_rfl)
#print axioms infoStatesProved
end Go.Proofs.YtdinakfmablagaaGreatDoor
end
