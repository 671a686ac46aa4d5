/-
  THE FRAME of the Kalman laws: the two tables that the program reads; the fuel.
  Conditions: none.
-/
import Derived.Test.YtdinakfmablagaaGreatDoorRows
import Derived.Test.YtdinakfmablagaaGreatDoorCards
import Derived.Test.YtdinakfmablagaaGreatDoorTie
import Derived.Test.YtdinakfmablagaaGreatDoorMachT
import Derived.Test.YtdinakfmablagaaGreatDoorMachZr
import Derived.Test.YtdinakfmablagaaGreatDoorC13
import Derived.Laws.IdiomArrays
import Derived.Lib.LaidTab
import Derived.LaidHandle
import Derived.SevenTiedAt
import Derived.Stop.Joined
import Derived.Stop.LaidErr
import Derived.Test.YtdinakfmablagaaGreatDoorGx
import Derived.Test.YtdinakfmablagaaGreatDoorQ1
set_option linter.unusedVariables false
section
namespace Go.Proofs.YtdinakfmablagaaGreatDoor
open Go Go.Mach Go.Proofs
open Go.ChangeShapes Go.WideShapes Go.ChangeAt Go.RowKit
set_option maxRecDepth 100000
theorem Ta:ownKnob Tryz.prog.godebug=none:=by kernel_rfl
theorem ko:laidOutB Tryz.prog=true:=by kernel_rfl
theorem nU {N n:Nat} (h:n*8<=reachBytes) (hN:n<N):bO N n:=by refine⟨hN,?_⟩;unfold reachBytes at h;omega
theorem MF {zs:List Int} (h:∀ z ∈ zs,(Lit.int .u64 z).wf=true):∀ n ∈ zs,n.toNat<18446744073709551616:=λn hn=>by have:=bounds_u64 (h n hn);omega
theorem Nb (a:Nat):∃ N,Fuel N/\a+1000<N:=by
 obtain⟨E,hE⟩:∃ E,E=4398046511104+a+1000:=⟨_,rfl⟩
 have h:=Nat.lt_two_pow_self (n:=E);exact⟨2 ^ E,⟨E,by omega,Nat.le_refl _⟩,by omega⟩
theorem zB:Tryz.prog.globalNamed "math/bits.deBruijn32tab" = some 1:=by kernel_rfl
theorem zC:Tryz.prog.globalNamed "math/bits.deBruijn64tab" = some 2:=by kernel_rfl
theorem H6:(Rows.laid_math_bits_deBruijn32tab:DataW Unit)=Lib.tabData .u8 wR:=by kernel_rfl
theorem H7:(Rows.laid_math_bits_deBruijn64tab:DataW Unit)=Lib.tabData .u8 wS:=by kernel_rfl
abbrev oD:List (String × DataW Unit):=[("math/bits.deBruijn32tab",Rows.laid_math_bits_deBruijn32tab),("math/bits.deBruijn64tab",Rows.laid_math_bits_deBruijn64tab)]
theorem Oz {W:World} (h:laidMetH Tryz.prog oD W):∀ b zs,xi b=some zs->TabAt W b zs:=by
 have h':laidMet Tryz.prog oD W:=h;unfold oD at h';rw[H6,H7]at h';have t32:=Lib.tabIs_of_head (e:=5) (t:=315) (n:=32) zB (by kernel_rfl) (by kernel_rfl) (by kernel_rfl) (by kernel_rfl) (by kernel_rfl) h';have t64:=Lib.tabIs_of_head (e:=5) (t:=317) (n:=64) zC (by kernel_rfl) (by kernel_rfl) (by kernel_rfl) (by kernel_rfl) (by kernel_rfl) (laidMet.tail h');have c32:=λi hi=>t32.cell zB i hi
 have c64:=λi hi=>t64.cell zC i hi
 have s32:1<W.heap.size:=by
  have h0:=c32 0 (by decide);unfold World.cell? at h0;rcases Nat.lt_or_ge 1 W.heap.size with h | h
  ·exact h
  ·rw[Array.getElem?_eq_none h]at h0; cases h0
 have s64:2<W.heap.size:=by
  have h0:=c64 0 (by decide);unfold World.cell? at h0;rcases Nat.lt_or_ge 2 W.heap.size with h | h
  ·exact h
  ·rw[Array.getElem?_eq_none h]at h0; cases h0
 intro b zs e;unfold xi at e;split at e
 ·cases e;exact⟨s32,c32⟩
 ·cases e;exact⟨s64,c64⟩
 ·cases e
noncomputable def Au (os:Os):World:=
 let w0:=World.holding Tryz.prog os ⟨#[],#[],[]⟩
 { w0 with heap:=(w0.heap.modify 1 fun
   | .cells _ t frozen=>.cells (wR.map λz=>Value.int .u8 z).toArray t frozen
   | o=>o).modify 2 fun
   | .cells _ t frozen=>.cells (wS.map λz=>Value.int .u8 z).toArray t frozen
   | o=>o }
theorem zP (os:Os) (args:Array Value):laidMetH Tryz.prog oD ((Au os).forCall (λ_ _=>0) ⟨#[],args,[]⟩).memory:=
 laidMetH_of_parts (laidMet_of_run' 8 (by kernel_rfl) (by kernel_rfl)) (by kernel_rfl)
open Go.ChangeShapes Go.WideShapes Go.ChangeAt Go.RowKit
set_option maxRecDepth 100000 in
theorem uq (os:Os) (started:os.Started) (H:Type) (enc:TypeId × Value->H) :
  ReturnsInHanded {} Tryz.checked os 3 .any (λw args=>(Rows.infoUpdatesSpec.pre enc Tryz.prog Tryz.f3 [] false w args/\laidMetH Tryz.prog oD w)/\sizedMet enc Tryz.prog Tryz.f3 (OpenSpec.ofChange Rows.infoUpdatesSpec) false w args)
   (Rows.infoUpdatesSpec.post enc Tryz.prog Tryz.f3 false true false false):=by
 refine returnsInHanded_of_change_and (C:=Tryz.checked) (X:=λw _=>laidMetH Tryz.prog oD w) (λ_ _ _ hh h=>h.of_heap hh) Ta started (by kernel_rfl) Tryz.func3
  (ChangeSpec.witness_at (enc:=enc) (C:=Tryz.checked) (os:=os) (X:=λw _=>laidMetH Tryz.prog oD w) false (Au os) #[.slice none 0 0,.int .i64 0,.slice none 0 0,.slice none 0 0,.agg #[.slice none 0 0,.int .u64 0,.int .u64 0],.slice none 0 0,.slice none 0 0] 8 rfl (by kernel_rfl) (by kernel_rfl) (by kernel_rfl) (by kernel_rfl) (by kernel_rfl) (zP os _)) ?_
 intro W base args ds gs before hval0 hW hcnd hsz hL _;have hval:∀(j:Nat) t v,Tryz.f3.params[j]? = some t->args[j]? = some v->Value.okWide Tryz.prog W .any base t v:=hval0;have hW':=hW;obtain⟨p,q,hA0,hV,rfl,hfz,hnd⟩:=hW;have hA:DataW.TrodAll enc Tryz.prog W 0 (λ_=>true) true Tryz.f3.params.toList args.toList ds p:=hA0;rw[Tryz.params3]at hA hval;have hsz2:(DataW.weightsEach Tryz.prog (Tryz.f3.params.toList++Rows.infoUpdatesSpec.plain.varTypes Tryz.prog) (ds++gs)).all (· <= reachBytes)=true:=hsz;rw[Tryz.params3]at hsz2;obtain⟨v0,vs0,d0,ds0,p0,q0,hargs,rfl,rfl,h0,r0⟩:=trodAll_cons hA;obtain⟨v1,vs1,d1,ds1,p1,q1,rfl,rfl,rfl,h1,r1⟩:=trodAll_cons r0;obtain⟨v2,vs2,d2,ds2,p2,q2,rfl,rfl,rfl,h2,r2⟩:=trodAll_cons r1;obtain⟨v3,vs3,d3,ds3,p3,q3,rfl,rfl,rfl,h3,r3⟩:=trodAll_cons r2;obtain⟨v4,vs4,d4,ds4,p4,q4,rfl,rfl,rfl,h4,r4⟩:=trodAll_cons r3;obtain⟨v5,vs5,d5,ds5,p5,q5,rfl,rfl,rfl,h5,r5⟩:=trodAll_cons r4;obtain⟨v6,vs6,d6,ds6,p6,q6,rfl,rfl,rfl,h6,r6⟩:=trodAll_cons r5;obtain⟨rfl,rfl,rfl⟩:=trodAll_nil r6;obtain rfl:args = #[v0,v1,v2,v3,v4,v5,v6]:=by cases args; simp_all
 obtain⟨rfl,rfl⟩:=trodVars_none hV;have lt0:∀ x ∈ p0,x.block<W.heap.size:=by obtain⟨m,hm⟩:=h0; exact DataW.trod_lt m _ _ _ hm
 have lt1:∀ x ∈ p1,x.block<W.heap.size:=by obtain⟨m,hm⟩:=h1; exact DataW.trod_lt m _ _ _ hm
 have lt2:∀ x ∈ p2,x.block<W.heap.size:=by obtain⟨m,hm⟩:=h2; exact DataW.trod_lt m _ _ _ hm
 have lt3:∀ x ∈ p3,x.block<W.heap.size:=by obtain⟨m,hm⟩:=h3; exact DataW.trod_lt m _ _ _ hm
 have lt4:∀ x ∈ p4,x.block<W.heap.size:=by obtain⟨m,hm⟩:=h4; exact DataW.trod_lt m _ _ _ hm
 have lt5:∀ x ∈ p5,x.block<W.heap.size:=by obtain⟨m,hm⟩:=h5; exact DataW.trod_lt m _ _ _ hm
 have lt6:∀ x ∈ p6,x.block<W.heap.size:=by obtain⟨m,hm⟩:=h6; exact DataW.trod_lt m _ _ _ hm
 clear hA0 hval0;obtain⟨x0,⟨w0,-⟩,r0⟩:=mz (d:=6) (rt:=.ints .u64) (by kernel_rfl) (by kernel_rfl) (hval 0 22 v0 rfl rfl) h0 (kD hsz2 (j:=0) rfl rfl);obtain⟨x1,⟨w1,-⟩,r1⟩:=mz (d:=6) (rt:=.int .i64) (by kernel_rfl) (by kernel_rfl) (hval 1 3 v1 rfl rfl) h1 (kD hsz2 (j:=1) rfl rfl);obtain⟨x2,⟨w2,-⟩,r2⟩:=mz (d:=6) (rt:=.ints .u64) (by kernel_rfl) (by kernel_rfl) (hval 2 22 v2 rfl rfl) h2 (kD hsz2 (j:=2) rfl rfl);obtain⟨x3,⟨w3,-⟩,r3⟩:=mz (d:=6) (rt:=.ints .u64) (by kernel_rfl) (by kernel_rfl) (hval 3 22 v3 rfl rfl) h3 (kD hsz2 (j:=3) rfl rfl);obtain⟨⟨x4,x4r,x4z⟩,⟨w4,-⟩,r4⟩:=mz (d:=6) (rt:=.pair (.ints .u64) (.pair (.int .u64) (.int .u64))) (by kernel_rfl) (by kernel_rfl) (hval 4 25 v4 rfl rfl) h4 (kD hsz2 (j:=4) rfl rfl);obtain⟨x5,⟨w5,-⟩,r5⟩:=mz (d:=6) (rt:=.ints .u64) (by kernel_rfl) (by kernel_rfl) (hval 5 22 v5 rfl rfl) h5 (kD hsz2 (j:=5) rfl rfl);obtain⟨x6,⟨w6,-⟩,r6⟩:=mz (d:=6) (rt:=.ints .u64) (by kernel_rfl) (by kernel_rfl) (hval 6 22 v6 rfl rfl) h6 (kD hsz2 (j:=6) rfl rfl);have e0:Ba Tryz.prog 22 (.ints .u64) x0=.roi .u64 x0:=by kernel_rfl
 rw[e0]at r0;have sm0:∀ N,x0.length<N->bO N x0.length:=λN hN=>nU w0.1 hN
 have e1:Ba Tryz.prog 3 (.int .i64) x1=.int .i64 x1:=by kernel_rfl
 rw[e1]at r1;have e2:Ba Tryz.prog 22 (.ints .u64) x2=.roi .u64 x2:=by kernel_rfl
 rw[e2]at r2;have sm2:∀ N,x2.length<N->bO N x2.length:=λN hN=>nU w2.1 hN
 have e3:Ba Tryz.prog 22 (.ints .u64) x3=.roi .u64 x3:=by kernel_rfl
 rw[e3]at r3;have sm3:∀ N,x3.length<N->bO N x3.length:=λN hN=>nU w3.1 hN
 have e4:Ba Tryz.prog 25 (.pair (.ints .u64) (.pair (.int .u64) (.int .u64))) (x4,x4r,x4z)=.agg [.roi .u64 x4,.int .u64 x4r,.int .u64 x4z]:=by kernel_rfl
 rw[e4]at r4;have sm4:∀ N,x4.length<N->bO N x4.length:=λN hN=>nU w4.1.1 hN
 have e5:Ba Tryz.prog 22 (.ints .u64) x5=.roi .u64 x5:=by kernel_rfl
 rw[e5]at r5;have sm5:∀ N,x5.length<N->bO N x5.length:=λN hN=>nU w5.1 hN
 have e6:Ba Tryz.prog 22 (.ints .u64) x6=.roi .u64 x6:=by kernel_rfl
 rw[e6]at r6;have sm6:∀ N,x6.length<N->bO N x6.length:=λN hN=>nU w6.1 hN
 obtain⟨N,hF,hNl⟩:=Nb (x0.length+x2.length+x3.length+x4.length+x5.length+x6.length);have hC:=tQ2 N x0 x1 x2 x3 x4 x4r x4z x5 x6 (w8 hF x0 x1 x2 x3 x4 x4r x4z x5 x6 (sm0 _ (by omega)) (sm2 _ (by omega)) (sm3 _ (by omega)) (sm4 _ (by omega)) (sm5 _ (by omega)) (sm6 _ (by omega)) (MF w2.2) (MF w6.2));have hA:Mp.args [.ints x0,.int x1,.ints x2,.ints x3,.ints x4,.int x4r,.int x4z,.ints x5,.ints x6]=[.roi .u64 x0,.int .i64 x1,.roi .u64 x2,.roi .u64 x3,.agg [.roi .u64 x4,.int .u64 x4r,.int .u64 x4z],.roi .u64 x5,.roi .u64 x6]:=by kernel_rfl
 rw[hA]at hC;refine(Bb (vs:=[v0,v1,v2,v3,v4,v5,v6]) hC (Oz hL) λok hok=>je (r0 ok hok _) (je (r1 ok hok _) (je (r2 ok hok _) (je (r3 ok hok _) (je (r4 ok hok _) (je (r5 ok hok _) (je (r6 ok hok _) IB))))))).mono λe W' ⟨he,bel⟩=>?_
 subst he;exact⟨_,rfl,_,_,_,[],_,[],hW',trodAll_mk1 (shut_bool Tryz.underlying4 _),(trodAll_cons_mk (Below.trod ko (by kernel_rfl) (of_decide_eq_true (by kernel_rfl)) h0 bel lt0) (trodAll_cons_mk (Below.trod ko (by kernel_rfl) (of_decide_eq_true (by kernel_rfl)) h1 bel lt1) (trodAll_cons_mk (Below.trod ko (by kernel_rfl) (of_decide_eq_true (by kernel_rfl)) h2 bel lt2) (trodAll_cons_mk (Below.trod ko (by kernel_rfl) (of_decide_eq_true (by kernel_rfl)) h3 bel lt3) (trodAll_cons_mk (Below.trod ko (by kernel_rfl) (of_decide_eq_true (by kernel_rfl)) h4 bel lt4) (trodAll_cons_mk (Below.trod ko (by kernel_rfl) (of_decide_eq_true (by kernel_rfl)) h5 bel lt5) (trodAll_cons_mk (Below.trod ko (by kernel_rfl) (of_decide_eq_true (by kernel_rfl)) h6 bel lt6) trodAll_mk0))))))),rfl,bel.frame _,λh=>by cases h⟩
theorem TI:(Rows.infoUpdatesRow.inPlace==Tryz.pinned.checked.prog.inPlace 3)=true:=by kernel_rfl
theorem TK:(Rows.infoUpdatesRow.unfollowed==Tryz.pinned.checked.prog.unfollowed 3)=true:=by kernel_rfl
theorem TJ:(Rows.infoUpdatesRow.recurses==Tryz.pinned.checked.prog.recurses 3)=true:=by kernel_rfl
theorem TL:(Rows.infoUpdatesRow.named==Tryz.pinned.checked.prog.varsNamed 3)=true:=by kernel_rfl
theorem S1:joinedFacts Tryz.pinned.checked.prog 3 Tryz.f3 Rows.infoUpdatesSpec Rows.infoUpdatesRow=true:=by unfold joinedFacts;rw[TI,TK,TJ,TL];kernel_rfl
theorem xd:Rows.infoUpdatesRow.holds Tryz.pinned (OpenSpec.ofChange Rows.infoUpdatesSpec):=
 OpenClaim.holds_of_wide 3 Tryz.f3 rfl rfl rfl rfl rfl rfl rfl ⟨rfl,rfl,rfl,rfl,rfl⟩ rfl rfl rfl rfl rfl (by kernel_rfl) Tryz.func3 S1
  (of_decide_eq_true (by kernel_rfl)) (by unfold Func.isWrapper; first | (rw[if_pos (by decide +kernel)]; kernel_rfl) | (rw[if_neg (by decide +kernel)]; exact⟨rfl,rfl⟩))
  (λos started H enc _=>uq os started H enc)
theorem vL:∀(j:Nat) t,Tryz.f3.params[j]? = some t->Tryz.prog.wantsStandIn t=false:=by
 intro j t ht;rw[Tryz.params3]at ht;have s3:Tryz.prog.wantsStandIn 3=false:=by kernel_rfl
 have s22:Tryz.prog.wantsStandIn 22=false:=by kernel_rfl
 have s25:Tryz.prog.wantsStandIn 25=false:=by kernel_rfl
 cases j with
 | zero=>simp at ht; subst ht; exact s22
 | succ j=>
  cases j with
  | zero=>simp at ht; subst ht; exact s3
  | succ j=>
   cases j with
   | zero=>simp at ht; subst ht; exact s22
   | succ j=>
    cases j with
    | zero=>simp at ht; subst ht; exact s22
    | succ j=>
     cases j with
     | zero=>simp at ht; subst ht; exact s25
     | succ j=>
      cases j with
      | zero=>simp at ht; subst ht; exact s22
      | succ j=>
       cases j with
       | zero=>simp at ht; subst ht; exact s22
       | succ j=>
        simp at ht
theorem infoUpdatesProved:Rows.InfoUpdatesCardSaid:=
 Claim7.holds_tied_plain_at .later [] [.data,.data] true (true, "6a0a3b3b1d628bdfb13218d14dc264b9d98e4dde3b62b93d0f9796b9ab836762") true
  xd (λ_ h=>by cases h) (by kernel_rfl) (λ_ h=>by cases h) infoUpdates_row_tie rfl ⟨rfl,rfl⟩ (by kernel_rfl) rfl
  (λf fn hf hfn=>by
   obtain rfl:f=3:=Option.some.inj ((show Tryz.prog.funcNamed "binnacle/binnaclelaw17.InfoUpdates" = some 3 by kernel_rfl).symm.trans hf) |>.symm
   obtain rfl:fn=Tryz.f3:=(Option.some.inj (Tryz.func3.symm.trans hfn)).symm;exact⟨by kernel_rfl,vL⟩)
  (by kernel_rfl)
#print axioms infoUpdatesProved
end Go.Proofs.YtdinakfmablagaaGreatDoor
end
