/-
  THE FRAME of the Kalman laws: the two tables that the program reads; the fuel.
  Conditions: none.
-/
import Derived.Test.YtbiingchhnlcnaaGreatDoorRows
import Derived.Test.YtbiingchhnlcnaaGreatDoorCards
import Derived.Test.YtbiingchhnlcnaaGreatDoorTie
import Derived.Test.YtbiingchhnlcnaaGreatDoorMachT
import Derived.Test.YtbiingchhnlcnaaGreatDoorMachZs
import Derived.Test.YtbiingchhnlcnaaGreatDoorC13
import Derived.Laws.IdiomArrays
import Derived.Lib.LaidTab
import Derived.LaidHandle
import Derived.SevenTiedAt
import Derived.Stop.Joined
import Derived.Stop.LaidErr
import Derived.Test.YtbiingchhnlcnaaGreatDoorGx
import Derived.Test.YtbiingchhnlcnaaGreatDoorS1
set_option linter.unusedVariables false
section
namespace Go.Proofs.YtbiingchhnlcnaaGreatDoor
open Go Go.Mach Go.Proofs
open Go.ChangeShapes Go.WideShapes Go.ChangeAt Go.RowKit
set_option maxRecDepth 100000
theorem UQ:ownKnob Tryz.prog.godebug=none:=by kernel_rfl
theorem oa:laidOutB Tryz.prog=true:=by kernel_rfl
theorem xp {N n:Nat} (h:n*8<=reachBytes) (hN:n<N):eE N n:=by refine⟨hN,?_⟩;unfold reachBytes at h;omega
theorem T8 {zs:List Int} (h:∀ z ∈ zs,(Lit.int .u64 z).wf=true):∀ n ∈ zs,n.toNat<18446744073709551616:=λn hn=>by have:=bounds_u64 (h n hn);omega
theorem O3 (a:Nat):∃ N,Fuel N/\a+1000<N:=by
 obtain⟨E,hE⟩:∃ E,E=4398046511104+a+1000:=⟨_,rfl⟩
 have h:=Nat.lt_two_pow_self (n:=E);exact⟨2 ^ E,⟨E,by omega,Nat.le_refl _⟩,by omega⟩
theorem Bw:Tryz.prog.globalNamed "math/bits.deBruijn32tab" = some 1:=by kernel_rfl
theorem Bx:Tryz.prog.globalNamed "math/bits.deBruijn64tab" = some 2:=by kernel_rfl
theorem J7:(Rows.laid_math_bits_deBruijn32tab:DataW Unit)=Lib.tabData .u8 za:=by kernel_rfl
theorem J8:(Rows.laid_math_bits_deBruijn64tab:DataW Unit)=Lib.tabData .u8 zb:=by kernel_rfl
abbrev q8:List (String × DataW Unit):=[("math/bits.deBruijn32tab",Rows.laid_math_bits_deBruijn32tab),("math/bits.deBruijn64tab",Rows.laid_math_bits_deBruijn64tab)]
theorem P3 {W:World} (h:laidMetH Tryz.prog q8 W):∀ b zs,zz b=some zs->TabAt W b zs:=by
 have h':laidMet Tryz.prog q8 W:=h;unfold q8 at h';rw[J7,J8]at h';have t32:=Lib.tabIs_of_head (e:=5) (t:=261) (n:=32) Bw (by kernel_rfl) (by kernel_rfl) (by kernel_rfl) (by kernel_rfl) (by kernel_rfl) h';have t64:=Lib.tabIs_of_head (e:=5) (t:=265) (n:=64) Bx (by kernel_rfl) (by kernel_rfl) (by kernel_rfl) (by kernel_rfl) (by kernel_rfl) (laidMet.tail h');have c32:=λi hi=>t32.cell Bw i hi
 have c64:=λi hi=>t64.cell Bx i hi
 have s32:1<W.heap.size:=by
  have h0:=c32 0 (by decide);unfold World.cell? at h0;rcases Nat.lt_or_ge 1 W.heap.size with h | h
  ·exact h
  ·rw[Array.getElem?_eq_none h]at h0; cases h0
 have s64:2<W.heap.size:=by
  have h0:=c64 0 (by decide);unfold World.cell? at h0;rcases Nat.lt_or_ge 2 W.heap.size with h | h
  ·exact h
  ·rw[Array.getElem?_eq_none h]at h0; cases h0
 intro b zs e;unfold zz at e;split at e
 ·cases e;exact⟨s32,c32⟩
 ·cases e;exact⟨s64,c64⟩
 ·cases e
noncomputable def Cu (os:Os):World:=
 let w0:=World.holding Tryz.prog os ⟨#[],#[],[]⟩
 { w0 with heap:=(w0.heap.modify 1 fun
   | .cells _ t frozen=>.cells (za.map λz=>Value.int .u8 z).toArray t frozen
   | o=>o).modify 2 fun
   | .cells _ t frozen=>.cells (zb.map λz=>Value.int .u8 z).toArray t frozen
   | o=>o }
theorem BO (os:Os) (args:Array Value):laidMetH Tryz.prog q8 ((Cu os).forCall (λ_ _=>0) ⟨#[],args,[]⟩).memory:=
 laidMetH_of_parts (laidMet_of_run' 8 (by kernel_rfl) (by kernel_rfl)) (by kernel_rfl)
open Go.ChangeShapes Go.WideShapes Go.ChangeAt Go.RowKit
theorem KS {N n:Nat} (h:n*8<=reachBytes) (hN:17592186044416<N):eE N n:=by unfold reachBytes at h;exact⟨by omega,by omega⟩
set_option maxRecDepth 100000 in
theorem tw (os:Os) (started:os.Started) (H:Type) (enc:TypeId × Value->H) :
  ReturnsInHanded {} Tryz.checked os 4 .any (λw args=>(Rows.kalmanPositiveSpec.pre enc Tryz.prog Tryz.f4 [] false w args/\laidMetH Tryz.prog q8 w)/\sizedMet enc Tryz.prog Tryz.f4 (OpenSpec.ofChange Rows.kalmanPositiveSpec) false w args)
   (Rows.kalmanPositiveSpec.post enc Tryz.prog Tryz.f4 false true false false):=by
 refine returnsInHanded_of_change_and (C:=Tryz.checked) (X:=λw _=>laidMetH Tryz.prog q8 w) (λ_ _ _ hh h=>h.of_heap hh) UQ started (by kernel_rfl) Tryz.func4
  (ChangeSpec.witness_at (enc:=enc) (C:=Tryz.checked) (os:=os) (X:=λw _=>laidMetH Tryz.prog q8 w) false (Cu os) #[.slice none 0 0,.int .i64 0,.slice none 0 0,.slice none 0 0,.agg #[.slice none 0 0],.int .i64 0] 8 rfl (by kernel_rfl) (by kernel_rfl) (by kernel_rfl) (by kernel_rfl) (by kernel_rfl) (BO os _)) ?_
 intro W base args ds gs before hval0 hW hcnd hsz hL _;have hval:∀(j:Nat) t v,Tryz.f4.params[j]? = some t->args[j]? = some v->Value.okWide Tryz.prog W .any base t v:=hval0;have hW':=hW;obtain⟨p,q,hA0,hV,rfl,hfz,hnd⟩:=hW;have hA:DataW.TrodAll enc Tryz.prog W 0 (λ_=>true) true Tryz.f4.params.toList args.toList ds p:=hA0;rw[Tryz.params4]at hA hval;have hsz2:(DataW.weightsEach Tryz.prog (Tryz.f4.params.toList++Rows.kalmanPositiveSpec.plain.varTypes Tryz.prog) (ds++gs)).all (· <= reachBytes)=true:=hsz;rw[Tryz.params4]at hsz2;obtain⟨v0,vs0,d0,ds0,p0,q0,hargs,rfl,rfl,h0,r0⟩:=trodAll_cons hA;obtain⟨v1,vs1,d1,ds1,p1,q1,rfl,rfl,rfl,h1,r1⟩:=trodAll_cons r0;obtain⟨v2,vs2,d2,ds2,p2,q2,rfl,rfl,rfl,h2,r2⟩:=trodAll_cons r1;obtain⟨v3,vs3,d3,ds3,p3,q3,rfl,rfl,rfl,h3,r3⟩:=trodAll_cons r2;obtain⟨v4,vs4,d4,ds4,p4,q4,rfl,rfl,rfl,h4,r4⟩:=trodAll_cons r3;obtain⟨v5,vs5,d5,ds5,p5,q5,rfl,rfl,rfl,h5,r5⟩:=trodAll_cons r4;obtain⟨rfl,rfl,rfl⟩:=trodAll_nil r5;obtain rfl:args = #[v0,v1,v2,v3,v4,v5]:=by cases args; simp_all
 obtain⟨rfl,rfl⟩:=trodVars_none hV;have lt0:∀ x ∈ p0,x.block<W.heap.size:=by obtain⟨m,hm⟩:=h0; exact DataW.trod_lt m _ _ _ hm
 have lt1:∀ x ∈ p1,x.block<W.heap.size:=by obtain⟨m,hm⟩:=h1; exact DataW.trod_lt m _ _ _ hm
 have lt2:∀ x ∈ p2,x.block<W.heap.size:=by obtain⟨m,hm⟩:=h2; exact DataW.trod_lt m _ _ _ hm
 have lt3:∀ x ∈ p3,x.block<W.heap.size:=by obtain⟨m,hm⟩:=h3; exact DataW.trod_lt m _ _ _ hm
 have lt4:∀ x ∈ p4,x.block<W.heap.size:=by obtain⟨m,hm⟩:=h4; exact DataW.trod_lt m _ _ _ hm
 have lt5:∀ x ∈ p5,x.block<W.heap.size:=by obtain⟨m,hm⟩:=h5; exact DataW.trod_lt m _ _ _ hm
 clear hA0 hval0;obtain⟨x0,⟨w0,-⟩,r0⟩:=qs (d:=6) (rt:=.ints .u64) (by kernel_rfl) (by kernel_rfl) (hval 0 22 v0 rfl rfl) h0 (oj hsz2 (j:=0) rfl rfl);obtain⟨x1,⟨w1,-⟩,r1⟩:=qs (d:=6) (rt:=.int .i64) (by kernel_rfl) (by kernel_rfl) (hval 1 3 v1 rfl rfl) h1 (oj hsz2 (j:=1) rfl rfl);obtain⟨x2,⟨w2,-⟩,r2⟩:=qs (d:=6) (rt:=.ints .u64) (by kernel_rfl) (by kernel_rfl) (hval 2 22 v2 rfl rfl) h2 (oj hsz2 (j:=2) rfl rfl);obtain⟨x3,⟨w3,-⟩,r3⟩:=qs (d:=6) (rt:=.rows RT4) (by kernel_rfl) (by kernel_rfl) (hval 3 41 v3 rfl rfl) h3 (oj hsz2 (j:=3) rfl rfl);obtain⟨x4,⟨w4,-⟩,r4⟩:=qs (d:=6) (rt:=.rows RT0) (by kernel_rfl) (by kernel_rfl) (hval 4 25 v4 rfl rfl) h4 (oj hsz2 (j:=4) rfl rfl);obtain⟨x5,⟨w5,-⟩,r5⟩:=qs (d:=6) (rt:=.int .i64) (by kernel_rfl) (by kernel_rfl) (hval 5 2 v5 rfl rfl) h5 (oj hsz2 (j:=5) rfl rfl);have e0:EB Tryz.prog 22 (.ints .u64) x0=.roi .u64 x0:=by kernel_rfl
 rw[e0]at r0;have sm0:∀ N,x0.length<N->eE N x0.length:=λN hN=>xp w0.1 hN
 have e1:EB Tryz.prog 3 (.int .i64) x1=.int .i64 x1:=by kernel_rfl
 rw[e1]at r1;have e2:EB Tryz.prog 22 (.ints .u64) x2=.roi .u64 x2:=by kernel_rfl
 rw[e2]at r2;have sm2:∀ N,x2.length<N->eE N x2.length:=λN hN=>xp w2.1 hN
 have e3:EB Tryz.prog 41 (.rows RT4) x3=.rl RT4 x3:=by kernel_rfl
 rw[e3]at r3;have sm3:∀ N,x3.length<N->eE N x3.length:=λN hN=>xp w3.1 hN
 have e4:EB Tryz.prog 25 (.rows RT0) x4=.agg [.rl RT0 x4]:=by kernel_rfl
 rw[e4]at r4;have sm4:∀ N,x4.length<N->eE N x4.length:=λN hN=>xp w4.1 hN
 have e5:EB Tryz.prog 2 (.int .i64) x5=.int .i64 x5:=by kernel_rfl
 rw[e5]at r5;obtain⟨N,hF,hNl⟩:=O3 (x0.length+x2.length+x3.length+x4.length+17592186044416);have hC:=tQ1 N x0 x1 x2 x3 x4 x5 (v8 hF x0 x1 x2 x3 x4 x5 (sm0 _ (by omega)) (sm2 _ (by omega)) (λw hw=>KS (w3.2 w hw).1.1 (by omega)) (sm4 _ (by omega)) (T8 w2.2));have hA:Og.args [.ints x0,.int x1,.ints x2,.recs RT4 x3,.recs RT0 x4,.int x5]=[.roi .u64 x0,.int .i64 x1,.roi .u64 x2,.rl RT4 x3,.agg [.rl RT0 x4],.int .i64 x5]:=by kernel_rfl
 rw[hA]at hC;refine(Dd (vs:=[v0,v1,v2,v3,v4,v5]) hC (P3 hL) λok hok=>mD (r0 ok hok _) (mD (r1 ok hok _) (mD (r2 ok hok _) (mD (r3 ok hok _) (mD (r4 ok hok _) (mD (r5 ok hok _) KB)))))).mono λe W' ⟨he,bel⟩=>?_
 subst he;exact⟨_,rfl,_,_,_,[],_,[],hW',trodAll_mk1 (shut_bool Tryz.underlying4 _),(trodAll_cons_mk (Below.trod oa (by kernel_rfl) (of_decide_eq_true (by kernel_rfl)) h0 bel lt0) (trodAll_cons_mk (Below.trod oa (by kernel_rfl) (of_decide_eq_true (by kernel_rfl)) h1 bel lt1) (trodAll_cons_mk (Below.trod oa (by kernel_rfl) (of_decide_eq_true (by kernel_rfl)) h2 bel lt2) (trodAll_cons_mk (Below.trod oa (by kernel_rfl) (of_decide_eq_true (by kernel_rfl)) h3 bel lt3) (trodAll_cons_mk (Below.trod oa (by kernel_rfl) (of_decide_eq_true (by kernel_rfl)) h4 bel lt4) (trodAll_cons_mk (Below.trod oa (by kernel_rfl) (of_decide_eq_true (by kernel_rfl)) h5 bel lt5) trodAll_mk0)))))),rfl,bel.frame _,λh=>by cases h⟩
theorem wl:Rows.kalmanPositiveRow.holds Tryz.pinned (OpenSpec.ofChange Rows.kalmanPositiveSpec):=
 OpenClaim.holds_of_wide 4 Tryz.f4 rfl rfl rfl rfl rfl rfl rfl ⟨rfl,rfl,rfl,rfl,rfl⟩ rfl rfl rfl rfl rfl (by kernel_rfl) Tryz.func4 (by kernel_rfl)
  (of_decide_eq_true (by kernel_rfl)) (by unfold Func.isWrapper; first | (rw[if_pos (by decide +kernel)]; kernel_rfl) | (rw[if_neg (by decide +kernel)]; exact⟨rfl,rfl⟩))
  (λos started H enc _=>tw os started H enc)
theorem vi:∀(j:Nat) t,Tryz.f4.params[j]? = some t->Tryz.prog.wantsStandIn t=false:=by
 intro j t ht;rw[Tryz.params4]at ht;have s2:Tryz.prog.wantsStandIn 2=false:=by kernel_rfl
 have s3:Tryz.prog.wantsStandIn 3=false:=by kernel_rfl
 have s22:Tryz.prog.wantsStandIn 22=false:=by kernel_rfl
 have s25:Tryz.prog.wantsStandIn 25=false:=by kernel_rfl
 have s41:Tryz.prog.wantsStandIn 41=false:=by kernel_rfl
 cases j with
 | zero=>simp at ht; subst ht; exact s22
 | succ j=>
  cases j with
  | zero=>simp at ht; subst ht; exact s3
  | succ j=>
   cases j with
   | zero=>simp at ht; subst ht; exact s22
   | succ j=>
    cases j with
    | zero=>simp at ht; subst ht; exact s41
    | succ j=>
     cases j with
     | zero=>simp at ht; subst ht; exact s25
     | succ j=>
      cases j with
      | zero=>simp at ht; subst ht; exact s2
      | succ j=>
       simp at ht
theorem kalmanPositiveProved:Rows.KalmanPositiveCardSaid:=
 Claim7.holds_tied_plain_at .later [] [.data,.data] true (true, "b0ce3c42366465228626ddafbe70ac3b2e179b93f895640ca9a19744e8007b1e") true
  wl (λ_ h=>by cases h) (by kernel_rfl) (λ_ h=>by cases h) kalmanPositive_row_tie rfl ⟨rfl,rfl⟩ (by kernel_rfl) rfl
  (λf fn hf hfn=>by
   obtain rfl:f=4:=Option.some.inj ((show Tryz.prog.funcNamed "binnacle/binnaclelaw15.KalmanPositive" = some 4 by kernel_rfl).symm.trans hf) |>.symm
   obtain rfl:fn=Tryz.f4:=(Option.some.inj (Tryz.func4.symm.trans hfn)).symm;exact⟨by kernel_rfl,vi⟩)
  (by kernel_rfl)
#print axioms kalmanPositiveProved
end Go.Proofs.YtbiingchhnlcnaaGreatDoor
end
