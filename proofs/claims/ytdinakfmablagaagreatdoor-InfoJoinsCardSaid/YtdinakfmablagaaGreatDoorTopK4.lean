/-
  THE FRAME of the Kalman laws: the two tables that the program reads; the fuel.
  Conditions: none.
-/
import Derived.Test.YtdinakfmablagaaGreatDoorRows
import Derived.Test.YtdinakfmablagaaGreatDoorCards
import Derived.Test.YtdinakfmablagaaGreatDoorTie
import Derived.Test.YtdinakfmablagaaGreatDoorMachT
import Derived.Test.YtdinakfmablagaaGreatDoorMachZr
import Derived.Test.YtdinakfmablagaaGreatDoorC13
import Derived.Laws.IdiomArrays
import Derived.Lib.LaidTab
import Derived.LaidHandle
import Derived.SevenTiedAt
import Derived.Stop.Joined
import Derived.Stop.LaidErr
import Derived.Test.YtdinakfmablagaaGreatDoorGx
import Derived.Test.YtdinakfmablagaaGreatDoorJ1
set_option linter.unusedVariables false
section
namespace Go.Proofs.YtdinakfmablagaaGreatDoor
open Go Go.Mach Go.Proofs
open Go.ChangeShapes Go.WideShapes Go.ChangeAt Go.RowKit
set_option maxRecDepth 100000
theorem Sv:ownKnob Tryz.prog.godebug=none:=by kernel_rfl
theorem lF:laidOutB Tryz.prog=true:=by kernel_rfl
theorem qR {N n:Nat} (h:n*8<=reachBytes) (hN:n<N):ek N n:=by refine⟨hN,?_⟩;unfold reachBytes at h;omega
theorem BZ {zs:List Int} (h:∀ z ∈ zs,(Lit.int .u64 z).wf=true):∀ n ∈ zs,n.toNat<18446744073709551616:=λn hn=>by have:=bounds_u64 (h n hn);omega
theorem MM (a:Nat):∃ N,Fuel N/\a+1000<N:=by
 obtain⟨E,hE⟩:∃ E,E=4398046511104+a+1000:=⟨_,rfl⟩
 have h:=Nat.lt_two_pow_self (n:=E);exact⟨2 ^ E,⟨E,by omega,Nat.le_refl _⟩,by omega⟩
theorem zb:Tryz.prog.globalNamed "math/bits.deBruijn32tab" = some 1:=by kernel_rfl
theorem zc:Tryz.prog.globalNamed "math/bits.deBruijn64tab" = some 2:=by kernel_rfl
theorem HB:(Rows.laid_math_bits_deBruijn32tab:DataW Unit)=Lib.tabData .u8 wz:=by kernel_rfl
theorem HC:(Rows.laid_math_bits_deBruijn64tab:DataW Unit)=Lib.tabData .u8 wA:=by kernel_rfl
abbrev oA:List (String × DataW Unit):=[("math/bits.deBruijn32tab",Rows.laid_math_bits_deBruijn32tab),("math/bits.deBruijn64tab",Rows.laid_math_bits_deBruijn64tab)]
theorem NV {W:World} (h:laidMetH Tryz.prog oA W):∀ b zs,wT b=some zs->TabAt W b zs:=by
 have h':laidMet Tryz.prog oA W:=h;unfold oA at h';rw[HB,HC]at h';have t32:=Lib.tabIs_of_head (e:=5) (t:=315) (n:=32) zb (by kernel_rfl) (by kernel_rfl) (by kernel_rfl) (by kernel_rfl) (by kernel_rfl) h';have t64:=Lib.tabIs_of_head (e:=5) (t:=317) (n:=64) zc (by kernel_rfl) (by kernel_rfl) (by kernel_rfl) (by kernel_rfl) (by kernel_rfl) (laidMet.tail h');have c32:=λi hi=>t32.cell zb i hi
 have c64:=λi hi=>t64.cell zc i hi
 have s32:1<W.heap.size:=by
  have h0:=c32 0 (by decide);unfold World.cell? at h0;rcases Nat.lt_or_ge 1 W.heap.size with h | h
  ·exact h
  ·rw[Array.getElem?_eq_none h]at h0; cases h0
 have s64:2<W.heap.size:=by
  have h0:=c64 0 (by decide);unfold World.cell? at h0;rcases Nat.lt_or_ge 2 W.heap.size with h | h
  ·exact h
  ·rw[Array.getElem?_eq_none h]at h0; cases h0
 intro b zs e;unfold wT at e;split at e
 ·cases e;exact⟨s32,c32⟩
 ·cases e;exact⟨s64,c64⟩
 ·cases e
noncomputable def Ah (os:Os):World:=
 let w0:=World.holding Tryz.prog os ⟨#[],#[],[]⟩
 { w0 with heap:=(w0.heap.modify 1 fun
   | .cells _ t frozen=>.cells (wz.map λz=>Value.int .u8 z).toArray t frozen
   | o=>o).modify 2 fun
   | .cells _ t frozen=>.cells (wA.map λz=>Value.int .u8 z).toArray t frozen
   | o=>o }
theorem zu (os:Os) (args:Array Value):laidMetH Tryz.prog oA ((Ah os).forCall (λ_ _=>0) ⟨#[],args,[]⟩).memory:=
 laidMetH_of_parts (laidMet_of_run' 8 (by kernel_rfl) (by kernel_rfl)) (by kernel_rfl)
open Go.ChangeShapes Go.WideShapes Go.ChangeAt Go.RowKit
set_option maxRecDepth 100000 in
theorem wM (os:Os) (started:os.Started) (H:Type) (enc:TypeId × Value->H) :
  ReturnsInHanded {} Tryz.checked os 4 .any (λw args=>(Rows.infoJoinsSpec.pre enc Tryz.prog Tryz.f4 [] false w args/\laidMetH Tryz.prog oA w)/\sizedMet enc Tryz.prog Tryz.f4 (OpenSpec.ofChange Rows.infoJoinsSpec) false w args)
   (Rows.infoJoinsSpec.post enc Tryz.prog Tryz.f4 false true false false):=by
 refine returnsInHanded_of_change_and (C:=Tryz.checked) (X:=λw _=>laidMetH Tryz.prog oA w) (λ_ _ _ hh h=>h.of_heap hh) Sv started (by kernel_rfl) Tryz.func4
  (ChangeSpec.witness_at (enc:=enc) (C:=Tryz.checked) (os:=os) (X:=λw _=>laidMetH Tryz.prog oA w) false (Ah os) #[.slice none 0 0,.int .i64 0,.slice none 0 0,.slice none 0 0,.slice none 0 0,.agg #[.slice none 0 0,.int .u64 0,.int .u64 0]] 8 rfl (by kernel_rfl) (by kernel_rfl) (by kernel_rfl) (by kernel_rfl) (by kernel_rfl) (zu os _)) ?_
 intro W base args ds gs before hval0 hW hcnd hsz hL _;have hval:∀(j:Nat) t v,Tryz.f4.params[j]? = some t->args[j]? = some v->Value.okWide Tryz.prog W .any base t v:=hval0;have hW':=hW;obtain⟨p,q,hA0,hV,rfl,hfz,hnd⟩:=hW;have hA:DataW.TrodAll enc Tryz.prog W 0 (λ_=>true) true Tryz.f4.params.toList args.toList ds p:=hA0;rw[Tryz.params4]at hA hval;have hsz2:(DataW.weightsEach Tryz.prog (Tryz.f4.params.toList++Rows.infoJoinsSpec.plain.varTypes Tryz.prog) (ds++gs)).all (· <= reachBytes)=true:=hsz;rw[Tryz.params4]at hsz2;obtain⟨v0,vs0,d0,ds0,p0,q0,hargs,rfl,rfl,h0,r0⟩:=trodAll_cons hA;obtain⟨v1,vs1,d1,ds1,p1,q1,rfl,rfl,rfl,h1,r1⟩:=trodAll_cons r0;obtain⟨v2,vs2,d2,ds2,p2,q2,rfl,rfl,rfl,h2,r2⟩:=trodAll_cons r1;obtain⟨v3,vs3,d3,ds3,p3,q3,rfl,rfl,rfl,h3,r3⟩:=trodAll_cons r2;obtain⟨v4,vs4,d4,ds4,p4,q4,rfl,rfl,rfl,h4,r4⟩:=trodAll_cons r3;obtain⟨v5,vs5,d5,ds5,p5,q5,rfl,rfl,rfl,h5,r5⟩:=trodAll_cons r4;obtain⟨rfl,rfl,rfl⟩:=trodAll_nil r5;obtain rfl:args = #[v0,v1,v2,v3,v4,v5]:=by cases args; simp_all
 obtain⟨rfl,rfl⟩:=trodVars_none hV;have lt0:∀ x ∈ p0,x.block<W.heap.size:=by obtain⟨m,hm⟩:=h0; exact DataW.trod_lt m _ _ _ hm
 have lt1:∀ x ∈ p1,x.block<W.heap.size:=by obtain⟨m,hm⟩:=h1; exact DataW.trod_lt m _ _ _ hm
 have lt2:∀ x ∈ p2,x.block<W.heap.size:=by obtain⟨m,hm⟩:=h2; exact DataW.trod_lt m _ _ _ hm
 have lt3:∀ x ∈ p3,x.block<W.heap.size:=by obtain⟨m,hm⟩:=h3; exact DataW.trod_lt m _ _ _ hm
 have lt4:∀ x ∈ p4,x.block<W.heap.size:=by obtain⟨m,hm⟩:=h4; exact DataW.trod_lt m _ _ _ hm
 have lt5:∀ x ∈ p5,x.block<W.heap.size:=by obtain⟨m,hm⟩:=h5; exact DataW.trod_lt m _ _ _ hm
 clear hA0 hval0;obtain⟨x0,⟨w0,-⟩,r0⟩:=nM (d:=6) (rt:=.ints .u64) (by kernel_rfl) (by kernel_rfl) (hval 0 22 v0 rfl rfl) h0 (lN hsz2 (j:=0) rfl rfl);obtain⟨x1,⟨w1,-⟩,r1⟩:=nM (d:=6) (rt:=.int .i64) (by kernel_rfl) (by kernel_rfl) (hval 1 3 v1 rfl rfl) h1 (lN hsz2 (j:=1) rfl rfl);obtain⟨x2,⟨w2,-⟩,r2⟩:=nM (d:=6) (rt:=.ints .u64) (by kernel_rfl) (by kernel_rfl) (hval 2 22 v2 rfl rfl) h2 (lN hsz2 (j:=2) rfl rfl);obtain⟨x3,⟨w3,-⟩,r3⟩:=nM (d:=6) (rt:=.ints .u64) (by kernel_rfl) (by kernel_rfl) (hval 3 22 v3 rfl rfl) h3 (lN hsz2 (j:=3) rfl rfl);obtain⟨x4,⟨w4,-⟩,r4⟩:=nM (d:=6) (rt:=.ints .u64) (by kernel_rfl) (by kernel_rfl) (hval 4 22 v4 rfl rfl) h4 (lN hsz2 (j:=4) rfl rfl);obtain⟨⟨x5,x5r,x5z⟩,⟨w5,-⟩,r5⟩:=nM (d:=6) (rt:=.pair (.ints .u64) (.pair (.int .u64) (.int .u64))) (by kernel_rfl) (by kernel_rfl) (hval 5 25 v5 rfl rfl) h5 (lN hsz2 (j:=5) rfl rfl);have e0:Cc Tryz.prog 22 (.ints .u64) x0=.roi .u64 x0:=by kernel_rfl
 rw[e0]at r0;have sm0:∀ N,x0.length<N->ek N x0.length:=λN hN=>qR w0.1 hN
 have e1:Cc Tryz.prog 3 (.int .i64) x1=.int .i64 x1:=by kernel_rfl
 rw[e1]at r1;have e2:Cc Tryz.prog 22 (.ints .u64) x2=.roi .u64 x2:=by kernel_rfl
 rw[e2]at r2;have sm2:∀ N,x2.length<N->ek N x2.length:=λN hN=>qR w2.1 hN
 have e3:Cc Tryz.prog 22 (.ints .u64) x3=.roi .u64 x3:=by kernel_rfl
 rw[e3]at r3;have sm3:∀ N,x3.length<N->ek N x3.length:=λN hN=>qR w3.1 hN
 have e4:Cc Tryz.prog 22 (.ints .u64) x4=.roi .u64 x4:=by kernel_rfl
 rw[e4]at r4;have sm4:∀ N,x4.length<N->ek N x4.length:=λN hN=>qR w4.1 hN
 have e5:Cc Tryz.prog 25 (.pair (.ints .u64) (.pair (.int .u64) (.int .u64))) (x5,x5r,x5z)=.agg [.roi .u64 x5,.int .u64 x5r,.int .u64 x5z]:=by kernel_rfl
 rw[e5]at r5;have sm5:∀ N,x5.length<N->ek N x5.length:=λN hN=>qR w5.1.1 hN
 obtain⟨N,hF,hNl⟩:=MM (x0.length+x2.length+x3.length+x4.length+x5.length);have hC:=tQ7 N x0 x1 x2 x3 x4 x5 x5r x5z (zw hF x0 x1 x2 x3 x4 x5 x5r x5z (sm0 _ (by omega)) (sm2 _ (by omega)) (sm3 _ (by omega)) (sm4 _ (by omega)) (sm5 _ (by omega)) (BZ w0.2) (BZ w2.2) (BZ w3.2) (BZ w4.2));have hA:LJ.args [.ints x0,.int x1,.ints x2,.ints x3,.ints x4,.ints x5,.int x5r,.int x5z]=[.roi .u64 x0,.int .i64 x1,.roi .u64 x2,.roi .u64 x3,.roi .u64 x4,.agg [.roi .u64 x5,.int .u64 x5r,.int .u64 x5z]]:=by kernel_rfl
 rw[hA]at hC;refine(AZ (vs:=[v0,v1,v2,v3,v4,v5]) hC (NV hL) λok hok=>j7 (r0 ok hok _) (j7 (r1 ok hok _) (j7 (r2 ok hok _) (j7 (r3 ok hok _) (j7 (r4 ok hok _) (j7 (r5 ok hok _) H_)))))).mono λe W' ⟨he,bel⟩=>?_
 subst he;exact⟨_,rfl,_,_,_,[],_,[],hW',trodAll_mk1 (shut_bool Tryz.underlying4 _),(trodAll_cons_mk (Below.trod lF (by kernel_rfl) (of_decide_eq_true (by kernel_rfl)) h0 bel lt0) (trodAll_cons_mk (Below.trod lF (by kernel_rfl) (of_decide_eq_true (by kernel_rfl)) h1 bel lt1) (trodAll_cons_mk (Below.trod lF (by kernel_rfl) (of_decide_eq_true (by kernel_rfl)) h2 bel lt2) (trodAll_cons_mk (Below.trod lF (by kernel_rfl) (of_decide_eq_true (by kernel_rfl)) h3 bel lt3) (trodAll_cons_mk (Below.trod lF (by kernel_rfl) (of_decide_eq_true (by kernel_rfl)) h4 bel lt4) (trodAll_cons_mk (Below.trod lF (by kernel_rfl) (of_decide_eq_true (by kernel_rfl)) h5 bel lt5) trodAll_mk0)))))),rfl,bel.frame _,λh=>by cases h⟩
theorem S3:(Rows.infoJoinsRow.inPlace==Tryz.pinned.checked.prog.inPlace 4)=true:=by kernel_rfl
theorem S5:(Rows.infoJoinsRow.unfollowed==Tryz.pinned.checked.prog.unfollowed 4)=true:=by kernel_rfl
theorem S4:(Rows.infoJoinsRow.recurses==Tryz.pinned.checked.prog.recurses 4)=true:=by kernel_rfl
theorem S6:(Rows.infoJoinsRow.named==Tryz.pinned.checked.prog.varsNamed 4)=true:=by kernel_rfl
theorem Sj:joinedFacts Tryz.pinned.checked.prog 4 Tryz.f4 Rows.infoJoinsSpec Rows.infoJoinsRow=true:=by unfold joinedFacts;rw[S3,S5,S4,S6];kernel_rfl
theorem zC:Rows.infoJoinsRow.holds Tryz.pinned (OpenSpec.ofChange Rows.infoJoinsSpec):=
 OpenClaim.holds_of_wide 4 Tryz.f4 rfl rfl rfl rfl rfl rfl rfl ⟨rfl,rfl,rfl,rfl,rfl⟩ rfl rfl rfl rfl rfl (by kernel_rfl) Tryz.func4 Sj
  (of_decide_eq_true (by kernel_rfl)) (by unfold Func.isWrapper; first | (rw[if_pos (by decide +kernel)]; kernel_rfl) | (rw[if_neg (by decide +kernel)]; exact⟨rfl,rfl⟩))
  (λos started H enc _=>wM os started H enc)
theorem zh:∀(j:Nat) t,Tryz.f4.params[j]? = some t->Tryz.prog.wantsStandIn t=false:=by
 intro j t ht;rw[Tryz.params4]at ht;have s3:Tryz.prog.wantsStandIn 3=false:=by kernel_rfl
 have s22:Tryz.prog.wantsStandIn 22=false:=by kernel_rfl
 have s25:Tryz.prog.wantsStandIn 25=false:=by kernel_rfl
 cases j with
 | zero=>simp at ht; subst ht; exact s22
 | succ j=>
  cases j with
  | zero=>simp at ht; subst ht; exact s3
  | succ j=>
   cases j with
   | zero=>simp at ht; subst ht; exact s22
   | succ j=>
    cases j with
    | zero=>simp at ht; subst ht; exact s22
    | succ j=>
     cases j with
     | zero=>simp at ht; subst ht; exact s22
     | succ j=>
      cases j with
      | zero=>simp at ht; subst ht; exact s25
      | succ j=>
       simp at ht
theorem infoJoinsProved:Rows.InfoJoinsCardSaid:=
 Claim7.holds_tied_plain_at .later [] [.data,.data] true (true, "6a0a3b3b1d628bdfb13218d14dc264b9d98e4dde3b62b93d0f9796b9ab836762") true
  zC (λ_ h=>by cases h) (by kernel_rfl) (λ_ h=>by cases h) infoJoins_row_tie rfl ⟨rfl,rfl⟩ (by kernel_rfl) rfl
  (λf fn hf hfn=>by
   obtain rfl:f=4:=Option.some.inj ((show Tryz.prog.funcNamed "binnacle/binnaclelaw17.InfoJoins" = some 4 by kernel_rfl).symm.trans hf) |>.symm
   obtain rfl:fn=Tryz.f4:=(Option.some.inj (Tryz.func4.symm.trans hfn)).symm;exact⟨by kernel_rfl,zh⟩)
  (by kernel_rfl)
#print axioms infoJoinsProved
end Go.Proofs.YtdinakfmablagaaGreatDoor
end
