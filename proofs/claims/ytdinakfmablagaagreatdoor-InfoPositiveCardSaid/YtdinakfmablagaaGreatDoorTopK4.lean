/-
  THE FRAME of the Kalman laws: the two tables that the program reads; the fuel.
  Conditions: none.
-/
import Derived.Test.YtdinakfmablagaaGreatDoorRows
import Derived.Test.YtdinakfmablagaaGreatDoorCards
import Derived.Test.YtdinakfmablagaaGreatDoorTie
import Derived.Test.YtdinakfmablagaaGreatDoorMachT
import Derived.Test.YtdinakfmablagaaGreatDoorMachZr
import Derived.Test.YtdinakfmablagaaGreatDoorC10
import Derived.Laws.IdiomArrays
import Derived.Lib.LaidTab
import Derived.LaidHandle
import Derived.SevenTiedAt
import Derived.Stop.Joined
import Derived.Stop.LaidErr
import Derived.Test.YtdinakfmablagaaGreatDoorGx
import Derived.Test.YtdinakfmablagaaGreatDoorQ1
set_option linter.unusedVariables false
section
namespace Go.Proofs.YtdinakfmablagaaGreatDoor
open Go Go.Mach Go.Proofs
open Go.ChangeShapes Go.WideShapes Go.ChangeAt Go.RowKit
set_option maxRecDepth 100000
theorem Xx:ownKnob Tryz.prog.godebug=none:=by kernel_rfl
theorem uj:laidOutB Tryz.prog=true:=by kernel_rfl
theorem BB {N n:Nat} (h:n*8<=reachBytes) (hN:n<N):bW N n:=by refine⟨hN,?_⟩;unfold reachBytes at h;omega
theorem WB {zs:List Int} (h:∀ z ∈ zs,(Lit.int .u64 z).wf=true):∀ n ∈ zs,n.toNat<18446744073709551616:=λn hn=>by have:=bounds_u64 (h n hn);omega
theorem QU (a:Nat):∃ N,Fuel N/\a+1000<N:=by
 obtain⟨E,hE⟩:∃ E,E=4398046511104+a+1000:=⟨_,rfl⟩
 have h:=Nat.lt_two_pow_self (n:=E);exact⟨2 ^ E,⟨E,by omega,Nat.le_refl _⟩,by omega⟩
theorem BR:Tryz.prog.globalNamed "math/bits.deBruijn32tab" = some 1:=by kernel_rfl
theorem BS:Tryz.prog.globalNamed "math/bits.deBruijn64tab" = some 2:=by kernel_rfl
theorem K8:(Rows.laid_math_bits_deBruijn32tab:DataW Unit)=Lib.tabData .u8 zo:=by kernel_rfl
theorem K9:(Rows.laid_math_bits_deBruijn64tab:DataW Unit)=Lib.tabData .u8 zp:=by kernel_rfl
abbrev qH:List (String × DataW Unit):=[("math/bits.deBruijn32tab",Rows.laid_math_bits_deBruijn32tab),("math/bits.deBruijn64tab",Rows.laid_math_bits_deBruijn64tab)]
theorem Se {W:World} (h:laidMetH Tryz.prog qH W):∀ b zs,zI b=some zs->TabAt W b zs:=by
 have h':laidMet Tryz.prog qH W:=h;unfold qH at h';rw[K8,K9]at h';have t32:=Lib.tabIs_of_head (e:=5) (t:=315) (n:=32) BR (by kernel_rfl) (by kernel_rfl) (by kernel_rfl) (by kernel_rfl) (by kernel_rfl) h';have t64:=Lib.tabIs_of_head (e:=5) (t:=317) (n:=64) BS (by kernel_rfl) (by kernel_rfl) (by kernel_rfl) (by kernel_rfl) (by kernel_rfl) (laidMet.tail h');have c32:=λi hi=>t32.cell BR i hi
 have c64:=λi hi=>t64.cell BS i hi
 have s32:1<W.heap.size:=by
  have h0:=c32 0 (by decide);unfold World.cell? at h0;rcases Nat.lt_or_ge 1 W.heap.size with h | h
  ·exact h
  ·rw[Array.getElem?_eq_none h]at h0; cases h0
 have s64:2<W.heap.size:=by
  have h0:=c64 0 (by decide);unfold World.cell? at h0;rcases Nat.lt_or_ge 2 W.heap.size with h | h
  ·exact h
  ·rw[Array.getElem?_eq_none h]at h0; cases h0
 intro b zs e;unfold zI at e;split at e
 ·cases e;exact⟨s32,c32⟩
 ·cases e;exact⟨s64,c64⟩
 ·cases e
noncomputable def CL (os:Os):World:=
 let w0:=World.holding Tryz.prog os ⟨#[],#[],[]⟩
 { w0 with heap:=(w0.heap.modify 1 fun
   | .cells _ t frozen=>.cells (zo.map λz=>Value.int .u8 z).toArray t frozen
   | o=>o).modify 2 fun
   | .cells _ t frozen=>.cells (zp.map λz=>Value.int .u8 z).toArray t frozen
   | o=>o }
theorem B9 (os:Os) (args:Array Value):laidMetH Tryz.prog qH ((CL os).forCall (λ_ _=>0) ⟨#[],args,[]⟩).memory:=
 laidMetH_of_parts (laidMet_of_run' 8 (by kernel_rfl) (by kernel_rfl)) (by kernel_rfl)
open Go.ChangeShapes Go.WideShapes Go.ChangeAt Go.RowKit
theorem Mf {N n:Nat} (h:n*8<=reachBytes) (hN:17592186044416<N):bW N n:=by unfold reachBytes at h;exact⟨by omega,by omega⟩
set_option maxRecDepth 100000 in
theorem vP (os:Os) (started:os.Started) (H:Type) (enc:TypeId × Value->H) :
  ReturnsInHanded {} Tryz.checked os 5 .any (λw args=>(Rows.infoPositiveSpec.pre enc Tryz.prog Tryz.f5 [] false w args/\laidMetH Tryz.prog qH w)/\sizedMet enc Tryz.prog Tryz.f5 (OpenSpec.ofChange Rows.infoPositiveSpec) false w args)
   (Rows.infoPositiveSpec.post enc Tryz.prog Tryz.f5 false true false false):=by
 refine returnsInHanded_of_change_and (C:=Tryz.checked) (X:=λw _=>laidMetH Tryz.prog qH w) (λ_ _ _ hh h=>h.of_heap hh) Xx started (by kernel_rfl) Tryz.func5
  (ChangeSpec.witness_at (enc:=enc) (C:=Tryz.checked) (os:=os) (X:=λw _=>laidMetH Tryz.prog qH w) false (CL os) #[.slice none 0 0,.int .i64 0,.slice none 0 0,.slice none 0 0] 8 rfl (by kernel_rfl) (by kernel_rfl) (by kernel_rfl) (by kernel_rfl) (by kernel_rfl) (B9 os _)) ?_
 intro W base args ds gs before hval0 hW hcnd hsz hL _;have hval:∀(j:Nat) t v,Tryz.f5.params[j]? = some t->args[j]? = some v->Value.okWide Tryz.prog W .any base t v:=hval0;have hW':=hW;obtain⟨p,q,hA0,hV,rfl,hfz,hnd⟩:=hW;have hA:DataW.TrodAll enc Tryz.prog W 0 (λ_=>true) true Tryz.f5.params.toList args.toList ds p:=hA0;rw[Tryz.params5]at hA hval;have hsz2:(DataW.weightsEach Tryz.prog (Tryz.f5.params.toList++Rows.infoPositiveSpec.plain.varTypes Tryz.prog) (ds++gs)).all (· <= reachBytes)=true:=hsz;rw[Tryz.params5]at hsz2;obtain⟨v0,vs0,d0,ds0,p0,q0,hargs,rfl,rfl,h0,r0⟩:=trodAll_cons hA;obtain⟨v1,vs1,d1,ds1,p1,q1,rfl,rfl,rfl,h1,r1⟩:=trodAll_cons r0;obtain⟨v2,vs2,d2,ds2,p2,q2,rfl,rfl,rfl,h2,r2⟩:=trodAll_cons r1;obtain⟨v3,vs3,d3,ds3,p3,q3,rfl,rfl,rfl,h3,r3⟩:=trodAll_cons r2;obtain⟨rfl,rfl,rfl⟩:=trodAll_nil r3;obtain rfl:args = #[v0,v1,v2,v3]:=by cases args; simp_all
 obtain⟨rfl,rfl⟩:=trodVars_none hV;have lt0:∀ x ∈ p0,x.block<W.heap.size:=by obtain⟨m,hm⟩:=h0; exact DataW.trod_lt m _ _ _ hm
 have lt1:∀ x ∈ p1,x.block<W.heap.size:=by obtain⟨m,hm⟩:=h1; exact DataW.trod_lt m _ _ _ hm
 have lt2:∀ x ∈ p2,x.block<W.heap.size:=by obtain⟨m,hm⟩:=h2; exact DataW.trod_lt m _ _ _ hm
 have lt3:∀ x ∈ p3,x.block<W.heap.size:=by obtain⟨m,hm⟩:=h3; exact DataW.trod_lt m _ _ _ hm
 clear hA0 hval0;obtain⟨x0,⟨w0,-⟩,r0⟩:=w_ (d:=6) (rt:=.ints .u64) (by kernel_rfl) (by kernel_rfl) (hval 0 22 v0 rfl rfl) h0 (uF hsz2 (j:=0) rfl rfl);obtain⟨x1,⟨w1,-⟩,r1⟩:=w_ (d:=6) (rt:=.int .i64) (by kernel_rfl) (by kernel_rfl) (hval 1 3 v1 rfl rfl) h1 (uF hsz2 (j:=1) rfl rfl);obtain⟨x2,⟨w2,-⟩,r2⟩:=w_ (d:=6) (rt:=.ints .u64) (by kernel_rfl) (by kernel_rfl) (hval 2 22 v2 rfl rfl) h2 (uF hsz2 (j:=2) rfl rfl);obtain⟨x3,⟨w3,-⟩,r3⟩:=w_ (d:=6) (rt:=.rows RT3) (by kernel_rfl) (by kernel_rfl) (hval 3 58 v3 rfl rfl) h3 (uF hsz2 (j:=3) rfl rfl);have e0:KA Tryz.prog 22 (.ints .u64) x0=.roi .u64 x0:=by kernel_rfl
 rw[e0]at r0;have sm0:∀ N,x0.length<N->bW N x0.length:=λN hN=>BB w0.1 hN
 have e1:KA Tryz.prog 3 (.int .i64) x1=.int .i64 x1:=by kernel_rfl
 rw[e1]at r1;have e2:KA Tryz.prog 22 (.ints .u64) x2=.roi .u64 x2:=by kernel_rfl
 rw[e2]at r2;have sm2:∀ N,x2.length<N->bW N x2.length:=λN hN=>BB w2.1 hN
 have e3:KA Tryz.prog 58 (.rows RT3) x3=.rl RT3 x3:=by kernel_rfl
 rw[e3]at r3;have sm3:∀ N,x3.length<N->bW N x3.length:=λN hN=>BB w3.1 hN
 obtain⟨N,hF,hNl⟩:=QU (x0.length+x2.length+x3.length+17592186044416);have hC:=tQ1 N x0 x1 x2 x3 (xT hF x0 x1 x2 x3 (sm0 _ (by omega)) (sm2 _ (by omega)) (λw hw=>Mf (w3.2 w hw).1.1 (by omega)) (WB w2.2));have hA:P1.args [.ints x0,.int x1,.ints x2,.recs RT3 x3]=[.roi .u64 x0,.int .i64 x1,.roi .u64 x2,.rl RT3 x3]:=by kernel_rfl
 rw[hA]at hC;refine(Dt (vs:=[v0,v1,v2,v3]) hC (Se hL) λok hok=>qO (r0 ok hok _) (qO (r1 ok hok _) (qO (r2 ok hok _) (qO (r3 ok hok _) LH)))).mono λe W' ⟨he,bel⟩=>?_
 subst he;exact⟨_,rfl,_,_,_,[],_,[],hW',trodAll_mk1 (shut_bool Tryz.underlying4 _),(trodAll_cons_mk (Below.trod uj (by kernel_rfl) (of_decide_eq_true (by kernel_rfl)) h0 bel lt0) (trodAll_cons_mk (Below.trod uj (by kernel_rfl) (of_decide_eq_true (by kernel_rfl)) h1 bel lt1) (trodAll_cons_mk (Below.trod uj (by kernel_rfl) (of_decide_eq_true (by kernel_rfl)) h2 bel lt2) (trodAll_cons_mk (Below.trod uj (by kernel_rfl) (of_decide_eq_true (by kernel_rfl)) h3 bel lt3) trodAll_mk0)))),rfl,bel.frame _,λh=>by cases h⟩
theorem X1:(Rows.infoPositiveRow.inPlace==Tryz.pinned.checked.prog.inPlace 5)=true:=by kernel_rfl
theorem X3:(Rows.infoPositiveRow.unfollowed==Tryz.pinned.checked.prog.unfollowed 5)=true:=by kernel_rfl
theorem X2:(Rows.infoPositiveRow.recurses==Tryz.pinned.checked.prog.recurses 5)=true:=by kernel_rfl
theorem X4:(Rows.infoPositiveRow.named==Tryz.pinned.checked.prog.varsNamed 5)=true:=by kernel_rfl
theorem Xn:joinedFacts Tryz.pinned.checked.prog 5 Tryz.f5 Rows.infoPositiveSpec Rows.infoPositiveRow=true:=by unfold joinedFacts;rw[X1,X3,X2,X4];kernel_rfl
theorem yg:Rows.infoPositiveRow.holds Tryz.pinned (OpenSpec.ofChange Rows.infoPositiveSpec):=
 OpenClaim.holds_of_wide 5 Tryz.f5 rfl rfl rfl rfl rfl rfl rfl ⟨rfl,rfl,rfl,rfl,rfl⟩ rfl rfl rfl rfl rfl (by kernel_rfl) Tryz.func5 Xn
  (of_decide_eq_true (by kernel_rfl)) (by unfold Func.isWrapper; first | (rw[if_pos (by decide +kernel)]; kernel_rfl) | (rw[if_neg (by decide +kernel)]; exact⟨rfl,rfl⟩))
  (λos started H enc _=>vP os started H enc)
theorem xq:∀(j:Nat) t,Tryz.f5.params[j]? = some t->Tryz.prog.wantsStandIn t=false:=by
 intro j t ht;rw[Tryz.params5]at ht;have s3:Tryz.prog.wantsStandIn 3=false:=by kernel_rfl
 have s22:Tryz.prog.wantsStandIn 22=false:=by kernel_rfl
 have s58:Tryz.prog.wantsStandIn 58=false:=by kernel_rfl
 cases j with
 | zero=>simp at ht; subst ht; exact s22
 | succ j=>
  cases j with
  | zero=>simp at ht; subst ht; exact s3
  | succ j=>
   cases j with
   | zero=>simp at ht; subst ht; exact s22
   | succ j=>
    cases j with
    | zero=>simp at ht; subst ht; exact s58
    | succ j=>
     simp at ht
theorem infoPositiveProved:Rows.InfoPositiveCardSaid:=
 Claim7.holds_tied_plain_at .later [] [.data,.data] true (true, "6a0a3b3b1d628bdfb13218d14dc264b9d98e4dde3b62b93d0f9796b9ab836762") true
  yg (λ_ h=>by cases h) (by kernel_rfl) (λ_ h=>by cases h) infoPositive_row_tie rfl ⟨rfl,rfl⟩ (by kernel_rfl) rfl
  (λf fn hf hfn=>by
   obtain rfl:f=5:=Option.some.inj ((show Tryz.prog.funcNamed "binnacle/binnaclelaw17.InfoPositive" = some 5 by kernel_rfl).symm.trans hf) |>.symm
   obtain rfl:fn=Tryz.f5:=(Option.some.inj (Tryz.func5.symm.trans hfn)).symm;exact⟨by kernel_rfl,xq⟩)
  (by kernel_rfl)
#print axioms infoPositiveProved
end Go.Proofs.YtdinakfmablagaaGreatDoor
end
