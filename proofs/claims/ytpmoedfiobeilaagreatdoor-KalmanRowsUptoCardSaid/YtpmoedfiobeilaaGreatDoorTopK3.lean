/-
  THE FRAME of the Kalman laws: the two tables that the program reads; the fuel.
  Conditions: none.
-/
import Derived.Test.YtpmoedfiobeilaaGreatDoorRows
import Derived.Test.YtpmoedfiobeilaaGreatDoorCards
import Derived.Test.YtpmoedfiobeilaaGreatDoorTie
import Derived.Test.YtpmoedfiobeilaaGreatDoorMachT
import Derived.Test.YtpmoedfiobeilaaGreatDoorMachZr
import Derived.Test.YtpmoedfiobeilaaGreatDoorC8
import Derived.Laws.IdiomArrays
import Derived.Lib.LaidTab
import Derived.LaidHandle
import Derived.SevenTiedAt
import Derived.Stop.Joined
import Derived.Stop.LaidErr
import Derived.JoinedCond
import Derived.Deep.CondSized
import Derived.Deep.DeepHandedRow
import Derived.Test.YtpmoedfiobeilaaGreatDoorGx
import Derived.Test.YtpmoedfiobeilaaGreatDoorK1
set_option linter.unusedVariables false
section
namespace Go.Proofs.YtpmoedfiobeilaaGreatDoor
open Go Go.Mach Go.Proofs
open Go.ChangeShapes Go.WideShapes Go.ChangeAt Go.RowKit
set_option maxRecDepth 100000
theorem Tq:ownKnob Tryz.prog.godebug=none:=by kernel_rfl
theorem oh:laidOutB Tryz.prog=true:=by kernel_rfl
theorem SL {zs:List Int} (h:∀ z ∈ zs,(Lit.int .u64 z).wf=true):∀ n ∈ zs,n.toNat<18446744073709551616:=λn hn=>by have:=bounds_u64 (h n hn);omega
theorem NB (a:Nat):∃ N,Fuel N/\a+1000<N:=by
 obtain⟨E,hE⟩:∃ E,E=4398046511104+a+1000:=⟨_,rfl⟩
 have h:=Nat.lt_two_pow_self (n:=E);exact⟨2 ^ E,⟨E,by omega,Nat.le_refl _⟩,by omega⟩
theorem zN:Tryz.prog.globalNamed "math/bits.deBruijn32tab" = some 1:=by kernel_rfl
theorem zO:Tryz.prog.globalNamed "math/bits.deBruijn64tab" = some 2:=by kernel_rfl
theorem Ih:(Rows.laid_math_bits_deBruijn32tab:DataW Unit)=Lib.tabData .u8 xj:=by kernel_rfl
theorem Ii:(Rows.laid_math_bits_deBruijn64tab:DataW Unit)=Lib.tabData .u8 xk:=by kernel_rfl
abbrev BI:List (String × DataW Unit):=[("math/bits.deBruijn32tab",Rows.laid_math_bits_deBruijn32tab),("math/bits.deBruijn64tab",Rows.laid_math_bits_deBruijn64tab)]
theorem OG {W:World} (h:laidMetH Tryz.prog BI W):∀ b zs,xB b=some zs->TabAt W b zs:=by
 have h':laidMet Tryz.prog BI W:=h;unfold BI at h';rw[Ih,Ii]at h';have t32:=Lib.tabIs_of_head (e:=5) (t:=227) (n:=32) zN (by kernel_rfl) (by kernel_rfl) (by kernel_rfl) (by kernel_rfl) (by kernel_rfl) h';have t64:=Lib.tabIs_of_head (e:=5) (t:=238) (n:=64) zO (by kernel_rfl) (by kernel_rfl) (by kernel_rfl) (by kernel_rfl) (by kernel_rfl) (laidMet.tail h');have c32:=λi hi=>t32.cell zN i hi
 have c64:=λi hi=>t64.cell zO i hi
 have s32:1<W.heap.size:=by
  have h0:=c32 0 (by decide);unfold World.cell? at h0;rcases Nat.lt_or_ge 1 W.heap.size with h | h
  ·exact h
  ·rw[Array.getElem?_eq_none h]at h0; cases h0
 have s64:2<W.heap.size:=by
  have h0:=c64 0 (by decide);unfold World.cell? at h0;rcases Nat.lt_or_ge 2 W.heap.size with h | h
  ·exact h
  ·rw[Array.getElem?_eq_none h]at h0; cases h0
 intro b zs e;unfold xB at e;split at e
 ·cases e;exact⟨s32,c32⟩
 ·cases e;exact⟨s64,c64⟩
 ·cases e
noncomputable def AG (os:Os):World:=
 let w0:=World.holding Tryz.prog os ⟨#[],#[],[]⟩
 { w0 with heap:=(w0.heap.modify 1 fun
   | .cells _ t frozen=>.cells (xj.map λz=>Value.int .u8 z).toArray t frozen
   | o=>o).modify 2 fun
   | .cells _ t frozen=>.cells (xk.map λz=>Value.int .u8 z).toArray t frozen
   | o=>o }
open Go.ChangeShapes Go.WideShapes Go.ChangeAt Go.RowKit
mutual
theorem vA {H:Type}:∀ d:DataW H,bU d<=Rows.uptoBulk d
 | .lit l=>by cases l <;> simp[bU,Rows.uptoBulk]
 | .nil=>by simp[bU,Rows.uptoBulk]
 | .ptr d=>by have:=vA d; simp only[bU,Rows.uptoBulk]; omega
 | .slice a b=>by have:=jL a; have:=jL b; simp only[bU,Rows.uptoBulk]; omega
 | .agg a=>by have:=jL a; simp only[bU,Rows.uptoBulk]; omega
 | .iface _ d=>by have:=vA d; simp only[bU,Rows.uptoBulk]; omega
 | .map _=>by simp[bU,Rows.uptoBulk]
 | .held _=>by simp[bU,Rows.uptoBulk]
theorem jL {H:Type}:∀ l:List (DataW H),gZ l<=Rows.uptoBulkAll l
 | []=>by simp[gZ,Rows.uptoBulkAll]
 | d::r=>by have:=vA d; have:=jL r; simp only[gZ,Rows.uptoBulkAll]; omega
end
theorem zx (w:List RY3):w.length+(rwH w).length<=(w.map (RT.meas RT3)).sum:=by
 induction w with
 | nil=>simp[rwH]
 | cons q r ih=>
  have e:rwH (q::r)=ot q.1++rwH r:=by simp[rwH]
  have e2:RT3.meas q=(q.1.length+1)+(1+1):=rfl;rw[e,List.length_append,zl,List.length_cons,List.map_cons,List.sum_cons,e2]; omega
theorem Oh {w:List RY3} {q:RY3} (h:q ∈ w):q.1.length<=(rwH w).length:=by
 induction w with
 | nil=>cases h
 | cons a r ih=>
  have e:rwH (a::r)=ot a.1++rwH r:=by simp[rwH]
  rw[e,List.length_append,zl];rcases List.mem_cons.1 h with rfl | h
  ·omega
  ·have:=ih h; omega
set_option maxRecDepth 100000 in
theorem vT (os:Os) (started:os.Started) (H:Type) (enc:TypeId × Value->H) (F:Stop.Interp) :
  ReturnsInHanded {} Tryz.checked os 3 .any ((Rows.OpenSpec.upto Rows.kalmanRowsSpec).preRow enc Tryz.prog Tryz.f3 Rows.kalmanRowsUptoRow.domain false Rows.kalmanRowsUptoRow.laid) (((Rows.OpenSpec.upto Rows.kalmanRowsSpec).at F).post enc Tryz.prog Tryz.f3 false true false false):=by
 have hx:∃ places,DataW.whole enc Tryz.prog ((AG os).forCall (λ_ _=>0) ⟨#[],#[.slice none 0 0,.int .i64 0,.slice none 0 0,.slice none 0 0,.int .i64 0],[]⟩).memory Tryz.f3.params.toList Rows.kalmanRowsSpec.vars false #[.slice none 0 0,.int .i64 0,.slice none 0 0,.slice none 0 0,.int .i64 0].toList 8=some ([.nil,.lit (.int .i64 0),.nil,.nil,.lit (.int .i64 0)],[],places):=⟨[],by kernel_rfl⟩
 obtain⟨places,hx⟩:=hx;refine returnsInHanded_of_row (C:=Tryz.checked) (s:=Rows.OpenSpec.upto Rows.kalmanRowsSpec) Tq started (by kernel_rfl) Tryz.func3
  (witness_row_at (enc:=enc) (C:=Tryz.checked) false (AG os) #[.slice none 0 0,.int .i64 0,.slice none 0 0,.slice none 0 0,.int .i64 0] rfl (by kernel_rfl) (by kernel_rfl) (by kernel_rfl)
   (OpenSpec.preRow_of_cond 8 hx (by kernel_rfl) (λk hk=>by cases hk; kernel_rfl) (by kernel_rfl) (laidMet_of_run' 8 (by kernel_rfl) (by kernel_rfl)))) ?_
 intro W base args ds gs before hval0 hW _ hcond hsz hL _ _;have hk:=hcond _ rfl;have hval:∀(j:Nat) t v,Tryz.f3.params[j]? = some t->args[j]? = some v->Value.okWide Tryz.prog W .any base t v:=hval0;have hW':=hW;obtain⟨p,q,hA0,hV,rfl,hfz,hnd⟩:=hW;have hA:DataW.TrodAll enc Tryz.prog W 0 (λ_=>true) true Tryz.f3.params.toList args.toList ds p:=hA0;rw[Tryz.params3]at hA hval;have hsz2:(DataW.weightsEach Tryz.prog (Tryz.f3.params.toList++Rows.kalmanRowsSpec.plain.varTypes Tryz.prog) (ds++gs)).all (· <= reachBytes)=true:=hsz;rw[Tryz.params3]at hsz2;obtain⟨v0,vs0,d0,ds0,p0,q0,hargs,rfl,rfl,h0,r0⟩:=trodAll_cons hA;obtain⟨v1,vs1,d1,ds1,p1,q1,rfl,rfl,rfl,h1,r1⟩:=trodAll_cons r0;obtain⟨v2,vs2,d2,ds2,p2,q2,rfl,rfl,rfl,h2,r2⟩:=trodAll_cons r1;obtain⟨v3,vs3,d3,ds3,p3,q3,rfl,rfl,rfl,h3,r3⟩:=trodAll_cons r2;obtain⟨v4,vs4,d4,ds4,p4,q4,rfl,rfl,rfl,h4,r4⟩:=trodAll_cons r3;obtain⟨rfl,rfl,rfl⟩:=trodAll_nil r4;obtain rfl:args = #[v0,v1,v2,v3,v4]:=by cases args; simp_all
 obtain⟨rfl,rfl⟩:=trodVars_none hV;have hb:bU d0+(bU d1+(bU d2+(bU d3+(bU d4+0))))<=1048576:=by have h:=of_decide_eq_true hk;have h2:=jL ([d0,d1,d2,d3,d4]++[]);simp only[List.append_nil,gZ]at h2;simp only[List.append_nil]at h;exact Nat.le_trans h2 h
 have lt0:∀ x ∈ p0,x.block<W.heap.size:=by obtain⟨m,hm⟩:=h0; exact DataW.trod_lt m _ _ _ hm
 have lt1:∀ x ∈ p1,x.block<W.heap.size:=by obtain⟨m,hm⟩:=h1; exact DataW.trod_lt m _ _ _ hm
 have lt2:∀ x ∈ p2,x.block<W.heap.size:=by obtain⟨m,hm⟩:=h2; exact DataW.trod_lt m _ _ _ hm
 have lt3:∀ x ∈ p3,x.block<W.heap.size:=by obtain⟨m,hm⟩:=h3; exact DataW.trod_lt m _ _ _ hm
 have lt4:∀ x ∈ p4,x.block<W.heap.size:=by obtain⟨m,hm⟩:=h4; exact DataW.trod_lt m _ _ _ hm
 clear hA0 hval0;obtain⟨x0,⟨w0,m0⟩,r0⟩:=re (d:=6) (rt:=.ints .u64) (by kernel_rfl) (by kernel_rfl) (hval 0 22 v0 rfl rfl) h0 (oC hsz2 (j:=0) rfl rfl);obtain⟨x1,⟨w1,m1⟩,r1⟩:=re (d:=6) (rt:=.int .i64) (by kernel_rfl) (by kernel_rfl) (hval 1 3 v1 rfl rfl) h1 (oC hsz2 (j:=1) rfl rfl);obtain⟨x2,⟨w2,m2⟩,r2⟩:=re (d:=6) (rt:=.ints .u64) (by kernel_rfl) (by kernel_rfl) (hval 2 22 v2 rfl rfl) h2 (oC hsz2 (j:=2) rfl rfl);obtain⟨x3,⟨w3,m3⟩,r3⟩:=re (d:=6) (rt:=.rows RT3) (by kernel_rfl) (by kernel_rfl) (hval 3 23 v3 rfl rfl) h3 (oC hsz2 (j:=3) rfl rfl);obtain⟨x4,⟨w4,m4⟩,r4⟩:=re (d:=6) (rt:=.int .i64) (by kernel_rfl) (by kernel_rfl) (hval 4 3 v4 rfl rfl) h4 (oC hsz2 (j:=4) rfl rfl);have e0:ES Tryz.prog 22 (.ints .u64) x0=.roi .u64 x0:=by kernel_rfl
 rw[e0]at r0;have l0:x0.length+1<=bU d0:=m0;have e1:ES Tryz.prog 3 (.int .i64) x1=.int .i64 x1:=by kernel_rfl
 rw[e1]at r1;have e2:ES Tryz.prog 22 (.ints .u64) x2=.roi .u64 x2:=by kernel_rfl
 rw[e2]at r2;have l2:x2.length+1<=bU d2:=m2;have e3:ES Tryz.prog 23 (.rows RT3) x3=.rl RT3 x3:=by kernel_rfl
 rw[e3]at r3;have l3:(x3.map (RT.meas RT3)).sum+1<=bU d3:=m3;have e4:ES Tryz.prog 3 (.int .i64) x4=.int .i64 x4:=by kernel_rfl
 rw[e4]at r4;obtain⟨N,hF,hNl⟩:=NB 1048576;have sm:∀ k,k<=1048576->bJ N k:=λk hk=>⟨by omega,by omega⟩
 have hC:=tQ2 N x0 x1 x2 x3 x4 (yQ hF x0 x1 x2 x3 x4 (sm _ (by omega)) (sm _ (by omega)) (sm _ (by have:=zx x3; omega)) (λq hq=>sm _ (by have:=Oh hq; have:=zx x3; omega)) (sm _ (by have:=zx x3; omega)) (SL w2.2));have hA:MG.args [.ints x0,.int x1,.ints x2,.recs RT3 x3,.int x4]=[.roi .u64 x0,.int .i64 x1,.roi .u64 x2,.rl RT3 x3,.int .i64 x4]:=by kernel_rfl
 rw[hA]at hC;refine(Bo (vs:=[v0,v1,v2,v3,v4]) hC (OG hL) λok hok=>mM (r0 ok hok _) (mM (r1 ok hok _) (mM (r2 ok hok _) (mM (r3 ok hok _) (mM (r4 ok hok _) IQ))))).mono λe W' ⟨he,bel⟩=>?_
 subst he;exact⟨_,rfl,_,_,_,[],_,[],hW',trodAll_mk1 (shut_bool Tryz.underlying4 _),(trodAll_cons_mk (Below.trod oh (by kernel_rfl) (of_decide_eq_true (by kernel_rfl)) h0 bel lt0) (trodAll_cons_mk (Below.trod oh (by kernel_rfl) (of_decide_eq_true (by kernel_rfl)) h1 bel lt1) (trodAll_cons_mk (Below.trod oh (by kernel_rfl) (of_decide_eq_true (by kernel_rfl)) h2 bel lt2) (trodAll_cons_mk (Below.trod oh (by kernel_rfl) (of_decide_eq_true (by kernel_rfl)) h3 bel lt3) (trodAll_cons_mk (Below.trod oh (by kernel_rfl) (of_decide_eq_true (by kernel_rfl)) h4 bel lt4) trodAll_mk0))))),rfl,bel.frame _,λh=>by cases h⟩
theorem zo:Rows.kalmanRowsUptoRow.holds Tryz.pinned (Rows.OpenSpec.upto Rows.kalmanRowsSpec):=
 OpenClaim.holds_of_cond 3 Tryz.f3 rfl rfl rfl rfl rfl rfl rfl ⟨rfl,rfl,rfl,rfl,rfl⟩ rfl rfl rfl rfl rfl (by kernel_rfl) Tryz.func3 (by kernel_rfl)
  (of_decide_eq_true (by kernel_rfl)) (by unfold Func.isWrapper; first | (rw[if_pos (by decide +kernel)]; kernel_rfl) | (rw[if_neg (by decide +kernel)]; exact⟨rfl,rfl⟩))
  (λos started H enc _ F=>by rw[OpenClaim.pre_eq_preRow]; exact vT os started H enc F)
theorem xC:∀(j:Nat) t,Tryz.f3.params[j]? = some t->Tryz.prog.wantsStandIn t=false:=by
 intro j t ht;rw[Tryz.params3]at ht;have s3:Tryz.prog.wantsStandIn 3=false:=by kernel_rfl
 have s22:Tryz.prog.wantsStandIn 22=false:=by kernel_rfl
 have s23:Tryz.prog.wantsStandIn 23=false:=by kernel_rfl
 cases j with
 | zero=>simp at ht; subst ht; exact s22
 | succ j=>
  cases j with
  | zero=>simp at ht; subst ht; exact s3
  | succ j=>
   cases j with
   | zero=>simp at ht; subst ht; exact s22
   | succ j=>
    cases j with
    | zero=>simp at ht; subst ht; exact s23
    | succ j=>
     cases j with
     | zero=>simp at ht; subst ht; exact s3
     | succ j=>
      simp at ht
theorem kalmanRowsProved:Rows.KalmanRowsUptoCardSaid:=
 Claim7.holds_tied_plain_at .later [] [.data,.data] true (true, "8e6474b64a031a53dc83db75bff8b189c96bfe05fdea1d4bd33768ab9510d33c") true
  zo (λ_ h=>by cases h) (by kernel_rfl) (λ_ h=>by cases h) kalmanRowsUpto_row_tie rfl ⟨rfl,rfl⟩ (by kernel_rfl) rfl
  (λf fn hf hfn=>by
   obtain rfl:f=3:=Option.some.inj ((show Tryz.prog.funcNamed "binnacle/binnaclelaw15.KalmanRows" = some 3 by kernel_rfl).symm.trans hf) |>.symm
   obtain rfl:fn=Tryz.f3:=(Option.some.inj (Tryz.func3.symm.trans hfn)).symm;exact⟨by kernel_rfl,xC⟩)
  (by kernel_rfl)
#print axioms kalmanRowsProved
end Go.Proofs.YtpmoedfiobeilaaGreatDoor
end
