/-
  THE FRAME of the Kalman laws: the two tables that the program reads; the fuel.
  Conditions: none.
-/
import Derived.Test.YteifemaagdeomaaGreatDoorRows
import Derived.Test.YteifemaagdeomaaGreatDoorCards
import Derived.Test.YteifemaagdeomaaGreatDoorTie
import Derived.Test.YteifemaagdeomaaGreatDoorMachT
import Derived.Test.YteifemaagdeomaaGreatDoorC8
import Derived.Laws.IdiomArrays
import Derived.Lib.LaidTab
import Derived.LaidHandle
import Derived.SevenTiedAt
import Derived.Stop.Joined
import Derived.Stop.LaidErr
import Derived.Test.YteifemaagdeomaaGreatDoorGx
import Derived.Test.YteifemaagdeomaaGreatDoorK1
set_option linter.unusedVariables false
section
namespace Go.Proofs.YteifemaagdeomaaGreatDoor
open Go Go.Mach Go.Proofs
open Go.ChangeShapes Go.WideShapes Go.ChangeAt Go.RowKit
set_option maxRecDepth 100000
theorem Sw:ownKnob Tryz.prog.godebug=none:=by kernel_rfl
theorem vn:laidOutB Tryz.prog=true:=by kernel_rfl
theorem vx {ok:Nat->Prop} {w:World} {ρ:Rho}:RepL ok w ρ [] []:=⟨rfl,λi u v hu _=>by simp at hu⟩
theorem ic {ok:Nat->Prop} {w:World} {ρ:Rho} {a:V} {x:Value} {us:List V} {xs:List Value} (h1:Rep ok w ρ a x) (h2:RepL ok w ρ us xs):RepL ok w ρ (a::us) (x::xs):=by
 refine⟨by simp[h2.1],λi u v hu hv=>?_⟩;cases i with
 | zero=>simp at hu hv; subst hu; subst hv; exact h1
 | succ i=>exact h2.2 i u v (by simpa using hu) (by simpa using hv)
theorem M6 {ok:Nat->Prop} {w:World} {ρ:Rho} {us:List V} {xs:List Value} (h:RepL ok w ρ us xs) (ho:xs.all (·.oneCell')=true):Rep ok w ρ (.agg us) (.agg xs.toArray):=
 .agg us xs h.1 (λv hv=>List.all_eq_true.1 ho v hv) h.2
theorem vG {N e:Nat} {zs:List Int} {H:Type} {d:DataW H} (he:Tryz.prog.bytesOf e=8) (h:zs=[] \/ ∃ els spare:List (DataW H),d=.slice els spare/\els.length=zs.length)
  (hw:∀ els spare:List (DataW H),d=.slice els spare->(els.length+spare.length)*Tryz.prog.bytesOf e<=reachBytes) (hN:zs.length<N):js N zs.length:=by
 refine⟨hN,?_⟩;rcases h with rfl | ⟨els,spare,hd,hl⟩
 ·simp
 ·have:=hw els spare hd;rw[he]at this;unfold reachBytes at this;omega
theorem Rt {zs:List Int} (h:∀ z ∈ zs,(Lit.int .u64 z).wf=true):∀ n ∈ zs,n.toNat<18446744073709551616:=λn hn=>by have:=bounds_u64 (h n hn);omega
theorem Mw (a:Nat):∃ N,Fuel N/\a+1000<N:=by
 obtain⟨E,hE⟩:∃ E,E=4398046511104+a+1000:=⟨_,rfl⟩
 have h:=Nat.lt_two_pow_self (n:=E);exact⟨2 ^ E,⟨E,by omega,Nat.le_refl _⟩,by omega⟩
theorem zb:Tryz.prog.globalNamed "math/bits.deBruijn32tab" = some 1:=by kernel_rfl
theorem zc:Tryz.prog.globalNamed "math/bits.deBruijn64tab" = some 2:=by kernel_rfl
theorem HI:(Rows.laid_math_bits_deBruijn32tab:DataW Unit)=Lib.tabData .u8 wP:=by kernel_rfl
theorem HJ:(Rows.laid_math_bits_deBruijn64tab:DataW Unit)=Lib.tabData .u8 wQ:=by kernel_rfl
abbrev oQ:List (String × DataW Unit):=[("math/bits.deBruijn32tab",Rows.laid_math_bits_deBruijn32tab),("math/bits.deBruijn64tab",Rows.laid_math_bits_deBruijn64tab)]
theorem Nw {W:World} (h:laidMetH Tryz.prog oQ W):∀ b zs,w9 b=some zs->TabAt W b zs:=by
 have h':laidMet Tryz.prog oQ W:=h;unfold oQ at h';rw[HI,HJ]at h';have t32:=Lib.tabIs_of_head (e:=5) (t:=249) (n:=32) zb (by kernel_rfl) (by kernel_rfl) (by kernel_rfl) (by kernel_rfl) (by kernel_rfl) h';have t64:=Lib.tabIs_of_head (e:=5) (t:=260) (n:=64) zc (by kernel_rfl) (by kernel_rfl) (by kernel_rfl) (by kernel_rfl) (by kernel_rfl) (laidMet.tail h');have c32:=λi hi=>t32.cell zb i hi
 have c64:=λi hi=>t64.cell zc i hi
 have s32:1<W.heap.size:=by
  have h0:=c32 0 (by decide);unfold World.cell? at h0;rcases Nat.lt_or_ge 1 W.heap.size with h | h
  ·exact h
  ·rw[Array.getElem?_eq_none h]at h0; cases h0
 have s64:2<W.heap.size:=by
  have h0:=c64 0 (by decide);unfold World.cell? at h0;rcases Nat.lt_or_ge 2 W.heap.size with h | h
  ·exact h
  ·rw[Array.getElem?_eq_none h]at h0; cases h0
 intro b zs e;unfold w9 at e;split at e
 ·cases e;exact⟨s32,c32⟩
 ·cases e;exact⟨s64,c64⟩
 ·cases e
noncomputable def Aa (os:Os):World:=
 let w0:=World.holding Tryz.prog os ⟨#[],#[],[]⟩
 { w0 with heap:=(w0.heap.modify 1 fun
   | .cells _ t frozen=>.cells (wP.map λz=>Value.int .u8 z).toArray t frozen
   | o=>o).modify 2 fun
   | .cells _ t frozen=>.cells (wQ.map λz=>Value.int .u8 z).toArray t frozen
   | o=>o }
theorem zt (os:Os) (args:Array Value):laidMetH Tryz.prog oQ ((Aa os).forCall (λ_ _=>0) ⟨#[],args,[]⟩).memory:=
 laidMetH_of_parts (laidMet_of_run' 8 (by kernel_rfl) (by kernel_rfl)) (by kernel_rfl)
open Go.ChangeShapes Go.WideShapes Go.ChangeAt Go.RowKit
set_option maxRecDepth 100000 in
theorem sx (os:Os) (started:os.Started) (H:Type) (enc:TypeId × Value->H) :
  ReturnsInHanded {} Tryz.checked os 3 .any (λw args=>(Rows.kalmanUpdatesSpec.pre enc Tryz.prog Tryz.f3 [] false w args/\laidMetH Tryz.prog oQ w)/\sizedMet enc Tryz.prog Tryz.f3 (OpenSpec.ofChange Rows.kalmanUpdatesSpec) false w args)
   (Rows.kalmanUpdatesSpec.post enc Tryz.prog Tryz.f3 false true false false):=by
 refine returnsInHanded_of_change_and (C:=Tryz.checked) (X:=λw _=>laidMetH Tryz.prog oQ w) (λ_ _ _ hh h=>h.of_heap hh) Sw started (by kernel_rfl) Tryz.func3
  (ChangeSpec.witness_at (enc:=enc) (C:=Tryz.checked) (os:=os) (X:=λw _=>laidMetH Tryz.prog oQ w) false (Aa os) #[.slice none 0 0,.int .i64 0,.slice none 0 0,.agg #[.slice none 0 0,.int .u64 0,.int .u64 0]] 8 rfl (by kernel_rfl) (by kernel_rfl) (by kernel_rfl) (by kernel_rfl) (by kernel_rfl) (zt os _)) ?_
 intro W base args ds gs before hval0 hW hcnd hsz hL _;have hval:∀(j:Nat) t v,Tryz.f3.params[j]? = some t->args[j]? = some v->Value.okWide Tryz.prog W .any base t v:=hval0;have hW':=hW;obtain⟨p,q,hA0,hV,rfl,hfz,hnd⟩:=hW;have hA:DataW.TrodAll enc Tryz.prog W 0 (λ_=>true) true Tryz.f3.params.toList args.toList ds p:=hA0;rw[Tryz.params3]at hA hval;have hsz2:(DataW.weightsEach Tryz.prog (Tryz.f3.params.toList++Rows.kalmanUpdatesSpec.plain.varTypes Tryz.prog) (ds++gs)).all (· <= reachBytes)=true:=hsz;rw[Tryz.params3]at hsz2;obtain⟨v0,vs0,d0,ds0,p0,q0,hargs,rfl,rfl,h0,r0⟩:=trodAll_cons hA;obtain⟨v1,vs1,d1,ds1,p1,q1,rfl,rfl,rfl,h1,r1⟩:=trodAll_cons r0;obtain⟨v2,vs2,d2,ds2,p2,q2,rfl,rfl,rfl,h2,r2⟩:=trodAll_cons r1;obtain⟨v3,vs3,d3,ds3,p3,q3,rfl,rfl,rfl,h3,r3⟩:=trodAll_cons r2;obtain⟨rfl,rfl,rfl⟩:=trodAll_nil r3;obtain rfl:args = #[v0,v1,v2,v3]:=by cases args; simp_all
 obtain⟨rfl,rfl⟩:=trodVars_none hV;have lt0:∀ x ∈ p0,x.block<W.heap.size:=by obtain⟨m,hm⟩:=h0; exact DataW.trod_lt m _ _ _ hm
 have g0:=h0;have lt2:∀ x ∈ p2,x.block<W.heap.size:=by obtain⟨m,hm⟩:=h2; exact DataW.trod_lt m _ _ _ hm
 have g2:=h2;have lt3:∀ x ∈ p3,x.block<W.heap.size:=by obtain⟨m,hm⟩:=h3; exact DataW.trod_lt m _ _ _ hm
 have g3:=h3;clear hA0 hval0;have c23:Tryz.prog.cellsOf 23=1:=by kernel_rfl
 have b23:Tryz.prog.bytesOf 23=8:=by kernel_rfl
 obtain⟨sa0,sl0,sc0,rfl⟩:=okWide_slice Tryz.underlying22 (hval 0 22 v0 rfl rfl);obtain⟨n0,hm0⟩:=h0;obtain⟨m0,rm0,lm0,wm0,-⟩:=yG Tryz.underlying22 Tryz.underlying23 c23 (wB Tryz.underlying22 (hval 0 22 _ rfl rfl)) hm0;have sm0:∀ N,m0.length<N->js N m0.length:=λN hN=>vG b23 lm0 (λels spare hd=>sized_slice hsz2 (j:=0) rfl (by simpa using hd) Tryz.underlying22) hN
 obtain⟨a1,rfl,rfl,rfl,wa1⟩:=open_int Tryz.underlying3 (hval 1 3 v1 rfl rfl) h1;obtain⟨sa2,sl2,sc2,rfl⟩:=okWide_slice Tryz.underlying22 (hval 2 22 v2 rfl rfl);obtain⟨n2,hm2⟩:=h2;obtain⟨m2,rm2,lm2,wm2,-⟩:=yG Tryz.underlying22 Tryz.underlying23 c23 (wB Tryz.underlying22 (hval 2 22 _ rfl rfl)) hm2;have sm2:∀ N,m2.length<N->js N m2.length:=λN hN=>vG b23 lm2 (λels spare hd=>sized_slice hsz2 (j:=2) rfl (by simpa using hd) Tryz.underlying22) hN
 obtain⟨kk30,kk31,kk32,y30,y31,y32,rfl,rfl,⟨n30,t30⟩,⟨n31,t31⟩,⟨n32,t32⟩,o30,-,-⟩:=Fy Tryz.underlying25 (by kernel_rfl) (by kernel_rfl) (by kernel_rfl) (hval 3 25 v3 rfl rfl) h3;obtain⟨y3r,rfl,wa3r⟩:=Aw Tryz.underlying23 t31;obtain⟨y3z,rfl,wa3z⟩:=Aw Tryz.underlying23 t32;obtain⟨m3,rm3,lm3,wm3,cm3⟩:=yG Tryz.underlying22 Tryz.underlying23 c23 o30 t30;have sm3:∀ N,m3.length<N->js N m3.length:=λN hN=>vG b23 lm3 (λels spare hd=>sized_slice (FK hsz2 (j:=3) rfl rfl Tryz.underlying25) (j:=0) rfl (by simpa using hd) Tryz.underlying22) hN
 obtain⟨N,hF,hNl⟩:=Mw (m0.length+m2.length+m3.length);have hC:=tQ4 N m0 a1 m2 m3 y3r y3z (un hF m0 a1 m2 m3 y3r y3z (sm0 _ (by omega)) (sm2 _ (by omega)) (sm3 _ (by omega)) (Rt wm2));have hA:AF.args [.ints m0,.int a1,.ints m2,.ints m3,.int y3r,.int y3z]=[.roi .u64 m0,.int .i64 a1,.roi .u64 m2,.agg [.roi .u64 m3,.int .u64 y3r,.int .u64 y3z]]:=by kernel_rfl
 rw[hA]at hC;refine(AW (vs:=[.slice sa0 sl0 sc0,.int .i64 a1,.slice sa2 sl2 sc2,.agg #[kk30,.int .u64 y3r,.int .u64 y3z]]) hC (Nw hL) λok hok=>ic (rm0 ok hok _) (ic (.int _ _) (ic (rm2 ok hok _) (ic (M6 (xs:=[kk30,.int .u64 y3r,.int .u64 y3z]) (ic (rm3 ok hok _) (ic (.int _ _) (ic (.int _ _) vx))) (by rw[List.all_cons,List.all_cons,List.all_cons,cm3]; rfl)) vx)))).mono λe W' ⟨he,bel⟩=>?_
 subst he;exact⟨_,rfl,_,_,_,[],_,[],hW',trodAll_mk1 (shut_bool Tryz.underlying4 _),(trodAll_cons_mk (Below.trod vn (by kernel_rfl) (of_decide_eq_true (by kernel_rfl)) g0 bel lt0) (trodAll_cons_mk (shut_int Tryz.underlying3 wa1) (trodAll_cons_mk (Below.trod vn (by kernel_rfl) (of_decide_eq_true (by kernel_rfl)) g2 bel lt2) (trodAll_cons_mk (Below.trod vn (by kernel_rfl) (of_decide_eq_true (by kernel_rfl)) g3 bel lt3) trodAll_mk0)))),rfl,bel.frame _,λh=>by cases h⟩
theorem uz:Rows.kalmanUpdatesRow.holds Tryz.pinned (OpenSpec.ofChange Rows.kalmanUpdatesSpec):=
 OpenClaim.holds_of_wide 3 Tryz.f3 rfl rfl rfl rfl rfl rfl rfl ⟨rfl,rfl,rfl,rfl,rfl⟩ rfl rfl rfl rfl rfl (by kernel_rfl) Tryz.func3 (by kernel_rfl)
  (of_decide_eq_true (by kernel_rfl)) (by unfold Func.isWrapper; first | (rw[if_pos (by decide +kernel)]; kernel_rfl) | (rw[if_neg (by decide +kernel)]; exact⟨rfl,rfl⟩))
  (λos started H enc _=>sx os started H enc)
theorem tT:∀(j:Nat) t,Tryz.f3.params[j]? = some t->Tryz.prog.wantsStandIn t=false:=by
 intro j t ht;rw[Tryz.params3]at ht;have s3:Tryz.prog.wantsStandIn 3=false:=by kernel_rfl
 have s22:Tryz.prog.wantsStandIn 22=false:=by kernel_rfl
 have s25:Tryz.prog.wantsStandIn 25=false:=by kernel_rfl
 cases j with
 | zero=>simp at ht; subst ht; exact s22
 | succ j=>
  cases j with
  | zero=>simp at ht; subst ht; exact s3
  | succ j=>
   cases j with
   | zero=>simp at ht; subst ht; exact s22
   | succ j=>
    cases j with
    | zero=>simp at ht; subst ht; exact s25
    | succ j=>
     simp at ht
theorem kalmanUpdatesProved:Rows.KalmanUpdatesCardSaid:=
 Claim7.holds_tied_plain_at .later [] [.data,.data] true (true, "ceec7271bf6612dade50c993c5d87600cb009eb5f2d675521937259246f109c8") true
  uz (λ_ h=>by cases h) (by kernel_rfl) (λ_ h=>by cases h) kalmanUpdates_row_tie rfl ⟨rfl,rfl⟩ (by kernel_rfl) rfl
  (λf fn hf hfn=>by
   obtain rfl:f=3:=Option.some.inj ((show Tryz.prog.funcNamed "binnacle/binnaclelaw15.KalmanUpdates" = some 3 by kernel_rfl).symm.trans hf) |>.symm
   obtain rfl:fn=Tryz.f3:=(Option.some.inj (Tryz.func3.symm.trans hfn)).symm;exact⟨by kernel_rfl,tT⟩)
  (by kernel_rfl)
#print axioms kalmanUpdatesProved
end Go.Proofs.YteifemaagdeomaaGreatDoor
end
