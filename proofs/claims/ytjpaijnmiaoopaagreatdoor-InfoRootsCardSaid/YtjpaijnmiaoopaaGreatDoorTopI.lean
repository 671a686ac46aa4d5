/-
  InfoRoots holds of the given program: for every input the law answers true, and what came in reads as it read; math/bits.deBruijn64tab holds what the program's text lays (tied on the card). No other condition.
-/
import Derived.Test.YtjpaijnmiaoopaaGreatDoorRows
import Derived.Test.YtjpaijnmiaoopaaGreatDoorCards
import Derived.Test.YtjpaijnmiaoopaaGreatDoorTie
import Derived.Test.YtjpaijnmiaoopaaGreatDoorMachT
import Derived.Test.YtjpaijnmiaoopaaGreatDoorGx
import Derived.Test.YtjpaijnmiaoopaaGreatDoorI1
import Derived.Laws.IdiomArrays
import Derived.Lib.LaidTab
import Derived.LaidHandle
import Derived.SevenTiedAt
import Derived.Stop.Joined
namespace Go.Proofs.YtjpaijnmiaoopaaGreatDoor
open Go Go.Mach Go.Proofs
open Go.ChangeShapes Go.WideShapes Go.ChangeAt Go.RowKit
set_option linter.unusedVariables false
set_option maxRecDepth 100000
theorem ownKz : ownKnob Tryz.prog.godebug = none := by kernel_rfl
theorem laidOutKz : laidOutB Tryz.prog = true := by kernel_rfl
theorem lists_nil {ok : Nat -> Prop} {w : World} {ρ : Rho} : RepL ok w ρ [] [] := ⟨rfl, fun i u v hu _ => by simp at hu⟩
theorem lists_cons {ok : Nat -> Prop} {w : World} {ρ : Rho} {a : V} {x : Value} {us : List V} {xs : List Value} (h1 : Rep ok w ρ a x) (h2 : RepL ok w ρ us xs) : RepL ok w ρ (a :: us) (x :: xs) := by
 refine ⟨by simp [h2.1], fun i u v hu hv => ?_⟩
 cases i with
 | zero => simp at hu hv; subst hu; subst hv; exact h1
 | succ i => exact h2.2 i u v (by simpa using hu) (by simpa using hv)
theorem rep_agg {ok : Nat -> Prop} {w : World} {ρ : Rho} {us : List V} {xs : List Value} (h : RepL ok w ρ us xs) (ho : xs.all (·.oneCell') = true) : Rep ok w ρ (.agg us) (.agg xs.toArray) :=
 .agg us xs h.1 (fun v hv => List.all_eq_true.1 ho v hv) h.2
theorem small_ofT {N e : Nat} {zs : List Int} {H : Type} {d : DataW H} (he : Tryz.prog.bytesOf e = 8) (h : zs = [] \/ ∃ els spare : List (DataW H), d = .slice els spare /\ els.length = zs.length)
  (hw : ∀ els spare : List (DataW H), d = .slice els spare -> (els.length + spare.length) * Tryz.prog.bytesOf e <= reachBytes) (hN : zs.length < N) : Small N zs.length := by
 refine ⟨hN, ?_⟩
 rcases h with rfl | ⟨els, spare, hd, hl⟩
 ·simp
 ·have := hw els spare hd
  rw [he] at this
  unfold reachBytes at this
  omega
theorem u64_to {zs : List Int} (h : ∀ z ∈ zs, (Lit.int .u64 z).wf = true) : ∀ n ∈ zs, n.toNat < 18446744073709551616 := fun n hn => by
 have := bounds_u64 (h n hn)
 omega
theorem rep_agg3 {ok : Nat -> Prop} {w : World} {ρ : Rho} {a b c : V} {x y z : Value} (h1 : Rep ok w ρ a x) (h2 : Rep ok w ρ b y) (h3 : Rep ok w ρ c z) (e1 : x.oneCell' = true) (e2 : y.oneCell' = true) (e3 : z.oneCell' = true) : Rep ok w ρ (.agg [a, b, c]) (.agg #[x, y, z]) :=
 rep_agg (xs := [x, y, z]) (lists_cons h1 (lists_cons h2 (lists_cons h3 lists_nil))) (by simp [e1, e2, e3])
theorem tabNamed : Tryz.prog.globalNamed "math/bits.deBruijn64tab" = some 2 := by kernel_rfl
theorem laid_eq : (Rows.laid_math_bits_deBruijn64tab : DataW Unit) = Lib.tabData .u8 tab64 := by kernel_rfl
theorem tab_met {W : World} (h : laidMetH Tryz.prog [("math/bits.deBruijn64tab", Rows.laid_math_bits_deBruijn64tab)] W) : ∀ b zs, tabT b = some zs -> TabAt W b zs := by
 have h' : laidMet Tryz.prog [("math/bits.deBruijn64tab", Rows.laid_math_bits_deBruijn64tab)] W := h
 rw [laid_eq] at h'
 have ht := Lib.tabIs_of_head (e := 5) (t := 293) (n := 64) tabNamed (by kernel_rfl) (by kernel_rfl) (by kernel_rfl) (by kernel_rfl) (by kernel_rfl) h'
 have hc := fun i hi => ht.cell tabNamed i hi
 have hsz : 2 < W.heap.size := by
  have h0 := hc 0 (by decide)
  unfold World.cell? at h0
  rcases Nat.lt_or_ge 2 W.heap.size with h | h
  ·exact h
  ·rw [Array.getElem?_eq_none h] at h0; cases h0
 intro b zs e
 unfold tabT at e
 split at e
 ·cases e
  exact ⟨hsz, hc⟩
 ·cases e
noncomputable def laidWorld (os : Os) : World :=
 let w0 := World.holding Tryz.prog os ⟨#[], #[], []⟩
 { w0 with heap := w0.heap.modify 2 fun
   | .cells _ t frozen => .cells (tab64.map fun z => Value.int .u8 z).toArray t frozen
   | o => o }
theorem laidWorld_met (os : Os) (args : Array Value) : laidMetH Tryz.prog [("math/bits.deBruijn64tab", Rows.laid_math_bits_deBruijn64tab)] ((laidWorld os).forCall (fun _ _ => 0) ⟨#[], args, []⟩).memory :=
 laidMetH_of_parts (laidMet_of_run' 8 (by kernel_rfl) (by kernel_rfl)) (by kernel_rfl)
set_option maxRecDepth 100000 in
theorem liftedInfoRoots (os : Os) (started : os.Started) (H : Type) (enc : TypeId × Value -> H) :
  ReturnsInHanded {} Tryz.checked os 4 .any (fun w args => (Rows.infoRootsSpec.pre enc Tryz.prog Tryz.f4 [] false w args /\ laidMetH Tryz.prog [("math/bits.deBruijn64tab", Rows.laid_math_bits_deBruijn64tab)] w) /\ sizedMet enc Tryz.prog Tryz.f4 (OpenSpec.ofChange Rows.infoRootsSpec) false w args)
   (Rows.infoRootsSpec.post enc Tryz.prog Tryz.f4 false true false false) := by
 refine returnsInHanded_of_change_and (C := Tryz.checked) (X := fun w _ => laidMetH Tryz.prog [("math/bits.deBruijn64tab", Rows.laid_math_bits_deBruijn64tab)] w) (fun _ _ _ hh h => h.of_heap hh) ownKz started (by kernel_rfl) Tryz.func4
  (ChangeSpec.witness_at (enc := enc) (C := Tryz.checked) (os := os) (X := fun w _ => laidMetH Tryz.prog [("math/bits.deBruijn64tab", Rows.laid_math_bits_deBruijn64tab)] w) false (laidWorld os) #[.slice none 0 0, .int .i64 0, .slice none 0 0, .agg #[.slice none 0 0, .int .u64 0, .int .u64 0]] 8 rfl (by kernel_rfl) (by kernel_rfl) (by kernel_rfl) (by kernel_rfl) (by kernel_rfl) (laidWorld_met os _)) ?_
 intro W base args ds gs before hval0 hW hcnd hsz hL _
 have hval : ∀ (j : Nat) t v, Tryz.f4.params[j]? = some t -> args[j]? = some v -> Value.okWide Tryz.prog W .any base t v := hval0
 have hW' := hW
 obtain ⟨p, q, hA0, hV, rfl, hfz, hnd⟩ := hW
 have hA : DataW.TrodAll enc Tryz.prog W 0 (fun _ => true) true Tryz.f4.params.toList args.toList ds p := hA0
 rw [Tryz.params4] at hA hval
 have hsz2 : (DataW.weightsEach Tryz.prog (Tryz.f4.params.toList ++ Rows.infoRootsSpec.plain.varTypes Tryz.prog) (ds ++ gs)).all (· <= reachBytes) = true := hsz
 rw [Tryz.params4] at hsz2
 obtain ⟨v0, vs0, d0, ds0, p0, q0, hargs, rfl, rfl, h0, r0⟩ := trodAll_cons hA
 obtain ⟨v1, vs1, d1, ds1, p1, q1, rfl, rfl, rfl, h1, r1⟩ := trodAll_cons r0
 obtain ⟨v2, vs2, d2, ds2, p2, q2, rfl, rfl, rfl, h2, r2⟩ := trodAll_cons r1
 obtain ⟨v3, vs3, d3, ds3, p3, q3, rfl, rfl, rfl, h3, r3⟩ := trodAll_cons r2
 obtain ⟨rfl, rfl, rfl⟩ := trodAll_nil r3
 obtain rfl : args = #[v0, v1, v2, v3] := by cases args; simp_all
 obtain ⟨rfl, rfl⟩ := trodVars_none hV
 have lt0 : ∀ x ∈ p0, x.block < W.heap.size := by obtain ⟨m, hm⟩ := h0; exact DataW.trod_lt m _ _ _ hm
 have lt2 : ∀ x ∈ p2, x.block < W.heap.size := by obtain ⟨m, hm⟩ := h2; exact DataW.trod_lt m _ _ _ hm
 have lt3 : ∀ x ∈ p3, x.block < W.heap.size := by obtain ⟨m, hm⟩ := h3; exact DataW.trod_lt m _ _ _ hm
 have g0 := h0
 have g2 := h2
 have g3 := h3
 clear hA0 hval0
 have c25 : Tryz.prog.cellsOf 25 = 1 := by kernel_rfl
 have b25 : Tryz.prog.bytesOf 25 = 8 := by kernel_rfl
 obtain ⟨sa0, sl0, sc0, rfl⟩ := okWide_slice Tryz.underlying22 (hval 0 22 v0 rfl rfl)
 obtain ⟨n0, hm0⟩ := h0
 obtain ⟨m0, rm0, lm0, wm0, -⟩ := open_roi Tryz.underlying22 Tryz.underlying25 c25 (okWide_cell Tryz.underlying22 (hval 0 22 _ rfl rfl)) hm0
 have sm0 : ∀ N, m0.length < N -> Small N m0.length := fun N hN => small_ofT b25 lm0 (fun els spare hd => sized_slice hsz2 (j := 0) rfl (by simpa using hd) Tryz.underlying22) hN
 obtain ⟨a1, rfl, rfl, rfl, wa1⟩ := open_int Tryz.underlying3 (hval 1 3 v1 rfl rfl) h1
 obtain ⟨sa2, sl2, sc2, rfl⟩ := okWide_slice Tryz.underlying22 (hval 2 22 v2 rfl rfl)
 obtain ⟨n2, hm2⟩ := h2
 obtain ⟨m2, rm2, lm2, wm2, -⟩ := open_roi Tryz.underlying22 Tryz.underlying25 c25 (okWide_cell Tryz.underlying22 (hval 2 22 _ rfl rfl)) hm2
 have sm2 : ∀ N, m2.length < N -> Small N m2.length := fun N hN => small_ofT b25 lm2 (fun els spare hd => sized_slice hsz2 (j := 2) rfl (by simpa using hd) Tryz.underlying22) hN
 obtain ⟨c20, c21, c22, y20, y21, y22, rfl, rfl, ⟨n20, t20⟩, ⟨n21, t21⟩, ⟨n22, t22⟩, o20, -, -⟩ := open_flat3 Tryz.underlying65 (by kernel_rfl) (by kernel_rfl) (by kernel_rfl) (hval 3 65 v3 rfl rfl) h3
 obtain ⟨z21, rfl, -⟩ := open_int1 Tryz.underlying25 t21
 obtain ⟨z22, rfl, -⟩ := open_int1 Tryz.underlying25 t22
 obtain ⟨h, rh, lh, -, ch⟩ := open_roi Tryz.underlying22 Tryz.underlying25 c25 o20 t20
 have sh : ∀ N, h.length < N -> Small N h.length := fun N hN => small_ofT b25 lh (fun els spare hd => sized_slice (sized_part hsz2 (j := 3) rfl rfl Tryz.underlying65) (j := 0) rfl (by simpa using hd) Tryz.underlying22) hN
 have hC := tQ14 (m0.length + m2.length + h.length + 1000) m0 a1 m2 h z21 z22 (law_InfoRoots (by omega) m0 a1 m2 h z21 z22 (sm0 _ (by omega)) (sm2 _ (by omega)) (sh _ (by omega)) (u64_to wm2) _)
 have hA : shFQ14.args [.ints m0, .int a1, .ints m2, .ints h, .int z21, .int z22] = [.roi .u64 m0, .int .i64 a1, .roi .u64 m2, .agg [.roi .u64 h, .int .u64 z21, .int .u64 z22]] := by kernel_rfl
 rw [hA] at hC
 refine (calls_of_okC (vs := [.slice sa0 sl0 sc0, .int .i64 a1, .slice sa2 sl2 sc2, .agg #[c20, .int .u64 z21, .int .u64 z22]]) hC (tab_met hL) fun ok hok => lists_cons (rm0 ok hok _) (lists_cons (.int _ _) (lists_cons (rm2 ok hok _) (lists_cons (rep_agg3 (rh ok hok _) (.int _ _) (.int _ _) ch rfl rfl) lists_nil)))).mono fun e W' ⟨he, bel⟩ => ?_
 subst he
 exact ⟨_, rfl, _, _, _, [], _, [], hW', trodAll_mk1 (shut_bool Tryz.underlying4 _), (trodAll_cons_mk (Below.trod laidOutKz (by kernel_rfl) (of_decide_eq_true (by kernel_rfl)) g0 bel lt0) (trodAll_cons_mk (shut_int Tryz.underlying3 wa1) (trodAll_cons_mk (Below.trod laidOutKz (by kernel_rfl) (of_decide_eq_true (by kernel_rfl)) g2 bel lt2) (trodAll_cons_mk (Below.trod laidOutKz (by kernel_rfl) (of_decide_eq_true (by kernel_rfl)) g3 bel lt3) trodAll_mk0)))), rfl, bel.frame _, fun h => by cases h⟩
theorem overInfoRoots : Rows.infoRootsRow.holds Tryz.pinned (OpenSpec.ofChange Rows.infoRootsSpec) :=
 OpenClaim.holds_of_wide 4 Tryz.f4 rfl rfl rfl rfl rfl rfl rfl ⟨rfl, rfl, rfl, rfl, rfl⟩ rfl rfl rfl rfl rfl (by kernel_rfl) Tryz.func4 (by kernel_rfl)
  (of_decide_eq_true (by kernel_rfl)) (by unfold Func.isWrapper; first | (rw [if_pos (by decide +kernel)]; kernel_rfl) | (rw [if_neg (by decide +kernel)]; exact ⟨rfl, rfl⟩))
  (fun os started H enc _ => liftedInfoRoots os started H enc)
theorem wantsInfoRoots : ∀ (j : Nat) t, Tryz.f4.params[j]? = some t -> Tryz.prog.wantsStandIn t = false := by
 intro j t ht
 rw [Tryz.params4] at ht
 have s3 : Tryz.prog.wantsStandIn 3 = false := by kernel_rfl
 have s22 : Tryz.prog.wantsStandIn 22 = false := by kernel_rfl
 have s65 : Tryz.prog.wantsStandIn 65 = false := by kernel_rfl
 cases j with
 | zero => simp at ht; subst ht; exact s22
 | succ j =>
  cases j with
  | zero => simp at ht; subst ht; exact s3
  | succ j =>
   cases j with
   | zero => simp at ht; subst ht; exact s22
   | succ j =>
    cases j with
    | zero => simp at ht; subst ht; exact s65
    | succ j =>
     simp at ht
theorem infoRootsProved : Rows.InfoRootsCardSaid :=
 Claim7.holds_tied_plain_at .later [] [.data] true (true, "0a8fc9934e4f92e992d438deff6816884ff11eace278157f304905b30582790c") true
  overInfoRoots (fun _ h => by cases h) (by kernel_rfl) (fun _ h => by cases h) infoRoots_row_tie rfl ⟨rfl, rfl⟩ (by kernel_rfl) rfl
  (fun f fn hf hfn => by
   obtain rfl : f = 4 := Option.some.inj ((show Tryz.prog.funcNamed "binnacle/binnaclelaw17.InfoRoots" = some 4 by kernel_rfl).symm.trans hf) |>.symm
   obtain rfl : fn = Tryz.f4 := (Option.some.inj (Tryz.func4.symm.trans hfn)).symm
   exact ⟨by kernel_rfl, wantsInfoRoots⟩)
  (by kernel_rfl)
#print axioms infoRootsProved
end Go.Proofs.YtjpaijnmiaoopaaGreatDoor
