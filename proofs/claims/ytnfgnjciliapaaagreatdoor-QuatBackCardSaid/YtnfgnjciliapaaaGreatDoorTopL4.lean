/-
  THE FRAME of the laws on quaternions: the table that the program reads; arguments of three and of four words.
  Conditions: none.
-/
import Derived.Test.YtnfgnjciliapaaaGreatDoorRows
import Derived.Test.YtnfgnjciliapaaaGreatDoorCards
import Derived.Test.YtnfgnjciliapaaaGreatDoorTie
import Derived.Test.YtnfgnjciliapaaaGreatDoorMachP
import Derived.Laws.IdiomArrays
import Derived.Lib.LaidTab
import Derived.LaidHandle
import Derived.SevenTiedAt
import Derived.Stop.Joined
import Derived.Test.YtnfgnjciliapaaaGreatDoorGx
import Derived.Test.YtnfgnjciliapaaaGreatDoorZ1
section
namespace Go.Proofs.YtnfgnjciliapaaaGreatDoor
open Go Go.Mach Go.Proofs
open Go.ChangeShapes Go.WideShapes Go.ChangeAt Go.RowKit
set_option linter.unusedVariables false
set_option maxRecDepth 100000
theorem ownKz : ownKnob Tryz.prog.godebug = none := by kernel_rfl
theorem laidOutKz : laidOutB Tryz.prog = true := by kernel_rfl
theorem lists_nil {ok : Nat -> Prop} {w : World} {ρ : Rho} : RepL ok w ρ [] [] := ⟨rfl, fun i u v hu _ => by simp at hu⟩
theorem lists_cons {ok : Nat -> Prop} {w : World} {ρ : Rho} {a : V} {x : Value} {us : List V} {xs : List Value} (h1 : Rep ok w ρ a x) (h2 : RepL ok w ρ us xs) : RepL ok w ρ (a :: us) (x :: xs) := by
 refine ⟨by simp [h2.1], fun i u v hu hv => ?_⟩
 cases i with
 | zero => simp at hu hv; subst hu; subst hv; exact h1
 | succ i => exact h2.2 i u v (by simpa using hu) (by simpa using hv)
theorem rep_agg {ok : Nat -> Prop} {w : World} {ρ : Rho} {us : List V} {xs : List Value} (h : RepL ok w ρ us xs) (ho : xs.all (·.oneCell') = true) : Rep ok w ρ (.agg us) (.agg xs.toArray) :=
 .agg us xs h.1 (fun v hv => List.all_eq_true.1 ho v hv) h.2
theorem rep3 {ok : Nat -> Prop} {w : World} {ρ : Rho} (k : IntKind) (a b c : Int) : Rep ok w ρ (.agg [.int k a, .int k b, .int k c]) (.agg #[.int k a, .int k b, .int k c]) :=
 rep_agg (xs := [.int k a, .int k b, .int k c]) (lists_cons (.int _ _) (lists_cons (.int _ _) (lists_cons (.int _ _) lists_nil))) rfl
theorem rep4 {ok : Nat -> Prop} {w : World} {ρ : Rho} (k : IntKind) (a b c d : Int) : Rep ok w ρ (.agg [.int k a, .int k b, .int k c, .int k d]) (.agg #[.int k a, .int k b, .int k c, .int k d]) :=
 rep_agg (xs := [.int k a, .int k b, .int k c, .int k d]) (lists_cons (.int _ _) (lists_cons (.int _ _) (lists_cons (.int _ _) (lists_cons (.int _ _) lists_nil)))) rfl
theorem open_three {H : Type} {enc : TypeId × Value -> H} {P : Program} {w : World} {sp : Nat -> Bool} {held : Bool} {r : Reach} {b0 base : Nat} {t e : TypeId} {k : IntKind} {v : Value} {d : DataW H} {ps : List MemPlace}
  (ht : P.underlying t = some (.array 3 e)) (he : P.underlying e = some (.int k)) (hce : P.cellsOf e = 1) (hct : P.cellsOf t = 3) (hval : Value.okWide P w r b0 t v) (hd : DataW.Trod enc P w base sp held t v d ps) :
  ∃ x y z, v = .agg #[.int k x, .int k y, .int k z] /\ (Lit.int k x).wf = true /\ (Lit.int k y).wf = true /\ (Lit.int k z).wf = true := by
 simp only [Value.okWide, ht] at hval
 obtain ⟨cs, rfl, h2, -⟩ := hval
 rw [hct] at h2
 obtain ⟨fuel, hf⟩ := hd
 have hcells : (Value.cells (.agg cs)) = cs := rfl
 rw [hcells] at hf
 obtain ⟨l⟩ := cs
 match l, h2 with
 | [c0, c1, c2], _ =>
  obtain ⟨y0, y1, y2, n, -, t0, t1, t2⟩ := trod_array3 ht hce hf
  obtain ⟨x, rfl, wx⟩ := open_int1 he t0
  obtain ⟨y, rfl, wy⟩ := open_int1 he t1
  obtain ⟨z, rfl, wz⟩ := open_int1 he t2
  exact ⟨x, y, z, rfl, wx, wy, wz⟩
theorem open_four {H : Type} {enc : TypeId × Value -> H} {P : Program} {w : World} {sp : Nat -> Bool} {held : Bool} {r : Reach} {b0 base : Nat} {t e : TypeId} {k : IntKind} {v : Value} {d : DataW H} {ps : List MemPlace}
  (ht : P.underlying t = some (.array 4 e)) (he : P.underlying e = some (.int k)) (hce : P.cellsOf e = 1) (hct : P.cellsOf t = 4) (hval : Value.okWide P w r b0 t v) (hd : DataW.Trod enc P w base sp held t v d ps) :
  ∃ x y z u, v = .agg #[.int k x, .int k y, .int k z, .int k u] /\ (Lit.int k x).wf = true /\ (Lit.int k y).wf = true /\ (Lit.int k z).wf = true /\ (Lit.int k u).wf = true := by
 simp only [Value.okWide, ht] at hval
 obtain ⟨cs, rfl, h2, -⟩ := hval
 rw [hct] at h2
 obtain ⟨fuel, hf⟩ := hd
 have hcells : (Value.cells (.agg cs)) = cs := rfl
 rw [hcells] at hf
 obtain ⟨l⟩ := cs
 match l, h2 with
 | [c0, c1, c2, c3], _ =>
  obtain ⟨y0, y1, y2, y3, n, -, t0, t1, t2, t3⟩ := trod_array4 ht hce hf
  obtain ⟨x, rfl, wx⟩ := open_int1 he t0
  obtain ⟨y, rfl, wy⟩ := open_int1 he t1
  obtain ⟨z, rfl, wz⟩ := open_int1 he t2
  obtain ⟨u, rfl, wu⟩ := open_int1 he t3
  exact ⟨x, y, z, u, rfl, wx, wy, wz, wu⟩
theorem word_of {z : Int} (h : (Lit.int .u64 z).wf = true) : z.toNat < 18446744073709551616 := by
 have := bounds_u64 h
 omega
theorem tabNamed : Tryz.prog.globalNamed "math/bits.deBruijn64tab" = some 1 := by kernel_rfl
theorem laid_eq : (Rows.laid_math_bits_deBruijn64tab : DataW Unit) = Lib.tabData .u8 tab64 := by kernel_rfl
theorem tab_met {W : World} (h : laidMetH Tryz.prog [("math/bits.deBruijn64tab", Rows.laid_math_bits_deBruijn64tab)] W) : ∀ b zs, tabT b = some zs -> TabAt W b zs := by
 have h' : laidMet Tryz.prog [("math/bits.deBruijn64tab", Rows.laid_math_bits_deBruijn64tab)] W := h
 rw [laid_eq] at h'
 have ht := Lib.tabIs_of_head (e := 5) (t := 217) (n := 64) tabNamed (by kernel_rfl) (by kernel_rfl) (by kernel_rfl) (by kernel_rfl) (by kernel_rfl) h'
 have hc := fun i hi => ht.cell tabNamed i hi
 have hsz : 1 < W.heap.size := by
  have h0 := hc 0 (by decide)
  unfold World.cell? at h0
  rcases Nat.lt_or_ge 1 W.heap.size with h | h
  ·exact h
  ·rw [Array.getElem?_eq_none h] at h0; cases h0
 intro b zs e
 unfold tabT at e
 split at e
 ·cases e
  exact ⟨hsz, hc⟩
 ·cases e
noncomputable def laidWorld (os : Os) : World :=
 let w0 := World.holding Tryz.prog os ⟨#[], #[], []⟩
 { w0 with heap := w0.heap.modify 1 fun
   | .cells _ t frozen => .cells (tab64.map fun z => Value.int .u8 z).toArray t frozen
   | o => o }
theorem laidWorld_met (os : Os) (args : Array Value) : laidMetH Tryz.prog [("math/bits.deBruijn64tab", Rows.laid_math_bits_deBruijn64tab)] ((laidWorld os).forCall (fun _ _ => 0) ⟨#[], args, []⟩).memory :=
 laidMetH_of_parts (laidMet_of_run' 8 (by kernel_rfl) (by kernel_rfl)) (by kernel_rfl)
end Go.Proofs.YtnfgnjciliapaaaGreatDoor
end
section
namespace Go.Proofs.YtnfgnjciliapaaaGreatDoor
open Go Go.Mach Go.Proofs
open Go.ChangeShapes Go.WideShapes Go.ChangeAt Go.RowKit
set_option linter.unusedVariables false
set_option maxRecDepth 100000 in
theorem liftedQuatBack (os : Os) (started : os.Started) (H : Type) (enc : TypeId × Value -> H) :
  ReturnsInHanded {} Tryz.checked os 6 .any (fun w args => (Rows.quatBackSpec.pre enc Tryz.prog Tryz.f6 [] false w args /\ laidMetH Tryz.prog [("math/bits.deBruijn64tab", Rows.laid_math_bits_deBruijn64tab)] w) /\ sizedMet enc Tryz.prog Tryz.f6 (OpenSpec.ofChange Rows.quatBackSpec) false w args)
   (Rows.quatBackSpec.post enc Tryz.prog Tryz.f6 false true false false) := by
 refine returnsInHanded_of_change_and (C := Tryz.checked) (X := fun w _ => laidMetH Tryz.prog [("math/bits.deBruijn64tab", Rows.laid_math_bits_deBruijn64tab)] w) (fun _ _ _ hh h => h.of_heap hh) ownKz started (by kernel_rfl) Tryz.func6
  (ChangeSpec.witness_at (enc := enc) (C := Tryz.checked) (os := os) (X := fun w _ => laidMetH Tryz.prog [("math/bits.deBruijn64tab", Rows.laid_math_bits_deBruijn64tab)] w) false (laidWorld os) #[.agg #[.int .u64 0, .int .u64 0, .int .u64 0, .int .u64 0], .agg #[.int .u64 0, .int .u64 0, .int .u64 0]] 8 rfl (by kernel_rfl) (by kernel_rfl) (by kernel_rfl) (by kernel_rfl) (by kernel_rfl) (laidWorld_met os _)) ?_
 intro W base args ds gs before hval0 hW hcnd hsz hL _
 have hval : ∀ (j : Nat) t v, Tryz.f6.params[j]? = some t -> args[j]? = some v -> Value.okWide Tryz.prog W .any base t v := hval0
 have hW' := hW
 obtain ⟨p, q, hA0, hV, rfl, hfz, hnd⟩ := hW
 have hA : DataW.TrodAll enc Tryz.prog W 0 (fun _ => true) true Tryz.f6.params.toList args.toList ds p := hA0
 rw [Tryz.params6] at hA hval
 obtain ⟨v0, vs0, d0, ds0, p0, q0, hargs, rfl, rfl, h0, r0⟩ := trodAll_cons hA
 obtain ⟨v1, vs1, d1, ds1, p1, q1, rfl, rfl, rfl, h1, r1⟩ := trodAll_cons r0
 obtain ⟨rfl, rfl, rfl⟩ := trodAll_nil r1
 obtain rfl : args = #[v0, v1] := by cases args; simp_all
 obtain ⟨rfl, rfl⟩ := trodVars_none hV
 have lt0 : ∀ x ∈ p0, x.block < W.heap.size := by obtain ⟨m, hm⟩ := h0; exact DataW.trod_lt m _ _ _ hm
 have lt1 : ∀ x ∈ p1, x.block < W.heap.size := by obtain ⟨m, hm⟩ := h1; exact DataW.trod_lt m _ _ _ hm
 clear hA0 hval0
 have c24 : Tryz.prog.cellsOf 24 = 4 := by kernel_rfl
 have c26 : Tryz.prog.cellsOf 26 = 3 := by kernel_rfl
 have c22 : Tryz.prog.cellsOf 22 = 1 := by kernel_rfl
 obtain ⟨a0_0, a0_1, a0_2, a0_3, rfl, wa0_0, wa0_1, wa0_2, wa0_3⟩ := open_four Tryz.underlying24 Tryz.underlying22 c22 c24 (hval 0 24 v0 rfl rfl) h0
 obtain ⟨a1_0, a1_1, a1_2, rfl, wa1_0, wa1_1, wa1_2⟩ := open_three Tryz.underlying26 Tryz.underlying22 c22 c26 (hval 1 26 v1 rfl rfl) h1
 have hC := tZ46 (1000) a0_0 a0_1 a0_2 a0_3 a1_0 a1_1 a1_2 (law_QuatBack (by omega) (word_of wa0_0) (word_of wa0_1) (word_of wa0_2) (word_of wa0_3) (word_of wa1_0) (word_of wa1_1) (word_of wa1_2) _)
 have hA : shFZ46.args [.int a0_0, .int a0_1, .int a0_2, .int a0_3, .int a1_0, .int a1_1, .int a1_2] = [.agg [.int .u64 a0_0, .int .u64 a0_1, .int .u64 a0_2, .int .u64 a0_3], .agg [.int .u64 a1_0, .int .u64 a1_1, .int .u64 a1_2]] := by kernel_rfl
 rw [hA] at hC
 refine (calls_of_okC (vs := [.agg #[.int .u64 a0_0, .int .u64 a0_1, .int .u64 a0_2, .int .u64 a0_3], .agg #[.int .u64 a1_0, .int .u64 a1_1, .int .u64 a1_2]]) hC (tab_met hL) fun ok hok => lists_cons (rep4 _ _ _ _ _) (lists_cons (rep3 _ _ _ _) lists_nil)).mono fun e W' ⟨he, bel⟩ => ?_
 subst he
 exact ⟨_, rfl, _, _, _, [], _, [], hW', trodAll_mk1 (shut_bool Tryz.underlying4 _), (trodAll_cons_mk (Below.trod laidOutKz (by kernel_rfl) (of_decide_eq_true (by kernel_rfl)) h0 bel lt0) (trodAll_cons_mk (Below.trod laidOutKz (by kernel_rfl) (of_decide_eq_true (by kernel_rfl)) h1 bel lt1) trodAll_mk0)), rfl, bel.frame _, fun h => by cases h⟩
theorem overQuatBack : Rows.quatBackRow.holds Tryz.pinned (OpenSpec.ofChange Rows.quatBackSpec) :=
 OpenClaim.holds_of_wide 6 Tryz.f6 rfl rfl rfl rfl rfl rfl rfl ⟨rfl, rfl, rfl, rfl, rfl⟩ rfl rfl rfl rfl rfl (by kernel_rfl) Tryz.func6 (by kernel_rfl)
  (of_decide_eq_true (by kernel_rfl)) (by unfold Func.isWrapper; first | (rw [if_pos (by decide +kernel)]; kernel_rfl) | (rw [if_neg (by decide +kernel)]; exact ⟨rfl, rfl⟩))
  (fun os started H enc _ => liftedQuatBack os started H enc)
theorem wantsQuatBack : ∀ (j : Nat) t, Tryz.f6.params[j]? = some t -> Tryz.prog.wantsStandIn t = false := by
 intro j t ht
 rw [Tryz.params6] at ht
 have s24 : Tryz.prog.wantsStandIn 24 = false := by kernel_rfl
 have s26 : Tryz.prog.wantsStandIn 26 = false := by kernel_rfl
 cases j with
 | zero => simp at ht; subst ht; exact s24
 | succ j =>
  cases j with
  | zero => simp at ht; subst ht; exact s26
  | succ j =>
   simp at ht
theorem quatBackProved : Rows.QuatBackCardSaid :=
 Claim7.holds_tied_plain_at .later [] [.data] true (true, "2ac09f5fad80a0833add6d076231e7efe57b343c1868c14a8dbdd9cb10592176") false
  overQuatBack (fun _ h => by cases h) (by kernel_rfl) (fun _ h => by cases h) quatBack_row_tie rfl ⟨rfl, rfl⟩ (by kernel_rfl) rfl
  (fun f fn hf hfn => by
   obtain rfl : f = 6 := Option.some.inj ((show Tryz.prog.funcNamed "binnacle/binnaclelaw12.QuatBack" = some 6 by kernel_rfl).symm.trans hf) |>.symm
   obtain rfl : fn = Tryz.f6 := (Option.some.inj (Tryz.func6.symm.trans hfn)).symm
   exact ⟨by kernel_rfl, wantsQuatBack⟩)
  (by kernel_rfl)
#print axioms quatBackProved
end Go.Proofs.YtnfgnjciliapaaaGreatDoor
end
