/-
  RootUpdates holds of the given program: for every input the law answers true, and what came in reads as it read. No condition.
-/
import Derived.Test.YtoagmokejfcpbaaRows
import Derived.Test.YtoagmokejfcpbaaMachZ
import Derived.Test.YtoagmokejfcpbaaGg
import Derived.Test.YtoagmokejfcpbaaP7
namespace Go.Proofs.Ytoagmokejfcpbaa
open Go Go.Mach Go.Proofs
open Go.ChangeShapes Go.WideShapes Go.ChangeAt Go.RowKit
set_option linter.unusedVariables false

theorem ownK : ownKnob Try.prog.godebug = none := by kernel_rfl
theorem laidOutK : laidOutB Try.prog = true := by kernel_rfl
theorem bytes25 : Try.prog.bytesOf 25 = 8 := by kernel_rfl
theorem cells25 : Try.prog.cellsOf 25 = 1 := by kernel_rfl

theorem small_of {N : Nat} {zs : List Int} {H : Type} {d : DataW H} (h : zs = [] ∨ ∃ els spare : List (DataW H), d = .slice els spare ∧ els.length = zs.length)
    (hw : ∀ els spare : List (DataW H), d = .slice els spare → (els.length + spare.length) * Try.prog.bytesOf 25 ≤ reachBytes) (hN : zs.length < N) : Small N zs.length := by
  refine ⟨hN, ?_⟩
  rcases h with rfl | ⟨els, spare, hd, hl⟩
  · simp
  · have := hw els spare hd
    rw [bytes25] at this
    unfold reachBytes at this
    omega

theorem lists_rep3 {ok : Nat → Prop} {w : World} {ρ : Rho} {a b c : V} {x y z : Value} (h1 : Rep ok w ρ a x) (h2 : Rep ok w ρ b y) (h3 : Rep ok w ρ c z) : RepL ok w ρ [a, b, c] [x, y, z] := by
  refine ⟨rfl, fun i u v hu hv => ?_⟩
  match i with
  | 0 => simp at hu hv; subst hu; subst hv; exact h1
  | 1 => simp at hu hv; subst hu; subst hv; exact h2
  | 2 => simp at hu hv; subst hu; subst hv; exact h3
  | i + 3 => simp at hu
theorem rep_agg3 {ok : Nat → Prop} {w : World} {ρ : Rho} {a b c : V} {x y z : Value} (h1 : Rep ok w ρ a x) (h2 : Rep ok w ρ b y) (h3 : Rep ok w ρ c z) (e1 : x.oneCell' = true) (e2 : y.oneCell' = true) (e3 : z.oneCell' = true) : Rep ok w ρ (.agg [a, b, c]) (.agg #[x, y, z]) := by
  have := lists_rep3 h1 h2 h3
  refine .agg [a, b, c] [x, y, z] rfl (fun v hv => ?_) this.2
  simp at hv
  rcases hv with rfl | rfl | rfl <;> assumption

set_option maxRecDepth 100000 in
theorem liftedU (os : Os) (started : os.Started) (H : Type) (enc : TypeId × Value → H) :
    ReturnsInHanded {} Try.checked os 4 .any (Rows.rootUpdatesSpec.pre6 enc Try.prog Try.f4 Rows.rootUpdatesRow.domain false) (Rows.rootUpdatesSpec.post enc Try.prog Try.f4 false true false false) := by
  refine returnsInHanded_of_change_sized (C := Try.checked) ownK started (by kernel_rfl) Try.func4
    (ChangeSpec.witness6 (enc := enc) (C := Try.checked) false ⟨#[], #[.slice none 0 0, .agg #[.int .i64 0, .int .i64 0, .slice none 0 0], .agg #[.slice none 0 0, .int .u64 0, .int .u64 0]], []⟩ 8 (by kernel_rfl) (by kernel_rfl) (by kernel_rfl) (by kernel_rfl)) ?_
  intro W base args ds gs before hval0 hW hcnd hsz _
  have hval : ∀ (j : Nat) t v, Try.f4.params[j]? = some t → args[j]? = some v → Value.okWide Try.prog W .any base t v := hval0
  have hW' := hW
  obtain ⟨p, q, hA0, hV, rfl, hfz, hnd⟩ := hW
  have hA : DataW.TrodAll enc Try.prog W 0 (fun _ => true) true Try.f4.params.toList args.toList ds p := hA0
  rw [Try.params4] at hA hval
  have hsz' : (DataW.weightsEach Try.prog (Try.f4.params.toList ++ Rows.rootUpdatesSpec.plain.varTypes Try.prog) (ds ++ gs)).all (· ≤ reachBytes) = true := hsz
  rw [Try.params4] at hsz'
  obtain ⟨v0, vs0, d0, ds0, p0, q0, hargs, rfl, rfl, h0, r0⟩ := trodAll_cons hA
  obtain ⟨v1, vs1, d1, ds1, p1, q1, rfl, rfl, rfl, h1, r1⟩ := trodAll_cons r0
  obtain ⟨v2, vs2, d2, ds2, p2, q2, rfl, rfl, rfl, h2, r2⟩ := trodAll_cons r1
  obtain ⟨rfl, rfl, rfl⟩ := trodAll_nil r2
  obtain rfl : args = #[v0, v1, v2] := by cases args; simp_all
  obtain ⟨rfl, rfl⟩ := trodVars_none hV
  have lt0 : ∀ x ∈ p0, x.block < W.heap.size := by obtain ⟨m, hm⟩ := h0; exact DataW.trod_lt m _ _ _ hm
  have lt1 : ∀ x ∈ p1, x.block < W.heap.size := by obtain ⟨m, hm⟩ := h1; exact DataW.trod_lt m _ _ _ hm
  have lt2 : ∀ x ∈ p2, x.block < W.heap.size := by obtain ⟨m, hm⟩ := h2; exact DataW.trod_lt m _ _ _ hm
  have k0 := h0
  have k1 := h1
  have k2 := h2
  clear hA0 hval0
  -- the list
  obtain ⟨a0, l0, c0, rfl⟩ := okWide_slice Try.underlying22 (hval 0 22 v0 rfl rfl)
  obtain ⟨m0, hm0⟩ := h0
  obtain ⟨x, rx, lx, -, -⟩ := open_roi Try.underlying22 Try.underlying25 cells25 (okWide_cell Try.underlying22 (hval 0 22 _ rfl rfl)) hm0
  -- the matrix
  obtain ⟨c10, c11, c12, y10, y11, y12, rfl, rfl, ⟨n10, t10⟩, ⟨n11, t11⟩, ⟨n12, t12⟩, -, -, o12⟩ := open_flat3 Try.underlying24 (by kernel_rfl) (by kernel_rfl) (by kernel_rfl) (hval 1 24 v1 rfl rfl) h1
  obtain ⟨z10, rfl, -⟩ := open_int1 Try.underlying3 t10
  obtain ⟨z11, rfl, -⟩ := open_int1 Try.underlying3 t11
  obtain ⟨m, rm, lm, -, cm⟩ := open_roi Try.underlying22 Try.underlying25 cells25 o12 t12
  -- the row
  obtain ⟨c20, c21, c22, y20, y21, y22, rfl, rfl, ⟨n20, t20⟩, ⟨n21, t21⟩, ⟨n22, t22⟩, o20, -, -⟩ := open_flat3 Try.underlying46 (by kernel_rfl) (by kernel_rfl) (by kernel_rfl) (hval 2 46 v2 rfl rfl) h2
  obtain ⟨z21, rfl, -⟩ := open_int1 Try.underlying25 t21
  obtain ⟨z22, rfl, -⟩ := open_int1 Try.underlying25 t22
  obtain ⟨h, rh, lh, -, ch⟩ := open_roi Try.underlying22 Try.underlying25 cells25 o20 t20
  -- how long they are
  have sx : ∀ N, x.length < N → Small N x.length := fun N hN => small_of lx (fun els spare hd => sized_slice hsz' (j := 0) rfl (by simpa using hd) Try.underlying22) hN
  have sm : ∀ N, m.length < N → Small N m.length := fun N hN => small_of lm (fun els spare hd => sized_slice (sized_part hsz' (j := 1) rfl rfl Try.underlying24) (j := 2) rfl (by simpa using hd) Try.underlying22) hN
  have sh : ∀ N, h.length < N → Small N h.length := fun N hN => small_of lh (fun els spare hd => sized_slice (sized_part hsz' (j := 2) rfl rfl Try.underlying46) (j := 0) rfl (by simpa using hd) Try.underlying22) hN
  have hC := t_binnaclelaw16_RootUpdates (x.length + m.length + h.length + 25) x z10 z11 m h z21 z22 (law_RootUpdates x z10 z11 m h z21 z22 (by omega) (sx _ (by omega)) (sm _ (by omega)) (sh _ (by omega)) _)
  have hA : shF_binnaclelaw16_RootUpdates.args [.ints x, .int z10, .int z11, .ints m, .ints h, .int z21, .int z22] = [.roi .u64 x, .agg [.int .i64 z10, .int .i64 z11, .roi .u64 m], .agg [.roi .u64 h, .int .u64 z21, .int .u64 z22]] := by kernel_rfl
  rw [hA] at hC
  refine (calls_of_okC (vs := [.slice a0 l0 c0, .agg #[.int .i64 z10, .int .i64 z11, c12], .agg #[c20, .int .u64 z21, .int .u64 z22]]) hC fun ok hok => lists_rep3 (rx ok hok _) (rep_agg3 (.int _ _) (.int _ _) (rm ok hok _) rfl rfl cm) (rep_agg3 (rh ok hok _) (.int _ _) (.int _ _) ch rfl rfl)).mono fun e W' ⟨he, bel⟩ => ?_
  subst he
  exact ⟨_, rfl, _, _, _, [], _, [], hW', trodAll_mk1 (shut_bool Try.underlying4 _), (trodAll_cons_mk (Below.trod laidOutK (by kernel_rfl) (of_decide_eq_true (by kernel_rfl)) k0 bel lt0) (trodAll_cons_mk (Below.trod laidOutK (by kernel_rfl) (of_decide_eq_true (by kernel_rfl)) k1 bel lt1) (trodAll_cons_mk (Below.trod laidOutK (by kernel_rfl) (of_decide_eq_true (by kernel_rfl)) k2 bel lt2) trodAll_mk0))), rfl, bel.frame _, fun h => by cases h⟩

theorem overU : Rows.rootUpdatesRow.holds Try.pinned (OpenSpec.ofChange Rows.rootUpdatesSpec) :=
  OpenClaim.holds_of_wide 4 Try.f4 rfl rfl rfl rfl rfl rfl rfl ⟨rfl, rfl, rfl, rfl, rfl⟩ rfl rfl rfl rfl rfl (by kernel_rfl) Try.func4 (by kernel_rfl)
    (of_decide_eq_true (by kernel_rfl)) (by unfold Func.isWrapper; first | (rw [if_pos (by decide +kernel)]; kernel_rfl) | (rw [if_neg (by decide +kernel)]; exact ⟨rfl, rfl⟩))
    (fun os started H enc _ => liftedU os started H enc)

/-- THE STATEMENT -/
theorem rootUpdatesProved : Rows.RootUpdatesSaid := overU
#print axioms rootUpdatesProved
end Go.Proofs.Ytoagmokejfcpbaa
