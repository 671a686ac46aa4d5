/-
  RootBlind holds of the given program: for every input the law answers true, and what came in reads as it read. No condition.
-/
import Derived.Test.YtoagmokejfcpbaaTopL
import Derived.Test.YtoagmokejfcpbaaGg
import Derived.Test.YtoagmokejfcpbaaP8
namespace Go.Proofs.Ytoagmokejfcpbaa
open Go Go.Mach Go.Proofs
open Go.ChangeShapes Go.WideShapes Go.ChangeAt Go.RowKit
set_option linter.unusedVariables false

set_option maxRecDepth 100000 in
theorem liftedB (os : Os) (started : os.Started) (H : Type) (enc : TypeId × Value → H) :
    ReturnsInHanded {} Try.checked os 3 .any (Rows.rootBlindSpec.pre6 enc Try.prog Try.f3 Rows.rootBlindRow.domain false) (Rows.rootBlindSpec.post enc Try.prog Try.f3 false true false false) := by
  refine returnsInHanded_of_change_sized (C := Try.checked) ownK started (by kernel_rfl) Try.func3
    (ChangeSpec.witness6 (enc := enc) (C := Try.checked) false ⟨#[], #[.slice none 0 0, .agg #[.int .i64 0, .int .i64 0, .slice none 0 0], .int .u64 0, .int .u64 0], []⟩ 8 (by kernel_rfl) (by kernel_rfl) (by kernel_rfl) (by kernel_rfl)) ?_
  intro W base args ds gs before hval0 hW hcnd hsz _
  have hval : ∀ (j : Nat) t v, Try.f3.params[j]? = some t → args[j]? = some v → Value.okWide Try.prog W .any base t v := hval0
  have hW' := hW
  obtain ⟨p, q, hA0, hV, rfl, hfz, hnd⟩ := hW
  have hA : DataW.TrodAll enc Try.prog W 0 (fun _ => true) true Try.f3.params.toList args.toList ds p := hA0
  rw [Try.params3] at hA hval
  have hsz' : (DataW.weightsEach Try.prog (Try.f3.params.toList ++ Rows.rootBlindSpec.plain.varTypes Try.prog) (ds ++ gs)).all (· ≤ reachBytes) = true := hsz
  rw [Try.params3] at hsz'
  obtain ⟨v0, vs0, d0, ds0, p0, q0, hargs, rfl, rfl, h0, r0⟩ := trodAll_cons hA
  obtain ⟨v1, vs1, d1, ds1, p1, q1, rfl, rfl, rfl, h1, r1⟩ := trodAll_cons r0
  obtain ⟨v2, vs2, d2, ds2, p2, q2, rfl, rfl, rfl, h2, r2⟩ := trodAll_cons r1
  obtain ⟨v3, vs3, d3, ds3, p3, q3, rfl, rfl, rfl, h3, r3⟩ := trodAll_cons r2
  obtain ⟨rfl, rfl, rfl⟩ := trodAll_nil r3
  obtain rfl : args = #[v0, v1, v2, v3] := by cases args; simp_all
  obtain ⟨rfl, rfl⟩ := trodVars_none hV
  have lt0 : ∀ x ∈ p0, x.block < W.heap.size := by obtain ⟨m, hm⟩ := h0; exact DataW.trod_lt m _ _ _ hm
  have lt1 : ∀ x ∈ p1, x.block < W.heap.size := by obtain ⟨m, hm⟩ := h1; exact DataW.trod_lt m _ _ _ hm
  have k0 := h0
  have k1 := h1
  clear hA0 hval0
  -- the list
  obtain ⟨a0, l0, c0, rfl⟩ := okWide_slice Try.underlying22 (hval 0 22 v0 rfl rfl)
  obtain ⟨m0, hm0⟩ := h0
  have c25 : Try.prog.cellsOf 25 = 1 := by kernel_rfl
  have b25 : Try.prog.bytesOf 25 = 8 := by kernel_rfl
  obtain ⟨x, rx, lx, wx, -⟩ := open_roi Try.underlying22 Try.underlying25 c25 (okWide_cell Try.underlying22 (hval 0 22 _ rfl rfl)) hm0
  -- the matrix
  obtain ⟨c10, c11, c12, y10, y11, y12, rfl, rfl, ⟨n10, t10⟩, ⟨n11, t11⟩, ⟨n12, t12⟩, -, -, o12⟩ := open_flat3 Try.underlying24 (by kernel_rfl) (by kernel_rfl) (by kernel_rfl) (hval 1 24 v1 rfl rfl) h1
  obtain ⟨z10, rfl, -⟩ := open_int1 Try.underlying3 t10
  obtain ⟨z11, rfl, -⟩ := open_int1 Try.underlying3 t11
  obtain ⟨m, rm, lm, wm, cm⟩ := open_roi Try.underlying22 Try.underlying25 c25 o12 t12
  -- the two words
  obtain ⟨z2, rfl, rfl, rfl, w2⟩ := open_int Try.underlying25 (hval 2 25 v2 rfl rfl) h2
  obtain ⟨z3, rfl, rfl, rfl, w3⟩ := open_int Try.underlying25 (hval 3 25 v3 rfl rfl) h3
  -- how long they are
  have sx : ∀ N, x.length < N → Small N x.length := fun N hN => small_of b25 lx (fun els spare hd => sized_slice hsz' (j := 0) rfl (by simpa using hd) Try.underlying22) hN
  have sm : ∀ N, m.length < N → Small N m.length := fun N hN => small_of b25 lm (fun els spare hd => sized_slice (sized_part hsz' (j := 1) rfl rfl Try.underlying24) (j := 2) rfl (by simpa using hd) Try.underlying22) hN
  have hC := t_binnaclelaw16_RootBlind (x.length + m.length + 201) x z10 z11 m z2 z3 (law_RootBlind x z10 z11 m z2 z3 (by omega) (sx _ (by omega)) (sm _ (by omega)) (u64_of wx) (u64_of wm) (bounds_u64 w2) (bounds_u64 w3) _)
  have hA : shF_binnaclelaw16_RootBlind.args [.ints x, .int z10, .int z11, .ints m, .int z2, .int z3] = [.roi .u64 x, .agg [.int .i64 z10, .int .i64 z11, .roi .u64 m], .int .u64 z2, .int .u64 z3] := by kernel_rfl
  rw [hA] at hC
  refine (calls_of_okC (vs := [.slice a0 l0 c0, .agg #[.int .i64 z10, .int .i64 z11, c12], .int .u64 z2, .int .u64 z3]) hC fun ok hok => lists_cons (rx ok hok _) (lists_cons (rep_agg (xs := [.int .i64 z10, .int .i64 z11, c12]) (lists_cons (.int _ _) (lists_cons (.int _ _) (lists_cons (rm ok hok _) lists_nil))) (by rw [List.all_cons, List.all_cons, List.all_cons, cm]; rfl)) (lists_cons (.int _ _) (lists_cons (.int _ _) lists_nil)))).mono fun e W' ⟨he, bel⟩ => ?_
  subst he
  exact ⟨_, rfl, _, _, _, [], _, [], hW', trodAll_mk1 (shut_bool Try.underlying4 _), (trodAll_cons_mk (Below.trod laidOutK (by kernel_rfl) (of_decide_eq_true (by kernel_rfl)) k0 bel lt0) (trodAll_cons_mk (Below.trod laidOutK (by kernel_rfl) (of_decide_eq_true (by kernel_rfl)) k1 bel lt1) (trodAll_cons_mk (shut_int Try.underlying25 w2) (trodAll_cons_mk (shut_int Try.underlying25 w3) trodAll_mk0)))), rfl, bel.frame _, fun h => by cases h⟩

theorem overB : Rows.rootBlindRow.holds Try.pinned (OpenSpec.ofChange Rows.rootBlindSpec) :=
  OpenClaim.holds_of_wide 3 Try.f3 rfl rfl rfl rfl rfl rfl rfl ⟨rfl, rfl, rfl, rfl, rfl⟩ rfl rfl rfl rfl rfl (by kernel_rfl) Try.func3 (by kernel_rfl)
    (of_decide_eq_true (by kernel_rfl)) (by unfold Func.isWrapper; first | (rw [if_pos (by decide +kernel)]; kernel_rfl) | (rw [if_neg (by decide +kernel)]; exact ⟨rfl, rfl⟩))
    (fun os started H enc _ => liftedB os started H enc)

/-- THE STATEMENT -/
theorem rootBlindProved : Rows.RootBlindSaid := overB
#print axioms rootBlindProved
end Go.Proofs.Ytoagmokejfcpbaa
