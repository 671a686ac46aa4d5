/-
  RootRows holds of the given program where what it reads is of bulk at most 1048576: for every such input the law answers true, and what came in reads as it read. No other condition.
-/
import Derived.Test.YtgngdkjghdohiaaRows
import Derived.Test.YtgngdkjghdohiaaMachT
import Derived.Test.YtgngdkjghdohiaaGx
import Derived.Test.YtgngdkjghdohiaaL1
import Derived.JoinedCond
import Derived.Deep.CondSized
namespace Go.Proofs.Ytgngdkjghdohiaa
open Go Go.Mach Go.Proofs
open Go.ChangeShapes Go.WideShapes Go.ChangeAt Go.RowKit
set_option linter.unusedVariables false

theorem ownK : ownKnob Try.prog.godebug = none := by kernel_rfl
theorem laidOutK : laidOutB Try.prog = true := by kernel_rfl

mutual
theorem bulk_meas {H : Type} : ∀ d : DataW H, dmeas d <= Rows.uptoBulk d
  | .lit l => by cases l <;> simp [dmeas, Rows.uptoBulk]
  | .nil => by simp [dmeas, Rows.uptoBulk]
  | .ptr d => by have := bulk_meas d; simp only [dmeas, Rows.uptoBulk]; omega
  | .slice a b => by have := bulk_measAll a; have := bulk_measAll b; simp only [dmeas, Rows.uptoBulk]; omega
  | .agg a => by have := bulk_measAll a; simp only [dmeas, Rows.uptoBulk]; omega
  | .iface _ d => by have := bulk_meas d; simp only [dmeas, Rows.uptoBulk]; omega
  | .map _ => by simp [dmeas, Rows.uptoBulk]
  | .held _ => by simp [dmeas, Rows.uptoBulk]
theorem bulk_measAll {H : Type} : ∀ l : List (DataW H), dmeasAll l <= Rows.uptoBulkAll l
  | [] => by simp [dmeasAll, Rows.uptoBulkAll]
  | d :: r => by have := bulk_meas d; have := bulk_measAll r; simp only [dmeasAll, Rows.uptoBulkAll]; omega
end
theorem rowsH_meas (w : List RY0) : w.length + (rowsH w).length <= (w.map RT0.meas).sum := by
  induction w with
  | nil => simp [rowsH]
  | cons q r ih =>
    have e : rowsH (q :: r) = of64 q.1 ++ rowsH r := by simp [rowsH]
    have e2 : RT0.meas q = (q.1.length + 1) + (1 + 1) := rfl
    rw [e, List.length_append, of64_length, List.length_cons, List.map_cons, List.sum_cons, e2]; omega
theorem rowsH_mem {w : List RY0} {q : RY0} (h : q ∈ w) : q.1.length <= (rowsH w).length := by
  induction w with
  | nil => cases h
  | cons a r ih =>
    have e : rowsH (a :: r) = of64 a.1 ++ rowsH r := by simp [rowsH]
    rw [e, List.length_append, of64_length]
    rcases List.mem_cons.1 h with rfl | h
    · omega
    · have := ih h; omega

set_option maxRecDepth 100000 in
theorem liftedW (os : Os) (started : os.Started) (H : Type) (enc : TypeId × Value -> H) (F : Stop.Interp) :
    ReturnsInHanded {} Try.checked os 3 .any ((Rows.OpenSpec.upto Rows.rootRowsSpec).pre6 enc Try.prog Try.f3 Rows.rootRowsUptoRow.domain false) (((Rows.OpenSpec.upto Rows.rootRowsSpec).at F).post enc Try.prog Try.f3 false true false false) := by
  refine returnsInHanded_of_cond_sized (C := Try.checked) (s := Rows.OpenSpec.upto Rows.rootRowsSpec) (k := Rows.uptoSmall) rfl ownK started (by kernel_rfl) Try.func3
    (OpenSpec.witness (enc := enc) (C := Try.checked) (s := Rows.OpenSpec.upto Rows.rootRowsSpec) (k := Rows.uptoSmall) rfl false ⟨#[], #[.slice none 0 0, .agg #[.int .i64 0, .int .i64 0, .slice none 0 0], .slice none 0 0, .int .i64 0, .int .i64 0], []⟩ 8 (by kernel_rfl) (by kernel_rfl) (by kernel_rfl)
      (x := ([.nil, .agg [.lit (.int .i64 0), .lit (.int .i64 0), .nil], .nil, .lit (.int .i64 0), .lit (.int .i64 0)], [], [])) (by kernel_rfl) rfl (by kernel_rfl)) ?_
  intro W base args ds gs before hval0 hW _ hk hsz _
  have hval : ∀ (j : Nat) t v, Try.f3.params[j]? = some t -> args[j]? = some v -> Value.okWide Try.prog W .any base t v := hval0
  have hW' := hW
  obtain ⟨p, q, hA0, hV, rfl, hfz, hnd⟩ := hW
  have hA : DataW.TrodAll enc Try.prog W 0 (fun _ => true) true Try.f3.params.toList args.toList ds p := hA0
  rw [Try.params3] at hA hval
  have hsz' : (DataW.weightsEach Try.prog (Try.f3.params.toList ++ Rows.rootRowsSpec.plain.varTypes Try.prog) (ds ++ gs)).all (· <= reachBytes) = true := hsz
  rw [Try.params3] at hsz'
  obtain ⟨v0, vs0, d0, ds0, p0, q0, hargs, rfl, rfl, h0, r0⟩ := trodAll_cons hA
  obtain ⟨v1, vs1, d1, ds1, p1, q1, rfl, rfl, rfl, h1, r1⟩ := trodAll_cons r0
  obtain ⟨v2, vs2, d2, ds2, p2, q2, rfl, rfl, rfl, h2, r2⟩ := trodAll_cons r1
  obtain ⟨v3, vs3, d3, ds3, p3, q3, rfl, rfl, rfl, h3, r3⟩ := trodAll_cons r2
  obtain ⟨v4, vs4, d4, ds4, p4, q4, rfl, rfl, rfl, h4, r4⟩ := trodAll_cons r3
  obtain ⟨rfl, rfl, rfl⟩ := trodAll_nil r4
  obtain rfl : args = #[v0, v1, v2, v3, v4] := by cases args; simp_all
  obtain ⟨rfl, rfl⟩ := trodVars_none hV
  have hb : dmeas d0 + (dmeas d1 + (dmeas d2 + (dmeas d3 + (dmeas d4 + 0)))) <= 1048576 := by
    have h := of_decide_eq_true hk
    have h2 := bulk_measAll ([d0, d1, d2, d3, d4] ++ [])
    simp only [List.append_nil, dmeasAll] at h2
    simp only [List.append_nil] at h
    exact Nat.le_trans h2 h
  have lt0 : ∀ x ∈ p0, x.block < W.heap.size := by obtain ⟨m, hm⟩ := h0; exact DataW.trod_lt m _ _ _ hm
  have lt1 : ∀ x ∈ p1, x.block < W.heap.size := by obtain ⟨m, hm⟩ := h1; exact DataW.trod_lt m _ _ _ hm
  have lt2 : ∀ x ∈ p2, x.block < W.heap.size := by obtain ⟨m, hm⟩ := h2; exact DataW.trod_lt m _ _ _ hm
  have lt3 : ∀ x ∈ p3, x.block < W.heap.size := by obtain ⟨m, hm⟩ := h3; exact DataW.trod_lt m _ _ _ hm
  have lt4 : ∀ x ∈ p4, x.block < W.heap.size := by obtain ⟨m, hm⟩ := h4; exact DataW.trod_lt m _ _ _ hm
  clear hA0 hval0
  obtain ⟨x, ⟨xw, xm⟩, rx⟩ := open_arg (d := 6) (rt := .ints .u64) (by kernel_rfl) (by kernel_rfl) (hval 0 22 v0 rfl rfl) h0 (weigh_arg hsz' (j := 0) rfl rfl)
  obtain ⟨⟨z10, z11, m⟩, ⟨mw, mm⟩, rm⟩ := open_arg (d := 6) (rt := .pair (.int .i64) (.pair (.int .i64) (.ints .u64))) (by kernel_rfl) (by kernel_rfl) (hval 1 24 v1 rfl rfl) h1 (weigh_arg hsz' (j := 1) rfl rfl)
  obtain ⟨w, ⟨ww, wm⟩, rw'⟩ := open_arg (d := 6) (rt := .rows RT0) (by kernel_rfl) (by kernel_rfl) (hval 2 25 v2 rfl rfl) h2 (weigh_arg hsz' (j := 2) rfl rfl)
  obtain ⟨n, ⟨nw, nm⟩, rn⟩ := open_arg (d := 6) (rt := .int .i64) (by kernel_rfl) (by kernel_rfl) (hval 3 3 v3 rfl rfl) h3 (weigh_arg hsz' (j := 3) rfl rfl)
  obtain ⟨cut, ⟨cw, cm⟩, rc⟩ := open_arg (d := 6) (rt := .int .i64) (by kernel_rfl) (by kernel_rfl) (hval 4 3 v4 rfl rfl) h4 (weigh_arg hsz' (j := 4) rfl rfl)
  have ex : argV Try.prog 22 (.ints .u64) x = .roi .u64 x := by kernel_rfl
  have em : argV Try.prog 24 (.pair (.int .i64) (.pair (.int .i64) (.ints .u64))) (z10, z11, m) = .agg [.int .i64 z10, .int .i64 z11, .roi .u64 m] := by kernel_rfl
  have ew : argV Try.prog 25 (.rows RT0) w = .rl RT0 w := by kernel_rfl
  have en : argV Try.prog 3 (.int .i64) n = .int .i64 n := by kernel_rfl
  have ec : argV Try.prog 3 (.int .i64) cut = .int .i64 cut := by kernel_rfl
  rw [ex] at rx
  rw [em] at rm
  rw [ew] at rw'
  rw [en] at rn
  rw [ec] at rc
  have lx : x.length + 1 <= dmeas d0 := xm
  have lm : 1 + (1 + (m.length + 1)) <= dmeas d1 := mm
  have lw : (w.map RT0.meas).sum + 1 <= dmeas d2 := wm
  have lw2 := rowsH_meas w
  have sm : ∀ k, k <= 1048576 -> Small 2000000 k := fun k hk => ⟨by omega, by omega⟩
  have hcut := bounds_i64 cw
  have hC := tq41 2000000 x z10 z11 m w n cut (law_RootRows x z10 z11 m w n cut (by omega) (sm _ (by omega)) (sm _ (by omega)) (sm _ (by omega)) (fun q hq => sm _ (by have := rowsH_mem hq; omega)) (sm _ (by omega)) ⟨by omega, by omega⟩ _)
  have hA : shFq41.args [.ints x, .int z10, .int z11, .ints m, .recs RT0 w, .int n, .int cut] = [.roi .u64 x, .agg [.int .i64 z10, .int .i64 z11, .roi .u64 m], .rl RT0 w, .int .i64 n, .int .i64 cut] := by kernel_rfl
  rw [hA] at hC
  refine (calls_of_okC (vs := [v0, v1, v2, v3, v4]) hC (fun b zs e => by cases e) fun ok hok => lists_cons (rx ok hok _) (lists_cons (rm ok hok _) (lists_cons (rw' ok hok _) (lists_cons (rn ok hok _) (lists_cons (rc ok hok _) lists_nil))))).mono fun e W' ⟨he, bel⟩ => ?_
  subst he
  exact ⟨_, rfl, _, _, _, [], _, [], hW', trodAll_mk1 (shut_bool Try.underlying4 _), (trodAll_cons_mk (Below.trod laidOutK (by kernel_rfl) (of_decide_eq_true (by kernel_rfl)) h0 bel lt0) (trodAll_cons_mk (Below.trod laidOutK (by kernel_rfl) (of_decide_eq_true (by kernel_rfl)) h1 bel lt1) (trodAll_cons_mk (Below.trod laidOutK (by kernel_rfl) (of_decide_eq_true (by kernel_rfl)) h2 bel lt2) (trodAll_cons_mk (Below.trod laidOutK (by kernel_rfl) (of_decide_eq_true (by kernel_rfl)) h3 bel lt3) (trodAll_cons_mk (Below.trod laidOutK (by kernel_rfl) (of_decide_eq_true (by kernel_rfl)) h4 bel lt4) trodAll_mk0))))), rfl, bel.frame _, fun h => by cases h⟩

theorem overW : Rows.rootRowsUptoRow.holds Try.pinned (Rows.OpenSpec.upto Rows.rootRowsSpec) :=
  OpenClaim.holds_of_cond 3 Try.f3 rfl rfl rfl rfl rfl rfl rfl ⟨rfl, rfl, rfl, rfl, rfl⟩ rfl rfl rfl rfl rfl (by kernel_rfl) Try.func3 (by kernel_rfl)
    (of_decide_eq_true (by kernel_rfl)) (by unfold Func.isWrapper; first | (rw [if_pos (by decide +kernel)]; kernel_rfl) | (rw [if_neg (by decide +kernel)]; exact ⟨rfl, rfl⟩))
    (fun os started H enc _ F => liftedW os started H enc F)

theorem rootRowsProved : Rows.RootRowsUptoSaid := overW
#print axioms rootRowsProved
end Go.Proofs.Ytgngdkjghdohiaa
