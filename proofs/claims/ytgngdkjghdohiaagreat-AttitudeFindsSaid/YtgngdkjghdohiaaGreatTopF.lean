/-
  AttitudeFinds holds of the given program: for every input the law answers true, and what came in reads as it read. No condition.
-/
import Derived.Test.YtgngdkjghdohiaaGreatRows
import Derived.Test.YtgngdkjghdohiaaGreatMachP
import Derived.Test.YtgngdkjghdohiaaGreatGx
import Derived.Test.YtgngdkjghdohiaaGreatZ3
import Derived.Laws.IdiomArrays
namespace Go.Proofs.YtgngdkjghdohiaaGreat
open Go Go.Mach Go.Proofs
open Go.ChangeShapes Go.WideShapes Go.ChangeAt Go.RowKit
set_option linter.unusedVariables false

theorem ownKz : ownKnob Tryz.prog.godebug = none := by kernel_rfl
theorem laidOutKz : laidOutB Tryz.prog = true := by kernel_rfl
theorem lists_nil {ok : Nat -> Prop} {w : World} {ρ : Rho} : RepL ok w ρ [] [] := ⟨rfl, fun i u v hu _ => by simp at hu⟩
theorem lists_cons {ok : Nat -> Prop} {w : World} {ρ : Rho} {a : V} {x : Value} {us : List V} {xs : List Value} (h1 : Rep ok w ρ a x) (h2 : RepL ok w ρ us xs) : RepL ok w ρ (a :: us) (x :: xs) := by
  refine ⟨by simp [h2.1], fun i u v hu hv => ?_⟩
  cases i with
  | zero => simp at hu hv; subst hu; subst hv; exact h1
  | succ i => exact h2.2 i u v (by simpa using hu) (by simpa using hv)
theorem rep_agg {ok : Nat -> Prop} {w : World} {ρ : Rho} {us : List V} {xs : List Value} (h : RepL ok w ρ us xs) (ho : xs.all (·.oneCell') = true) : Rep ok w ρ (.agg us) (.agg xs.toArray) :=
  .agg us xs h.1 (fun v hv => List.all_eq_true.1 ho v hv) h.2
theorem rep3 {ok : Nat -> Prop} {w : World} {ρ : Rho} (k : IntKind) (a b c : Int) : Rep ok w ρ (.agg [.int k a, .int k b, .int k c]) (.agg #[.int k a, .int k b, .int k c]) :=
  rep_agg (xs := [.int k a, .int k b, .int k c]) (lists_cons (.int _ _) (lists_cons (.int _ _) (lists_cons (.int _ _) lists_nil))) rfl
theorem rep4 {ok : Nat -> Prop} {w : World} {ρ : Rho} (k : IntKind) (a b c d : Int) : Rep ok w ρ (.agg [.int k a, .int k b, .int k c, .int k d]) (.agg #[.int k a, .int k b, .int k c, .int k d]) :=
  rep_agg (xs := [.int k a, .int k b, .int k c, .int k d]) (lists_cons (.int _ _) (lists_cons (.int _ _) (lists_cons (.int _ _) (lists_cons (.int _ _) lists_nil)))) rfl
theorem open_three {H : Type} {enc : TypeId × Value -> H} {P : Program} {w : World} {sp : Nat -> Bool} {held : Bool} {r : Reach} {b0 base : Nat} {t e : TypeId} {k : IntKind} {v : Value} {d : DataW H} {ps : List MemPlace}
    (ht : P.underlying t = some (.array 3 e)) (he : P.underlying e = some (.int k)) (hce : P.cellsOf e = 1) (hct : P.cellsOf t = 3) (hval : Value.okWide P w r b0 t v) (hd : DataW.Trod enc P w base sp held t v d ps) :
    ∃ x y z, v = .agg #[.int k x, .int k y, .int k z] /\ (Lit.int k x).wf = true /\ (Lit.int k y).wf = true /\ (Lit.int k z).wf = true := by
  simp only [Value.okWide, ht] at hval
  obtain ⟨cs, rfl, h2, -⟩ := hval
  rw [hct] at h2
  obtain ⟨fuel, hf⟩ := hd
  have hcells : (Value.cells (.agg cs)) = cs := rfl
  rw [hcells] at hf
  obtain ⟨l⟩ := cs
  match l, h2 with
  | [c0, c1, c2], _ =>
    obtain ⟨y0, y1, y2, n, -, t0, t1, t2⟩ := trod_array3 ht hce hf
    obtain ⟨x, rfl, wx⟩ := open_int1 he t0
    obtain ⟨y, rfl, wy⟩ := open_int1 he t1
    obtain ⟨z, rfl, wz⟩ := open_int1 he t2
    exact ⟨x, y, z, rfl, wx, wy, wz⟩
theorem open_four {H : Type} {enc : TypeId × Value -> H} {P : Program} {w : World} {sp : Nat -> Bool} {held : Bool} {r : Reach} {b0 base : Nat} {t e : TypeId} {k : IntKind} {v : Value} {d : DataW H} {ps : List MemPlace}
    (ht : P.underlying t = some (.array 4 e)) (he : P.underlying e = some (.int k)) (hce : P.cellsOf e = 1) (hct : P.cellsOf t = 4) (hval : Value.okWide P w r b0 t v) (hd : DataW.Trod enc P w base sp held t v d ps) :
    ∃ x y z u, v = .agg #[.int k x, .int k y, .int k z, .int k u] /\ (Lit.int k x).wf = true /\ (Lit.int k y).wf = true /\ (Lit.int k z).wf = true /\ (Lit.int k u).wf = true := by
  simp only [Value.okWide, ht] at hval
  obtain ⟨cs, rfl, h2, -⟩ := hval
  rw [hct] at h2
  obtain ⟨fuel, hf⟩ := hd
  have hcells : (Value.cells (.agg cs)) = cs := rfl
  rw [hcells] at hf
  obtain ⟨l⟩ := cs
  match l, h2 with
  | [c0, c1, c2, c3], _ =>
    obtain ⟨y0, y1, y2, y3, n, -, t0, t1, t2, t3⟩ := trod_array4 ht hce hf
    obtain ⟨x, rfl, wx⟩ := open_int1 he t0
    obtain ⟨y, rfl, wy⟩ := open_int1 he t1
    obtain ⟨z, rfl, wz⟩ := open_int1 he t2
    obtain ⟨u, rfl, wu⟩ := open_int1 he t3
    exact ⟨x, y, z, u, rfl, wx, wy, wz, wu⟩
theorem word_of {z : Int} (h : (Lit.int .u64 z).wf = true) : z.toNat < 18446744073709551616 := by
  have := bounds_u64 h
  omega

set_option maxRecDepth 100000 in
theorem liftedT (os : Os) (started : os.Started) (H : Type) (enc : TypeId × Value -> H) :
    ReturnsInHanded {} Tryz.checked os 3 .any (Rows.attitudeFindsSpec.pre6 enc Tryz.prog Tryz.f3 Rows.attitudeFindsRow.domain false) (Rows.attitudeFindsSpec.post enc Tryz.prog Tryz.f3 false true false false) := by
  refine returnsInHanded_of_change_sized (C := Tryz.checked) ownKz started (by kernel_rfl) Tryz.func3
    (ChangeSpec.witness6 (enc := enc) (C := Tryz.checked) false ⟨#[], #[.agg #[.int .u64 0, .int .u64 0, .int .u64 0, .int .u64 0], .agg #[.int .u64 0, .int .u64 0, .int .u64 0], .agg #[.int .u64 0, .int .u64 0, .int .u64 0]], []⟩ 8 (by kernel_rfl) (by kernel_rfl) (by kernel_rfl) (by kernel_rfl)) ?_
  intro W base args ds gs before hval0 hW hcnd hsz _
  have hval : ∀ (j : Nat) t v, Tryz.f3.params[j]? = some t -> args[j]? = some v -> Value.okWide Tryz.prog W .any base t v := hval0
  have hW' := hW
  obtain ⟨p, q, hA0, hV, rfl, hfz, hnd⟩ := hW
  have hA : DataW.TrodAll enc Tryz.prog W 0 (fun _ => true) true Tryz.f3.params.toList args.toList ds p := hA0
  rw [Tryz.params3] at hA hval
  obtain ⟨v0, vs0, d0, ds0, p0, q0, hargs, rfl, rfl, h0, r0⟩ := trodAll_cons hA
  obtain ⟨v1, vs1, d1, ds1, p1, q1, rfl, rfl, rfl, h1, r1⟩ := trodAll_cons r0
  obtain ⟨v2, vs2, d2, ds2, p2, q2, rfl, rfl, rfl, h2, r2⟩ := trodAll_cons r1
  obtain ⟨rfl, rfl, rfl⟩ := trodAll_nil r2
  obtain rfl : args = #[v0, v1, v2] := by cases args; simp_all
  obtain ⟨rfl, rfl⟩ := trodVars_none hV
  have lt0 : ∀ x ∈ p0, x.block < W.heap.size := by obtain ⟨m, hm⟩ := h0; exact DataW.trod_lt m _ _ _ hm
  have lt1 : ∀ x ∈ p1, x.block < W.heap.size := by obtain ⟨m, hm⟩ := h1; exact DataW.trod_lt m _ _ _ hm
  have lt2 : ∀ x ∈ p2, x.block < W.heap.size := by obtain ⟨m, hm⟩ := h2; exact DataW.trod_lt m _ _ _ hm
  clear hA0 hval0
  have c22 : Tryz.prog.cellsOf 22 = 1 := by kernel_rfl
  have c23 : Tryz.prog.cellsOf 23 = 4 := by kernel_rfl
  have c24 : Tryz.prog.cellsOf 24 = 3 := by kernel_rfl
  obtain ⟨a0, a1, a2, a3, rfl, wa0, wa1, wa2, wa3⟩ := open_four Tryz.underlying23 Tryz.underlying22 c22 c23 (hval 0 23 v0 rfl rfl) h0
  obtain ⟨b0, b1, b2, rfl, wb0, wb1, wb2⟩ := open_three Tryz.underlying24 Tryz.underlying22 c22 c24 (hval 1 24 v1 rfl rfl) h1
  obtain ⟨e0, e1, e2, rfl, we0, we1, we2⟩ := open_three Tryz.underlying24 Tryz.underlying22 c22 c24 (hval 2 24 v2 rfl rfl) h2
  have hC := tZ37 1000 a0 a1 a2 a3 b0 b1 b2 e0 e1 e2 (law_AttitudeFinds (Nat.le_refl _) (word_of wa0) (word_of wa1) (word_of wa2) (word_of wa3) (word_of wb0) (word_of wb1) (word_of wb2) (word_of we0) (word_of we1) (word_of we2) _)
  have hA : shFZ37.args [.int a0, .int a1, .int a2, .int a3, .int b0, .int b1, .int b2, .int e0, .int e1, .int e2] = [.agg [.int .u64 a0, .int .u64 a1, .int .u64 a2, .int .u64 a3], .agg [.int .u64 b0, .int .u64 b1, .int .u64 b2], .agg [.int .u64 e0, .int .u64 e1, .int .u64 e2]] := by kernel_rfl
  rw [hA] at hC
  refine (calls_of_okC (vs := [.agg #[.int .u64 a0, .int .u64 a1, .int .u64 a2, .int .u64 a3], .agg #[.int .u64 b0, .int .u64 b1, .int .u64 b2], .agg #[.int .u64 e0, .int .u64 e1, .int .u64 e2]]) hC (fun b zs e => by cases e) fun ok hok => lists_cons (rep4 _ _ _ _ _) (lists_cons (rep3 _ _ _ _) (lists_cons (rep3 _ _ _ _) lists_nil))).mono fun e W' ⟨he, bel⟩ => ?_
  subst he
  exact ⟨_, rfl, _, _, _, [], _, [], hW', trodAll_mk1 (shut_bool Tryz.underlying4 _), (trodAll_cons_mk (Below.trod laidOutKz (by kernel_rfl) (of_decide_eq_true (by kernel_rfl)) h0 bel lt0) (trodAll_cons_mk (Below.trod laidOutKz (by kernel_rfl) (of_decide_eq_true (by kernel_rfl)) h1 bel lt1) (trodAll_cons_mk (Below.trod laidOutKz (by kernel_rfl) (of_decide_eq_true (by kernel_rfl)) h2 bel lt2) trodAll_mk0))), rfl, bel.frame _, fun h => by cases h⟩

theorem overT : Rows.attitudeFindsRow.holds Tryz.pinned (OpenSpec.ofChange Rows.attitudeFindsSpec) :=
  OpenClaim.holds_of_wide 3 Tryz.f3 rfl rfl rfl rfl rfl rfl rfl ⟨rfl, rfl, rfl, rfl, rfl⟩ rfl rfl rfl rfl rfl (by kernel_rfl) Tryz.func3 (by kernel_rfl)
    (of_decide_eq_true (by kernel_rfl)) (by unfold Func.isWrapper; first | (rw [if_pos (by decide +kernel)]; kernel_rfl) | (rw [if_neg (by decide +kernel)]; exact ⟨rfl, rfl⟩))
    (fun os started H enc _ => liftedT os started H enc)

theorem attitudeFindsProved : Rows.AttitudeFindsSaid := overT
#print axioms attitudeFindsProved
end Go.Proofs.YtgngdkjghdohiaaGreat
