/-
  THE FRAME: what all laws of this program share: how long lists are, how arguments are told to the machine.
  Conditions: none.
-/
import Derived.Test.YtoagmokejfcpbaaRows
import Derived.Test.YtoagmokejfcpbaaMachZ
import Derived.Test.YtoagmokejfcpbaaP3
namespace Go.Proofs.Ytoagmokejfcpbaa
open Go Go.Mach Go.Proofs
open Go.ChangeShapes Go.WideShapes Go.ChangeAt Go.RowKit

theorem ownK : ownKnob Try.prog.godebug = none := by kernel_rfl
theorem laidOutK : laidOutB Try.prog = true := by kernel_rfl
theorem small_of {N e : Nat} {zs : List Int} {H : Type} {d : DataW H} (he : Try.prog.bytesOf e = 8) (h : zs = [] ∨ ∃ els spare : List (DataW H), d = .slice els spare ∧ els.length = zs.length)
    (hw : ∀ els spare : List (DataW H), d = .slice els spare → (els.length + spare.length) * Try.prog.bytesOf e ≤ reachBytes) (hN : zs.length < N) : Small N zs.length := by
  refine ⟨hN, ?_⟩
  rcases h with rfl | ⟨els, spare, hd, hl⟩
  · simp
  · have := hw els spare hd
    rw [he] at this
    unfold reachBytes at this
    omega
theorem lists_nil {ok : Nat → Prop} {w : World} {ρ : Rho} : RepL ok w ρ [] [] := ⟨rfl, fun i u v hu _ => by simp at hu⟩
theorem lists_cons {ok : Nat → Prop} {w : World} {ρ : Rho} {a : V} {x : Value} {us : List V} {xs : List Value} (h1 : Rep ok w ρ a x) (h2 : RepL ok w ρ us xs) : RepL ok w ρ (a :: us) (x :: xs) := by
  refine ⟨by simp [h2.1], fun i u v hu hv => ?_⟩
  cases i with
  | zero => simp at hu hv; subst hu; subst hv; exact h1
  | succ i => exact h2.2 i u v (by simpa using hu) (by simpa using hv)
theorem rep_agg {ok : Nat → Prop} {w : World} {ρ : Rho} {us : List V} {xs : List Value} (h : RepL ok w ρ us xs) (ho : xs.all (·.oneCell') = true) : Rep ok w ρ (.agg us) (.agg xs.toArray) :=
  .agg us xs h.1 (fun v hv => List.all_eq_true.1 ho v hv) h.2
theorem u64_of {zs : List Int} (h : ∀ z ∈ zs, (Lit.int .u64 z).wf = true) : ∀ n ∈ zs, 0 ≤ n ∧ n ≤ 18446744073709551615 := fun n hn => bounds_u64 (h n hn)
end Go.Proofs.Ytoagmokejfcpbaa
