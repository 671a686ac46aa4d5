/-
  THE MACHINE, nineteenth part: how it is used: tables of contracts; loops that count; the model's own functions.
  Conditions: none.
-/
import Derived.Test.YtoagmokejfcpbaaMachR
namespace Go.Mach

abbrev Fs := List V → List Blk → (V → List Blk → Bool) → Bool
/-- a function does as its specification says -/
def GoodF (P : Program) (f : Nat) (S : Fs) : Prop := ∀ args H k, S args H k = true → ∃ r H', Ok P f args H r H' ∧ k r H' = true

def ofList : List (Nat × Fs) → Oracle
  | [] => fun _ _ _ _ => false
  | (g, S) :: r => fun f => cond (f == g) S (ofList r f)

theorem ofList_nil (P : Program) : OSound P (ofList []) := fun f args H k h => by simp [ofList] at h
theorem ofList_cons {P : Program} {g : Nat} {S : Fs} {r : List (Nat × Fs)} (h : GoodF P g S) (hr : OSound P (ofList r)) : OSound P (ofList ((g, S) :: r)) := by
  intro f args H k hk
  simp only [ofList] at hk
  cases e : (f == g) with
  | true =>
    obtain rfl : f = g := by simpa using e
    rw [e, cond_true] at hk
    exact h args H k hk
  | false =>
    rw [e, cond_false] at hk
    exact hr f args H k hk

/-- a function's loops: block id, body -/
def loops : Code → Nat → List (Nat × Code)
  | .seq a b, bid => loops a bid ++ loops b bid
  | .cond _ a b, bid => loops a bid ++ loops b bid
  | .block id b, _ => loops b id
  | .loop b, bid => (bid, b) :: loops b bid
  | _, _ => []
def lps (P : Program) (f : Nat) : List (Nat × Code) :=
  match P.funcs[f]? with
  | some fn => match fn.body with
    | some c => loops c 0
    | none => []
  | none => []
def lp (P : Program) (f i : Nat) : Nat × Code := (lps P f).getD i (0, .skip)

/-- what is said in the stead of this loop leads to it -/
def HookOk (cx : Cx) (base : Nat) (an : Nat → Option Ann) (p : Nat × Code) : Prop :=
  ∀ hk, hookOf (an p.1) = some hk → ∀ s κ, hk s κ = true → iter cx.N (fun s k => codeV cx base an p.2 p.1 s (roundK cx.P base (an p.1) κ k)) s = true

theorem hooksOk_of {cx : Cx} {base : Nat} {an : Nat → Option Ann} : ∀ (c : Code) (bid : Nat), (∀ p, p ∈ loops c bid → HookOk cx base an p) → HooksOk cx base an c bid
  | .seq a b, bid, h => ⟨hooksOk_of a bid fun p hp => h p (by simp [loops, hp]), hooksOk_of b bid fun p hp => h p (by simp [loops, hp])⟩
  | .cond _ a b, bid, h => ⟨hooksOk_of a bid fun p hp => h p (by simp [loops, hp]), hooksOk_of b bid fun p hp => h p (by simp [loops, hp])⟩
  | .block id b, _, h => hooksOk_of b id h
  | .loop b, bid, h => ⟨hooksOk_of b bid fun p hp => h p (by simp [loops, hp]), h (bid, b) (by simp [loops])⟩
  | .skip, _, _ => trivial
  | .region .., _, _ => trivial
  | .exit _, _, _ => trivial
  | .ret, _, _ => trivial
  | .rangeFunc .., _, _ => trivial
  | .scope _, _, _ => trivial
  | .label _, _, _ => trivial
  | .goto _, _, _ => trivial
  | .refuse _, _, _ => trivial

theorem good_body {cx : Cx} (hO : OSound cx.P cx.O) {f : Nat} {S : Fs} (n : Nat) (hn : (lps cx.P f).length = n) (h : ∀ args H k, S args H k = true → ∃ an, (∀ i, i < n → HookOk cx H.length an (lp cx.P f i)) ∧ bodyV cx an f args H k = true) : GoodF cx.P f S :=
  fun args H k hs => by
    obtain ⟨an, hk, hb⟩ := h args H k hs
    refine bodyV_sound hO (fun fn c hfn hc => hooksOk_of c 0 fun p hp => ?_) hb
    have e : lps cx.P f = loops c 0 := by simp [lps, hfn, hc]
    rw [← e] at hp
    obtain ⟨i, hi, rfl⟩ := List.getElem_of_mem hp
    have := hk i (by omega)
    unfold lp at this
    rwa [List.getD_eq_getElem?_getD, List.getElem?_eq_getElem hi] at this

/-! ### the model's own functions -/
theorem inv_value {P : Program} {f : FuncId} {args : Array Value} {w w' : World} {v : Value} {R : Value → World → Prop} (h : (callFunc f args).run P w = .ok (.value v) w') (hR : R v w') : InvP P f args w R := by
  intro o a N Q hN
  rw [h]; exact hN v w' hR

/-- a function of the model's own that only computes -/
theorem good_extern {P : Program} {f : Nat} {S : Fs} (h : ∀ args H k, S args H k = true → ∃ r, k r H = true ∧ ∀ (ok : Nat → Prop) (w : World) (ρ : Rho) (vs : List Value), RepL ok w ρ args vs → ∃ v w', (callFunc f vs.toArray).run P w = .ok (.value v) w' ∧ (w' = w ∨ w' = w.drew) ∧ Rep ok w ρ r v) : GoodF P f S := by
  intro args H k hk
  obtain ⟨r, h1, h2⟩ := h args H k hk
  refine ⟨r, H, fun w ρ ok vs hsim hdom hargs => ?_, h1⟩
  obtain ⟨v, w', g1, g2, g3⟩ := h2 _ w ρ vs hargs
  refine inv_value g1 ⟨ρ, fun _ _ => rfl, hdom, ?_⟩
  rcases g2 with rfl | rfl
  · exact ⟨hsim, g3⟩
  · obtain ⟨k1, k2⟩ := hsim.drew
    exact ⟨k1, g3.mono k2⟩

end Go.Mach
