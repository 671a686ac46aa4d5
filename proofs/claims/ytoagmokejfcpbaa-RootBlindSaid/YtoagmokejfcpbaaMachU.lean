/-
  THE MACHINE, twenty-first part: the model's own functions over floats' bits.
  Conditions: the four closed facts on the function and its entry by name, each a kernel_rfl in a program.
-/
import Derived.Test.YtoagmokejfcpbaaMachT
import Derived.Laws.Externs
namespace Go.Mach

theorem canon_frep (b : Nat) : FRep (canon b) (.float .f64 b) := by
  unfold canon
  cases h : isNaN b with
  | true => exact ⟨b, rfl, h⟩
  | false => rfl

theorem repL_one {ok : Nat → Prop} {w : World} {ρ : Rho} {x : V} {vs : List Value} (h : RepL ok w ρ [x] vs) : ∃ v, vs = [v] ∧ Rep ok w ρ x v := by
  obtain ⟨h1, h2⟩ := h
  match vs, h1 with
  | [v], _ => exact ⟨v, rfl, h2 0 x v rfl rfl⟩

theorem good_ext1 {P : Program} {f : Nat} {fn : Func} {e : Array Value → Sem Value} (hf : P.funcs[f]? = some fn) (hname : (fn.name == "runtime.NumGoroutine") = false)
    (hb : fn.body.isNone = true) (hn : Extern.findNext fn = none) (he : Extern.find fn = some e) (sh : FnSh) (S : List Atom → (V → List Blk → Bool) → Bool)
    (h : ∀ a k, S a k = true → sh.heap a = [] ∧ ∃ r, k r [] = true ∧ ∀ (ok : Nat → Prop) (w : World) (ρ : Rho) (vs : List Value), RepL ok w ρ (sh.args a) vs → ∃ v w', (e vs.toArray).run P w = .ok v w' ∧ (w' = w ∨ w' = w.drew) ∧ Rep ok w ρ r v) : GoodF P f (mkFs sh S) := by
  refine good_extern fun args H k hs => ?_
  unfold mkFs at hs
  split at hs
  · rename_i a ha
    obtain ⟨rfl, e2⟩ := FnSh.ext_build ha
    obtain ⟨g0, r, g1, g2⟩ := h a k hs
    rw [g0] at e2
    obtain rfl : H = [] := by simpa using e2
    refine ⟨r, g1, fun ok w ρ vs hv => ?_⟩
    obtain ⟨v, w', q1, q2, q3⟩ := g2 ok w ρ vs hv
    refine ⟨v, w', ?_, q2, q3⟩
    rw [run_callFunc_extern hf hname hb hn he, q1]; rfl
  · cases hs

theorem good_frombits {P : Program} {f : Nat} {fn : Func} (hf : P.funcs[f]? = some fn) (hname : (fn.name == "runtime.NumGoroutine") = false)
    (hb : fn.body.isNone = true) (hn : Extern.findNext fn = none) (he : Extern.find fn = some Extern.MathFloatBits.float64frombits) :
    GoodF P f (mkFs ⟨[.int .u64], []⟩ fun a k => match a with | [.int n] => k (.flt (canon n.toNat)) [] | _ => false) := by
  refine good_ext1 hf hname hb hn he _ _ fun a k h => ?_
  split at h
  · rename_i n
    refine ⟨rfl, _, h, fun ok w ρ vs hv => ?_⟩
    obtain ⟨v, rfl, hr⟩ := repL_one hv
    obtain rfl := hr.int_inv
    exact ⟨.float .f64 n.toNat, w, rfl, .inl rfl, .flt _ _ (canon_frep _)⟩
  · cases h

theorem good_bits {P : Program} {f : Nat} {fn : Func} (hf : P.funcs[f]? = some fn) (hname : (fn.name == "runtime.NumGoroutine") = false)
    (hb : fn.body.isNone = true) (hn : Extern.findNext fn = none) (he : Extern.find fn = some Extern.MathFloatBits.float64bits) :
    GoodF P f (mkFs ⟨[.flt], []⟩ fun a k => match a with | [.fl (some b)] => k (.int .u64 b) [] | _ => false) := by
  refine good_ext1 hf hname hb hn he _ _ fun a k h => ?_
  split at h
  · rename_i b
    refine ⟨rfl, _, h, fun ok w ρ vs hv => ?_⟩
    obtain ⟨v, rfl, hr⟩ := repL_one hv
    have hv := hr.flt_inv
    obtain rfl : v = .float .f64 b := hv
    exact ⟨.int .u64 b, w, rfl, .inl rfl, .int _ _⟩
  · cases h

theorem good_sqrt {P : Program} {f : Nat} {fn : Func} (hf : P.funcs[f]? = some fn) (hname : (fn.name == "runtime.NumGoroutine") = false)
    (hb : fn.body.isNone = true) (hn : Extern.findNext fn = none) (he : Extern.find fn = some Extern.MathSqrt.sqrt) (hnan : ∀ b, isNaN b = true → Ieee.double.sqrt b = none) :
    GoodF P f (mkFs ⟨[.flt], []⟩ fun a k => match a with | [.fl x] => k (.flt (fsqrt x)) [] | _ => false) := by
  refine good_ext1 hf hname hb hn he _ _ fun a k h => ?_
  split at h
  · rename_i x
    refine ⟨rfl, _, h, fun ok w ρ vs hv => ?_⟩
    obtain ⟨v, rfl, hr⟩ := repL_one hv
    have hv : FRep x v := hr.flt_inv
    obtain ⟨b, rfl⟩ := hv.float
    have hs : Ieee.double.sqrt b = fsqrt x := by
      cases x with
      | none => obtain ⟨b', e, hb'⟩ := hv; cases e; rw [hnan _ hb']; rfl
      | some b' => cases hv; rfl
    cases hq : fsqrt x with
    | some r =>
      refine ⟨.float .f64 r, w, ?_, .inl rfl, .flt _ _ rfl⟩
      rw [hq] at hs
      have e1 : Extern.MathSqrt.sqrt [Value.float .f64 b].toArray = (match Ieee.double.sqrt b with | some r => pure (.float .f64 r) | none => do pure (.float .f64 (← choose (.nanBits .f64 b b)))) := rfl
      rw [e1, hs]; rfl
    | none =>
      rw [hq] at hs
      refine ⟨.float .f64 ((Question.nanBits .f64 b b).cut (w.tape w.drawn (.nanBits .f64 b b))), w.drew, ?_, .inr rfl, .flt _ _ ⟨_, rfl, isNaN_cut _ _ _⟩⟩
      have e1 : Extern.MathSqrt.sqrt [Value.float .f64 b].toArray = (match Ieee.double.sqrt b with | some r => pure (.float .f64 r) | none => do pure (.float .f64 (← choose (.nanBits .f64 b b)))) := rfl
      rw [e1, hs]; simp [Question.forced]
  · cases h

theorem good_bits_fb {P : Program} {f : Nat} {fn : Func} (hf : P.funcs[f]? = some fn) (hname : (fn.name == "runtime.NumGoroutine") = false)
    (hb : fn.body.isNone = true) (hn : Extern.findNext fn = none) (he : Extern.find fn = some Extern.MathFloatBits.float64bits) :
    GoodF P f (mkFs ⟨[.fb], []⟩ fun a k => match a with | [.nat b] => k (.int .u64 b) [] | _ => false) := by
  refine good_ext1 hf hname hb hn he _ _ fun a k h => ?_
  split at h
  · rename_i b
    refine ⟨rfl, _, h, fun ok w ρ vs hv => ?_⟩
    obtain ⟨v, rfl, hr⟩ := repL_one hv
    have hv : Rep ok w ρ (.val (.float .f64 b)) v := hr
    cases hv
    exact ⟨.int .u64 b, w, rfl, .inl rfl, .int _ _⟩
  · cases h

/-! ### what looks at bits only: from exact bits to floats up to the NaN's payload -/
def fbOf : List V → List Value → List V
  | .flt _ :: r, v :: vs => .val v :: fbOf r vs
  | a :: r, _ :: vs => a :: fbOf r vs
  | r, [] => r
  | [], _ => []
theorem fbOf_rep {ok : Nat → Prop} {w : World} {ρ : Rho} : ∀ (args : List V) (vs : List Value), RepL ok w ρ args vs → RepL ok w ρ (fbOf args vs) vs
  | [], vs, h => by cases vs <;> exact h
  | a :: r, [], h => by cases a <;> exact h
  | a :: r, v :: vs, h => by
    have hr : RepL ok w ρ r vs := ⟨by have := h.1; simpa using this, fun i c u hc hu => h.2 (i + 1) c u (by simpa using hc) (by simpa using hu)⟩
    have ih := fbOf_rep r vs hr
    have ha : Rep ok w ρ a v := h.2 0 a v rfl rfl
    have key : ∀ a', Rep ok w ρ a' v → RepL ok w ρ (a' :: fbOf r vs) (v :: vs) := by
      intro a' ha'
      refine ⟨by have := ih.1; simp [this], fun i c u hc hu => ?_⟩
      cases i with
      | zero => simp at hc hu; subst hc; subst hu; exact ha'
      | succ i => exact ih.2 i c u (by simpa using hc) (by simpa using hu)
    cases a <;> first | exact key _ (.val _) | exact key _ ha
theorem ok_fb {P : Program} {f : Nat} {args : List V} {H : List Blk} {r : V} {H' : List Blk} (h : ∀ vs : List Value, (∀ (i : Nat) x v, args[i]? = some (.flt x) → vs[i]? = some v → FRep x v) → args.length = vs.length → Ok P f (fbOf args vs) H r H') : Ok P f args H r H' := by
  intro w ρ ok vs hs hd ha
  refine h vs (fun i x v hx hv => ?_) ha.1 w ρ ok vs hs hd (fbOf_rep args vs ha)
  have := ha.2 i _ v hx hv
  exact this.flt_inv

end Go.Mach
