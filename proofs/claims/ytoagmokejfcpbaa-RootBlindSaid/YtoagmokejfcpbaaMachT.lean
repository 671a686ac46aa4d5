/-
  THE MACHINE, twentieth part: shapes of states; what is said in a loop's stead.
  Conditions: none.
-/
import Derived.Test.YtoagmokejfcpbaaMachS
namespace Go.Mach

/-- what fills a shape's holes -/
inductive Atom where
  | fl (x : Fl)
  | int (n : Int)
  | bool (b : Bool)
  | fls (xs : List Fl)
  | ints (xs : List Int)
  | nat (n : Nat)
  | val (v : Value)
  | vs (cs : List V)
  deriving Inhabited

inductive Sh where
  | any
  | nil
  | flt
  | int (k : IntKind)
  | bool
  | val
  | ptr (n o : Nat)
  | slw (n : Nat)
  | sl (n : Nat)
  | rof
  | roi (k : IntKind)
  | fn (g : Nat) (caps : List Sh)
  | agg (cs : List Sh)
  | ro (sz : Nat) (cs : List Sh)
  | rov (sz : Nat)
  | litI (k : IntKind) (n : Int)
  | litB (b : Bool)
  | fb
  deriving Inhabited

mutual
def Sh.ext : Sh → V → Option (List Atom)
  | .any, .any => some []
  | .nil, .nil => some []
  | .flt, .flt x => some [.fl x]
  | .int k, .int k' n => cond (decide (k = k')) (some [.int n]) none
  | .bool, .bool b => some [.bool b]
  | .val, .val v => some [.val v]
  | .ptr n o, .ptr n' o' => cond (n == n' && o == o') (some []) none
  | .slw n, .slw n' => cond (n == n') (some []) none
  | .sl n, .sl n' o l => cond (n == n') (some [.nat o, .nat l]) none
  | .rof, .rof xs => some [.fls xs]
  | .roi k, .roi k' xs => cond (decide (k = k')) (some [.ints xs]) none
  | .fn g caps, .fn g' caps' => cond (g == g') (extL caps caps') none
  | .agg cs, .agg cs' => extL cs cs'
  | .ro sz cs, .ro sz' cs' => cond (sz == sz') (extL cs cs') none
  | .rov sz, .ro sz' cs => cond (sz == sz') (some [.vs cs]) none
  | .litI k n, .int k' n' => cond (decide (k = k') && decide (n = n')) (some []) none
  | .litB b, .bool b' => cond (b == b') (some []) none
  | .fb, .val (.float .f64 b) => some [.nat b]
  | _, _ => none
def extL : List Sh → List V → Option (List Atom)
  | [], [] => some []
  | s :: ss, v :: vs => match Sh.ext s v, extL ss vs with
    | some a, some b => some (a ++ b)
    | _, _ => none
  | _, _ => none
end

mutual
def Sh.build : Sh → List Atom → V × List Atom
  | .any, r => (.any, r)
  | .nil, r => (.nil, r)
  | .flt, .fl x :: r => (.flt x, r)
  | .int k, .int n :: r => (.int k n, r)
  | .bool, .bool b :: r => (.bool b, r)
  | .val, .val v :: r => (.val v, r)
  | .ptr n o, r => (.ptr n o, r)
  | .slw n, r => (.slw n, r)
  | .sl n, .nat o :: .nat l :: r => (.sl n o l, r)
  | .rof, .fls xs :: r => (.rof xs, r)
  | .roi k, .ints xs :: r => (.roi k xs, r)
  | .fn g caps, r => match buildL caps r with
    | (vs, r) => (.fn g vs, r)
  | .agg cs, r => match buildL cs r with
    | (vs, r) => (.agg vs, r)
  | .ro sz cs, r => match buildL cs r with
    | (vs, r) => (.ro sz vs, r)
  | .rov sz, .vs cs :: r => (.ro sz cs, r)
  | .litI k n, r => (.int k n, r)
  | .litB b, r => (.bool b, r)
  | .fb, .nat b :: r => (.val (.float .f64 b), r)
  | _, r => (.any, r)
def buildL : List Sh → List Atom → List V × List Atom
  | [], r => ([], r)
  | s :: ss, r => match Sh.build s r with
    | (v, r) => match buildL ss r with
      | (vs, r) => (v :: vs, r)
end

mutual
theorem Sh.ext_build : ∀ (s : Sh) (v : V) (a : List Atom), s.ext v = some a → ∀ r, s.build (a ++ r) = (v, r)
  | .any, v, a, h, r => by cases v <;> simp [Sh.ext] at h; subst h; rfl
  | .nil, v, a, h, r => by cases v <;> simp [Sh.ext] at h; subst h; rfl
  | .flt, v, a, h, r => by cases v <;> simp [Sh.ext] at h; subst h; rfl
  | .int k, v, a, h, r => by
    cases v <;> simp [Sh.ext] at h
    rename_i k' n
    by_cases e : k = k'
    · subst e; simp at h; subst h; rfl
    · simp [e] at h
  | .bool, v, a, h, r => by cases v <;> simp [Sh.ext] at h; subst h; rfl
  | .val, v, a, h, r => by cases v <;> simp [Sh.ext] at h; subst h; rfl
  | .ptr n o, v, a, h, r => by
    cases v <;> simp [Sh.ext] at h
    rename_i n' o'
    by_cases e : n = n' ∧ o = o'
    · obtain ⟨rfl, rfl⟩ := e; simp at h; subst h; rfl
    · have : (n == n' && o == o') = false := by simpa using e
      rw [this] at h; cases h
  | .slw n, v, a, h, r => by
    cases v <;> simp [Sh.ext] at h
    rename_i n'
    by_cases e : n = n'
    · subst e; simp at h; subst h; rfl
    · have : (n == n') = false := by simpa using e
      rw [this] at h; cases h
  | .sl n, v, a, h, r => by
    cases v <;> simp [Sh.ext] at h
    rename_i n' o l
    by_cases e : n = n'
    · subst e; simp at h; subst h; rfl
    · have : (n == n') = false := by simpa using e
      rw [this] at h; cases h
  | .rof, v, a, h, r => by cases v <;> simp [Sh.ext] at h; subst h; rfl
  | .roi k, v, a, h, r => by
    cases v <;> simp [Sh.ext] at h
    rename_i k' n
    by_cases e : k = k'
    · subst e; simp at h; subst h; rfl
    · simp [e] at h
  | .fn g caps, v, a, h, r => by
    cases v <;> simp only [Sh.ext, reduceCtorEq] at h
    rename_i g' caps'
    by_cases e : g = g'
    · subst e
      simp only [beq_self_eq_true, cond_true] at h
      simp only [Sh.build, extL_build caps caps' a h r]
    · have : (g == g') = false := by simpa using e
      rw [this] at h; cases h
  | .agg cs, v, a, h, r => by
    cases v <;> simp only [Sh.ext, reduceCtorEq] at h
    rename_i cs'
    simp only [Sh.build, extL_build cs cs' a h r]
  | .ro sz cs, v, a, h, r => by
    cases v <;> simp only [Sh.ext, reduceCtorEq] at h
    rename_i sz' cs'
    by_cases e : sz = sz'
    · subst e
      simp only [beq_self_eq_true, cond_true] at h
      simp only [Sh.build, extL_build cs cs' a h r]
    · have : (sz == sz') = false := by simpa using e
      rw [this] at h; cases h
  | .rov sz, v, a, h, r => by
    cases v <;> simp only [Sh.ext, reduceCtorEq] at h
    rename_i sz' cs'
    by_cases e : sz = sz'
    · subst e
      simp only [beq_self_eq_true, cond_true] at h
      cases h; rfl
    · have : (sz == sz') = false := by simpa using e
      rw [this] at h; cases h
  | .litI k n, v, a, h, r => by
    cases v <;> simp only [Sh.ext, reduceCtorEq] at h
    rename_i k' n'
    by_cases e : k = k' ∧ n = n'
    · obtain ⟨rfl, rfl⟩ := e; simp at h; subst h; rfl
    · have : (decide (k = k') && decide (n = n')) = false := by simpa using e
      rw [this] at h; cases h
  | .litB b, v, a, h, r => by
    cases v <;> simp only [Sh.ext, reduceCtorEq] at h
    rename_i b'
    by_cases e : b = b'
    · subst e; simp at h; subst h; rfl
    · have : (b == b') = false := by simpa using e
      rw [this] at h; cases h
  | .fb, v, a, h, r => by
    cases v with
    | val u =>
      cases u with
      | float k b => cases k <;> simp [Sh.ext] at h; subst h; rfl
      | _ => simp [Sh.ext] at h
    | _ => simp [Sh.ext] at h
theorem extL_build : ∀ (s : List Sh) (v : List V) (a : List Atom), extL s v = some a → ∀ r, buildL s (a ++ r) = (v, r)
  | [], v, a, h, r => by cases v <;> simp [extL] at h; subst h; rfl
  | s :: ss, v, a, h, r => by
    cases v with
    | nil => simp [extL] at h
    | cons v vs =>
      simp only [extL] at h
      split at h
      · rename_i a1 a2 h1 h2
        cases h
        simp only [buildL, List.append_assoc, Sh.ext_build s v a1 h1, extL_build ss vs a2 h2]
      · cases h
end

inductive BSh where
  | flts
  | ints (k : IntKind)
  | cells (cs : List Sh)
  | cvs
def BSh.ext : BSh → Body → Option (List Atom)
  | .flts, .flts xs => some [.fls xs]
  | .ints k, .ints k' xs => cond (decide (k = k')) (some [.ints xs]) none
  | .cells cs, .cells cs' => extL cs cs'
  | .cvs, .cells cs => some [.vs cs]
  | _, _ => none
def BSh.build : BSh → List Atom → Body × List Atom
  | .flts, .fls xs :: r => (.flts xs, r)
  | .ints k, .ints xs :: r => (.ints k xs, r)
  | .cells cs, r => match buildL cs r with
    | (vs, r) => (.cells vs, r)
  | .cvs, .vs cs :: r => (.cells cs, r)
  | _, r => (.cells [], r)
theorem BSh.ext_build (s : BSh) (v : Body) (a : List Atom) (h : s.ext v = some a) (r : List Atom) : s.build (a ++ r) = (v, r) := by
  cases s with
  | flts => cases v <;> simp [BSh.ext] at h; subst h; rfl
  | ints k =>
    cases v <;> simp [BSh.ext] at h
    rename_i k' n
    by_cases e : k = k'
    · subst e; simp at h; subst h; rfl
    · simp [e] at h
  | cells cs =>
    cases v <;> simp only [BSh.ext, reduceCtorEq] at h
    rename_i cs'
    simp only [BSh.build, extL_build cs cs' a h r]
  | cvs => cases v <;> simp [BSh.ext] at h; subst h; rfl

/-- a block's shape: none where a name is let go -/
abbrev BkSh := Option (Nat × Nat × BSh)
def extM : List BkSh → Heap → Option (List Atom)
  | [], [] => some []
  | none :: ss, none :: bs => extM ss bs
  | some (e, sz, c) :: ss, some b :: bs => cond (e == b.e && sz == b.sz) (match c.ext b.c, extM ss bs with
    | some a, some r => some (a ++ r)
    | _, _ => none) none
  | _, _ => none
def buildM : List BkSh → List Atom → Heap
  | [], _ => []
  | none :: ss, r => none :: buildM ss r
  | some (e, sz, c) :: ss, r => match c.build r with
    | (c, r) => some ⟨e, sz, c⟩ :: buildM ss r
theorem extM_build : ∀ (s : List BkSh) (M : Heap) (a : List Atom), extM s M = some a → buildM s a = M
  | [], M, a, h => by cases M <;> simp [extM] at h; rfl
  | none :: ss, M, a, h => by
    cases M with
    | nil => simp [extM] at h
    | cons b bs =>
      cases b with
      | none => simp only [extM] at h; simp only [buildM, extM_build ss bs a h]
      | some b => simp [extM] at h
  | some (e, sz, c) :: ss, M, a, h => by
    cases M with
    | nil => simp [extM] at h
    | cons b bs =>
      cases b with
      | none => simp [extM] at h
      | some b =>
        simp only [extM] at h
        by_cases e' : e = b.e ∧ sz = b.sz
        · obtain ⟨rfl, rfl⟩ := e'
          simp only [beq_self_eq_true, Bool.and_self, cond_true] at h
          split at h
          · rename_i a1 a2 h1 h2
            cases h
            simp only [buildM, BSh.ext_build c b.c a1 h1, extM_build ss bs a2 h2]
          · cases h
        · have : (e == b.e && sz == b.sz) = false := by simpa using e'
          rw [this] at h; cases h

structure StSh where
  F : List Sh
  M : List BkSh
def StSh.ext (s : StSh) (t : St) : Option (List Atom) :=
  match extL s.F t.F, extM s.M t.M with
  | some a, some b => some (a ++ b)
  | _, _ => none
def StSh.build (s : StSh) (a : List Atom) : St :=
  match buildL s.F a with
  | (F, r) => ⟨F, buildM s.M r⟩
theorem StSh.ext_build {s : StSh} {t : St} {a : List Atom} (h : s.ext t = some a) : t = s.build a := by
  unfold StSh.ext at h
  split at h
  · rename_i a1 a2 h1 h2
    cases h
    simp only [StSh.build, extL_build s.F t.F a1 h1, extM_build s.M t.M a2 h2]
  · cases h

/-- a specification, at arguments of a shape -/
structure FnSh where
  A : List Sh
  H : List BkSh
def FnSh.ext (s : FnSh) (args : List V) (H : List Blk) : Option (List Atom) :=
  match extL s.A args, extM s.H (H.map some) with
  | some a, some b => some (a ++ b)
  | _, _ => none
def FnSh.args (s : FnSh) (a : List Atom) : List V := (buildL s.A a).1
def FnSh.heap (s : FnSh) (a : List Atom) : Heap := buildM s.H (buildL s.A a).2
theorem FnSh.ext_build {s : FnSh} {args : List V} {H : List Blk} {a : List Atom} (h : s.ext args H = some a) : args = s.args a ∧ H.map some = s.heap a := by
  unfold FnSh.ext at h
  split at h
  · rename_i a1 a2 h1 h2
    cases h
    simp only [FnSh.args, FnSh.heap, extL_build s.A args a1 h1, extM_build s.H _ a2 h2, and_self]
  · cases h
def mkFs (sh : FnSh) (S : List Atom → (V → List Blk → Bool) → Bool) : Fs := fun args H k => match sh.ext args H with
  | some a => S a k
  | none => false
def orFs (F G : Fs) (sh : FnSh) : Fs := fun args H k => match sh.ext args H with
  | some _ => F args H k
  | none => G args H k
theorem good_or {P : Program} {f : Nat} {F G : Fs} {sh : FnSh} (h1 : GoodF P f F) (h2 : GoodF P f G) : GoodF P f (orFs F G sh) := by
  intro args H k h
  unfold orFs at h
  split at h
  · exact h1 args H k h
  · exact h2 args H k h
theorem map_some_inj {H : List Blk} {H' : List Blk} (h : H.map some = H'.map some) : H = H' := by
  have := congrArg (List.filterMap id) h
  simpa using this
theorem good_fs {cx : Cx} (hO : OSound cx.P cx.O) {f : Nat} (sh : FnSh) (S : List Atom → (V → List Blk → Bool) → Bool) (an : Nat → Option Ann) (n base : Nat) (hn : (lps cx.P f).length = n) (hk : ∀ i, i < n → HookOk cx base an (lp cx.P f i))
    (h : ∀ a k, S a k = true → ∃ H, sh.heap a = H.map some ∧ H.length = base ∧ bodyV cx an f (sh.args a) H k = true) : GoodF cx.P f (mkFs sh S) := by
  refine good_body hO n hn fun args H k hs => ?_
  unfold mkFs at hs
  split at hs
  · rename_i a ha
    obtain ⟨rfl, e2⟩ := FnSh.ext_build ha
    obtain ⟨H', g1, g2, g3⟩ := h a k hs
    rw [g1] at e2
    obtain rfl := map_some_inj e2
    exact ⟨an, fun i hi => by rw [g2]; exact hk i hi, g3⟩
  · cases hs
/-- the same for the function at the top: a call's law -/
theorem top_fs {cx : Cx} (hO : OSound cx.P cx.O) {f : Nat} (an : Nat → Option Ann) (n : Nat) (hn : (lps cx.P f).length = n) (hk : ∀ i, i < n → HookOk cx 0 an (lp cx.P f i)) {args : List V}
    (h : bodyV cx an f args [] (fun r H => match r, H with | .bool b, [] => b | _, _ => false) = true) : OkC cx.P f args [] (.bool true) [] := by
  obtain ⟨r, H', ⟨_, h1⟩, h2⟩ := bodyV_calls hO (fun fn c hfn hc => hooksOk_of c 0 fun p hp => by
    have e : lps cx.P f = loops c 0 := by simp [lps, hfn, hc]
    rw [← e] at hp
    obtain ⟨i, hi, rfl⟩ := List.getElem_of_mem hp
    have := hk i (by omega)
    unfold lp at this
    rwa [List.getD_eq_getElem?_getD, List.getElem?_eq_getElem hi] at this) h
  split at h2
  · subst h2; exact h1
  · cases h2
theorem good_mono {P : Program} {f : Nat} {sh : FnSh} {S S' : List Atom → (V → List Blk → Bool) → Bool} (h : GoodF P f (mkFs sh S)) (hs : ∀ a k, S' a k = true → S a k = true) : GoodF P f (mkFs sh S') := by
  intro args H k hk
  refine h args H k ?_
  unfold mkFs at hk ⊢
  split at hk
  · exact hs _ _ hk
  · cases hk

/-! ### numbers, as they are printed -/
def mkOk (by' : Nat) (l c : Int) : Bool := decide (0 ≤ l ∧ l ≤ c ∧ c ≤ 9223372036854775807 ∧ (by' : Int) * c ≤ 140737488355328)
def bitsN (op : BinOp) (q : IntKind) (a b : Int) : Int := (bitsI op q a b).getD 0

/-- what is said in a loop's stead, at states of some shapes -/
def mkHooks : List (StSh × (List Atom → K → Bool)) → St → K → Bool
  | [], _, _ => false
  | (sh, S) :: r, s, κ => match sh.ext s with
    | some a => S a κ
    | none => mkHooks r s κ
def HookFor (cx : Cx) (base : Nat) (an : Nat → Option Ann) (p : Nat × Code) (x : StSh × (List Atom → K → Bool)) : Prop :=
  ∀ a κ, x.2 a κ = true → iter cx.N (fun s k => codeV cx base an p.2 p.1 s (roundK cx.P base (an p.1) κ k)) (x.1.build a) = true
def HooksFor (cx : Cx) (base : Nat) (an : Nat → Option Ann) (p : Nat × Code) : List (StSh × (List Atom → K → Bool)) → Prop
  | [] => True
  | x :: r => HookFor cx base an p x ∧ HooksFor cx base an p r

theorem hooks_ok {cx : Cx} {base : Nat} {an : Nat → Option Ann} {p : Nat × Code} (l : List (StSh × (List Atom → K → Bool))) (hh : hookOf (an p.1) = some (mkHooks l)) (h : HooksFor cx base an p l) : HookOk cx base an p := by
  intro hk e s κ hs
  rw [hh] at e
  cases e
  clear hh
  revert hs h
  induction l with
  | nil => intro _ hs; simp [mkHooks] at hs
  | cons x r ih =>
    intro h hs
    obtain ⟨sh, S⟩ := x
    simp only [mkHooks] at hs
    split at hs
    · rename_i a ha
      rw [StSh.ext_build ha]
      exact h.1 a κ hs
    · exact ih h.2 hs

/-- a loop over whatever -/
def iterG {σ : Type} : Nat → (σ → (σ → Bool) → Bool) → σ → Bool
  | 0, _, _ => false
  | n + 1, step, s => step s (iterG n step)
theorem iter_tr {σ : Type} {step : St → (St → Bool) → Bool} {stepG : σ → (σ → Bool) → Bool} (C : σ → St) (h : ∀ v K, step (C v) K = stepG v fun v' => K (C v')) : ∀ n v, iter n step (C v) = iterG n stepG v := by
  intro n
  induction n with
  | zero => intro v; rfl
  | succ n ih =>
    intro v
    show step (C v) (iter n step) = stepG v (iterG n stepG)
    rw [h]
    congr 1
    funext v'
    exact ih v'

theorem iterG_from {σ : Type} {step : σ → (σ → Bool) → Bool} {C : Nat → σ} {n : Nat} (hs : ∀ i, i < n → ∀ K : σ → Bool, K (C (i + 1)) = true → step (C i) K = true) (hx : ∀ K, step (C n) K = true) :
    ∀ m, m ≤ n → ∀ N, m < N → iterG N step (C (n - m)) = true := by
  intro m
  induction m with
  | zero =>
    intro _ N hN
    cases N with
    | zero => omega
    | succ N => exact hx _
  | succ m ih =>
    intro hm N hN
    cases N with
    | zero => omega
    | succ N =>
      have := ih (by omega) N (by omega)
      refine hs (n - (m + 1)) (by omega) _ ?_
      rw [show n - (m + 1) + 1 = n - m from by omega]
      exact this
/-- a loop that ends behind n rounds -/
theorem iterG_up {σ : Type} {step : σ → (σ → Bool) → Bool} (C : Nat → σ) (n : Nat) {N : Nat} (hn : n < N) (hs : ∀ i, i < n → ∀ K : σ → Bool, K (C (i + 1)) = true → step (C i) K = true) (hx : ∀ K, step (C n) K = true) : iterG N step (C 0) = true := by
  have := iterG_from hs hx n (Nat.le_refl _) N hn
  simpa using this

end Go.Mach
