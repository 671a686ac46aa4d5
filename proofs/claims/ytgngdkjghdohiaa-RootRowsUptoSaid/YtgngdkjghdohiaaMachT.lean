/-
  THE MACHINE, twentieth part: shapes of states; what is said in a loop's stead.
  Conditions: none.
-/
import Derived.Test.YtgngdkjghdohiaaMachN
import Derived.Laws.Externs
import Derived.WalkKit
import Derived.ProofKit
import Derived.OpenShut
import Derived.Below
import Derived.Carry
import Derived.SizedLaws
section
namespace Go.Mach

inductive Atom where
  | fl (x : Fl)
  | int (n : Int)
  | bool (b : Bool)
  | fls (xs : List Fl)
  | ints (xs : List Int)
  | nat (n : Nat)
  | val (v : Value)
  | vs (cs : List V)
  | recs (t : RT) (xs : List t.Ty)
  deriving Inhabited

inductive Sh where
  | any
  | nil
  | flt
  | int (k : IntKind)
  | bool
  | val
  | ptr (n o : Nat)
  | slw (n : Nat)
  | sl (n : Nat)
  | rof
  | roi (k : IntKind)
  | fn (g : Nat) (caps : List Sh)
  | agg (cs : List Sh)
  | ro (sz : Nat) (cs : List Sh)
  | rov (sz : Nat)
  | litI (k : IntKind) (n : Int)
  | litB (b : Bool)
  | fb
  | rl (t : RT)
  | rp (cs : List Sh) (i : Nat)
  deriving Inhabited

mutual
def Sh.ext : Sh -> V -> Option (List Atom)
  | .any, .any => some []
  | .nil, .nil => some []
  | .flt, .flt x => some [.fl x]
  | .int k, .int k' n => cond (decide (k = k')) (some [.int n]) none
  | .bool, .bool b => some [.bool b]
  | .val, .val v => some [.val v]
  | .ptr n o, .ptr n' o' => cond (n == n' && o == o') (some []) none
  | .slw n, .slw n' => cond (n == n') (some []) none
  | .sl n, .sl n' o l => cond (n == n') (some [.nat o, .nat l]) none
  | .rof, .rof xs => some [.fls xs]
  | .roi k, .roi k' xs => cond (decide (k = k')) (some [.ints xs]) none
  | .fn g caps, .fn g' caps' => cond (g == g') (extL caps caps') none
  | .agg cs, .agg cs' => extL cs cs'
  | .ro sz cs, .ro sz' cs' => cond (sz == sz') (extL cs cs') none
  | .rov sz, .ro sz' cs => cond (sz == sz') (some [.vs cs]) none
  | .litI k n, .int k' n' => cond (decide (k = k') && decide (n = n')) (some []) none
  | .litB b, .bool b' => cond (b == b') (some []) none
  | .fb, .val (.float .f64 b) => some [.nat b]
  | .rl t, .rl t' xs => cond (RT.beq t t') (some [.recs t' xs]) none
  | .rp cs i, .rp cs' i' => cond (i == i') (extL cs cs') none
  | _, _ => none
def extL : List Sh -> List V -> Option (List Atom)
  | [], [] => some []
  | s :: ss, v :: vs => match Sh.ext s v, extL ss vs with
    | some a, some b => some (a ++ b)
    | _, _ => none
  | _, _ => none
end

mutual
def Sh.build : Sh -> List Atom -> V × List Atom
  | .any, r => (.any, r)
  | .nil, r => (.nil, r)
  | .flt, .fl x :: r => (.flt x, r)
  | .int k, .int n :: r => (.int k n, r)
  | .bool, .bool b :: r => (.bool b, r)
  | .val, .val v :: r => (.val v, r)
  | .ptr n o, r => (.ptr n o, r)
  | .slw n, r => (.slw n, r)
  | .sl n, .nat o :: .nat l :: r => (.sl n o l, r)
  | .rof, .fls xs :: r => (.rof xs, r)
  | .roi k, .ints xs :: r => (.roi k xs, r)
  | .fn g caps, r => match buildL caps r with
    | (vs, r) => (.fn g vs, r)
  | .agg cs, r => match buildL cs r with
    | (vs, r) => (.agg vs, r)
  | .ro sz cs, r => match buildL cs r with
    | (vs, r) => (.ro sz vs, r)
  | .rov sz, .vs cs :: r => (.ro sz cs, r)
  | .litI k n, r => (.int k n, r)
  | .litB b, r => (.bool b, r)
  | .fb, .nat b :: r => (.val (.float .f64 b), r)
  | .rl _, .recs t xs :: r => (.rl t xs, r)
  | .rp cs i, r => match buildL cs r with
    | (vs, r) => (.rp vs i, r)
  | _, r => (.any, r)
def buildL : List Sh -> List Atom -> List V × List Atom
  | [], r => ([], r)
  | s :: ss, r => match Sh.build s r with
    | (v, r) => match buildL ss r with
      | (vs, r) => (v :: vs, r)
end

mutual
theorem Sh.ext_build : ∀ (s : Sh) (v : V) (a : List Atom), s.ext v = some a -> ∀ r, s.build (a ++ r) = (v, r)
  | .any, v, a, h, r => by cases v <;> simp [Sh.ext] at h; subst h; rfl
  | .nil, v, a, h, r => by cases v <;> simp [Sh.ext] at h; subst h; rfl
  | .flt, v, a, h, r => by cases v <;> simp [Sh.ext] at h; subst h; rfl
  | .int k, v, a, h, r => by
    cases v <;> simp [Sh.ext] at h
    rename_i k' n
    by_cases e : k = k'
    · subst e; simp at h; subst h; rfl
    · simp [e] at h
  | .bool, v, a, h, r => by cases v <;> simp [Sh.ext] at h; subst h; rfl
  | .val, v, a, h, r => by cases v <;> simp [Sh.ext] at h; subst h; rfl
  | .ptr n o, v, a, h, r => by
    cases v <;> simp [Sh.ext] at h
    rename_i n' o'
    by_cases e : n = n' /\ o = o'
    · obtain ⟨rfl, rfl⟩ := e; simp at h; subst h; rfl
    · have : (n == n' && o == o') = false := by simpa using e
      rw [this] at h; cases h
  | .slw n, v, a, h, r => by
    cases v <;> simp [Sh.ext] at h
    rename_i n'
    by_cases e : n = n'
    · subst e; simp at h; subst h; rfl
    · have : (n == n') = false := by simpa using e
      rw [this] at h; cases h
  | .sl n, v, a, h, r => by
    cases v <;> simp [Sh.ext] at h
    rename_i n' o l
    by_cases e : n = n'
    · subst e; simp at h; subst h; rfl
    · have : (n == n') = false := by simpa using e
      rw [this] at h; cases h
  | .rof, v, a, h, r => by cases v <;> simp [Sh.ext] at h; subst h; rfl
  | .roi k, v, a, h, r => by
    cases v <;> simp [Sh.ext] at h
    rename_i k' n
    by_cases e : k = k'
    · subst e; simp at h; subst h; rfl
    · simp [e] at h
  | .fn g caps, v, a, h, r => by
    cases v <;> simp only [Sh.ext, reduceCtorEq] at h
    rename_i g' caps'
    by_cases e : g = g'
    · subst e
      simp only [beq_self_eq_true, cond_true] at h
      simp only [Sh.build, extL_build caps caps' a h r]
    · have : (g == g') = false := by simpa using e
      rw [this] at h; cases h
  | .agg cs, v, a, h, r => by
    cases v <;> simp only [Sh.ext, reduceCtorEq] at h
    rename_i cs'
    simp only [Sh.build, extL_build cs cs' a h r]
  | .ro sz cs, v, a, h, r => by
    cases v <;> simp only [Sh.ext, reduceCtorEq] at h
    rename_i sz' cs'
    by_cases e : sz = sz'
    · subst e
      simp only [beq_self_eq_true, cond_true] at h
      simp only [Sh.build, extL_build cs cs' a h r]
    · have : (sz == sz') = false := by simpa using e
      rw [this] at h; cases h
  | .rov sz, v, a, h, r => by
    cases v <;> simp only [Sh.ext, reduceCtorEq] at h
    rename_i sz' cs'
    by_cases e : sz = sz'
    · subst e
      simp only [beq_self_eq_true, cond_true] at h
      cases h; rfl
    · have : (sz == sz') = false := by simpa using e
      rw [this] at h; cases h
  | .litI k n, v, a, h, r => by
    cases v <;> simp only [Sh.ext, reduceCtorEq] at h
    rename_i k' n'
    by_cases e : k = k' /\ n = n'
    · obtain ⟨rfl, rfl⟩ := e; simp at h; subst h; rfl
    · have : (decide (k = k') && decide (n = n')) = false := by simpa using e
      rw [this] at h; cases h
  | .litB b, v, a, h, r => by
    cases v <;> simp only [Sh.ext, reduceCtorEq] at h
    rename_i b'
    by_cases e : b = b'
    · subst e; simp at h; subst h; rfl
    · have : (b == b') = false := by simpa using e
      rw [this] at h; cases h
  | .fb, v, a, h, r => by
    cases v with
    | val u =>
      cases u with
      | float k b => cases k <;> simp [Sh.ext] at h; subst h; rfl
      | _ => simp [Sh.ext] at h
    | _ => simp [Sh.ext] at h
  | .rl t, v, a, h, r => by
    cases v <;> simp only [Sh.ext, reduceCtorEq] at h
    rename_i t' xs
    cases e : RT.beq t t' with
    | false => rw [e] at h; cases h
    | true => rw [e] at h; cases h; rfl
  | .rp cs i, v, a, h, r => by
    cases v <;> simp only [Sh.ext, reduceCtorEq] at h
    rename_i cs' i'
    by_cases e : i = i'
    · subst e
      simp only [beq_self_eq_true, cond_true] at h
      simp only [Sh.build, extL_build cs cs' a h r]
    · have : (i == i') = false := by simpa using e
      rw [this] at h; cases h
theorem extL_build : ∀ (s : List Sh) (v : List V) (a : List Atom), extL s v = some a -> ∀ r, buildL s (a ++ r) = (v, r)
  | [], v, a, h, r => by cases v <;> simp [extL] at h; subst h; rfl
  | s :: ss, v, a, h, r => by
    cases v with
    | nil => simp [extL] at h
    | cons v vs =>
      simp only [extL] at h
      split at h
      · rename_i a1 a2 h1 h2
        cases h
        simp only [buildL, List.append_assoc, Sh.ext_build s v a1 h1, extL_build ss vs a2 h2]
      · cases h
end

inductive BSh where
  | flts
  | ints (k : IntKind)
  | cells (cs : List Sh)
  | cvs
  | recs (t : RT)
def BSh.ext : BSh -> Body -> Option (List Atom)
  | .flts, .flts xs => some [.fls xs]
  | .ints k, .ints k' xs => cond (decide (k = k')) (some [.ints xs]) none
  | .cells cs, .cells cs' => extL cs cs'
  | .cvs, .cells cs => some [.vs cs]
  | .recs t, .recs t' xs => cond (RT.beq t t') (some [.recs t' xs]) none
  | _, _ => none
def BSh.build : BSh -> List Atom -> Body × List Atom
  | .flts, .fls xs :: r => (.flts xs, r)
  | .ints k, .ints xs :: r => (.ints k xs, r)
  | .cells cs, r => match buildL cs r with
    | (vs, r) => (.cells vs, r)
  | .cvs, .vs cs :: r => (.cells cs, r)
  | .recs _, .recs t xs :: r => (.recs t xs, r)
  | _, r => (.cells [], r)
theorem BSh.ext_build (s : BSh) (v : Body) (a : List Atom) (h : s.ext v = some a) (r : List Atom) : s.build (a ++ r) = (v, r) := by
  cases s with
  | flts => cases v <;> simp [BSh.ext] at h; subst h; rfl
  | ints k =>
    cases v <;> simp [BSh.ext] at h
    rename_i k' n
    by_cases e : k = k'
    · subst e; simp at h; subst h; rfl
    · simp [e] at h
  | cells cs =>
    cases v <;> simp only [BSh.ext, reduceCtorEq] at h
    rename_i cs'
    simp only [BSh.build, extL_build cs cs' a h r]
  | cvs => cases v <;> simp [BSh.ext] at h; subst h; rfl
  | recs t =>
    cases v <;> simp only [BSh.ext, reduceCtorEq] at h
    rename_i t' xs
    cases e : RT.beq t t' with
    | false => rw [e] at h; cases h
    | true => rw [e] at h; cases h; rfl

abbrev BkSh := Option (Nat × Nat × BSh)
def extM : List BkSh -> Heap -> Option (List Atom)
  | [], [] => some []
  | none :: ss, none :: bs => extM ss bs
  | some (e, sz, c) :: ss, some b :: bs => cond (e == b.e && sz == b.sz) (match c.ext b.c, extM ss bs with
    | some a, some r => some (a ++ r)
    | _, _ => none) none
  | _, _ => none
def buildM : List BkSh -> List Atom -> Heap
  | [], _ => []
  | none :: ss, r => none :: buildM ss r
  | some (e, sz, c) :: ss, r => match c.build r with
    | (c, r) => some ⟨e, sz, c⟩ :: buildM ss r
theorem extM_build : ∀ (s : List BkSh) (M : Heap) (a : List Atom), extM s M = some a -> buildM s a = M
  | [], M, a, h => by cases M <;> simp [extM] at h; rfl
  | none :: ss, M, a, h => by
    cases M with
    | nil => simp [extM] at h
    | cons b bs =>
      cases b with
      | none => simp only [extM] at h; simp only [buildM, extM_build ss bs a h]
      | some b => simp [extM] at h
  | some (e, sz, c) :: ss, M, a, h => by
    cases M with
    | nil => simp [extM] at h
    | cons b bs =>
      cases b with
      | none => simp [extM] at h
      | some b =>
        simp only [extM] at h
        by_cases e' : e = b.e /\ sz = b.sz
        · obtain ⟨rfl, rfl⟩ := e'
          simp only [beq_self_eq_true, Bool.and_self, cond_true] at h
          split at h
          · rename_i a1 a2 h1 h2
            cases h
            simp only [buildM, BSh.ext_build c b.c a1 h1, extM_build ss bs a2 h2]
          · cases h
        · have : (e == b.e && sz == b.sz) = false := by simpa using e'
          rw [this] at h; cases h

structure StSh where
  F : List Sh
  M : List BkSh
def StSh.ext (s : StSh) (t : St) : Option (List Atom) :=
  match extL s.F t.F, extM s.M t.M with
  | some a, some b => some (a ++ b)
  | _, _ => none
def StSh.build (s : StSh) (a : List Atom) : St :=
  match buildL s.F a with
  | (F, r) => ⟨F, buildM s.M r⟩
theorem StSh.ext_build {s : StSh} {t : St} {a : List Atom} (h : s.ext t = some a) : t = s.build a := by
  unfold StSh.ext at h
  split at h
  · rename_i a1 a2 h1 h2
    cases h
    simp only [StSh.build, extL_build s.F t.F a1 h1, extM_build s.M t.M a2 h2]
  · cases h

structure FnSh where
  A : List Sh
  H : List BkSh
def FnSh.ext (s : FnSh) (args : List V) (H : List Blk) : Option (List Atom) :=
  match extL s.A args, extM s.H (H.map some) with
  | some a, some b => some (a ++ b)
  | _, _ => none
def FnSh.args (s : FnSh) (a : List Atom) : List V := (buildL s.A a).1
def FnSh.heap (s : FnSh) (a : List Atom) : Heap := buildM s.H (buildL s.A a).2
theorem FnSh.ext_build {s : FnSh} {args : List V} {H : List Blk} {a : List Atom} (h : s.ext args H = some a) : args = s.args a /\ H.map some = s.heap a := by
  unfold FnSh.ext at h
  split at h
  · rename_i a1 a2 h1 h2
    cases h
    simp only [FnSh.args, FnSh.heap, extL_build s.A args a1 h1, extM_build s.H _ a2 h2, and_self]
  · cases h
def mkFs (sh : FnSh) (S : List Atom -> (V -> List Blk -> Bool) -> Bool) : Fs := fun args H k => match sh.ext args H with
  | some a => S a k
  | none => false
theorem map_some_inj {H : List Blk} {H' : List Blk} (h : H.map some = H'.map some) : H = H' := by
  have := congrArg (List.filterMap id) h
  simpa using this
theorem good_fs {cx : Cx} (hO : OSound cx.P cx.O) {f : Nat} (sh : FnSh) (S : List Atom -> (V -> List Blk -> Bool) -> Bool) (an : Nat -> Option Ann) (n base : Nat) (hn : (lps cx.P f).length = n) (hk : ∀ i, i < n -> HookOk cx base an (lp cx.P f i))
    (h : ∀ a k, S a k = true -> ∃ H, sh.heap a = H.map some /\ H.length = base /\ bodyV cx an f (sh.args a) H k = true) : GoodF cx.P f (mkFs sh S) := by
  refine good_body hO n hn fun args H k hs => ?_
  unfold mkFs at hs
  split at hs
  · rename_i a ha
    obtain ⟨rfl, e2⟩ := FnSh.ext_build ha
    obtain ⟨H', g1, g2, g3⟩ := h a k hs
    rw [g1] at e2
    obtain rfl := map_some_inj e2
    exact ⟨an, fun i hi => by rw [g2]; exact hk i hi, g3⟩
  · cases hs
theorem top_fs {cx : Cx} (hO : OSound cx.P cx.O) {f : Nat} (an : Nat -> Option Ann) (n : Nat) (hn : (lps cx.P f).length = n) (hk : ∀ i, i < n -> HookOk cx 0 an (lp cx.P f i)) {args : List V}
    (h : bodyV cx an f args [] (fun r H => match r, H with | .bool b, [] => b | _, _ => false) = true) : OkC cx.P f args [] (.bool true) [] := by
  obtain ⟨r, H', ⟨_, h1⟩, h2⟩ := bodyV_calls hO (fun fn c hfn hc => hooksOk_of c 0 fun p hp => by
    have e : lps cx.P f = loops c 0 := by simp [lps, hfn, hc]
    rw [<- e] at hp
    obtain ⟨i, hi, rfl⟩ := List.getElem_of_mem hp
    have := hk i (by omega)
    unfold lp at this
    rwa [List.getD_eq_getElem?_getD, List.getElem?_eq_getElem hi] at this) h
  split at h2
  · subst h2; exact h1
  · cases h2
theorem good_mono {P : Program} {f : Nat} {sh : FnSh} {S S' : List Atom -> (V -> List Blk -> Bool) -> Bool} (h : GoodF P f (mkFs sh S)) (hs : ∀ a k, S' a k = true -> S a k = true) : GoodF P f (mkFs sh S') := by
  intro args H k hk
  refine h args H k ?_
  unfold mkFs at hk ⊢
  split at hk
  · exact hs _ _ hk
  · cases hk

def mkOk (by' : Nat) (l c : Int) : Bool := decide (0 <= l /\ l <= c /\ c <= 9223372036854775807 /\ (by' : Int) * c <= 140737488355328)
def bitsN (op : BinOp) (q : IntKind) (a b : Int) : Int := (bitsI op q a b).getD 0

def mkHooks : List (StSh × (List Atom -> K -> Bool)) -> St -> K -> Bool
  | [], _, _ => false
  | (sh, S) :: r, s, κ => match sh.ext s with
    | some a => S a κ
    | none => mkHooks r s κ
def HookFor (cx : Cx) (base : Nat) (an : Nat -> Option Ann) (p : Nat × Code) (x : StSh × (List Atom -> K -> Bool)) : Prop :=
  ∀ a κ, x.2 a κ = true -> iter cx.N (fun s k => codeV cx base an p.2 p.1 s (roundK cx.P base (an p.1) κ k)) (x.1.build a) = true
def HooksFor (cx : Cx) (base : Nat) (an : Nat -> Option Ann) (p : Nat × Code) : List (StSh × (List Atom -> K -> Bool)) -> Prop
  | [] => True
  | x :: r => HookFor cx base an p x /\ HooksFor cx base an p r

theorem hooks_ok {cx : Cx} {base : Nat} {an : Nat -> Option Ann} {p : Nat × Code} (l : List (StSh × (List Atom -> K -> Bool))) (hh : hookOf (an p.1) = some (mkHooks l)) (h : HooksFor cx base an p l) : HookOk cx base an p := by
  intro hk e s κ hs
  rw [hh] at e
  cases e
  clear hh
  revert hs h
  induction l with
  | nil => intro _ hs; simp [mkHooks] at hs
  | cons x r ih =>
    intro h hs
    obtain ⟨sh, S⟩ := x
    simp only [mkHooks] at hs
    split at hs
    · rename_i a ha
      rw [StSh.ext_build ha]
      exact h.1 a κ hs
    · exact ih h.2 hs

def iterG {σ : Type} : Nat -> (σ -> (σ -> Bool) -> Bool) -> σ -> Bool
  | 0, _, _ => false
  | n + 1, step, s => step s (iterG n step)
theorem iter_tr {σ : Type} {step : St -> (St -> Bool) -> Bool} {stepG : σ -> (σ -> Bool) -> Bool} (C : σ -> St) (h : ∀ v K, step (C v) K = stepG v fun v' => K (C v')) : ∀ n v, iter n step (C v) = iterG n stepG v := by
  intro n
  induction n with
  | zero => intro v; rfl
  | succ n ih =>
    intro v
    show step (C v) (iter n step) = stepG v (iterG n stepG)
    rw [h]
    congr 1
    funext v'
    exact ih v'

end Go.Mach
end
section
namespace Go.Mach

def gone (base : Nat) (M : Heap) (n : Nat) : Bool := match look M n with
  | some ⟨_, sz, .flts _⟩ => sz == 1 && decide (base <= n)
  | some ⟨_, sz, .ints _ _⟩ => sz == 1 && decide (base <= n)
  | some ⟨_, sz, .recs t _⟩ => sz == t.sz && decide (base <= n)
  | _ => false
def goneP (base : Nat) (M : Heap) (n : Nat) : Bool := gone base M n || (match look M n with
  | some ⟨_, _, .cells _⟩ => decide (base <= n)
  | _ => false)
def goneM (md : Bool) (base : Nat) (M : Heap) : Nat -> Bool := cond md (goneP base M) (gone base M)
abbrev Rc := List V -> (List V -> Bool) -> Bool
mutual
def frzK (gn : Nat -> Bool) (M : Heap) (rc : Rc) : V -> (V -> Bool) -> Bool
  | .slw n, k => cond (gn n) (match look M n with
    | some ⟨_, _, .flts xs⟩ => k (.rof xs)
    | some ⟨_, _, .ints q xs⟩ => k (.roi q xs)
    | some ⟨_, _, .recs t xs⟩ => k (.rl t xs)
    | some ⟨_, sz, .cells cs⟩ => rc cs fun cs' => k (.ro sz cs')
    | none => false) (k (.slw n))
  | .sl n o len, k => cond (gn n) (match look M n with
    | some ⟨_, _, .flts xs⟩ => decide (o + len <= xs.length) && k (.rof ((xs.drop o).take len))
    | some ⟨_, _, .ints q xs⟩ => decide (o + len <= xs.length) && k (.roi q ((xs.drop o).take len))
    | some ⟨_, _, .recs t xs⟩ => t.sz == 1 && (decide (o + len <= xs.length) && k (.rl t ((xs.drop o).take len)))
    | _ => false) (k (.sl n o len))
  | .ptr n o, k => cond (gn n) (match look M n with
    | some ⟨_, _, .cells cs⟩ => rc cs fun cs' => k (.rp cs' o)
    | _ => k .any) (k (.ptr n o))
  | .agg cs, k => frzL gn M rc cs fun cs' => k (.agg cs')
  | .tup cs, k => frzL gn M rc cs fun cs' => k (.tup cs')
  | .fn g cs, k => frzL gn M rc cs fun cs' => k (.fn g cs')
  | .ro sz cs, k => k (.ro sz cs)
  | .rp cs i, k => k (.rp cs i)
  | v, k => k v
def frzL (gn : Nat -> Bool) (M : Heap) (rc : Rc) : List V -> (List V -> Bool) -> Bool
  | [], k => k []
  | v :: r, k => frzK gn M rc v fun v' => frzL gn M rc r fun r' => k (v' :: r')
end
def frzD (gn : Nat -> Bool) (M : Heap) : Nat -> Rc
  | 0 => fun _ _ => false
  | d + 1 => frzL gn M (frzD gn M d)
def frzB (P : Program) (gn : Nat -> Bool) (M : Heap) (b : Blk) (k : Blk -> Bool) : Bool := match b.c with
  | .cells cs => frzD gn M 4 cs fun cs' => k { b with c := .cells (nilToL P (kinds P 4 b.e) cs') }
  | _ => k b
def frzH (P : Program) (gn : Nat -> Bool) (M : Heap) : Nat -> Heap -> (Heap -> Bool) -> Bool
  | _, [], k => k []
  | n, none :: r, k => frzH P gn M (n + 1) r fun r' => k (none :: r')
  | n, some b :: r, k => cond (gn n) (frzH P gn M (n + 1) r fun r' => k (none :: r')) (frzB P gn M b fun b' => frzH P gn M (n + 1) r fun r' => k (some b' :: r'))
def frzS (P : Program) (md : Bool) (base : Nat) (s : St) (k : St -> Bool) : Bool := frzD (goneM md base s.M) s.M 4 s.F fun F => frzH P (goneM md base s.M) s.M 0 s.M fun M => k ⟨F, M⟩

def Thaw (gn : Nat -> Bool) (M : Heap) (L' : LK) : Prop := ∀ m, (L' m).isSome = true -> (look M m).isSome = true /\ gn m = false
def Own (base : Nat) (gn : Nat -> Bool) : Prop := ∀ n, gn n = true -> base <= n

theorem okc_thaw {G : Gh} {ρ : Rho} {gn : Nat -> Bool} {M : Heap} {L' : LK} (hL : Thaw gn M L') {b : Nat} (h : okc G ρ (look M) b) : okc G ρ L' b := by
  refine ⟨h.1, fun n blk p hn hp => ?_⟩
  obtain ⟨h1, -⟩ := hL n (by rw [hn]; rfl)
  obtain ⟨blk', hb⟩ := Option.isSome_iff_exists.1 h1
  exact h.2 n blk' p hb hp
theorem keeps_thaw {G : Gh} {w : World} {ρ : Rho} {gn : Nat -> Bool} {M : Heap} {L' : LK} (hL : Thaw gn M L') : Keeps (okc G ρ (look M)) w ρ (okc G ρ L') w ρ :=
  ⟨fun _ _ h => h, fun _ _ h => ⟨okc_thaw hL h, rfl⟩, Nat.le_refl _⟩
theorem ok_own {G : Gh} {w : World} {ρ : Rho} {gn : Nat -> Bool} {M : Heap} {L' : LK} (hs : SimW G w ρ (look M)) (hL : Thaw gn M L') (ho : Own G.base gn) {m : Nat} (hg : gn m = true) {blk : Blk} {p : Place} (hb : look M m = some blk) (hp : ρ m = some (some p)) : okc G ρ L' p.b := by
  refine ⟨.inr (hs.own m p (ho m hg) hp), fun k blk' p' hk hp' heq => ?_⟩
  obtain ⟨h1, h2⟩ := hL k (by rw [hk]; rfl)
  obtain ⟨blk'', hb''⟩ := Option.isSome_iff_exists.1 h1
  have := hs.inj k m blk'' blk p' p hb'' hb hp' hp heq
  subst this
  rw [hg] at h2; cases h2
theorem okL_keeps {G : Gh} {w : World} {ρ : Rho} {gn : Nat -> Bool} {M : Heap} {L' : LK} (hs : SimW G w ρ (look M)) (hL : Thaw gn M L') (ho : Own G.base gn) {n : Nat} (hg : gn n = true) : Keeps (okL (okc G ρ (look M)) ρ (look M) [n]) w ρ (okc G ρ L') w ρ := by
  refine ⟨fun _ _ h => h, fun b _ h => ⟨?_, rfl⟩, Nat.le_refl _⟩
  rcases h with h | ⟨m, p, blk, hm, hb, hp, rfl⟩
  · exact okc_thaw hL h
  · simp at hm; subst hm
    exact ok_own hs hL ho hg hb hp

theorem cut_flts {xs : List Fl} {o n : Nat} (h : o + n <= xs.length) : Body.cut (.flts xs) o n = some (.flts ((xs.drop o).take n)) := by
  show cond (decide (o + n <= xs.length)) _ _ = _
  rw [decide_eq_true h]; rfl
theorem cut_ints {q : IntKind} {xs : List Int} {o n : Nat} (h : o + n <= xs.length) : Body.cut (.ints q xs) o n = some (.ints q ((xs.drop o).take n)) := by
  show cond (decide (o + n <= xs.length)) _ _ = _
  rw [decide_eq_true h]; rfl
theorem cut_recs {t : RT} {xs : List t.Ty} {o n : Nat} (hz : t.sz = 1) (h : o + n <= xs.length) : Body.cut (.recs t xs) o n = some (.recs t ((xs.drop o).take n)) := by
  show cond (t.sz == 1) (cond (decide (o + n <= xs.length)) _ _) _ = _
  rw [hz, decide_eq_true h]; rfl

abbrev Frz (base : Nat) (gn : Nat -> Bool) (M : Heap) (v v' : V) : Prop := ∀ (G : Gh) (w : World) (ρ : Rho) (L' : LK) (u : Value), G.base = base -> SimW G w ρ (look M) -> Thaw gn M L' -> Rep (okc G ρ (look M)) w ρ v u -> Rep (okc G ρ L') w ρ v' u
theorem frz_id {base : Nat} {gn : Nat -> Bool} {M : Heap} (v : V) : Frz base gn M v v := fun _ _ _ _ _ _ _ hL h => h.mono (keeps_thaw hL)
theorem frz_lend {base : Nat} {gn : Nat -> Bool} {M : Heap} {n : Nat} {v v' : V} (ho : Own base gn) (hg : gn n = true) (hl : lend M 1 v = some v') (ht : lent M 1 v = [n]) : Frz base gn M v v' := fun G w ρ L' u hG hs hL h => by
  subst hG
  have := lend_sound hs [n] (fun _ _ => rfl) 1 v v' u hl (fun m hm => by rw [ht] at hm; exact hm) h
  exact this.mono (okL_keeps hs hL ho hg)
abbrev FrzL (base : Nat) (gn : Nat -> Bool) (M : Heap) (vs vs' : List V) : Prop := vs.length = vs'.length /\ ∀ (i : Nat) v', vs'[i]? = some v' -> ∃ v, vs[i]? = some v /\ Frz base gn M v v'
def RcOk (base : Nat) (gn : Nat -> Bool) (M : Heap) (rc : Rc) : Prop := ∀ cs k, rc cs k = true -> ∃ cs', k cs' = true /\ FrzL base gn M cs cs'
theorem cells_frz {base : Nat} {gn : Nat -> Bool} {M : Heap} {cs cs' : List V} (hf : FrzL base gn M cs cs') {G : Gh} {w : World} {ρ : Rho} {L' : LK} (hG : G.base = base) (hs : SimW G w ρ (look M)) (hL : Thaw gn M L') {p : Place} {cur : Array Value} {e : Nat} (hc : w.heap[p.b]? = some (.cells cur e (0, 0)))
    (hb : BodyRep (okc G ρ (look M)) w ρ (.cells cs) cur) : ∃ g : Nat -> Value, (∀ j, j < cs'.length -> w.cell? ⟨p.b, j, none⟩ = some (g j)) /\ (∀ j, j < cs'.length -> (g j).oneCell' = true) /\ ∀ (j : Nat) c, cs'[j]? = some c -> Rep (okc G ρ L') w ρ c (g j) := by
  have hf' : ∀ j, ∃ u : Value, j < cs'.length -> (w.cell? ⟨p.b, j, none⟩ = some u /\ u.oneCell' = true /\ ∀ c, cs'[j]? = some c -> Rep (okc G ρ L') w ρ c u) := by
    intro j
    by_cases hj : j < cs'.length
    · obtain ⟨v, hv, hfz⟩ := hf.2 j cs'[j] (List.getElem?_eq_getElem hj)
      obtain ⟨u, u1, u2, u3⟩ := hb j v hv
      exact ⟨u, fun _ => ⟨cell_of_heap hc u1, u2, fun c hc => by rw [List.getElem?_eq_getElem hj] at hc; cases hc; exact hfz G w ρ L' u hG hs hL u3⟩⟩
    · exact ⟨.bool false, fun h => absurd h hj⟩
  obtain ⟨g, hg⟩ := Classical.skolem.1 hf'
  exact ⟨g, fun j hj => (hg j hj).1, fun j hj => (hg j hj).2.1, fun j c hc => (hg j (List.getElem?_eq_some_iff.1 hc).1).2.2 c hc⟩
theorem frz_ptr {base : Nat} {gn : Nat -> Bool} {M : Heap} {n o e sz : Nat} {cs cs' : List V} (ho : Own base gn) (hg : gn n = true) (hb : look M n = some ⟨e, sz, .cells cs⟩) (hf : FrzL base gn M cs cs') : Frz base gn M (.ptr n o) (.rp cs' o) := fun G w ρ L' u hG hs hL h => by
  obtain ⟨p, hp, rfl⟩ := h.ptr_inv
  obtain ⟨cur, c1, c2, c3, c4, c5, c6⟩ := hs.place hb hp
  obtain ⟨g, g1, g2, g3⟩ := cells_frz hf hG hs hL c1 c6
  subst hG
  exact .rp cs' o p.b o g (ok_own hs hL ho hg hb hp) (Array.getElem?_eq_some_iff.1 c1).1 (fun j hj => g1 _ hj) g2 g3
theorem frz_slw {base : Nat} {gn : Nat -> Bool} {M : Heap} {n e sz : Nat} {cs cs' : List V} (ho : Own base gn) (hg : gn n = true) (hb : look M n = some ⟨e, sz, .cells cs⟩) (hf : FrzL base gn M cs cs') : Frz base gn M (.slw n) (.ro sz cs') := fun G w ρ L' u hG hs hL h => by
  rcases h.slw_inv with ⟨p, hp, rfl⟩ | ⟨hp, rfl⟩
  · obtain ⟨cur, c1, c2, c3, c4, c5, c6⟩ := hs.place hb hp
    obtain ⟨g, g1, g2, g3⟩ := cells_frz hf hG hs hL c1 c6
    subst hG
    exact .ro sz cs' p.b 0 p.len p.cap g (ok_own hs hL ho hg hb hp) (Array.getElem?_eq_some_iff.1 c1).1 (by rw [<- hf.1]; exact c3) c4 (fun j hj => by rw [Nat.zero_add]; exact g1 j hj) g2 g3
  · have h0 := hs.empty hb hp
    have : cs' = [] := List.eq_nil_of_length_eq_zero (by rw [<- hf.1]; exact h0)
    subst this; exact .ron _

mutual
theorem frzK_sound {base : Nat} {gn : Nat -> Bool} {M : Heap} {rc : Rc} (ho : Own base gn) (hsz : ∀ n e sz c, gn n = true -> look M n = some ⟨e, sz, c⟩ -> (∀ xs, c = .flts xs -> sz = 1) /\ (∀ q xs, c = .ints q xs -> sz = 1) /\ (∀ t xs, c = .recs t xs -> sz = t.sz)) (hrc : RcOk base gn M rc) : ∀ (v : V) (k : V -> Bool), frzK gn M rc v k = true -> ∃ v', k v' = true /\ Frz base gn M v v'
  | .slw n, k, h => by
    simp only [frzK] at h
    cases hg : gn n with
    | false => rw [hg] at h; exact ⟨_, h, frz_id _⟩
    | true =>
      rw [hg, cond_true] at h
      split at h
      · rename_i e sz xs hb
        have h1 := (hsz n e sz _ hg hb).1 _ rfl
        exact ⟨_, h, frz_lend ho hg (by simp [lend, hb, h1]) (by simp [lent, hb])⟩
      · rename_i e sz q xs hb
        have h1 := (hsz n e sz _ hg hb).2.1 _ _ rfl
        exact ⟨_, h, frz_lend ho hg (by simp [lend, hb, h1]) (by simp [lent, hb])⟩
      · rename_i e sz t xs hb
        have h1 := (hsz n e sz _ hg hb).2.2 _ _ rfl
        exact ⟨_, h, frz_lend ho hg (by simp [lend, hb, h1]) (by simp [lent, hb])⟩
      · rename_i e sz cs hb
        obtain ⟨cs', h1, h2⟩ := hrc _ _ h
        exact ⟨_, h1, frz_slw ho hg hb h2⟩
      · cases h
  | .sl n o len, k, h => by
    simp only [frzK] at h
    cases hg : gn n with
    | false => rw [hg] at h; exact ⟨_, h, frz_id _⟩
    | true =>
      rw [hg, cond_true] at h
      split at h
      · rename_i e sz xs hb
        have h0 := (hsz n e sz _ hg hb).1 _ rfl
        subst h0
        obtain ⟨h1, h2⟩ := and_true h
        have h1 := of_decide_eq_true h1
        exact ⟨_, h2, frz_lend ho hg (by simp [lend, hb, scale, cut_flts h1]) (by simp [lent, hb, scale, cut_flts h1])⟩
      · rename_i e sz q xs hb
        have h0 := (hsz n e sz _ hg hb).2.1 _ _ rfl
        subst h0
        obtain ⟨h1, h2⟩ := and_true h
        have h1 := of_decide_eq_true h1
        exact ⟨_, h2, frz_lend ho hg (by simp [lend, hb, scale, cut_ints h1]) (by simp [lent, hb, scale, cut_ints h1])⟩
      · rename_i e sz t xs hb
        have h0 := (hsz n e sz _ hg hb).2.2 _ _ rfl
        subst h0
        obtain ⟨h1, h2⟩ := and_true h
        obtain ⟨h3, h4⟩ := and_true h2
        have hz : t.sz = 1 := by simpa using h1
        have h3 := of_decide_eq_true h3
        have hsc : scale len t.sz = len := by rw [scale_eq, hz, Nat.mul_one]
        exact ⟨_, h4, frz_lend ho hg (by simp [lend, hb, hsc, cut_recs hz h3]) (by simp [lent, hb, hsc, cut_recs hz h3])⟩
      · cases h
  | .ptr n o, k, h => by
    simp only [frzK] at h
    cases hg : gn n with
    | false => rw [hg] at h; exact ⟨_, h, frz_id _⟩
    | true =>
      rw [hg, cond_true] at h
      split at h
      · rename_i e sz cs hb
        obtain ⟨cs', h1, h2⟩ := hrc _ _ h
        exact ⟨_, h1, frz_ptr ho hg hb h2⟩
      · exact ⟨_, h, fun _ _ _ _ _ _ _ _ _ => .any _⟩
  | .agg cs, k, h => by
    simp only [frzK] at h
    obtain ⟨cs', h1, h2, h3⟩ := frzL_sound ho hsz hrc cs _ h
    refine ⟨_, h1, fun G w ρ L' u hG hs hL hr => ?_⟩
    obtain ⟨us, rfl, hl, g1, g2⟩ := hr.agg_inv
    refine .agg cs' us (by rw [<- h2]; exact hl) g1 fun i c v hc hv => ?_
    obtain ⟨c0, hc0, hf⟩ := h3 i c hc
    exact hf G w ρ L' v hG hs hL (g2 i c0 v hc0 hv)
  | .tup cs, k, h => by
    simp only [frzK] at h
    obtain ⟨cs', h1, h2, h3⟩ := frzL_sound ho hsz hrc cs _ h
    refine ⟨_, h1, fun G w ρ L' u hG hs hL hr => ?_⟩
    cases hr with
    | tup _ us hl g2 =>
      refine .tup cs' us (by rw [<- h2]; exact hl) fun i c v hc hv => ?_
      obtain ⟨c0, hc0, hf⟩ := h3 i c hc
      exact hf G w ρ L' v hG hs hL (g2 i c0 v hc0 hv)
  | .fn g cs, k, h => by
    simp only [frzK] at h
    obtain ⟨cs', h1, h2, h3⟩ := frzL_sound ho hsz hrc cs _ h
    refine ⟨_, h1, fun G w ρ L' u hG hs hL hr => ?_⟩
    cases hr with
    | fn _ _ us hl g2 =>
      refine .fn g cs' us (by rw [<- h2]; exact hl) fun i c v hc hv => ?_
      obtain ⟨c0, hc0, hf⟩ := h3 i c hc
      exact hf G w ρ L' v hG hs hL (g2 i c0 v hc0 hv)
  | .any, k, h => ⟨_, h, frz_id _⟩
  | .nil, k, h => ⟨_, h, frz_id _⟩
  | .bool _, k, h => ⟨_, h, frz_id _⟩
  | .int _ _, k, h => ⟨_, h, frz_id _⟩
  | .flt _, k, h => ⟨_, h, frz_id _⟩
  | .val _, k, h => ⟨_, h, frz_id _⟩
  | .rof _, k, h => ⟨_, h, frz_id _⟩
  | .roi _ _, k, h => ⟨_, h, frz_id _⟩
  | .ro _ _, k, h => ⟨_, h, frz_id _⟩
  | .pf _ _, k, h => ⟨_, h, frz_id _⟩
  | .pi _ _ _, k, h => ⟨_, h, frz_id _⟩
  | .rp _ _, k, h => ⟨_, h, frz_id _⟩
  | .rl _ _, k, h => ⟨_, h, frz_id _⟩
theorem frzL_sound {base : Nat} {gn : Nat -> Bool} {M : Heap} {rc : Rc} (ho : Own base gn) (hsz : ∀ n e sz c, gn n = true -> look M n = some ⟨e, sz, c⟩ -> (∀ xs, c = .flts xs -> sz = 1) /\ (∀ q xs, c = .ints q xs -> sz = 1) /\ (∀ t xs, c = .recs t xs -> sz = t.sz)) (hrc : RcOk base gn M rc) : ∀ (vs : List V) (k : List V -> Bool), frzL gn M rc vs k = true -> ∃ vs', k vs' = true /\ vs.length = vs'.length /\ ∀ (i : Nat) v', vs'[i]? = some v' -> ∃ v, vs[i]? = some v /\ Frz base gn M v v'
  | [], k, h => ⟨[], h, rfl, fun i v' hv => by simp at hv⟩
  | v :: r, k, h => by
    simp only [frzL] at h
    obtain ⟨v', h1, h2⟩ := frzK_sound ho hsz hrc v _ h
    obtain ⟨r', h3, h4, h5⟩ := frzL_sound ho hsz hrc r _ h1
    refine ⟨v' :: r', h3, by simp [h4], fun i c hc => ?_⟩
    cases i with
    | zero => simp at hc; subst hc; exact ⟨v, rfl, h2⟩
    | succ i => obtain ⟨c0, hc0, hf⟩ := h5 i c (by simpa using hc); exact ⟨c0, by simpa using hc0, hf⟩
end
theorem goneM_own (md : Bool) (base : Nat) (M : Heap) : Own base (goneM md base M) := by
  have h0 : ∀ n, gone base M n = true -> base <= n := by
    intro n h
    unfold gone at h
    split at h <;> simp at h <;> exact h.2
  intro n h
  cases md with
  | false => exact h0 n h
  | true =>
    have h : goneP base M n = true := h
    unfold goneP at h
    rcases Bool.or_eq_true_iff.1 h with h | h
    · exact h0 n h
    · split at h
      · exact of_decide_eq_true h
      · cases h
theorem goneM_sz (md : Bool) (base : Nat) (M : Heap) : ∀ n e sz c, goneM md base M n = true -> look M n = some ⟨e, sz, c⟩ -> (∀ xs, c = .flts xs -> sz = 1) /\ (∀ q xs, c = .ints q xs -> sz = 1) /\ (∀ t xs, c = .recs t xs -> sz = t.sz) := by
  intro n e sz c h hb
  have h0 : gone base M n = true -> (∀ xs, c = .flts xs -> sz = 1) /\ (∀ q xs, c = .ints q xs -> sz = 1) /\ (∀ t xs, c = .recs t xs -> sz = t.sz) := by
    intro h
    unfold gone at h
    rw [hb] at h
    refine ⟨?_, ?_, ?_⟩
    · rintro xs rfl; simp at h; exact h.1
    · rintro q xs rfl; simp at h; exact h.1
    · rintro t xs rfl; simp at h; exact h.1
  cases md with
  | false => exact h0 h
  | true =>
    have h : goneP base M n = true := h
    unfold goneP at h
    rcases Bool.or_eq_true_iff.1 h with h | h
    · exact h0 h
    · rw [hb] at h
      refine ⟨?_, ?_, ?_⟩
      · rintro xs rfl; simp at h
      · rintro q xs rfl; simp at h
      · rintro t xs rfl; simp at h
theorem frzD_ok (md : Bool) (base : Nat) (M : Heap) : ∀ d, RcOk base (goneM md base M) M (frzD (goneM md base M) M d)
  | 0 => fun cs k h => by simp [frzD] at h
  | d + 1 => fun cs k h => frzL_sound (goneM_own md base M) (goneM_sz md base M) (frzD_ok md base M d) cs k h

def FrzB (base : Nat) (gn : Nat -> Bool) (M : Heap) (b b' : Blk) : Prop := b'.e = b.e /\ b'.sz = b.sz /\ b'.c.size = b.c.size /\
  ∀ (G : Gh) (w : World) (ρ : Rho) (L' : LK) (cur : Array Value), G.base = base -> SimW G w ρ (look M) -> Thaw gn M L' -> BodyRep (okc G ρ (look M)) w ρ b.c cur -> BodyRep (okc G ρ L') w ρ b'.c cur
theorem body_at_cells (cs : List V) (i : Nat) : (Body.cells cs).at i = cs[i]? := rfl
theorem frzB_sound {P : Program} {md : Bool} {base : Nat} {M : Heap} (b : Blk) (k : Blk -> Bool) (h : frzB P (goneM md base M) M b k = true) : ∃ b', k b' = true /\ FrzB base (goneM md base M) M b b' := by
  unfold frzB at h
  split at h
  · rename_i cs hc
    obtain ⟨cs', h1, h2, h3⟩ := frzD_ok md base M 4 cs _ h
    refine ⟨_, h1, rfl, rfl, ?_, fun G w ρ L' cur hG hs hL hr => ?_⟩
    · show (nilToL P (kinds P 4 b.e) cs').length = b.c.size
      rw [nilToL_length, hc, <- h2]; rfl
    · rw [hc] at hr
      have hf : ∀ i, ∃ u : Value, i < cs'.length -> (cur[i]? = some u /\ u.oneCell' = true /\ ∀ z, cs'[i]? = some z -> Rep (okc G ρ L') w ρ z u) := by
        intro i
        by_cases hi : i < cs'.length
        · obtain ⟨c0, hc0, hfz⟩ := h3 i cs'[i] (List.getElem?_eq_getElem hi)
          obtain ⟨u, u1, u2, u3⟩ := hr i c0 (by rw [body_at_cells]; exact hc0)
          exact ⟨u, fun _ => ⟨u1, u2, fun z hz => by rw [List.getElem?_eq_getElem hi] at hz; cases hz; exact hfz G w ρ L' u hG hs hL u3⟩⟩
        · exact ⟨.bool false, fun h => absurd h hi⟩
      obtain ⟨g, hg⟩ := Classical.skolem.1 hf
      have hrl : RepL (okc G ρ L') w ρ cs' ((List.range cs'.length).map g) := by
        refine ⟨by simp, fun i x u hx hu => ?_⟩
        have hi : i < cs'.length := (List.getElem?_eq_some_iff.1 hx).1
        rw [List.getElem?_map, List.getElem?_range hi] at hu
        cases hu
        exact (hg i hi).2.2 x hx
      have hn := nilToL_rep (P := P) (kinds P 4 b.e) cs' _ hrl
      intro i x hx
      rw [body_at_cells] at hx
      have hi : i < cs'.length := by
        have := (List.getElem?_eq_some_iff.1 hx).1
        rwa [nilToL_length] at this
      refine ⟨g i, (hg i hi).1, (hg i hi).2.1, hn.2 i x (g i) hx ?_⟩
      rw [List.getElem?_map, List.getElem?_range hi]; rfl
  · exact ⟨b, h, rfl, rfl, rfl, fun G w ρ L' cur hG hs hL hr => by subst hG; exact hr.mono (keeps_thaw hL)⟩
theorem frzH_sound {P : Program} {md : Bool} {base : Nat} {M : Heap} : ∀ (l : Heap) (n : Nat) (k : Heap -> Bool), frzH P (goneM md base M) M n l k = true ->
    ∃ l', k l' = true /\ l'.length = l.length /\ ∀ (i : Nat) b', l'[i]? = some (some b') -> ∃ b, l[i]? = some (some b) /\ goneM md base M (n + i) = false /\ FrzB base (goneM md base M) M b b'
  | [], n, k, h => ⟨[], h, rfl, fun i b' hb => by simp at hb⟩
  | none :: r, n, k, h => by
    simp only [frzH] at h
    obtain ⟨l', h1, h2, h3⟩ := frzH_sound r (n + 1) _ h
    refine ⟨none :: l', h1, by simp [h2], fun i b' hb => ?_⟩
    cases i with
    | zero => simp at hb
    | succ i =>
      obtain ⟨b, g1, g2, g3⟩ := h3 i b' (by simpa using hb)
      exact ⟨b, by simpa using g1, by rw [show n + (i + 1) = n + 1 + i by omega]; exact g2, g3⟩
  | some b :: r, n, k, h => by
    simp only [frzH] at h
    cases hg : goneM md base M n with
    | true =>
      rw [hg, cond_true] at h
      obtain ⟨l', h1, h2, h3⟩ := frzH_sound r (n + 1) _ h
      refine ⟨none :: l', h1, by simp [h2], fun i b' hb => ?_⟩
      cases i with
      | zero => simp at hb
      | succ i =>
        obtain ⟨b, g1, g2, g3⟩ := h3 i b' (by simpa using hb)
        exact ⟨b, by simpa using g1, by rw [show n + (i + 1) = n + 1 + i by omega]; exact g2, g3⟩
    | false =>
      rw [hg, cond_false] at h
      obtain ⟨b1, h0, hb1⟩ := frzB_sound b _ h
      obtain ⟨l', h1, h2, h3⟩ := frzH_sound r (n + 1) _ h0
      refine ⟨some b1 :: l', h1, by simp [h2], fun i b' hb => ?_⟩
      cases i with
      | zero => simp at hb; subst hb; exact ⟨b, rfl, hg, hb1⟩
      | succ i =>
        obtain ⟨b, g1, g2, g3⟩ := h3 i b' (by simpa using hb)
        exact ⟨b, by simpa using g1, by rw [show n + (i + 1) = n + 1 + i by omega]; exact g2, g3⟩
theorem frzS_sound {P : Program} {md : Bool} {base : Nat} {s : St} {k : St -> Bool} (h : frzS P md base s k = true) :
    ∃ s', k s' = true /\ s'.M.length = s.M.length /\ ∀ (G : Gh) (w : World) (ρ : Rho) (a : Act), G.base = base -> Sim G w ρ s a -> Sim G w ρ s' a := by
  unfold frzS at h
  obtain ⟨F, h1, h2, h3⟩ := frzD_ok md base s.M 4 s.F _ h
  obtain ⟨M, h4, h5, h6⟩ := frzH_sound s.M 0 _ h1
  refine ⟨⟨F, M⟩, h4, h5, fun G w ρ a hG hs => ?_⟩
  have hL : Thaw (goneM md base s.M) s.M (look M) := by
    intro m hm
    obtain ⟨b', hb'⟩ := Option.isSome_iff_exists.1 hm
    obtain ⟨b, g1, g2, -⟩ := h6 m b' (look_some'.1 hb')
    rw [look_some'.2 g1]
    exact ⟨rfl, by simpa using g2⟩
  have hlive : ∀ m b', look M m = some b' -> ∃ b, look s.M m = some b /\ FrzB base (goneM md base s.M) s.M b b' := by
    intro m b' hb'
    obtain ⟨b, g1, -, g3⟩ := h6 m b' (look_some'.1 hb')
    exact ⟨b, look_some'.2 g1, g3⟩
  refine ⟨⟨fun n b' hb' => ?_, fun n m bn bm p q hn hm hp hq => ?_, hs.sim.own, hs.sim.size, hs.sim.os, hs.sim.tape, hs.sim.output, hs.sim.old, hs.sim.tab, hs.sim.high⟩, fun n hn => hs.dom n (by rw [<- h5]; exact hn), hs.defers, fun t => ?_, ?_, by rw [h5]; exact hs.base⟩
  · obtain ⟨b, hb, e1, e2, e3, hfz⟩ := hlive n b' hb'
    obtain ⟨q, hq, hat⟩ := hs.sim.blks n b hb
    refine ⟨q, hq, ?_⟩
    cases q with
    | none => show b'.c.size = 0; rw [e3]; exact hat
    | some p =>
      obtain ⟨cur, g1, g2, g3, g4, g5, g6⟩ := hat
      exact ⟨cur, by rw [e1]; exact g1, by rw [e2]; exact g2, by rw [e2, e3]; exact g3, g4, g5, hfz G w ρ _ cur hG hs.sim hL g6⟩
  · obtain ⟨b1, hb1, -⟩ := hlive n bn hn
    obtain ⟨b2, hb2, -⟩ := hlive m bm hm
    exact hs.sim.inj n m b1 b2 p q hb1 hb2 hp hq
  · show Rep _ w ρ (F.getD t .any) _
    by_cases ht : t < F.length
    · obtain ⟨v, hv, hf⟩ := h3 t F[t] (List.getElem?_eq_getElem ht)
      have := hs.fr t
      rw [List.getD_eq_getElem?_getD, hv] at this
      rw [List.getD_eq_getElem?_getD, List.getElem?_eq_getElem ht]
      exact hf G w ρ _ _ hG hs.sim hL this
    · rw [List.getD_eq_getElem?_getD, List.getElem?_eq_none (by omega)]
      exact .any _
  · rw [hs.size, h2]

def resTmps : List ResultVar -> List Nat
  | [] => []
  | .tmp t :: r => t :: resTmps r
  | .cell t _ :: r => t :: resTmps r
def nilRes (P : Program) (fn : Func) (r : V) : V := match r with
  | .tup vs => .tup (nilArgs P fn.resultTypes.toList vs)
  | v => nilArg P (fn.resultTypes.toList.headD 0) v
theorem nilRes_sound {P : Program} {fn : Func} {ok : Nat -> Prop} {w : World} {ρ : Rho} {x : V} {v : Value} (h : Rep ok w ρ x v) : Rep ok w ρ (nilRes P fn x) v := by
  unfold nilRes
  split
  · cases h with
    | tup _ us hl h2 =>
      have := nilArgs_rep (P := P) fn.resultTypes.toList _ us ⟨hl, h2⟩
      exact .tup _ us this.1 this.2
  · exact nilArg_sound _ h
def endZ (P : Program) (md : Bool) (base : Nat) (fn : Func) (s : St) (k : V -> List Blk -> Bool) : Bool :=
  frzS P md base (normS P base (some ⟨resTmps fn.results.toList, [], [], []⟩) s) fun s' => endV P base fn.results.toList s' fun r H => k (nilRes P fn r) H
theorem endZ_sound {P : Program} {md : Bool} {base : Nat} {fn : Func} {s : St} {k : V -> List Blk -> Bool} (hb : base <= s.M.length) (h : endZ P md base fn s k = true) :
    ∃ r H', k r H' = true /\ ∀ (G : Gh) (w : World) (ρ : Rho) (a : Act), G.base = base -> Sim G w ρ s a -> ∃ v ρ', (results fn a.tmps).run P w = .ok v w /\ (∀ n q, n < base -> ρ n = some q -> ρ' n = some q) /\ (∀ n, H'.length <= n -> ρ' n = none) /\
      SimW G w ρ' (live H') /\ Rep (okc G ρ' (live H')) w ρ' r v := by
  unfold endZ at h
  obtain ⟨n1, n2⟩ := normS_sound (P := P) (some ⟨resTmps fn.results.toList, [], [], []⟩) s base hb
  obtain ⟨s', h1, h2, h3⟩ := frzS_sound h
  obtain ⟨r, H', h4, h5⟩ := endV_sound (by rw [h2]; exact n1) h1
  refine ⟨_, H', h4, fun G w ρ a hG hs => ?_⟩
  obtain ⟨ρ1, hs1, e1⟩ := n2 G w ρ a hG hs
  obtain ⟨v, ρ', g1, g2, g3, g4, g5⟩ := h5 G w ρ1 a hG (h3 G w ρ1 a hG hs1)
  exact ⟨v, ρ', g1, fun n q hn hq => g2 n q hn (e1 n q hn hq), g3, g4, nilRes_sound g5⟩
def bodyZ (md : Bool) (cx : Cx) (an : Nat -> Option Ann) (f : Nat) (args : List V) (H : List Blk) (k : V -> List Blk -> Bool) : Bool :=
  match cx.P.funcs[f]? with
  | some fn => match fn.body with
    | some c =>
      let fin := fun s => endZ cx.P md H.length fn s k
      !(fn.name == "runtime.NumGoroutine") && codeV cx H.length an c 0 ⟨args ++ List.replicate (fn.ntmps - args.length) .any, H.map some⟩ ⟨fin, fun _ _ => false, fin⟩
    | none => false
  | none => false

theorem bodyZ_calls {md : Bool} {cx : Cx} (hO : OSound cx.P cx.O) {an : Nat -> Option Ann} {f : Nat} {args : List V} {H : List Blk} {k : V -> List Blk -> Bool} (hk : ∀ fn c, cx.P.funcs[f]? = some fn -> fn.body = some c -> HooksOk cx H.length an c 0) (h : bodyZ md cx an f args H k = true) :
    ∃ r H', (Ok cx.P f args H r H' /\ OkC cx.P f args H r H') /\ k r H' = true := by
  unfold bodyZ at h
  split at h
  · rename_i fn hfn
    split at h
    · rename_i c hc
      simp only at h
      obtain ⟨hname, h'⟩ := and_true h
      have hname' : ¬ fn.name = "runtime.NumGoroutine" := by simpa using hname
      have hb0 : H.length <= (H.map some).length := by simp
      obtain ⟨e, s', h1, h2, h3⟩ := codeV_sound hO c 0 _ _ (hk fn c hfn hc) hb0 h'
      have hend : endZ cx.P md H.length fn s' k = true /\ (e = .normal \/ e = .ret) := by
        cases e <;> simp [K.of] at h1
        · exact ⟨h1, .inl rfl⟩
        · exact ⟨h1, .inr rfl⟩
      obtain ⟨r, H', hk, hfin⟩ := endZ_sound h2 hend.1
      refine ⟨r, H', ?_, hk⟩
      have hok : OkC cx.P f args H r H' := by
        intro w ρ ok vs hsim hdom hargs
        refine calls_of_wp hfn hc ?_
        have hS : Sim (gh w H.length ok) w ρ ⟨args ++ List.replicate (fn.ntmps - args.length) .any, H.map some⟩ { tmps := vs.toArray ++ Array.replicate (fn.ntmps - vs.toArray.size) undef, defers := [] } := by
          refine ⟨hsim, fun n hn => hdom n (by simpa using hn), rfl, fun t => ?_, by simp [hargs.1], by simp [gh]⟩
          show Rep _ w ρ ((args ++ List.replicate (fn.ntmps - args.length) V.any).getD t .any) _
          by_cases ht : t < args.length
          · have htv : t < vs.length := by rw [<- hargs.1]; exact ht
            have e1 : (args ++ List.replicate (fn.ntmps - args.length) V.any).getD t .any = args[t] := by
              rw [List.getD, List.getElem?_append_left ht]; simp [ht]
            have e2 : (vs.toArray ++ Array.replicate (fn.ntmps - vs.toArray.size) undef).getD t undef = vs[t] := by
              rw [Array.getD_eq_getD_getElem?, Array.getElem?_append_left (by simpa using htv)]; simp [htv]
            rw [e1, e2]
            exact hargs.2 t _ _ (by simp [ht]) (by simp [htv])
          · have e1 : (args ++ List.replicate (fn.ntmps - args.length) V.any).getD t .any = .any := by
              rw [List.getD, List.getElem?_append_right (by omega), List.getElem?_replicate]
              split <;> rfl
            rw [e1]; exact .any _
        refine h3 (gh w H.length ok) w ρ _ rfl hS _ fun w' ρ' a' hs' hr => ?_
        obtain ⟨v, ρ'', g1, g2, g3, g4, g5⟩ := hfin (gh w H.length ok) w' ρ' a' rfl hs'
        have hpost : a'.defers = [] /\ ∃ v, (results fn a'.tmps).run cx.P w' = .ok v w' /\ ∃ v', Ending.returned v = .returned v' /\ ∃ ρ', (∀ n, n < H.length -> ρ' n = ρ n) /\ (∀ n, H'.length <= n -> ρ' n = none) /\ SimW (gh w H.length ok) w' ρ' (live H') /\ Rep (okc (gh w H.length ok) ρ' (live H')) w' ρ' r v' := by
          refine ⟨hs'.defers, v, g1, v, rfl, ρ'', fun n hn => ?_, g3, g4, g5⟩
          obtain ⟨q, hq, _⟩ := hsim.blks n H[n] (live_get.2 (by simp [hn]))
          rw [hq, g2 n q hn (hr n q hn hq)]
        rcases hend.2 with rfl | rfl
        · exact hpost
        · exact hpost
      refine ⟨?_, hok⟩
      intro w ρ ok vs hsim hdom hargs o a N Q hN
      have hrun : (callFunc f vs.toArray).run cx.P w = .ok (.enter f vs.toArray) w := by
        simp [callFunc, hfn, hname', hc]
      rw [hrun, Oper.upon_enter]
      have hcalls := hok w ρ ok vs hsim hdom hargs
      refine hcalls.mono fun e' w' he => ?_
      obtain ⟨v, rfl, hv⟩ := he
      exact hN v w' hv
    · cases h
  · cases h


theorem good_fsZ {md : Bool} {cx : Cx} (hO : OSound cx.P cx.O) {f : Nat} (sh : FnSh) (S : List Atom -> (V -> List Blk -> Bool) -> Bool) (an : Nat -> Option Ann) (n base : Nat) (hn : (lps cx.P f).length = n) (hk : ∀ i, i < n -> HookOk cx base an (lp cx.P f i))
    (h : ∀ a k, S a k = true -> ∃ H, sh.heap a = H.map some /\ H.length = base /\ bodyZ md cx an f (sh.args a) H k = true) : GoodF cx.P f (mkFs sh S) := by
  intro args H k hs
  unfold mkFs at hs
  split at hs
  · rename_i a ha
    obtain ⟨rfl, e2⟩ := FnSh.ext_build ha
    obtain ⟨H', g1, g2, g3⟩ := h a k hs
    rw [g1] at e2
    obtain rfl := map_some_inj e2
    have hks : ∀ fn c, cx.P.funcs[f]? = some fn -> fn.body = some c -> HooksOk cx H.length an c 0 := fun fn c hfn hc => hooksOk_of c _ fun p hp => by
      have e : lps cx.P f = loops c 0 := by simp [lps, hfn, hc]
      rw [<- e] at hp
      obtain ⟨i, hi, rfl⟩ := List.getElem_of_mem hp
      have := hk i (by omega)
      rw [<- g2] at this
      unfold lp at this
      rwa [List.getD_eq_getElem?_getD, List.getElem?_eq_getElem hi] at this
    obtain ⟨r, H2, h1, h2⟩ := bodyZ_calls hO hks g3
    exact ⟨r, H2, h1.1, h2⟩
  · cases hs

end Go.Mach
end
section
namespace Go.Mach

theorem canon_frep (b : Nat) : FRep (canon b) (.float .f64 b) := by
  unfold canon
  cases h : isNaN b with
  | true => exact ⟨b, rfl, h⟩
  | false => rfl

theorem repL_one {ok : Nat -> Prop} {w : World} {ρ : Rho} {x : V} {vs : List Value} (h : RepL ok w ρ [x] vs) : ∃ v, vs = [v] /\ Rep ok w ρ x v := by
  obtain ⟨h1, h2⟩ := h
  match vs, h1 with
  | [v], _ => exact ⟨v, rfl, h2 0 x v rfl rfl⟩

theorem good_ext1 {P : Program} {f : Nat} {fn : Func} {e : Array Value -> Sem Value} (hf : P.funcs[f]? = some fn) (hname : (fn.name == "runtime.NumGoroutine") = false)
    (hb : fn.body.isNone = true) (hn : Extern.findNext fn = none) (he : Extern.find fn = some e) (sh : FnSh) (S : List Atom -> (V -> List Blk -> Bool) -> Bool)
    (h : ∀ a k, S a k = true -> sh.heap a = [] /\ ∃ r, k r [] = true /\ ∀ (ok : Nat -> Prop) (w : World) (ρ : Rho) (vs : List Value), RepL ok w ρ (sh.args a) vs -> ∃ v w', (e vs.toArray).run P w = .ok v w' /\ (w' = w \/ w' = w.drew) /\ Rep ok w ρ r v) : GoodF P f (mkFs sh S) := by
  refine good_extern fun args H k hs => ?_
  unfold mkFs at hs
  split at hs
  · rename_i a ha
    obtain ⟨rfl, e2⟩ := FnSh.ext_build ha
    obtain ⟨g0, r, g1, g2⟩ := h a k hs
    rw [g0] at e2
    obtain rfl : H = [] := by simpa using e2
    refine ⟨r, g1, fun ok w ρ vs hv => ?_⟩
    obtain ⟨v, w', q1, q2, q3⟩ := g2 ok w ρ vs hv
    refine ⟨v, w', ?_, q2, q3⟩
    rw [run_callFunc_extern hf hname hb hn he, q1]; rfl
  · cases hs

theorem good_frombits {P : Program} {f : Nat} {fn : Func} (hf : P.funcs[f]? = some fn) (hname : (fn.name == "runtime.NumGoroutine") = false)
    (hb : fn.body.isNone = true) (hn : Extern.findNext fn = none) (he : Extern.find fn = some Extern.MathFloatBits.float64frombits) :
    GoodF P f (mkFs ⟨[.int .u64], []⟩ fun a k => match a with | [.int n] => k (.flt (canon n.toNat)) [] | _ => false) := by
  refine good_ext1 hf hname hb hn he _ _ fun a k h => ?_
  split at h
  · rename_i n
    refine ⟨rfl, _, h, fun ok w ρ vs hv => ?_⟩
    obtain ⟨v, rfl, hr⟩ := repL_one hv
    obtain rfl := hr.int_inv
    exact ⟨.float .f64 n.toNat, w, rfl, .inl rfl, .flt _ _ (canon_frep _)⟩
  · cases h

theorem good_bits {P : Program} {f : Nat} {fn : Func} (hf : P.funcs[f]? = some fn) (hname : (fn.name == "runtime.NumGoroutine") = false)
    (hb : fn.body.isNone = true) (hn : Extern.findNext fn = none) (he : Extern.find fn = some Extern.MathFloatBits.float64bits) :
    GoodF P f (mkFs ⟨[.flt], []⟩ fun a k => match a with | [.fl (some b)] => k (.int .u64 b) [] | _ => false) := by
  refine good_ext1 hf hname hb hn he _ _ fun a k h => ?_
  split at h
  · rename_i b
    refine ⟨rfl, _, h, fun ok w ρ vs hv => ?_⟩
    obtain ⟨v, rfl, hr⟩ := repL_one hv
    have hv := hr.flt_inv
    obtain rfl : v = .float .f64 b := hv
    exact ⟨.int .u64 b, w, rfl, .inl rfl, .int _ _⟩
  · cases h

theorem good_sqrt {P : Program} {f : Nat} {fn : Func} (hf : P.funcs[f]? = some fn) (hname : (fn.name == "runtime.NumGoroutine") = false)
    (hb : fn.body.isNone = true) (hn : Extern.findNext fn = none) (he : Extern.find fn = some Extern.MathSqrt.sqrt) (hnan : ∀ b, isNaN b = true -> Ieee.double.sqrt b = none) :
    GoodF P f (mkFs ⟨[.flt], []⟩ fun a k => match a with | [.fl x] => k (.flt (fsqrt x)) [] | _ => false) := by
  refine good_ext1 hf hname hb hn he _ _ fun a k h => ?_
  split at h
  · rename_i x
    refine ⟨rfl, _, h, fun ok w ρ vs hv => ?_⟩
    obtain ⟨v, rfl, hr⟩ := repL_one hv
    have hv : FRep x v := hr.flt_inv
    obtain ⟨b, rfl⟩ := hv.float
    have hs : Ieee.double.sqrt b = fsqrt x := by
      cases x with
      | none => obtain ⟨b', e, hb'⟩ := hv; cases e; rw [hnan _ hb']; rfl
      | some b' => cases hv; rfl
    cases hq : fsqrt x with
    | some r =>
      refine ⟨.float .f64 r, w, ?_, .inl rfl, .flt _ _ rfl⟩
      rw [hq] at hs
      have e1 : Extern.MathSqrt.sqrt [Value.float .f64 b].toArray = (match Ieee.double.sqrt b with | some r => pure (.float .f64 r) | none => do pure (.float .f64 (<- choose (.nanBits .f64 b b)))) := rfl
      rw [e1, hs]; rfl
    | none =>
      rw [hq] at hs
      refine ⟨.float .f64 ((Question.nanBits .f64 b b).cut (w.tape w.drawn (.nanBits .f64 b b))), w.drew, ?_, .inr rfl, .flt _ _ ⟨_, rfl, isNaN_cut _ _ _⟩⟩
      have e1 : Extern.MathSqrt.sqrt [Value.float .f64 b].toArray = (match Ieee.double.sqrt b with | some r => pure (.float .f64 r) | none => do pure (.float .f64 (<- choose (.nanBits .f64 b b)))) := rfl
      rw [e1, hs]; simp [Question.forced]
  · cases h

theorem good_bits_fb {P : Program} {f : Nat} {fn : Func} (hf : P.funcs[f]? = some fn) (hname : (fn.name == "runtime.NumGoroutine") = false)
    (hb : fn.body.isNone = true) (hn : Extern.findNext fn = none) (he : Extern.find fn = some Extern.MathFloatBits.float64bits) :
    GoodF P f (mkFs ⟨[.fb], []⟩ fun a k => match a with | [.nat b] => k (.int .u64 b) [] | _ => false) := by
  refine good_ext1 hf hname hb hn he _ _ fun a k h => ?_
  split at h
  · rename_i b
    refine ⟨rfl, _, h, fun ok w ρ vs hv => ?_⟩
    obtain ⟨v, rfl, hr⟩ := repL_one hv
    have hv : Rep ok w ρ (.val (.float .f64 b)) v := hr
    cases hv
    exact ⟨.int .u64 b, w, rfl, .inl rfl, .int _ _⟩
  · cases h

def fbOf : List V -> List Value -> List V
  | .flt _ :: r, v :: vs => .val v :: fbOf r vs
  | a :: r, _ :: vs => a :: fbOf r vs
  | r, [] => r
  | [], _ => []
theorem fbOf_rep {ok : Nat -> Prop} {w : World} {ρ : Rho} : ∀ (args : List V) (vs : List Value), RepL ok w ρ args vs -> RepL ok w ρ (fbOf args vs) vs
  | [], vs, h => by cases vs <;> exact h
  | a :: r, [], h => by cases a <;> exact h
  | a :: r, v :: vs, h => by
    have hr : RepL ok w ρ r vs := ⟨by have := h.1; simpa using this, fun i c u hc hu => h.2 (i + 1) c u (by simpa using hc) (by simpa using hu)⟩
    have ih := fbOf_rep r vs hr
    have ha : Rep ok w ρ a v := h.2 0 a v rfl rfl
    have key : ∀ a', Rep ok w ρ a' v -> RepL ok w ρ (a' :: fbOf r vs) (v :: vs) := by
      intro a' ha'
      refine ⟨by have := ih.1; simp [this], fun i c u hc hu => ?_⟩
      cases i with
      | zero => simp at hc hu; subst hc; subst hu; exact ha'
      | succ i => exact ih.2 i c u (by simpa using hc) (by simpa using hu)
    cases a <;> first | exact key _ (.val _) | exact key _ ha
theorem ok_fb {P : Program} {f : Nat} {args : List V} {H : List Blk} {r : V} {H' : List Blk} (h : ∀ vs : List Value, (∀ (i : Nat) x v, args[i]? = some (.flt x) -> vs[i]? = some v -> FRep x v) -> args.length = vs.length -> Ok P f (fbOf args vs) H r H') : Ok P f args H r H' := by
  intro w ρ ok vs hs hd ha
  refine h vs (fun i x v hx hv => ?_) ha.1 w ρ ok vs hs hd (fbOf_rep args vs ha)
  have := ha.2 i _ v hx hv
  exact this.flt_inv

end Go.Mach
end
section
namespace Go.Mach

end Go.Mach
end
section
namespace Go.Mach

theorem inR_of {i : Int} {n : Nat} (h1 : 0 <= i) (h2 : i < n) : inR i n = true := by unfold inR; simp; omega
theorem fits64_iff (n : Int) : fits .i64 n = true ↔ -9223372036854775808 <= n /\ n <= 9223372036854775807 := by
  unfold fits
  have e1 : IntKind.min .i64 = -9223372036854775808 := by decide
  have e2 : IntKind.max .i64 = 9223372036854775807 := by decide
  simp [e1, e2]
theorem mkOk_iff (b : Nat) (l c : Int) : mkOk b l c = true ↔ 0 <= l /\ l <= c /\ c <= 9223372036854775807 /\ (b : Int) * c <= 140737488355328 := by unfold mkOk; simp
theorem iterG_eq {σ : Type} {step : σ -> (σ -> Bool) -> Bool} (C : Nat -> σ) (n : Nat) {N : Nat} (hn : n < N) {out : Bool} (hs : ∀ i, i < n -> ∀ K : σ -> Bool, step (C i) K = K (C (i + 1))) (hx : ∀ K, step (C n) K = out) : iterG N step (C 0) = out := by
  have : ∀ m, m <= n -> ∀ N, m < N -> iterG N step (C (n - m)) = out := by
    intro m
    induction m with
    | zero =>
      intro _ N hN
      cases N with
      | zero => omega
      | succ N => exact hx _
    | succ m ih =>
      intro hm N hN
      cases N with
      | zero => omega
      | succ N =>
        show step (C (n - (m + 1))) (iterG N step) = out
        rw [hs (n - (m + 1)) (by omega), show n - (m + 1) + 1 = n - m by omega]
        exact ih (by omega) N (by omega)
  simpa using this n (Nat.le_refl _) N hn

end Go.Mach
end
section
namespace Go.Mach
open Ieee

def isNum : Datum -> Bool
  | .number .. => true
  | _ => false
def finF : Fl -> Bool
  | some b => isNum (Ieee.double.read b)
  | none => false

theorem feq_zero_zero : feq (some 0) (some 0) = true := by decide
theorem sum_opposite (d : Datum) : d.sum d.opposite = if isNum d then some (.number false 0 (match d with | .number _ _ i => i | _ => 0)) else none := by
  cases d with
  | number s m i => cases s <;> simp [Datum.opposite, Datum.sum, isNum, signed, Int.add_comm, Int.add_right_neg]
  | infinity s => cases s <;> simp [Datum.opposite, Datum.sum, isNum]
  | nan s t => simp [Datum.sum, isNum]
theorem write_zero (i : Int) : Ieee.double.write (.number false 0 i) = 0 := by simp [Format.write, Format.nearest, Format.word]
theorem fin_eq (x : Fl) : feq (fsub x x) (some 0) = finF x := by
  cases x with
  | none => rfl
  | some b =>
    simp only [fsub, fbin, finF, Format.sub, sum_opposite]
    cases h : isNum (Ieee.double.read b) with
    | true => simp only [if_true, Option.map_some, write_zero]; exact feq_zero_zero
    | false => simp [feq, ford]

def cls (b : Nat) : Int :=
  if isNaN b then 1 else if b / 4503599627370496 % 2048 = 2047 then 2 else if b / 4503599627370496 % 2048 = 0 then (if b % 4503599627370496 = 0 then 3 else 4) else 5
theorem cls_fin (b : Nat) : (decide (cls b = 1) || decide (cls b = 2)) = !isNum (Ieee.double.read b) := by
  have e1 : Ieee.double.signWeight = 9223372036854775808 := by decide
  have e2 : Ieee.double.binade = 4503599627370496 := by decide
  have e3 : Ieee.double.infRung = 9218868437227405312 := by decide
  have hn := isNaN_iff b
  unfold cls Format.read
  simp only [e1, e2, e3]
  by_cases h : isNaN b = true
  · have h' := hn.1 h
    have a1 : ¬ (b % 9223372036854775808 < 4503599627370496) := by omega
    have a2 : ¬ (b % 9223372036854775808 < 9218868437227405312) := by omega
    have a3 : ¬ (b % 9223372036854775808 = 9218868437227405312) := by omega
    simp [h, a1, a2, a3, isNum]
  · have h' : ¬ (9218868437227405312 < b % 9223372036854775808) := fun q => h (hn.2 q)
    simp only [h, if_false, Bool.false_eq_true]
    by_cases a3 : b % 9223372036854775808 = 9218868437227405312
    · have c1 : b / 4503599627370496 % 2048 = 2047 := by omega
      simp [c1, a3, isNum]
    · have c1 : ¬ (b / 4503599627370496 % 2048 = 2047) := by omega
      by_cases a1 : b % 9223372036854775808 < 4503599627370496
      · simp only [c1, a1, if_true, if_false, isNum]; split <;> (try split) <;> simp
      · have a2 : b % 9223372036854775808 < 9218868437227405312 := by omega
        simp only [c1, a1, a2, if_true, if_false, isNum]; split <;> (try split) <;> simp

theorem wrap_u64 (n : Nat) (h : n < 18446744073709551616) : IntKind.wrap .u64 (n : Int) = n := by
  have : IntKind.wrap .u64 (n : Int) = (n : Int) % 18446744073709551616 := by rfl
  rw [this]; omega
theorem bitsN_and_mask (a k : Nat) (hk : k <= 64) : bitsN .and .u64 (a : Int) ((2 ^ k - 1 : Nat) : Int) = ((a % 2 ^ k : Nat) : Int) := by
  unfold bitsN bitsI
  simp only [Option.getD_some]
  have e : ((BitVec.ofInt (IntKind.bits .u64) (a : Int)) &&& (BitVec.ofInt (IntKind.bits .u64) ((2 ^ k - 1 : Nat) : Int))).toNat = a % 2 ^ k := by
    show ((BitVec.ofInt 64 (a : Int)) &&& (BitVec.ofInt 64 ((2 ^ k - 1 : Nat) : Int))).toNat = a % 2 ^ k
    rw [BitVec.toNat_and, BitVec.ofInt_natCast, BitVec.ofInt_natCast, BitVec.toNat_ofNat, BitVec.toNat_ofNat]
    have h1 : 2 ^ k <= 2 ^ 64 := Nat.pow_le_pow_right (by decide) hk
    have h0 : 0 < 2 ^ k := Nat.two_pow_pos k
    rw [Nat.mod_eq_of_lt (a := 2 ^ k - 1) (by omega), Nat.and_two_pow_sub_one_eq_mod, Nat.mod_mod_of_dvd]
    exact Nat.pow_dvd_pow 2 hk
  rw [e, wrap_u64]
  have h1 : 2 ^ k <= 2 ^ 64 := Nat.pow_le_pow_right (by decide) hk
  have : a % 2 ^ k < 2 ^ k := Nat.mod_lt _ (Nat.two_pow_pos k)
  have : (2 : Nat) ^ 64 = 18446744073709551616 := by decide
  omega
theorem bitsN_andNot_top (a : Nat) : bitsN .andNot .u64 (a : Int) 9223372036854775808 = ((a % 9223372036854775808 : Nat) : Int) := by
  unfold bitsN bitsI
  simp only [Option.getD_some]
  have e : ((BitVec.ofInt (IntKind.bits .u64) (a : Int)) &&& ~~~(BitVec.ofInt (IntKind.bits .u64) (9223372036854775808 : Int))).toNat = a % 9223372036854775808 := by
    have hm : ~~~(BitVec.ofInt 64 (9223372036854775808 : Int)) = BitVec.ofNat 64 (2 ^ 63 - 1) := by decide
    show ((BitVec.ofInt 64 (a : Int)) &&& ~~~(BitVec.ofInt 64 (9223372036854775808 : Int))).toNat = a % 9223372036854775808
    rw [hm, BitVec.toNat_and, BitVec.ofInt_natCast, BitVec.toNat_ofNat, BitVec.toNat_ofNat, Nat.mod_eq_of_lt (a := 2 ^ 63 - 1) (by decide), Nat.and_two_pow_sub_one_eq_mod, Nat.mod_mod_of_dvd]
    exact Nat.pow_dvd_pow 2 (by decide)
  rw [e, wrap_u64]
  omega

end Go.Mach
end
section
namespace Go.Mach

def clsF : Fl -> Int
  | some b => cls b
  | none => 1
def cn : Fl -> Fl
  | some b => if isNaN b then none else some b
  | none => none
theorem clsF_fin (x : Fl) : (decide (clsF x = 1) || decide (clsF x = 2)) = !finF x := by
  cases x with
  | none => rfl
  | some b => exact cls_fin b
theorem clsF_lo (x : Fl) : 1 <= clsF x := by
  cases x with
  | none => decide
  | some b => show 1 <= cls b; unfold cls; split <;> (try split) <;> (try split) <;> (try split) <;> decide

theorem fits_ok {n : Int} (h1 : -9223372036854775808 <= n) (h2 : n <= 9223372036854775807) : fits .i64 n = true := (fits64_iff n).2 ⟨h1, h2⟩
theorem mkOk_ok {b : Nat} {l c : Int} (h0 : 0 <= l) (h1 : l <= c) (h2 : c <= 9223372036854775807) (h3 : (b : Int) * c <= 140737488355328) : mkOk b l c = true := (mkOk_iff b l c).2 ⟨h0, h1, h2, h3⟩
theorem dec_true {p : Prop} [Decidable p] (h : p) : decide p = true := by simp [h]
theorem dec_false {p : Prop} [Decidable p] (h : ¬ p) : decide p = false := by simp [h]

def allN (p : Nat -> Bool) : Nat -> Bool
  | 0 => true
  | n + 1 => allN p n && p n
theorem allN_iff {p : Nat -> Bool} : ∀ {n : Nat}, allN p n = true ↔ ∀ i, i < n -> p i = true
  | 0 => by simp [allN]
  | n + 1 => by
    rw [allN, Bool.and_eq_true, allN_iff]
    constructor
    · intro h i hi
      by_cases e : i = n
      · subst e; exact h.2
      · exact h.1 i (by omega)
    · intro h
      exact ⟨fun i hi => h i (by omega), h n (by omega)⟩
def allT (p : Nat -> Bool) (n : Nat) : Nat -> Bool
  | 0 => true
  | m + 1 => p (n - (m + 1)) && allT p n m
theorem allT_iff {p : Nat -> Bool} {n : Nat} : ∀ {m : Nat}, m <= n -> (allT p n m = true ↔ ∀ i, n - m <= i -> i < n -> p i = true)
  | 0, _ => by simp only [allT, true_iff]; intro i h1 h2; omega
  | m + 1, hm => by
    rw [allT, Bool.and_eq_true, allT_iff (by omega)]
    constructor
    · intro h i h1 h2
      by_cases e : i = n - (m + 1)
      · subst e; exact h.1
      · exact h.2 i (by omega) h2
    · intro h
      exact ⟨h _ (by omega) (by omega), fun i h1 h2 => h i (by omega) h2⟩
theorem iterG_all {σ : Type} {step : σ -> (σ -> Bool) -> Bool} (C : Nat -> σ) (p : Nat -> Bool) (n : Nat) {N : Nat} (hn : n < N) {ex out : Bool}
    (hs : ∀ i, i < n -> ∀ K : σ -> Bool, step (C i) K = cond (p i) (K (C (i + 1))) ex) (hx : ∀ K, step (C n) K = out) : iterG N step (C 0) = cond (allN p n) out ex := by
  have key : ∀ m, m <= n -> ∀ N, m < N -> iterG N step (C (n - m)) = cond (allT p n m) out ex := by
    intro m
    induction m with
    | zero =>
      intro _ N hN
      cases N with
      | zero => omega
      | succ N => exact hx _
    | succ m ih =>
      intro hm N hN
      cases N with
      | zero => omega
      | succ N =>
        show step (C (n - (m + 1))) (iterG N step) = _
        have e : n - (m + 1) + 1 = n - m := by omega
        rw [hs (n - (m + 1)) (by omega), e, ih (by omega) N (by omega), allT]
        cases p (n - (m + 1)) <;> rfl
  have := key n (Nat.le_refl _) N hn
  rw [Nat.sub_self] at this
  rw [this]
  congr 1
  rw [Bool.eq_iff_iff, allT_iff (Nat.le_refl _), allN_iff]
  exact ⟨fun h i hi => h i (by omega) hi, fun h i _ hi => h i hi⟩

end Go.Mach
end
section
namespace Go.Mach
open Ieee

theorem sqrt_nan (b : Nat) (h : isNaN b = true) : Ieee.double.sqrt b = none := by
  obtain ⟨s, g, e⟩ := read_nan h
  simp [Ieee.Format.sqrt, e, Ieee.Datum.root]

theorem good_lift1 {P : Program} {f : Nat} {F : Fs} {sh : FnSh} (S : List Atom -> (V -> List Blk -> Bool) -> Bool) (R : Fl -> V) (hF : GoodF P f F) (hsh : sh = ⟨[.flt], []⟩)
    (hS : ∀ a k, S a k = true -> ∃ x, a = [.fl x] /\ k (R x) [] = true)
    (h : ∀ b k, F [.val (.float .f64 b)] [] k = k (R (cn (some b))) []) (hR : ∀ b, R (cn (some b)) = R (some b)) : GoodF P f (mkFs sh S) := by
  subst hsh
  intro args H k hk
  unfold mkFs at hk
  split at hk
  · rename_i a ha
    obtain ⟨x, rfl, hx⟩ := hS a k hk
    obtain ⟨rfl, e2⟩ := FnSh.ext_build ha
    obtain rfl : H = [] := by simpa [FnSh.heap, buildM] using e2
    refine ⟨R x, [], ?_, hx⟩
    refine ok_fb fun vs hv hl => ?_
    match vs, hl with
    | [v], _ =>
      have hr : FRep x v := hv 0 x v rfl rfl
      obtain ⟨b, rfl⟩ := hr.float
      have hb : R x = R (cn (some b)) := by
        cases x with
        | none => obtain ⟨b', e, hb'⟩ := hr; cases e; simp [cn, hb']
        | some b' => cases hr; exact (hR _).symm
      obtain ⟨r, H', h1, h2⟩ := hF [.val (.float .f64 b)] [] (fun r H => @decide (r = R (cn (some b)) /\ H = []) (Classical.propDecidable _)) (by rw [h]; simp)
      simp only [decide_eq_true_eq] at h2
      obtain ⟨rfl, rfl⟩ := h2
      rw [hb]
      exact h1
  · cases hk
theorem good_lift2 {P : Program} {f : Nat} {F : Fs} {sh : FnSh} (S : List Atom -> (V -> List Blk -> Bool) -> Bool) (R : Fl -> Fl -> V) (hF : GoodF P f F) (hsh : sh = ⟨[.flt, .flt], []⟩)
    (hS : ∀ a k, S a k = true -> ∃ x y, a = [.fl x, .fl y] /\ k (R x y) [] = true)
    (h : ∀ b c k, F [.val (.float .f64 b), .val (.float .f64 c)] [] k = k (R (cn (some b)) (cn (some c))) []) (hR : ∀ x y, R (cn x) (cn y) = R x y) : GoodF P f (mkFs sh S) := by
  subst hsh
  intro args H k hk
  unfold mkFs at hk
  split at hk
  · rename_i a ha
    obtain ⟨x, y, rfl, hx⟩ := hS a k hk
    obtain ⟨rfl, e2⟩ := FnSh.ext_build ha
    obtain rfl : H = [] := by simpa [FnSh.heap, buildM] using e2
    refine ⟨R x y, [], ?_, hx⟩
    refine ok_fb fun vs hv hl => ?_
    match vs, hl with
    | [v, u], _ =>
      have key : ∀ {x : Fl} {v : Value}, FRep x v -> ∃ b, v = .float .f64 b /\ cn x = cn (some b) := by
        intro x v hr
        obtain ⟨b, rfl⟩ := hr.float
        refine ⟨b, rfl, ?_⟩
        cases x with
        | none => obtain ⟨b', e, hb'⟩ := hr; cases e; simp [cn, hb']
        | some b' => cases hr; rfl
      obtain ⟨b, rfl, e1⟩ := key (hv 0 x v rfl rfl)
      obtain ⟨c, rfl, e2⟩ := key (hv 1 y u rfl rfl)
      obtain ⟨r, H', h1, h2⟩ := hF [.val (.float .f64 b), .val (.float .f64 c)] [] (fun r H => @decide (r = R (cn (some b)) (cn (some c)) /\ H = []) (Classical.propDecidable _)) (by rw [h]; simp)
      simp only [decide_eq_true_eq] at h2
      obtain ⟨rfl, rfl⟩ := h2
      rw [<- hR x y, e1, e2]
      exact h1
  · cases hk

end Go.Mach
end
section
namespace Go.Mach
open Go.ChangeShapes Go.WideShapes Go.ChangeAt Go.RowKit

section
variable {H : Type} {enc : TypeId × Value -> H} {P : Program} {w : World} {sp : Nat -> Bool} {held : Bool}

end

theorem calls_of_okC {P : Program} {f : FuncId} {args : List V} {W : World} {vs : List Value} (h : OkC P f args [] (.bool true) []) (ht : ∀ b zs, tabT b = some zs -> TabAt W b zs) (hr : ∀ ok : Nat -> Prop, (∀ b, ok b) -> RepL ok W (fun _ => none) args vs) :
    Calls P f vs.toArray W fun e W' => e = .returned (.bool true) /\ Below W.heap.size W W' := by
  have hsim : SimW (gh W ([] : List Blk).length (fun _ => True)) W (fun _ => none) (live []) := by
    refine ⟨fun n blk h => ?_, fun n m bn bm p q h => ?_, fun n p _ h => (by cases h), Nat.le_refl _, rfl, rfl, rfl, fun _ _ _ => rfl, fun b zs e => ⟨trivial, ht b zs e⟩, fun n p h => (by cases h)⟩
    · simp [live, look] at h
    · simp [live, look] at h
  refine (h W (fun _ => none) (fun _ => True) vs hsim (fun _ _ => rfl) (hr _ fun b => ⟨.inl trivial, fun n blk p h => by simp [live, look] at h⟩)).mono fun e W' hq => ?_
  obtain ⟨v, rfl, ρ', -, -, hs, hv⟩ := hq
  have e1 : v = .bool true := by cases hv; rfl
  subst e1
  exact ⟨rfl, hs.os, hs.tape, hs.output, hs.size, fun b hb => hs.old b hb fun n p hn => absurd hn (Nat.not_lt_zero n)⟩

end Go.Mach
end
section
namespace Go.Mach

def flat : Code -> List Code
  | .seq a b => flat a ++ flat b
  | c => [c]
def codesV (cx : Cx) (base : Nat) (an : Nat -> Option Ann) : List Code -> Nat -> St -> K -> Bool
  | [], _, s, κ => κ.nrm s
  | c :: r, bid, s, κ => codeV cx base an c bid s { κ with nrm := fun s' => codesV cx base an r bid s' κ }
theorem codesV_app (cx : Cx) (base : Nat) (an : Nat -> Option Ann) (bid : Nat) (l2 : List Code) : ∀ (l1 : List Code) (s : St) (κ : K), codesV cx base an (l1 ++ l2) bid s κ = codesV cx base an l1 bid s { κ with nrm := fun s' => codesV cx base an l2 bid s' κ }
  | [], s, κ => rfl
  | c :: r, s, κ => by
    simp only [List.cons_append, codesV]
    congr 1
    congr 1
    funext s'
    exact codesV_app cx base an bid l2 r s' κ
theorem codeV_flat (cx : Cx) (base : Nat) (an : Nat -> Option Ann) : ∀ (c : Code) (bid : Nat) (s : St) (κ : K), codeV cx base an c bid s κ = codesV cx base an (flat c) bid s κ := by
  intro c
  induction c with
  | seq a b iha ihb =>
    intro bid s κ
    rw [flat, codesV_app, <- iha]
    simp only [codeV]
    congr 1
    congr 1
    funext s'
    exact ihb bid s' κ
  | _ => intros; rfl
def cds (P : Program) (f : Nat) : List Code := match P.funcs[f]? with
  | some fn => match fn.body with
    | some c => flat c
    | none => []
  | none => []
def sg (P : Program) (f a n : Nat) : List Code := ((cds P f).drop a).take n
theorem codesV_cut {cx : Cx} {base : Nat} {an : Nat -> Option Ann} {P : Program} {f bid : Nat} (a n m : Nat) (h : a + n = m) (s : St) (κ : K) :
    codesV cx base an ((cds P f).drop a) bid s κ = codesV cx base an (sg P f a n) bid s { κ with nrm := fun s' => codesV cx base an ((cds P f).drop m) bid s' κ } := by
  subst h
  rw [<- codesV_app]
  congr 1
  unfold sg
  rw [<- List.drop_drop, List.take_append_drop]
def st0 (P : Program) (f : Nat) (args : List V) (H : List Blk) : St := match P.funcs[f]? with
  | some fn => ⟨args ++ List.replicate (fn.ntmps - args.length) .any, H.map some⟩
  | none => ⟨[], []⟩
def finV (P : Program) (f base : Nat) (k : V -> List Blk -> Bool) : K := match P.funcs[f]? with
  | some fn => ⟨fun s => endV P base fn.results.toList s k, fun _ _ => false, fun s => endV P base fn.results.toList s k⟩
  | none => ⟨fun _ => false, fun _ _ => false, fun _ => false⟩
def finZ (md : Bool) (P : Program) (f base : Nat) (k : V -> List Blk -> Bool) : K := match P.funcs[f]? with
  | some fn => ⟨fun s => endZ P md base fn s k, fun _ _ => false, fun s => endZ P md base fn s k⟩
  | none => ⟨fun _ => false, fun _ _ => false, fun _ => false⟩
def okB (P : Program) (f : Nat) : Bool := match P.funcs[f]? with
  | some fn => fn.body.isSome && !(fn.name == "runtime.NumGoroutine")
  | none => false
theorem bodyV_codes {cx : Cx} {an : Nat -> Option Ann} {f : Nat} {args : List V} {H : List Blk} {k : V -> List Blk -> Bool} (h : okB cx.P f = true) :
    bodyV cx an f args H k = codesV cx H.length an ((cds cx.P f).drop 0) 0 (st0 cx.P f args H) (finV cx.P f H.length k) := by
  unfold okB at h
  unfold bodyV cds st0 finV
  split at h
  · rename_i fn hfn
    rw [hfn]
    simp only [Bool.and_eq_true] at h
    obtain ⟨c, hc⟩ := Option.isSome_iff_exists.1 h.1
    simp only [hc, List.drop_zero]
    rw [h.2, Bool.true_and, codeV_flat]
  · cases h
theorem bodyZ_codes {md : Bool} {cx : Cx} {an : Nat -> Option Ann} {f : Nat} {args : List V} {H : List Blk} {k : V -> List Blk -> Bool} (h : okB cx.P f = true) :
    bodyZ md cx an f args H k = codesV cx H.length an ((cds cx.P f).drop 0) 0 (st0 cx.P f args H) (finZ md cx.P f H.length k) := by
  unfold okB at h
  unfold bodyZ cds st0 finZ
  split at h
  · rename_i fn hfn
    try rw [hfn]
    simp only [Bool.and_eq_true] at h
    obtain ⟨c, hc⟩ := Option.isSome_iff_exists.1 h.1
    simp only [hc, List.drop_zero]
    rw [h.2, Bool.true_and, codeV_flat]
  · cases h
def dq (d : List V) (i : Nat) : V := d.getD i .any
def dqs (d : List V) (a : Nat) : Nat -> List V -> List V
  | 0, tl => tl
  | n + 1, tl => d.getD a .any :: dqs d (a + 1) n tl
end Go.Mach
end
section
namespace Go.Mach
open Go.ChangeShapes Go.WideShapes Go.ChangeAt Go.RowKit

def RT.wf : (t : RT) -> t.Ty -> Prop
  | .flt, x => ∀ b, x = some b -> b < 18446744073709551616
  | .int k, n => (Lit.int k n).wf = true
  | .bool, _ => True
  | .fls, xs => xs.length * 8 <= reachBytes /\ ∀ x ∈ xs, ∀ b, x = some b -> b < 18446744073709551616
  | .ints k, xs => xs.length * (k.bits / 8) <= reachBytes /\ ∀ n ∈ xs, (Lit.int k n).wf = true
  | .pair a b, p => a.wf p.1 /\ b.wf p.2
  | .rows a, xs => xs.length * 8 <= reachBytes /\ ∀ x ∈ xs, a.wf x
  | .ptr a, x => a.wf x

def RT.meas : (t : RT) -> t.Ty -> Nat
  | .flt, _ => 1
  | .int _, _ => 1
  | .bool, _ => 1
  | .fls, xs => xs.length + 1
  | .ints _, xs => xs.length + 1
  | .pair a b, p => a.meas p.1 + b.meas p.2
  | .rows a, xs => (xs.map a.meas).sum + 1
  | .ptr a, x => a.meas x + 1
mutual
def dmeas {H : Type} : DataW H -> Nat
  | .lit (.string bytes) => bytes.length + 1
  | .lit _ => 1
  | .nil => 1
  | .ptr d => dmeas d + 1
  | .slice elems spare => dmeasAll elems + dmeasAll spare + 1
  | .agg parts => dmeasAll parts + 1
  | .iface _ d => dmeas d + 1
  | .map _ => 1
  | .held _ => 1
def dmeasAll {H : Type} : List (DataW H) -> Nat
  | [] => 0
  | d :: r => dmeas d + dmeasAll r
end
theorem dmeas_pos {H : Type} (d : DataW H) : 1 <= dmeas d := by
  cases d with
  | lit l => cases l <;> simp [dmeas]
  | nil => simp [dmeas]
  | ptr d => simp [dmeas]
  | slice elems spare => simp [dmeas]
  | agg parts => simp [dmeas]
  | iface t d => simp [dmeas]
  | map entries => simp [dmeas]
  | held h => simp [dmeas]
theorem dmeasAll_sum {H : Type} (l : List (DataW H)) : dmeasAll l = (l.map dmeas).sum := by
  induction l with
  | nil => rfl
  | cons d r ih => simp [dmeasAll, ih]

def offB (P : Program) : Nat -> List Field -> Bool
  | _, [] => true
  | o, f :: r => f.offset == o && offB P (o + P.cellsOf f.type) r
def szB (P : Program) (d t : Nat) : Bool := match rtOf P d t with
  | some a => a.sz == P.cellsOf t
  | none => false
def layB (P : Program) : Nat -> Nat -> Bool
  | 0, _ => false
  | d + 1, t => match P.underlying t with
    | some (.float .f64) => true
    | some (.int _) => true
    | some .bool => true
    | some (.slice e) => match P.underlying e with
      | some (.float .f64) => P.cellsOf e == 1 && P.bytesOf e == 8
      | some (.int k) => P.cellsOf e == 1 && P.bytesOf e == k.bits / 8
      | _ => (decide (8 <= P.bytesOf e) && szB P d e) && layB P d e
    | some (.struct fs) => (fs.toList.all fun f => layB P d f.type && szB P d f.type) && (offB P 0 fs.toList && (fs.toList.map fun f => P.cellsOf f.type).sum == P.cellsOf t)
    | some (.array n e) => (layB P d e && szB P d e) && n * P.cellsOf e == P.cellsOf t
    | _ => false

theorem build_list {α : Type} {p : Nat -> α -> Prop} : ∀ (n : Nat), (∀ i, i < n -> ∃ x, p i x) -> ∃ l : List α, l.length = n /\ ∀ i x, l[i]? = some x -> p i x
  | 0, _ => ⟨[], rfl, fun i x h => by simp at h⟩
  | n + 1, h => by
    obtain ⟨l, h1, h2⟩ := build_list n fun i hi => h i (by omega)
    obtain ⟨x, hx⟩ := h n (by omega)
    refine ⟨l ++ [x], by simp [h1], fun i y hy => ?_⟩
    rw [List.getElem?_append] at hy
    split at hy
    · exact h2 i y hy
    · have : i = n := by
        have := (List.getElem?_eq_some_iff.1 hy).1
        simp at this; omega
      subst this
      rw [h1, Nat.sub_self] at hy
      simp at hy; subst hy; exact hx

section
variable {H : Type} {enc : TypeId × Value -> H} {P : Program} {w : World} {base : Nat} {held : Bool}

theorem weightsAll_mem {e : TypeId} : ∀ {l : List (DataW H)} {d : DataW H}, d ∈ l -> ∀ n ∈ d.weights P e, n ∈ DataW.weightsAll P e l
  | a :: r, d, h, n, hn => by
    rcases List.mem_cons.1 h with rfl | h
    · simp [DataW.weightsAll, hn]
    · simp [DataW.weightsAll, weightsAll_mem h n hn]

theorem cell_spot {a : Addr} {v : Value} (h : w.cell? a = some v) : a.spot = none /\ a.block < w.heap.size := by
  unfold World.cell? at h
  split at h
  · rename_i c t fr e
    split at h
    · cases h
    · rename_i hs
      refine ⟨by simpa using hs, ?_⟩
      exact (Array.getElem?_eq_some_iff.1 e).1
  · cases h
theorem add_none {a : Addr} (h : a.spot = none) (i : Nat) : a.add i = ⟨a.block, a.off + i, none⟩ := by
  obtain ⟨b, o, s⟩ := a
  simp only at h; subst h
  unfold Addr.add; split
  · rename_i h0; subst h0; rfl
  · rfl

theorem rz_app {ok : Nat -> Prop} {ρ : Rho} {as bs : List V} {us vs : List Value} (h1 : RepL ok w ρ as us) (h2 : RepL ok w ρ bs vs) : RepL ok w ρ (as ++ bs) (us ++ vs) := by
  refine ⟨by simp [h1.1, h2.1], fun i c u hc hu => ?_⟩
  rw [List.getElem?_append] at hc hu
  rw [h1.1] at hc
  split at hc
  · rename_i h; rw [if_pos h] at hu; exact h1.2 i c u hc hu
  · rename_i h; rw [if_neg h] at hu; exact h2.2 _ c u hc hu
theorem rz_one {ok : Nat -> Prop} {ρ : Rho} {x : V} {u : Value} (h : Rep ok w ρ x u) : RepL ok w ρ [x] [u] := by
  refine ⟨rfl, fun i c v hc hv => ?_⟩
  cases i with
  | zero => simp at hc hv; subst hc; subst hv; exact h
  | succ i => simp at hc

abbrev Opens (w : World) (m : Nat) (rt : RT) (cs : List Value) : Prop :=
  ∃ x : rt.Ty, (rt.wf x /\ rt.meas x <= m) /\ (∀ ok : Nat -> Prop, (∀ b, ok b) -> ∀ ρ, RepL ok w ρ (rt.cells x) cs) /\ ∀ c ∈ cs, c.oneCell' = true

theorem pairs_open : ∀ (ts : List RT) (css : List (List Value)) (ms : List Nat) (rt : RT), pairs ts = some rt -> css.length = ts.length -> ms.length = ts.length -> (∀ (i : Nat) t cs m, ts[i]? = some t -> css[i]? = some cs -> ms[i]? = some m -> Opens w m t cs) -> Opens w ms.sum rt css.flatten
  | [], _, _, _, h, _, _, _ => by cases h
  | [t], [cs], [m], rt, h, _, _, ho => by
    cases h
    have := ho 0 t cs m rfl rfl rfl
    simpa using this
  | t :: t' :: r, cs :: css, m :: ms, rt, h, hl, hm, ho => by
    simp only [pairs, Option.map_eq_some_iff] at h
    obtain ⟨q, hq, rfl⟩ := h
    obtain ⟨x, x1, x2, x3⟩ := ho 0 t cs m rfl rfl rfl
    obtain ⟨y, y1, y2, y3⟩ := pairs_open (t' :: r) css ms q hq (by simpa using hl) (by simpa using hm) fun i t cs m ht hc hm => ho (i + 1) t cs m (by simpa using ht) (by simpa using hc) (by simpa using hm)
    refine ⟨(x, y), ⟨⟨x1.1, y1.1⟩, ?_⟩, fun ok hok ρ => rz_app (x2 ok hok ρ) (y2 ok hok ρ), fun c hc => ?_⟩
    · show t.meas x + q.meas y <= _
      rw [List.sum_cons]; have := x1.2; have := y1.2; omega
    · rw [List.flatten_cons] at hc
      rcases List.mem_append.1 hc with hc | hc
      · exact x3 c hc
      · exact y3 c hc

theorem offB_at : ∀ (fs : List Field) (o : Nat), offB P o fs = true -> ∀ (cs : List Value), (o + (fs.map fun f => P.cellsOf f.type).sum <= cs.length) -> (fs.map fun f => (cs.drop f.offset).take (P.cellsOf f.type)).flatten = (cs.drop o).take (fs.map fun f => P.cellsOf f.type).sum
  | [], o, _, cs, _ => by simp
  | f :: r, o, h, cs, hl => by
    simp only [offB, Bool.and_eq_true, beq_iff_eq] at h
    obtain ⟨rfl, h⟩ := h
    simp only [List.map_cons, List.sum_cons] at hl
    rw [List.map_cons, List.flatten_cons, offB_at r _ h cs (by omega), List.map_cons, List.sum_cons, List.take_add, List.drop_drop]

theorem chunks {α : Type} (cs : List α) (c : Nat) : ∀ n, ((List.range n).map fun i => (cs.drop (i * c)).take c).flatten = cs.take (n * c)
  | 0 => by simp
  | n + 1 => by rw [List.range_succ, List.map_append, List.flatten_append, chunks cs c n, Nat.add_mul, Nat.one_mul, List.take_add]; simp
theorem mapM_list {α β : Type} {f : α -> Option β} : ∀ {l : List α} {bs : List β}, l.mapM f = some bs -> bs.length = l.length /\ ∀ (i : Nat) a b, l[i]? = some a -> bs[i]? = some b -> f a = some b
  | [], bs, h => by simp at h; subst h; simp
  | a :: r, bs, h => by
    rw [List.mapM_cons] at h
    simp only [bind, Option.bind_eq_some_iff, pure, Option.some.injEq] at h
    obtain ⟨b, hb, bs', hbs, rfl⟩ := h
    obtain ⟨h1, h2⟩ := mapM_list hbs
    refine ⟨by simp [h1], fun i a' b' ha' hb' => ?_⟩
    cases i with
    | zero => simp at ha' hb'; subst ha'; subst hb'; exact hb
    | succ i => exact h2 i a' b' (by simpa using ha') (by simpa using hb')

theorem bind_range {α β : Type} {f : α -> Option β} {o : Option α} {y : β} (h : o.bind f = some y) : ∃ x, o = some x /\ f x = some y := Option.bind_eq_some_iff.1 h

theorem sum_le_sum : ∀ {as bs : List Nat}, as.length = bs.length -> (∀ (i : Nat) a b, as[i]? = some a -> bs[i]? = some b -> a <= b) -> as.sum <= bs.sum
  | [], [], _, _ => Nat.le_refl _
  | a :: as, b :: bs, hl, h => by
    have h0 := h 0 a b rfl rfl
    have := sum_le_sum (as := as) (bs := bs) (by simpa using hl) fun i x y hx hy => h (i + 1) x y (by simpa using hx) (by simpa using hy)
    simp only [List.sum_cons]; omega
theorem open_rows {e : TypeId} {a : RT} {ad : Addr} {len cap n : Nat} {elems : List (DataW H × List MemPlace)} (hz : a.sz = P.cellsOf e) (hlen : elems.length = len)
    (hcap : len <= cap) (hel : ∀ i, i < len -> (w.cells? base (ad.add (i * P.cellsOf e)) (P.cellsOf e)).bind (DataW.trod enc P w base (fun _ => true) held n e) = elems[i]?)
    (ho : ∀ (i : Nat) cs y, elems[i]? = some y -> DataW.trod enc P w base (fun _ => true) held n e cs = some y -> cs.length = a.sz -> Opens w (dmeas y.1) a cs) :
    ∃ xs : List a.Ty, xs.length = len /\ ((∀ x ∈ xs, a.wf x) /\ (xs.map a.meas).sum <= dmeasAll (elems.map (·.1))) /\ ∀ ok : Nat -> Prop, (∀ b, ok b) -> ∀ ρ, Rep ok w ρ (.rl a xs) (.slice (some ad) len cap) := by
  have hpos := a.sz_pos
  obtain ⟨xs, h1, h2⟩ := build_list (p := fun i x => ∃ cs, w.cells? base (ad.add (i * a.sz)) a.sz = some cs /\ (a.wf x /\ ∀ y, elems[i]? = some y -> a.meas x <= dmeas y.1) /\ (∀ ok : Nat -> Prop, (∀ b, ok b) -> ∀ ρ, RepL ok w ρ (a.cells x) cs) /\ ∀ c ∈ cs, c.oneCell' = true) len fun i hi => by
    have hy := hel i hi
    rw [<- hz, List.getElem?_eq_getElem (by omega)] at hy
    obtain ⟨cs, hcs, hy⟩ := bind_range hy
    obtain ⟨x, x1, x2, x3⟩ := ho i cs _ (List.getElem?_eq_getElem (by omega)) hy (World.cells?_some hcs).2.1
    exact ⟨x, cs, hcs, ⟨x1.1, fun y hy' => by rw [List.getElem?_eq_getElem (by omega)] at hy'; cases hy'; exact x1.2⟩, x2, x3⟩
  refine ⟨xs, h1, ⟨fun x hx => ?_, ?_⟩, fun ok hok ρ => .rl _ _ _ ?_⟩
  · obtain ⟨i, hi⟩ := List.getElem?_of_mem hx
    obtain ⟨cs, _, hw, _⟩ := h2 i x hi
    exact hw.1
  · rw [dmeasAll_sum]
    refine sum_le_sum (by simp; omega) fun i p q hp hq => ?_
    rw [List.getElem?_map, Option.map_eq_some_iff] at hp
    obtain ⟨x, hx, rfl⟩ := hp
    rw [List.getElem?_map, List.getElem?_map, Option.map_eq_some_iff] at hq
    obtain ⟨z, hz', rfl⟩ := hq
    rw [Option.map_eq_some_iff] at hz'
    obtain ⟨y, hy, rfl⟩ := hz'
    obtain ⟨cs, _, hw, _⟩ := h2 i x hx
    exact hw.2 y hy
  · by_cases h0 : len = 0
    · subst h0
      obtain rfl : xs = [] := List.eq_nil_of_length_eq_zero h1
      exact .ron _
    · have hfirst : ∃ v, w.cell? ad = some v := by
        have hx0 : xs[0]? = some xs[0] := List.getElem?_eq_getElem (by omega)
        obtain ⟨cs, hcs, _⟩ := h2 0 _ hx0
        obtain ⟨_, c2, c3⟩ := World.cells?_some hcs
        have c3 := c3 0 hpos
        rw [List.getElem?_eq_getElem (by omega), Nat.zero_mul] at c3
        exact ⟨cs[0]'(by omega), c3⟩
      obtain ⟨v0, hv0⟩ := hfirst
      obtain ⟨s1, s2⟩ := cell_spot hv0
      have hcell : ∀ i, i < (a.flat xs).length -> ∃ u, w.cell? ⟨ad.block, ad.off + i, none⟩ = some u /\ u.oneCell' = true /\ ∀ c, (a.flat xs)[i]? = some c -> Rep ok w ρ c u := by
        intro i hi
        rw [a.flat_length, h1] at hi
        have hm := Nat.mod_lt i hpos
        have hdm : i = i / a.sz * a.sz + i % a.sz := by rw [Nat.mul_comm]; exact (Nat.div_add_mod i a.sz).symm
        have hd : i / a.sz < len := (Nat.div_lt_iff_lt_mul hpos).2 hi
        have hx : xs[i / a.sz]? = some xs[i / a.sz] := List.getElem?_eq_getElem (by omega)
        obtain ⟨cs, hcs, _, hr, hone⟩ := h2 _ _ hx
        obtain ⟨_, c2, c3⟩ := World.cells?_some hcs
        have c3 := c3 (i % a.sz) hm
        rw [List.getElem?_eq_getElem (by omega)] at c3
        rw [add_none s1, add_none rfl] at c3
        simp only [Nat.add_assoc] at c3
        rw [<- hdm] at c3
        refine ⟨_, c3, hone _ (List.getElem_mem _), fun c hc => ?_⟩
        rw [hdm, a.flat_get _ _ _ hm, hx] at hc
        exact (hr ok hok ρ).2 _ _ _ hc (List.getElem?_eq_getElem (by omega))
      have hch : ∀ i, ∃ u, i < (a.flat xs).length -> w.cell? ⟨ad.block, ad.off + i, none⟩ = some u /\ u.oneCell' = true /\ ∀ c, (a.flat xs)[i]? = some c -> Rep ok w ρ c u := by
        intro i
        by_cases hi : i < (a.flat xs).length
        · obtain ⟨u, hu⟩ := hcell i hi; exact ⟨u, fun _ => hu⟩
        · exact ⟨default, fun h => absurd h hi⟩
      obtain ⟨b, o, s⟩ := ad
      simp only at s1 s2; subst s1
      refine .ro a.sz _ b o len cap (fun i => Classical.choose (hch i)) (hok b) s2 (by rw [a.flat_length, h1]) hcap ?_ ?_ ?_
      · exact fun i hi => (Classical.choose_spec (hch i) hi).1
      · exact fun i hi => (Classical.choose_spec (hch i) hi).2.1
      · intro i c hc
        exact (Classical.choose_spec (hch i) (List.getElem?_eq_some_iff.1 hc).1).2.2 c hc

theorem meas_len {α : Type} (f : α -> Nat) (h : ∀ x, f x = 1) {l : List α} : (l.map f).sum = l.length := by
  induction l with
  | nil => rfl
  | cons a r ih => simp [h a, ih]; omega
theorem flat_fls (xs : List Fl) : RT.flt.flat xs = xs.map .flt := by
  induction xs with
  | nil => rfl
  | cons x r ih => show [V.flt x] ++ RT.flt.flat r = _; rw [ih]; rfl
theorem flat_ints (k : IntKind) (xs : List Int) : (RT.int k).flat xs = xs.map (.int k) := by
  induction xs with
  | nil => rfl
  | cons x r ih => show [V.int k x] ++ (RT.int k).flat r = _; rw [ih]; rfl
theorem rl_rof {ok : Nat -> Prop} {ρ : Rho} {xs : List Fl} {v : Value} (h : Rep ok w ρ (.rl .flt xs) v) : Rep ok w ρ (.rof xs) v := by
  rcases h.rl_inv.ro_inv with ⟨h0, ea, ec, rfl⟩ | ⟨b, o, len, cap, g, rfl, h1, h2, h3, h4, h5, h6, h7⟩
  · rw [flat_fls] at h0
    obtain rfl : xs = [] := by simpa using h0
    exact .rofn
  · rw [flat_fls] at h3 h5 h6 h7
    have : len = xs.length := by simpa [RT.sz] using h3
    subst this
    refine .rof xs b o cap g h1 h2 h4 (fun i hi => h5 i (by simpa using hi)) fun i x hx => ?_
    exact (h7 i (.flt x) (by simp [hx])).flt_inv
theorem rl_roi {ok : Nat -> Prop} {ρ : Rho} {k : IntKind} {xs : List Int} {v : Value} (h : Rep ok w ρ (.rl (.int k) xs) v) : Rep ok w ρ (.roi k xs) v := by
  rcases h.rl_inv.ro_inv with ⟨h0, ea, ec, rfl⟩ | ⟨b, o, len, cap, g, rfl, h1, h2, h3, h4, h5, h6, h7⟩
  · rw [flat_ints] at h0
    obtain rfl : xs = [] := by simpa using h0
    exact .roin k
  · rw [flat_ints] at h3 h5 h6 h7
    have : len = xs.length := by simpa [RT.sz] using h3
    subst this
    refine .roi k xs b o cap h1 h2 h4 fun i x hx => ?_
    have hi : i < xs.length := (List.getElem?_eq_some_iff.1 hx).1
    rw [h5 i (by simpa using hi), (h7 i (.int k x) (by simp [hx])).int_inv]

theorem open_flt1 {t : TypeId} {n : Nat} {cs : List Value} {y : DataW H × List MemPlace} {sp : Nat -> Bool} (ht : P.underlying t = some (.float .f64)) (h : DataW.trod enc P w base sp held n t cs = some y) : Opens w (dmeas y.1) .flt cs := by
  cases n with
  | zero => simp [DataW.trod] at h
  | succ n =>
    unfold DataW.trod at h
    rw [ht] at h
    split at h <;> try (simp_all; done)
    rename_i k k' b e1
    obtain rfl : k = .f64 := by cases e1; rfl
    split at h
    · rename_i hc
      obtain ⟨rfl, hw⟩ := hc
      cases h
      have hb : b < 18446744073709551616 := by simpa [Lit.wf] using hw
      refine ⟨canon b, ⟨fun b' hb' => ?_, dmeas_pos _⟩, fun ok hok ρ => rz_one (.flt _ _ (frep_canon b)), by simp [Value.oneCell']⟩
      unfold canon at hb'
      cases hn : isNaN b with
      | true => rw [hn] at hb'; cases hb'
      | false => rw [hn] at hb'; cases hb'; exact hb
    · cases h

theorem open_rt : ∀ (d t : Nat) (rt : RT), rtOf P d t = some rt -> layB P d t = true -> ∀ (fuel : Nat) (cs : List Value) (y : DataW H × List MemPlace),
    DataW.trod enc P w base (fun _ => true) held fuel t cs = some y -> (∀ n ∈ y.1.weights P t, n <= reachBytes) -> Opens w (dmeas y.1) rt cs
  | 0, _, _, h, _, _, _, _, _, _ => by cases h
  | d + 1, t, rt, h, hl, fuel, cs, y, hy, hwt => by
    unfold rtOf at h
    unfold layB at hl
    split at h
    · rename_i ht; cases h; exact open_flt1 ht hy
    · rename_i k ht; cases h
      obtain ⟨n, rfl, -, hw⟩ := DataW.trod_int ht hy
      exact ⟨n, ⟨hw, dmeas_pos _⟩, fun ok hok ρ => rz_one (.int k n), by simp [Value.oneCell']⟩
    · rename_i ht; cases h
      obtain ⟨b, rfl, -⟩ := DataW.trod_bool ht hy
      exact ⟨b, ⟨trivial, dmeas_pos _⟩, fun ok hok ρ => rz_one (.bool b), by simp [Value.oneCell']⟩
    · rename_i e ht
      rw [ht] at hl
      simp only at hl
      have key : ∀ (a : RT), a.sz = P.cellsOf e -> (∀ fuel cs y, DataW.trod enc P w base (fun _ => true) held fuel e cs = some y -> (∀ n ∈ y.1.weights P e, n <= reachBytes) -> Opens w (dmeas y.1) a cs) ->
          ∃ c, cs = [c] /\ c.oneCell' = true /\ ∃ xs : List a.Ty, (xs.length * P.bytesOf e <= reachBytes /\ (xs.map a.meas).sum + 1 <= dmeas y.1) /\ (∀ x ∈ xs, a.wf x) /\ ∀ ok : Nat -> Prop, (∀ b, ok b) -> ∀ ρ, Rep ok w ρ (.rl a xs) c := by
        intro a hz ho
        rcases DataW.trod_slice ht hy with ⟨rfl, rfl⟩ | ⟨ad, len, cap, elems, rest, n, _, rfl, rfl, _, hcap, _, hlen, hel, _, _⟩
        · exact ⟨_, rfl, rfl, [], ⟨by simp, dmeas_pos _⟩, by simp, fun ok hok ρ => .rl _ _ _ (.ron _)⟩
        · have hmem : ∀ (i : Nat) z, elems[i]? = some z -> ∀ n ∈ z.1.weights P e, n <= reachBytes := by
            intro i z hz n hn
            refine hwt n ?_
            simp only [DataW.weights, ht, List.mem_cons, List.mem_append]
            exact .inr (.inl (weightsAll_mem (List.mem_map.2 ⟨z, List.mem_of_getElem? hz, rfl⟩) n hn))
          obtain ⟨xs, x1, x2, x3⟩ := open_rows hz hlen hcap hel fun i cs z hz hcs _ => ho n cs z hcs (hmem i z hz)
          refine ⟨_, rfl, rfl, xs, ⟨?_, by have := x2.2; simp only [dmeas]; omega⟩, x2.1, x3⟩
          have := hwt ((elems.length + rest.length) * P.bytesOf e) (by simp [DataW.weights, ht])
          rw [x1, <- hlen]
          exact Nat.le_trans (Nat.mul_le_mul_right _ (by omega)) this
      split at h
      · rename_i he
        cases h
        rw [he] at hl
        simp only [Bool.and_eq_true, beq_iff_eq] at hl
        obtain ⟨c, rfl, hc, xs, x1, x2, x3⟩ := key .flt (by simp [RT.sz, hl.1]) fun fuel cs y hy _ => open_flt1 he hy
        rw [hl.2] at x1
        have x4 := x1.2
        rw [meas_len (RT.flt.meas) fun _ => rfl] at x4
        exact ⟨xs, ⟨⟨x1.1, x2⟩, x4⟩, fun ok hok ρ => rz_one (rl_rof (x3 ok hok ρ)), by simpa using hc⟩
      · rename_i k he
        cases h
        rw [he] at hl
        simp only [Bool.and_eq_true, beq_iff_eq] at hl
        obtain ⟨c, rfl, hc, xs, x1, x2, x3⟩ := key (.int k) (by simp [RT.sz, hl.1]) fun fuel cs y hy _ => by
          obtain ⟨n, rfl, -, hw⟩ := DataW.trod_int he hy
          exact ⟨n, ⟨hw, dmeas_pos _⟩, fun ok hok ρ => rz_one (.int k n), by simp [Value.oneCell']⟩
        rw [hl.2] at x1
        have x4 := x1.2
        rw [meas_len ((RT.int k).meas) fun _ => rfl] at x4
        exact ⟨xs, ⟨⟨x1.1, x2⟩, x4⟩, fun ok hok ρ => rz_one (rl_roi (x3 ok hok ρ)), by simpa using hc⟩
      · rename_i n1 n2
        rw [Option.map_eq_some_iff] at h
        obtain ⟨a, ha, rfl⟩ := h
        have hl' : (decide (8 <= P.bytesOf e) && szB P d e && layB P d e) = true := by
          split at hl
          · rename_i q; exact absurd q n1
          · rename_i k q; exact absurd q (n2 k)
          · exact hl
        simp only [Bool.and_eq_true, decide_eq_true_eq] at hl'
        obtain ⟨⟨l1, l2⟩, l3⟩ := hl'
        unfold szB at l2
        rw [ha] at l2
        obtain ⟨c, rfl, hc, xs, x1, x2, x3⟩ := key a (by simpa using l2) fun fuel cs y hy hw => open_rt d e a ha l3 fuel cs y hy hw
        exact ⟨xs, ⟨⟨Nat.le_trans (Nat.mul_le_mul_left _ l1) x1.1, x2⟩, x1.2⟩, fun ok hok ρ => rz_one (x3 ok hok ρ), by simpa using hc⟩
    · rename_i e ht
      rw [ht] at hl; cases hl
    · rename_i fs ht
      rw [ht] at hl
      simp only [Bool.and_eq_true, List.all_eq_true, beq_iff_eq] at hl
      obtain ⟨l1, l2, l3⟩ := hl
      rw [Option.bind_eq_some_iff] at h
      obtain ⟨ts, hts, hp⟩ := h
      obtain ⟨t1, t2⟩ := mapM_list hts
      obtain ⟨ys, n, _, rfl, hcl, hyl, hat⟩ := DataW.trod_struct ht hy
      have hyl' : ys.length = fs.toList.length := by rw [hyl]; simp
      have hcs : (fs.toList.map fun f => (cs.drop f.offset).take (P.cellsOf f.type)).flatten = cs := by
        rw [offB_at _ 0 l2 cs (by omega), l3, <- hcl]; simp
      have := pairs_open (w := w) ts (fs.toList.map fun f => (cs.drop f.offset).take (P.cellsOf f.type)) (ys.map fun y => dmeas y.1) rt hp (by simp [t1]) (by simp [t1, hyl']) fun i a c m ha hc hm => by
        rw [List.getElem?_map, Option.map_eq_some_iff] at hc hm
        obtain ⟨f, hf, rfl⟩ := hc
        obtain ⟨y, hyi, rfl⟩ := hm
        have hq := t2 i f a hf ha
        obtain ⟨m1, m2⟩ := l1 f (List.mem_of_getElem? hf)
        have hf' : fs[i]? = some f := by simpa using hf
        have hy' := hat i f hf'
        rw [hyi] at hy'
        refine open_rt d f.type a hq m1 n _ _ hy' fun m hm => hwt m ?_
        simp only [DataW.weights, ht]
        exact DataW.weights_mem_each (j := i) (t := f.type) (d := y.1) (by simp [hf']) (by simp [hyi]) m hm
      rw [hcs] at this
      obtain ⟨x, ⟨x1, x2⟩, x3⟩ := this
      refine ⟨x, ⟨x1, Nat.le_trans x2 ?_⟩, x3⟩
      simp only [dmeas, dmeasAll_sum, List.map_map]
      exact Nat.le_succ _
    · rename_i n e ht
      rw [ht] at hl
      simp only [Bool.and_eq_true, beq_iff_eq] at hl
      obtain ⟨⟨l1, l2⟩, l3⟩ := hl
      rw [Option.bind_eq_some_iff] at h
      obtain ⟨a, ha, hp⟩ := h
      obtain ⟨ys, m, _, rfl, hcl, hyl, hat⟩ := DataW.trod_array ht hy
      have hcs : ((List.range n).map fun i => (cs.drop (i * P.cellsOf e)).take (P.cellsOf e)).flatten = cs := by
        rw [chunks, l3, <- hcl]; simp
      have := pairs_open (w := w) (List.replicate n a) ((List.range n).map fun i => (cs.drop (i * P.cellsOf e)).take (P.cellsOf e)) (ys.map fun y => dmeas y.1) rt hp (by simp) (by simp [hyl]) fun i b c q hb hc hq => by
        rw [List.getElem?_map, Option.map_eq_some_iff] at hc hq
        obtain ⟨j, hj, rfl⟩ := hc
        obtain ⟨y, hyi, rfl⟩ := hq
        have hi : i < n := by have := (List.getElem?_eq_some_iff.1 hj).1; simpa using this
        rw [List.getElem?_range hi] at hj
        cases hj
        rw [List.getElem?_replicate, if_pos hi] at hb
        cases hb
        have hy' := hat i hi
        rw [hyi] at hy'
        refine open_rt d e a ha l1 m _ _ hy' fun z hz => hwt z ?_
        simp only [DataW.weights, ht]
        exact weightsAll_mem (List.mem_map.2 ⟨y, List.mem_of_getElem? hyi, rfl⟩) z hz
      rw [hcs] at this
      obtain ⟨x, ⟨x1, x2⟩, x3⟩ := this
      refine ⟨x, ⟨x1, Nat.le_trans x2 ?_⟩, x3⟩
      simp only [dmeas, dmeasAll_sum, List.map_map]
      exact Nat.le_succ _
    · cases h
end

end Go.Mach
end
section
namespace Go.Mach
open Go.ChangeShapes Go.WideShapes Go.ChangeAt Go.RowKit

section
variable {H : Type} {enc : TypeId × Value -> H} {P : Program} {w : World}

theorem lists_nil {ok : Nat -> Prop} {w : World} {ρ : Rho} : RepL ok w ρ [] [] := ⟨rfl, fun i u v hu _ => by simp at hu⟩
theorem lists_cons {ok : Nat -> Prop} {w : World} {ρ : Rho} {a : V} {x : Value} {us : List V} {xs : List Value} (h1 : Rep ok w ρ a x) (h2 : RepL ok w ρ us xs) : RepL ok w ρ (a :: us) (x :: xs) := by
  refine ⟨by simp [h2.1], fun i u v hu hv => ?_⟩
  cases i with
  | zero => simp at hu hv; subst hu; subst hv; exact h1
  | succ i => exact h2.2 i u v (by simpa using hu) (by simpa using hv)
def isAggB (P : Program) (t : Nat) : Bool := match P.underlying t with
  | some (.struct _) => true
  | some (.array _ _) => true
  | _ => false
def argV (P : Program) (t : Nat) (rt : RT) (x : rt.Ty) : V := cond (isAggB P t) (.agg (rt.cells x)) ((rt.cells x).headD .any)

theorem not_agg {r : Reach} {b0 : Nat} {t : TypeId} {v : Value} (ht : isAggB P t = false) (hval : Value.okWide P w r b0 t v) : v.cells = #[v] := by
  cases v with
  | agg cs =>
    exfalso
    unfold isAggB at ht
    unfold Value.okWide at hval
    revert ht hval
    cases hu : P.underlying t with
    | none => intro _ hval; simp [Cell.okWide, Cell.ok, hu] at hval
    | some d => cases d <;> simp [Cell.okWide, Cell.ok, hu]
  | _ => rfl

theorem open_arg {r : Reach} {b0 base : Nat} {held : Bool} {t d : Nat} {rt : RT} {v : Value} {y : DataW H} {ps : List MemPlace} (hrt : rtOf P d t = some rt) (hl : layB P d t = true)
    (hval : Value.okWide P w r b0 t v) (hd : DataW.Trod enc P w base (fun _ => true) held t v y ps) (hw : ∀ n ∈ y.weights P t, n <= reachBytes) :
    ∃ x : rt.Ty, (rt.wf x /\ rt.meas x <= dmeas y) /\ ∀ ok : Nat -> Prop, (∀ b, ok b) -> ∀ ρ, Rep ok w ρ (argV P t rt x) v := by
  obtain ⟨fuel, hf⟩ := hd
  obtain ⟨x, x1, x2, x3⟩ := open_rt d t rt hrt hl fuel _ _ hf hw
  refine ⟨x, x1, fun ok hok ρ => ?_⟩
  have hx := x2 ok hok ρ
  unfold argV
  cases ha : isAggB P t with
  | true =>
    rw [cond_true]
    have : ∃ cs : Array Value, v = .agg cs := by
      unfold isAggB at ha
      unfold Value.okWide at hval
      split at ha
      · rename_i e; rw [e] at hval; obtain ⟨cs, h, -⟩ := hval; exact ⟨cs, h⟩
      · rename_i e; rw [e] at hval; obtain ⟨cs, h, -⟩ := hval; exact ⟨cs, h⟩
      · cases ha
    obtain ⟨cs, rfl⟩ := this
    have e : (Value.cells (.agg cs)) = cs := rfl
    rw [e] at hx x3
    have := Rep.agg (ok := ok) (w := w) (ρ := ρ) (rt.cells x) cs.toList hx.1 (fun v hv => x3 v hv) hx.2
    simpa using this
  | false =>
    rw [cond_false]
    rw [not_agg ha hval] at hx
    have hl1 : (rt.cells x).length = 1 := hx.1
    match hc : rt.cells x, hl1 with
    | [c], _ =>
      rw [hc] at hx
      exact hx.2 0 c v rfl rfl

theorem weigh_arg {ts : List TypeId} {ds : List (DataW H)} (h : (DataW.weightsEach P ts ds).all (· <= reachBytes) = true) {j : Nat} {t : TypeId} {d : DataW H} (ht : ts[j]? = some t) (hd : ds[j]? = some d) : ∀ n ∈ d.weights P t, n <= reachBytes :=
  fun n hn => by simpa using List.all_eq_true.1 h n (DataW.weights_mem_each ht hd n hn)
end

end Go.Mach
end
