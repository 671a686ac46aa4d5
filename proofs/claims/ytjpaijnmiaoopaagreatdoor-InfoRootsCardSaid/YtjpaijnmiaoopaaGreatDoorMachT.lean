/-
  THE MACHINE, twentieth part: shapes of states; what is said in a loop's stead.
  Conditions: none.
-/
import Derived.Test.YtjpaijnmiaoopaaGreatDoorMachO
import Derived.Recover
import Derived.Laws.Externs
import Derived.WalkKit
import Derived.ProofKit
import Derived.OpenShut
import Derived.Below
import Derived.Carry
import Derived.SizedLaws
section
namespace Go.Mach
inductive Atom where
 | fl (x : Fl)
 | int (n : Int)
 | bool (b : Bool)
 | fls (xs : List Fl)
 | ints (xs : List Int)
 | nat (n : Nat)
 | val (v : Value)
 | vs (cs : List V)
 | recs (t : RT) (xs : List t.Ty)
 deriving Inhabited
inductive Sh where
 | any
 | nil
 | flt
 | int (k : IntKind)
 | bool
 | val
 | ptr (n o : Nat)
 | slw (n : Nat)
 | sl (n : Nat)
 | rof
 | roi (k : IntKind)
 | fn (g : Nat) (caps : List Sh)
 | agg (cs : List Sh)
 | ro (sz : Nat) (cs : List Sh)
 | rov (sz : Nat)
 | litI (k : IntKind) (n : Int)
 | litB (b : Bool)
 | fb
 | rl (t : RT)
 | rp (cs : List Sh) (i : Nat)
 | opt (n o : Nat)
 | slz (n : Nat)
 | nilp
 deriving Inhabited
mutual
def Sh.ext : Sh -> V -> Option (List Atom)
 | .any, .any => some []
 | .nil, .nil => some []
 | .flt, .flt x => some [.fl x]
 | .int k, .int k' n => cond (decide (k = k')) (some [.int n]) none
 | .bool, .bool b => some [.bool b]
 | .val, .val v => some [.val v]
 | .ptr n o, .ptr n' o' => cond (n == n' && o == o') (some []) none
 | .slw n, .slw n' => cond (n == n') (some []) none
 | .sl n, .sl n' o l => cond (n == n') (some [.nat o, .nat l]) none
 | .rof, .rof xs => some [.fls xs]
 | .roi k, .roi k' xs => cond (decide (k = k')) (some [.ints xs]) none
 | .fn g caps, .fn g' caps' => cond (g == g') (extL caps caps') none
 | .agg cs, .agg cs' => extL cs cs'
 | .ro sz cs, .ro sz' cs' => cond (sz == sz') (extL cs cs') none
 | .rov sz, .ro sz' cs => cond (sz == sz') (some [.vs cs]) none
 | .litI k n, .int k' n' => cond (decide (k = k') && decide (n = n')) (some []) none
 | .litB b, .bool b' => cond (b == b') (some []) none
 | .fb, .val (.float .f64 b) => some [.nat b]
 | .rl t, .rl t' xs => cond (RT.beq t t') (some [.recs t' xs]) none
 | .rp cs i, .rp cs' i' => cond (i == i') (extL cs cs') none
 | .opt n o, .opt n' e o' => cond (n == n' && o == o') (some [.nat e]) none
 | .slz n, .sl n' o l => cond (n == n' && o == 0) (some [.nat l]) none
 | .nilp, .val (.pointer none) => some []
 | _, _ => none
def extL : List Sh -> List V -> Option (List Atom)
 | [], [] => some []
 | s :: ss, v :: vs => match Sh.ext s v, extL ss vs with
  | some a, some b => some (a ++ b)
  | _, _ => none
 | _, _ => none
end
mutual
def Sh.build : Sh -> List Atom -> V × List Atom
 | .any, r => (.any, r)
 | .nil, r => (.nil, r)
 | .flt, .fl x :: r => (.flt x, r)
 | .int k, .int n :: r => (.int k n, r)
 | .bool, .bool b :: r => (.bool b, r)
 | .val, .val v :: r => (.val v, r)
 | .ptr n o, r => (.ptr n o, r)
 | .slw n, r => (.slw n, r)
 | .sl n, .nat o :: .nat l :: r => (.sl n o l, r)
 | .rof, .fls xs :: r => (.rof xs, r)
 | .roi k, .ints xs :: r => (.roi k xs, r)
 | .fn g caps, r => match buildL caps r with
  | (vs, r) => (.fn g vs, r)
 | .agg cs, r => match buildL cs r with
  | (vs, r) => (.agg vs, r)
 | .ro sz cs, r => match buildL cs r with
  | (vs, r) => (.ro sz vs, r)
 | .rov sz, .vs cs :: r => (.ro sz cs, r)
 | .litI k n, r => (.int k n, r)
 | .litB b, r => (.bool b, r)
 | .fb, .nat b :: r => (.val (.float .f64 b), r)
 | .rl _, .recs t xs :: r => (.rl t xs, r)
 | .rp cs i, r => match buildL cs r with
  | (vs, r) => (.rp vs i, r)
 | .opt n o, .nat e :: r => (.opt n e o, r)
 | .slz n, .nat l :: r => (.sl n 0 l, r)
 | .nilp, r => (.val (.pointer none), r)
 | _, r => (.any, r)
def buildL : List Sh -> List Atom -> List V × List Atom
 | [], r => ([], r)
 | s :: ss, r => match Sh.build s r with
  | (v, r) => match buildL ss r with
   | (vs, r) => (v :: vs, r)
end
mutual
theorem Sh.ext_build : ∀ (s : Sh) (v : V) (a : List Atom), s.ext v = some a -> ∀ r, s.build (a ++ r) = (v, r)
 | .any, v, a, h, r => by cases v <;> simp [Sh.ext] at h; subst h; rfl
 | .nil, v, a, h, r => by cases v <;> simp [Sh.ext] at h; subst h; rfl
 | .flt, v, a, h, r => by cases v <;> simp [Sh.ext] at h; subst h; rfl
 | .int k, v, a, h, r => by
  cases v <;> simp [Sh.ext] at h
  rename_i k' n
  by_cases e : k = k'
  ·subst e; simp at h; subst h; rfl
  ·simp [e] at h
 | .bool, v, a, h, r => by cases v <;> simp [Sh.ext] at h; subst h; rfl
 | .val, v, a, h, r => by cases v <;> simp [Sh.ext] at h; subst h; rfl
 | .ptr n o, v, a, h, r => by
  cases v <;> simp [Sh.ext] at h
  rename_i n' o'
  by_cases e : n = n' /\ o = o'
  ·obtain ⟨rfl, rfl⟩ := e; simp at h; subst h; rfl
  ·have : (n == n' && o == o') = false := by simpa using e
   rw [this] at h; cases h
 | .slw n, v, a, h, r => by
  cases v <;> simp [Sh.ext] at h
  rename_i n'
  by_cases e : n = n'
  ·subst e; simp at h; subst h; rfl
  ·have : (n == n') = false := by simpa using e
   rw [this] at h; cases h
 | .sl n, v, a, h, r => by
  cases v <;> simp [Sh.ext] at h
  rename_i n' o l
  by_cases e : n = n'
  ·subst e; simp at h; subst h; rfl
  ·have : (n == n') = false := by simpa using e
   rw [this] at h; cases h
 | .rof, v, a, h, r => by cases v <;> simp [Sh.ext] at h; subst h; rfl
 | .roi k, v, a, h, r => by
  cases v <;> simp [Sh.ext] at h
  rename_i k' n
  by_cases e : k = k'
  ·subst e; simp at h; subst h; rfl
  ·simp [e] at h
 | .fn g caps, v, a, h, r => by
  cases v <;> simp only [Sh.ext, reduceCtorEq] at h
  rename_i g' caps'
  by_cases e : g = g'
  ·subst e
   simp only [beq_self_eq_true, cond_true] at h
   simp only [Sh.build, extL_build caps caps' a h r]
  ·have : (g == g') = false := by simpa using e
   rw [this] at h; cases h
 | .agg cs, v, a, h, r => by
  cases v <;> simp only [Sh.ext, reduceCtorEq] at h
  rename_i cs'
  simp only [Sh.build, extL_build cs cs' a h r]
 | .ro sz cs, v, a, h, r => by
  cases v <;> simp only [Sh.ext, reduceCtorEq] at h
  rename_i sz' cs'
  by_cases e : sz = sz'
  ·subst e
   simp only [beq_self_eq_true, cond_true] at h
   simp only [Sh.build, extL_build cs cs' a h r]
  ·have : (sz == sz') = false := by simpa using e
   rw [this] at h; cases h
 | .rov sz, v, a, h, r => by
  cases v <;> simp only [Sh.ext, reduceCtorEq] at h
  rename_i sz' cs'
  by_cases e : sz = sz'
  ·subst e
   simp only [beq_self_eq_true, cond_true] at h
   cases h; rfl
  ·have : (sz == sz') = false := by simpa using e
   rw [this] at h; cases h
 | .litI k n, v, a, h, r => by
  cases v <;> simp only [Sh.ext, reduceCtorEq] at h
  rename_i k' n'
  by_cases e : k = k' /\ n = n'
  ·obtain ⟨rfl, rfl⟩ := e; simp at h; subst h; rfl
  ·have : (decide (k = k') && decide (n = n')) = false := by simpa using e
   rw [this] at h; cases h
 | .litB b, v, a, h, r => by
  cases v <;> simp only [Sh.ext, reduceCtorEq] at h
  rename_i b'
  by_cases e : b = b'
  ·subst e; simp at h; subst h; rfl
  ·have : (b == b') = false := by simpa using e
   rw [this] at h; cases h
 | .fb, v, a, h, r => by
  cases v with
  | val u =>
   cases u with
   | float k b => cases k <;> simp [Sh.ext] at h; subst h; rfl
   | _ => simp [Sh.ext] at h
  | _ => simp [Sh.ext] at h
 | .rl t, v, a, h, r => by
  cases v <;> simp only [Sh.ext, reduceCtorEq] at h
  rename_i t' xs
  cases e : RT.beq t t' with
  | false => rw [e] at h; cases h
  | true => rw [e] at h; cases h; rfl
 | .rp cs i, v, a, h, r => by
  cases v <;> simp only [Sh.ext, reduceCtorEq] at h
  rename_i cs' i'
  by_cases e : i = i'
  ·subst e
   simp only [beq_self_eq_true, cond_true] at h
   simp only [Sh.build, extL_build cs cs' a h r]
  ·have : (i == i') = false := by simpa using e
   rw [this] at h; cases h
 | .opt n o, v, a, h, r => by
  cases v <;> simp only [Sh.ext, reduceCtorEq] at h
  rename_i n' e o'
  by_cases e1 : n = n' /\ o = o'
  ·obtain ⟨rfl, rfl⟩ := e1; simp at h; subst h; rfl
  ·have : (n == n' && o == o') = false := by simpa using e1
   rw [this] at h; cases h
 | .slz n, v, a, h, r => by
  cases v <;> simp only [Sh.ext, reduceCtorEq] at h
  rename_i n' o l
  by_cases e1 : n = n' /\ o = 0
  ·obtain ⟨rfl, rfl⟩ := e1; simp at h; subst h; rfl
  ·have : (n == n' && o == 0) = false := by simpa using e1
   rw [this] at h; cases h
 | .nilp, v, a, h, r => by
  cases v with
  | val u =>
   cases u with
   | pointer p => cases p <;> simp [Sh.ext] at h; subst h; rfl
   | _ => simp [Sh.ext] at h
  | _ => simp [Sh.ext] at h
theorem extL_build : ∀ (s : List Sh) (v : List V) (a : List Atom), extL s v = some a -> ∀ r, buildL s (a ++ r) = (v, r)
 | [], v, a, h, r => by cases v <;> simp [extL] at h; subst h; rfl
 | s :: ss, v, a, h, r => by
  cases v with
  | nil => simp [extL] at h
  | cons v vs =>
   simp only [extL] at h
   split at h
   ·rename_i a1 a2 h1 h2
    cases h
    simp only [buildL, List.append_assoc, Sh.ext_build s v a1 h1, extL_build ss vs a2 h2]
   ·cases h
end
inductive BSh where
 | flts
 | ints (k : IntKind)
 | cells (cs : List Sh)
 | cvs
 | recs (t : RT)
 | own (tt : Nat) (t : RT)
def BSh.ext : BSh -> Body -> Option (List Atom)
 | .flts, .flts xs => some [.fls xs]
 | .ints k, .ints k' xs => cond (decide (k = k')) (some [.ints xs]) none
 | .cells cs, .cells cs' => extL cs cs'
 | .cvs, .cells cs => some [.vs cs]
 | .recs t, .recs t' xs => cond (RT.beq t t') (some [.recs t' xs]) none
 | .own tt t, .own tt' t' xs [] => cond (tt == tt' && RT.beq t t') (some [.recs t' xs]) none
 | _, _ => none
def BSh.build : BSh -> List Atom -> Body × List Atom
 | .flts, .fls xs :: r => (.flts xs, r)
 | .ints k, .ints xs :: r => (.ints k xs, r)
 | .cells cs, r => match buildL cs r with
  | (vs, r) => (.cells vs, r)
 | .cvs, .vs cs :: r => (.cells cs, r)
 | .recs _, .recs t xs :: r => (.recs t xs, r)
 | .own tt _, .recs t xs :: r => (.own tt t xs [], r)
 | _, r => (.cells [], r)
theorem BSh.ext_build (s : BSh) (v : Body) (a : List Atom) (h : s.ext v = some a) (r : List Atom) : s.build (a ++ r) = (v, r) := by
 cases s with
 | flts => cases v <;> simp [BSh.ext] at h; subst h; rfl
 | ints k =>
  cases v <;> simp [BSh.ext] at h
  rename_i k' n
  by_cases e : k = k'
  ·subst e; simp at h; subst h; rfl
  ·simp [e] at h
 | cells cs =>
  cases v <;> simp only [BSh.ext, reduceCtorEq] at h
  rename_i cs'
  simp only [BSh.build, extL_build cs cs' a h r]
 | cvs => cases v <;> simp [BSh.ext] at h; subst h; rfl
 | recs t =>
  cases v <;> simp only [BSh.ext, reduceCtorEq] at h
  rename_i t' xs
  cases e : RT.beq t t' with
  | false => rw [e] at h; cases h
  | true => rw [e] at h; cases h; rfl
 | own tt t =>
  cases v with
  | own tt' t' xs hh =>
   cases hh with
   | cons q r => simp [BSh.ext] at h
   | nil =>
    simp only [BSh.ext] at h
    cases e : (tt == tt' && RT.beq t t') with
    | false => rw [e] at h; cases h
    | true =>
     rw [e] at h
     obtain rfl : tt = tt' := by simp at e; exact e.1
     cases h; rfl
  | _ => simp [BSh.ext] at h
abbrev BkSh := Option (Nat × Nat × BSh)
def extM : List BkSh -> Heap -> Option (List Atom)
 | [], [] => some []
 | none :: ss, none :: bs => extM ss bs
 | some (e, sz, c) :: ss, some b :: bs => cond (e == b.e && sz == b.sz) (match c.ext b.c, extM ss bs with
  | some a, some r => some (a ++ r)
  | _, _ => none) none
 | _, _ => none
def buildM : List BkSh -> List Atom -> Heap
 | [], _ => []
 | none :: ss, r => none :: buildM ss r
 | some (e, sz, c) :: ss, r => match c.build r with
  | (c, r) => some ⟨e, sz, c⟩ :: buildM ss r
theorem extM_build : ∀ (s : List BkSh) (M : Heap) (a : List Atom), extM s M = some a -> buildM s a = M
 | [], M, a, h => by cases M <;> simp [extM] at h; rfl
 | none :: ss, M, a, h => by
  cases M with
  | nil => simp [extM] at h
  | cons b bs =>
   cases b with
   | none => simp only [extM] at h; simp only [buildM, extM_build ss bs a h]
   | some b => simp [extM] at h
 | some (e, sz, c) :: ss, M, a, h => by
  cases M with
  | nil => simp [extM] at h
  | cons b bs =>
   cases b with
   | none => simp [extM] at h
   | some b =>
    simp only [extM] at h
    by_cases e' : e = b.e /\ sz = b.sz
    ·obtain ⟨rfl, rfl⟩ := e'
     simp only [beq_self_eq_true, Bool.and_self, cond_true] at h
     split at h
     ·rename_i a1 a2 h1 h2
      cases h
      simp only [buildM, BSh.ext_build c b.c a1 h1, extM_build ss bs a2 h2]
     ·cases h
    ·have : (e == b.e && sz == b.sz) = false := by simpa using e'
     rw [this] at h; cases h
structure StSh where
 F : List Sh
 M : List BkSh
def StSh.ext (s : StSh) (t : St) : Option (List Atom) :=
 match extL s.F t.F, extM s.M t.M with
 | some a, some b => some (a ++ b)
 | _, _ => none
def StSh.build (s : StSh) (a : List Atom) : St :=
 match buildL s.F a with
 | (F, r) => ⟨F, buildM s.M r⟩
theorem StSh.ext_build {s : StSh} {t : St} {a : List Atom} (h : s.ext t = some a) : t = s.build a := by
 unfold StSh.ext at h
 split at h
 ·rename_i a1 a2 h1 h2
  cases h
  simp only [StSh.build, extL_build s.F t.F a1 h1, extM_build s.M t.M a2 h2]
 ·cases h
structure FnSh where
 A : List Sh
 H : List BkSh
def FnSh.ext (s : FnSh) (args : List V) (H : List Blk) : Option (List Atom) :=
 match extL s.A args, extM s.H (H.map some) with
 | some a, some b => some (a ++ b)
 | _, _ => none
def FnSh.args (s : FnSh) (a : List Atom) : List V := (buildL s.A a).1
def FnSh.heap (s : FnSh) (a : List Atom) : Heap := buildM s.H (buildL s.A a).2
theorem FnSh.ext_build {s : FnSh} {args : List V} {H : List Blk} {a : List Atom} (h : s.ext args H = some a) : args = s.args a /\ H.map some = s.heap a := by
 unfold FnSh.ext at h
 split at h
 ·rename_i a1 a2 h1 h2
  cases h
  simp only [FnSh.args, FnSh.heap, extL_build s.A args a1 h1, extM_build s.H _ a2 h2, and_self]
 ·cases h
def mkFs (sh : FnSh) (S : List Atom -> (V -> List Blk -> Bool) -> Bool) : Fs := fun args H k => match sh.ext args H with
 | some a => S a k
 | none => false
theorem map_some_inj {H : List Blk} {H' : List Blk} (h : H.map some = H'.map some) : H = H' := by
 have := congrArg (List.filterMap id) h
 simpa using this
theorem good_fs {cx : Cx} (hO : OS cx) {f : Nat} (sh : FnSh) (S : List Atom -> (V -> List Blk -> Bool) -> Bool) (an : Nat -> Option Ann) (n base : Nat) (hn : (lps cx.P f).length = n) (hk : ∀ i, i < n -> HookOk cx base an (lp cx.P f i))
  (h : ∀ a k, S a k = true -> ∃ H, sh.heap a = H.map some /\ H.length = base /\ bodyV cx an f (sh.args a) H k = true) : GoodF cx.P f (mkFs sh S) := by
 refine good_body hO n hn fun args H k hs => ?_
 unfold mkFs at hs
 split at hs
 ·rename_i a ha
  obtain ⟨rfl, e2⟩ := FnSh.ext_build ha
  obtain ⟨H', g1, g2, g3⟩ := h a k hs
  rw [g1] at e2
  obtain rfl := map_some_inj e2
  exact ⟨an, fun i hi => by rw [g2]; exact hk i hi, g3⟩
 ·cases hs
theorem top_fs {cx : Cx} (hO : OS cx) {f : Nat} (an : Nat -> Option Ann) (n : Nat) (hn : (lps cx.P f).length = n) (hk : ∀ i, i < n -> HookOk cx 0 an (lp cx.P f i)) {args : List V}
  (h : bodyV cx an f args [] (fun r H => match r, H with | .bool b, [] => b | _, _ => false) = true) : OkC cx.P f args [] (.bool true) [] := by
 obtain ⟨r, H', ⟨_, h1⟩, h2⟩ := bodyV_calls hO (fun fn c hfn hc => hooksOk_of c 0 fun p hp => by
  have e : lps cx.P f = loops c 0 := by simp [lps, hfn, hc]
  rw [<- e] at hp
  obtain ⟨i, hi, rfl⟩ := List.getElem_of_mem hp
  have := hk i (by omega)
  unfold lp at this
  rwa [List.getD_eq_getElem?_getD, List.getElem?_eq_getElem hi] at this) h
 split at h2
 ·subst h2; exact h1
 ·cases h2
theorem good_mono {P : Program} {f : Nat} {sh : FnSh} {S S' : List Atom -> (V -> List Blk -> Bool) -> Bool} (h : GoodF P f (mkFs sh S)) (hs : ∀ a k, S' a k = true -> S a k = true) : GoodF P f (mkFs sh S') := by
 intro args H k hk
 refine h args H k ?_
 unfold mkFs at hk ⊢
 split at hk
 ·exact hs _ _ hk
 ·cases hk
def mkOk (by' : Nat) (l c : Int) : Bool := decide (0 <= l /\ l <= c /\ c <= 9223372036854775807 /\ (by' : Int) * c <= 140737488355328)
def bitsN (op : BinOp) (q : IntKind) (a b : Int) : Int := (bitsI op q a b).getD 0
def mkHooks : List (StSh × (List Atom -> K -> Bool)) -> St -> K -> Bool
 | [], _, _ => false
 | (sh, S) :: r, s, κ => match sh.ext s with
  | some a => S a κ
  | none => mkHooks r s κ
def HookFor (cx : Cx) (base : Nat) (an : Nat -> Option Ann) (p : Nat × Code) (x : StSh × (List Atom -> K -> Bool)) : Prop :=
 ∀ a κ, x.2 a κ = true -> iter cx.N (fun s k => codeV cx base an p.2 p.1 s (roundK cx.P base (an p.1) κ k)) (x.1.build a) = true
def HooksFor (cx : Cx) (base : Nat) (an : Nat -> Option Ann) (p : Nat × Code) : List (StSh × (List Atom -> K -> Bool)) -> Prop
 | [] => True
 | x :: r => HookFor cx base an p x /\ HooksFor cx base an p r
theorem hooks_ok {cx : Cx} {base : Nat} {an : Nat -> Option Ann} {p : Nat × Code} (l : List (StSh × (List Atom -> K -> Bool))) (hh : hookOf (an p.1) = some (mkHooks l)) (h : HooksFor cx base an p l) : HookOk cx base an p := by
 intro hk e s κ hs
 rw [hh] at e
 cases e
 clear hh
 revert hs h
 induction l with
 | nil => intro _ hs; simp [mkHooks] at hs
 | cons x r ih =>
  intro h hs
  obtain ⟨sh, S⟩ := x
  simp only [mkHooks] at hs
  split at hs
  ·rename_i a ha
   rw [StSh.ext_build ha]
   exact h.1 a κ hs
  ·exact ih h.2 hs
def iterG {σ : Type} : Nat -> (σ -> (σ -> Bool) -> Bool) -> σ -> Bool
 | 0, _, _ => false
 | n + 1, step, s => step s (iterG n step)
theorem iter_tr {σ : Type} {step : St -> (St -> Bool) -> Bool} {stepG : σ -> (σ -> Bool) -> Bool} (C : σ -> St) (h : ∀ v K, step (C v) K = stepG v fun v' => K (C v')) : ∀ n v, iter n step (C v) = iterG n stepG v := by
 intro n
 induction n with
 | zero => intro v; rfl
 | succ n ih =>
  intro v
  show step (C v) (iter n step) = stepG v (iterG n stepG)
  rw [h]
  congr 1
  funext v'
  exact ih v'
theorem iterG_from {σ : Type} {step : σ -> (σ -> Bool) -> Bool} {C : Nat -> σ} {n : Nat} (hs : ∀ i, i < n -> ∀ K : σ -> Bool, K (C (i + 1)) = true -> step (C i) K = true) (hx : ∀ K, step (C n) K = true) :
  ∀ m, m <= n -> ∀ N, m < N -> iterG N step (C (n - m)) = true := by
 intro m
 induction m with
 | zero =>
  intro _ N hN
  cases N with
  | zero => omega
  | succ N => exact hx _
 | succ m ih =>
  intro hm N hN
  cases N with
  | zero => omega
  | succ N =>
   have := ih (by omega) N (by omega)
   refine hs (n - (m + 1)) (by omega) _ ?_
   rw [show n - (m + 1) + 1 = n - m from by omega]
   exact this
theorem frB1_eq (e sz : Nat) (c c' : V) (r : List V) (tl : List Blk) : FrB 1 (⟨e, sz, .cells (c :: r)⟩ :: tl) (⟨e, sz, .cells (c' :: r)⟩ :: tl) = True := eq_true ⟨e, sz, c, c', r, tl, rfl, rfl⟩
theorem frB2_eq (H : List Blk) : FrB 2 H H = True := eq_true rfl
open Classical in
theorem fr_of {md : Nat} {sh : FnSh} {sp : List Atom -> (V -> List Blk -> Bool) -> Bool}
  (h : ∀ a k, sp a k = true -> ∃ H, sh.heap a = H.map some /\ sp a (fun r H' => k r H' && decide (FrB md H H')) = true) : FrF md (mkFs sh sp) := by
 intro args H k hk
 unfold mkFs at hk ⊢
 split at hk
 ·rename_i a ha
  obtain ⟨-, e2⟩ := FnSh.ext_build ha
  obtain ⟨H0, h1, h2⟩ := h a k hk
  rw [h1] at e2
  obtain rfl := map_some_inj e2
  exact h2
 ·cases hk
end Go.Mach
end
section
namespace Go.Mach
def gone (base : Nat) (M : Heap) (n : Nat) : Bool := match look M n with
 | some ⟨_, sz, .flts _⟩ => sz == 1 && decide (base <= n)
 | some ⟨_, sz, .ints _ _⟩ => sz == 1 && decide (base <= n)
 | some ⟨_, sz, .recs t _⟩ => sz == t.sz && decide (base <= n)
 | some ⟨_, sz, .own _ _ _ []⟩ => sz == 1 && decide (base <= n)
 | _ => false
def goneP (base : Nat) (M : Heap) (n : Nat) : Bool := gone base M n || (match look M n with
 | some ⟨_, _, .cells _⟩ => decide (base <= n)
 | _ => false)
def goneM (md : Bool) (base : Nat) (M : Heap) : Nat -> Bool := cond md (goneP base M) (gone base M)
abbrev Rc := List V -> (List V -> Bool) -> Bool
mutual
def frzK (gn : Nat -> Bool) (M : Heap) (rc : Rc) : V -> (V -> Bool) -> Bool
 | .slw n, k => cond (gn n) (match look M n with
  | some ⟨_, _, .flts xs⟩ => k (.rof xs)
  | some ⟨_, _, .ints q xs⟩ => k (.roi q xs)
  | some ⟨_, _, .recs t xs⟩ => k (.rl t xs)
  | some ⟨_, _, .own _ a xs []⟩ => k (.rl (.ptr a) xs)
  | some ⟨_, _, .own _ _ _ (_ :: _)⟩ => false
  | some ⟨_, sz, .cells cs⟩ => rc cs fun cs' => k (.ro sz cs')
  | none => false) (k (.slw n))
 | .sl n o len, k => cond (gn n) (match look M n with
  | some ⟨_, _, .flts xs⟩ => decide (o + len <= xs.length) && k (.rof ((xs.drop o).take len))
  | some ⟨_, _, .ints q xs⟩ => decide (o + len <= xs.length) && k (.roi q ((xs.drop o).take len))
  | some ⟨_, _, .recs t xs⟩ => t.sz == 1 && (decide (o + len <= xs.length) && k (.rl t ((xs.drop o).take len)))
  | _ => false) (k (.sl n o len))
 | .ptr n o, k => cond (gn n) (match look M n with
  | some ⟨_, _, .cells cs⟩ => rc cs fun cs' => k (.rp cs' o)
  | _ => k .any) (k (.ptr n o))
 | .opt n e o, k => cond (gn n) (match look M n with
  | some ⟨_, _, .own _ a xs []⟩ => k (.rp (a.cells (xs.getD e a.dflt)) o)
  | _ => false) (k (.opt n e o))
 | .agg cs, k => frzL gn M rc cs fun cs' => k (.agg cs')
 | .tup cs, k => frzL gn M rc cs fun cs' => k (.tup cs')
 | .fn g cs, k => frzL gn M rc cs fun cs' => k (.fn g cs')
 | .ro sz cs, k => k (.ro sz cs)
 | .rp cs i, k => k (.rp cs i)
 | v, k => k v
def frzL (gn : Nat -> Bool) (M : Heap) (rc : Rc) : List V -> (List V -> Bool) -> Bool
 | [], k => k []
 | v :: r, k => frzK gn M rc v fun v' => frzL gn M rc r fun r' => k (v' :: r')
end
def frzD (gn : Nat -> Bool) (M : Heap) : Nat -> Rc
 | 0 => fun _ _ => false
 | d + 1 => frzL gn M (frzD gn M d)
def frzB (P : Program) (gn : Nat -> Bool) (M : Heap) (b : Blk) (k : Blk -> Bool) : Bool := match b.c with
 | .cells cs => frzD gn M 4 cs fun cs' => k { b with c := .cells (nilToL P (kinds P 4 b.e) cs') }
 | _ => k b
def frzH (P : Program) (gn : Nat -> Bool) (M : Heap) : Nat -> Heap -> (Heap -> Bool) -> Bool
 | _, [], k => k []
 | n, none :: r, k => frzH P gn M (n + 1) r fun r' => k (none :: r')
 | n, some b :: r, k => cond (gn n) (frzH P gn M (n + 1) r fun r' => k (none :: r')) (frzB P gn M b fun b' => frzH P gn M (n + 1) r fun r' => k (some b' :: r'))
def frzS (P : Program) (md : Bool) (base : Nat) (s : St) (k : St -> Bool) : Bool := frzD (goneM md base s.M) s.M 4 s.F fun F => frzH P (goneM md base s.M) s.M 0 s.M fun M => k ⟨F, M⟩
def Thaw (gn : Nat -> Bool) (M : Heap) (L' : LK) : Prop := ∀ m bl, L' m = some bl -> ∃ bl0, look M m = some bl0 /\ bl.c.holes = bl0.c.holes /\ gn m = false
def Own (base : Nat) (gn : Nat -> Bool) : Prop := ∀ n, gn n = true -> base <= n
theorem okc_thaw {G : Gh} {ρ : Rho} {gn : Nat -> Bool} {M : Heap} {L' : LK} (hL : Thaw gn M L') {b : Nat} (h : okc G ρ (look M) b) : okc G ρ L' b := by
 refine ⟨h.1, fun n blk p hn hp hh => ?_⟩
 obtain ⟨blk', hb, he, -⟩ := hL n blk hn
 exact h.2 n blk' p hb hp (hasB_holes he hh)
theorem keeps_thaw {G : Gh} {w : World} {ρ : Rho} {gn : Nat -> Bool} {M : Heap} {L' : LK} (hL : Thaw gn M L') : Keeps (okc G ρ (look M)) w ρ (okc G ρ L') w ρ :=
 ⟨fun _ _ h => h, fun _ _ h => ⟨okc_thaw hL h, rfl⟩, Nat.le_refl _⟩
theorem ok_own {G : Gh} {w : World} {ρ : Rho} {gn : Nat -> Bool} {M : Heap} {L' : LK} (hs : SimW G w ρ (look M)) (hex : ∀ b, ¬ G.ex b) (hL : Thaw gn M L') (ho : Own G.base gn) {m : Nat} (hg : gn m = true) {blk : Blk} {p : Place} (hb : look M m = some blk) (hp : ρ m = some (some p)) {b : Nat} (hpb : hasB p blk.c b) : okc G ρ L' b := by
 refine ⟨(hs.own m p (ho m hg) hp b hpb.has).elim .inr (fun h => absurd h (hex b)), fun k blk' p' hk hp' heq => ?_⟩
 obtain ⟨blk'', hb'', he, h2⟩ := hL k blk' hk
 have := hs.inj k m blk'' blk p' p hb'' hb hp' hp b (hasB_holes he heq) hpb
 subst this
 rw [hg] at h2; cases h2
theorem okL_keeps {G : Gh} {w : World} {ρ : Rho} {gn : Nat -> Bool} {M : Heap} {L' : LK} (hs : SimW G w ρ (look M)) (hex : ∀ b, ¬ G.ex b) (hL : Thaw gn M L') (ho : Own G.base gn) {n : Nat} (hg : gn n = true) : Keeps (okL (okc G ρ (look M)) ρ (look M) [n]) w ρ (okc G ρ L') w ρ := by
 refine ⟨fun _ _ h => h, fun b _ h => ⟨?_, rfl⟩, Nat.le_refl _⟩
 rcases h with h | ⟨m, p, blk, hm, hb, hp, hpb⟩
 ·exact okc_thaw hL h
 ·simp at hm; subst hm
  exact ok_own hs hex hL ho hg hb hp hpb
theorem cut_flts {xs : List Fl} {o n : Nat} (h : o + n <= xs.length) : Body.cut (.flts xs) o n = some (.flts ((xs.drop o).take n)) := by
 show cond (decide (o + n <= xs.length)) _ _ = _
 rw [decide_eq_true h]; rfl
theorem cut_ints {q : IntKind} {xs : List Int} {o n : Nat} (h : o + n <= xs.length) : Body.cut (.ints q xs) o n = some (.ints q ((xs.drop o).take n)) := by
 show cond (decide (o + n <= xs.length)) _ _ = _
 rw [decide_eq_true h]; rfl
theorem cut_recs {t : RT} {xs : List t.Ty} {o n : Nat} (hz : t.sz = 1) (h : o + n <= xs.length) : Body.cut (.recs t xs) o n = some (.recs t ((xs.drop o).take n)) := by
 show cond (t.sz == 1) (cond (decide (o + n <= xs.length)) _ _) _ = _
 rw [hz, decide_eq_true h]; rfl
abbrev Frz (base : Nat) (gn : Nat -> Bool) (M : Heap) (v v' : V) : Prop := ∀ (G : Gh) (w : World) (ρ : Rho) (L' : LK) (u : Value), G.base = base -> (∀ b, ¬ G.ex b) -> SimW G w ρ (look M) -> Thaw gn M L' -> Rep (okc G ρ (look M)) w ρ v u -> Rep (okc G ρ L') w ρ v' u
theorem frz_id {base : Nat} {gn : Nat -> Bool} {M : Heap} (v : V) : Frz base gn M v v := fun _ _ _ _ _ _ _ _ hL h => h.mono (keeps_thaw hL)
theorem frz_lend {base : Nat} {gn : Nat -> Bool} {M : Heap} {n : Nat} {v v' : V} (ho : Own base gn) (hg : gn n = true) (hl : lend M 1 v = some v') (ht : lent M 1 v = [n]) : Frz base gn M v v' := fun G w ρ L' u hG hex hs hL h => by
 subst hG
 have := lend_sound hs [n] (fun _ _ => rfl) 1 v v' u hl (fun m hm => by rw [ht] at hm; exact hm) h
 exact this.mono (okL_keeps hs hex hL ho hg)
abbrev FrzL (base : Nat) (gn : Nat -> Bool) (M : Heap) (vs vs' : List V) : Prop := vs.length = vs'.length /\ ∀ (i : Nat) v', vs'[i]? = some v' -> ∃ v, vs[i]? = some v /\ Frz base gn M v v'
def RcOk (base : Nat) (gn : Nat -> Bool) (M : Heap) (rc : Rc) : Prop := ∀ cs k, rc cs k = true -> ∃ cs', k cs' = true /\ FrzL base gn M cs cs'
theorem cells_frz {base : Nat} {gn : Nat -> Bool} {M : Heap} {cs cs' : List V} (hf : FrzL base gn M cs cs') {G : Gh} {w : World} {ρ : Rho} {L' : LK} (hG : G.base = base) (hex : ∀ b, ¬ G.ex b) (hs : SimW G w ρ (look M)) (hL : Thaw gn M L') {p : Place} {cur : Array Value} {e : Nat} (hc : w.heap[p.b]? = some (.cells cur e (0, 0)))
  (hb : BodyRep (okc G ρ (look M)) w ρ (.cells cs) cur) : ∃ g : Nat -> Value, (∀ j, j < cs'.length -> w.cell? ⟨p.b, j, none⟩ = some (g j)) /\ (∀ j, j < cs'.length -> (g j).oneCell' = true) /\ ∀ (j : Nat) c, cs'[j]? = some c -> Rep (okc G ρ L') w ρ c (g j) := by
 have hf' : ∀ j, ∃ u : Value, j < cs'.length -> (w.cell? ⟨p.b, j, none⟩ = some u /\ u.oneCell' = true /\ ∀ c, cs'[j]? = some c -> Rep (okc G ρ L') w ρ c u) := by
  intro j
  by_cases hj : j < cs'.length
  ·obtain ⟨v, hv, hfz⟩ := hf.2 j cs'[j] (List.getElem?_eq_getElem hj)
   obtain ⟨u, u1, u2, u3⟩ := hb j v hv
   exact ⟨u, fun _ => ⟨cell_of_heap hc u1, u2, fun c hc => by rw [List.getElem?_eq_getElem hj] at hc; cases hc; exact hfz G w ρ L' u hG hex hs hL u3⟩⟩
  ·exact ⟨.bool false, fun h => absurd h hj⟩
 obtain ⟨g, hg⟩ := Classical.skolem.1 hf'
 exact ⟨g, fun j hj => (hg j hj).1, fun j hj => (hg j hj).2.1, fun j c hc => (hg j (List.getElem?_eq_some_iff.1 hc).1).2.2 c hc⟩
theorem frz_ptr {base : Nat} {gn : Nat -> Bool} {M : Heap} {n o e sz : Nat} {cs cs' : List V} (ho : Own base gn) (hg : gn n = true) (hb : look M n = some ⟨e, sz, .cells cs⟩) (hf : FrzL base gn M cs cs') : Frz base gn M (.ptr n o) (.rp cs' o) := fun G w ρ L' u hG hex hs hL h => by
 obtain ⟨p, hp, rfl⟩ := h.ptr_inv
 obtain ⟨cur, c1, c2, c3, c4, c5, c6⟩ := hs.place hb hp
 obtain ⟨g, g1, g2, g3⟩ := cells_frz hf hG hex hs hL c1 c6
 subst hG
 exact .rp cs' o p.b o g (ok_own hs hex hL ho hg hb hp (hasB_self _ _)) (Array.getElem?_eq_some_iff.1 c1).1 (fun j hj => g1 _ hj) g2 g3
theorem frz_slw {base : Nat} {gn : Nat -> Bool} {M : Heap} {n e sz : Nat} {cs cs' : List V} (ho : Own base gn) (hg : gn n = true) (hb : look M n = some ⟨e, sz, .cells cs⟩) (hf : FrzL base gn M cs cs') : Frz base gn M (.slw n) (.ro sz cs') := fun G w ρ L' u hG hex hs hL h => by
 rcases h.slw_inv with ⟨p, hp, rfl⟩ | ⟨hp, rfl⟩
 ·obtain ⟨cur, c1, c2, c3, c4, c5, c6⟩ := hs.place hb hp
  obtain ⟨g, g1, g2, g3⟩ := cells_frz hf hG hex hs hL c1 c6
  subst hG
  exact .ro sz cs' p.b 0 p.len p.cap g (ok_own hs hex hL ho hg hb hp (hasB_self _ _)) (Array.getElem?_eq_some_iff.1 c1).1 (by rw [<- hf.1]; exact c3) c4 (fun j hj => by rw [Nat.zero_add]; exact g1 j hj) g2 g3
 ·have h0 := hs.empty hb hp
  have : cs' = [] := List.eq_nil_of_length_eq_zero (by rw [<- hf.1]; exact h0)
  subst this; exact .ron _
mutual
theorem frzK_sound {base : Nat} {gn : Nat -> Bool} {M : Heap} {rc : Rc} (ho : Own base gn) (hsz : ∀ n e sz c, gn n = true -> look M n = some ⟨e, sz, c⟩ -> (∀ xs, c = .flts xs -> sz = 1) /\ (∀ q xs, c = .ints q xs -> sz = 1) /\ (∀ t xs, c = .recs t xs -> sz = t.sz) /\ ∀ t a xs, c = .own t a xs [] -> sz = 1) (hrc : RcOk base gn M rc) : ∀ (v : V) (k : V -> Bool), frzK gn M rc v k = true -> ∃ v', k v' = true /\ Frz base gn M v v'
 | .slw n, k, h => by
  simp only [frzK] at h
  cases hg : gn n with
  | false => rw [hg] at h; exact ⟨_, h, frz_id _⟩
  | true =>
   rw [hg, cond_true] at h
   split at h
   ·rename_i e sz xs hb
    have h1 := (hsz n e sz _ hg hb).1 _ rfl
    exact ⟨_, h, frz_lend ho hg (by simp [lend, hb, h1]) (by simp [lent, hb])⟩
   ·rename_i e sz q xs hb
    have h1 := (hsz n e sz _ hg hb).2.1 _ _ rfl
    exact ⟨_, h, frz_lend ho hg (by simp [lend, hb, h1]) (by simp [lent, hb])⟩
   ·rename_i e sz t xs hb
    have h1 := (hsz n e sz _ hg hb).2.2.1 _ _ rfl
    exact ⟨_, h, frz_lend ho hg (by simp [lend, hb, h1]) (by simp [lent, hb])⟩
   ·rename_i e sz tt a xs hb
    have h1 := (hsz n e sz _ hg hb).2.2.2 _ _ _ rfl
    exact ⟨_, h, frz_lend ho hg (by simp [lend, hb, h1]) (by simp [lent, hb])⟩
   ·cases h
   ·rename_i e sz cs hb
    obtain ⟨cs', h1, h2⟩ := hrc _ _ h
    exact ⟨_, h1, frz_slw ho hg hb h2⟩
   ·cases h
 | .sl n o len, k, h => by
  simp only [frzK] at h
  cases hg : gn n with
  | false => rw [hg] at h; exact ⟨_, h, frz_id _⟩
  | true =>
   rw [hg, cond_true] at h
   split at h
   ·rename_i e sz xs hb
    have h0 := (hsz n e sz _ hg hb).1 _ rfl
    subst h0
    obtain ⟨h1, h2⟩ := and_true h
    have h1 := of_decide_eq_true h1
    exact ⟨_, h2, frz_lend ho hg (by simp [lend, hb, scale, cut_flts h1]) (by simp [lent, hb, scale, cut_flts h1])⟩
   ·rename_i e sz q xs hb
    have h0 := (hsz n e sz _ hg hb).2.1 _ _ rfl
    subst h0
    obtain ⟨h1, h2⟩ := and_true h
    have h1 := of_decide_eq_true h1
    exact ⟨_, h2, frz_lend ho hg (by simp [lend, hb, scale, cut_ints h1]) (by simp [lent, hb, scale, cut_ints h1])⟩
   ·rename_i e sz t xs hb
    have h0 := (hsz n e sz _ hg hb).2.2.1 _ _ rfl
    subst h0
    obtain ⟨h1, h2⟩ := and_true h
    obtain ⟨h3, h4⟩ := and_true h2
    have hz : t.sz = 1 := by simpa using h1
    have h3 := of_decide_eq_true h3
    have hsc : scale len t.sz = len := by rw [scale_eq, hz, Nat.mul_one]
    exact ⟨_, h4, frz_lend ho hg (by simp [lend, hb, hsc, cut_recs hz h3]) (by simp [lent, hb, hsc, cut_recs hz h3])⟩
   ·cases h
 | .ptr n o, k, h => by
  simp only [frzK] at h
  cases hg : gn n with
  | false => rw [hg] at h; exact ⟨_, h, frz_id _⟩
  | true =>
   rw [hg, cond_true] at h
   split at h
   ·rename_i e sz cs hb
    obtain ⟨cs', h1, h2⟩ := hrc _ _ h
    exact ⟨_, h1, frz_ptr ho hg hb h2⟩
   ·exact ⟨_, h, fun _ _ _ _ _ _ _ _ _ _ => .any _⟩
 | .opt n j o, k, h => by
  simp only [frzK] at h
  cases hg : gn n with
  | false => rw [hg] at h; exact ⟨_, h, frz_id _⟩
  | true =>
   rw [hg, cond_true] at h
   split at h
   ·rename_i e sz tt a xs hb
    exact ⟨_, h, frz_lend ho hg (by simp [lend, hb]) (by simp [lent])⟩
   ·cases h
 | .agg cs, k, h => by
  simp only [frzK] at h
  obtain ⟨cs', h1, h2, h3⟩ := frzL_sound ho hsz hrc cs _ h
  refine ⟨_, h1, fun G w ρ L' u hG hex hs hL hr => ?_⟩
  obtain ⟨us, rfl, hl, g1, g2⟩ := hr.agg_inv
  refine .agg cs' us (by rw [<- h2]; exact hl) g1 fun i c v hc hv => ?_
  obtain ⟨c0, hc0, hf⟩ := h3 i c hc
  exact hf G w ρ L' v hG hex hs hL (g2 i c0 v hc0 hv)
 | .tup cs, k, h => by
  simp only [frzK] at h
  obtain ⟨cs', h1, h2, h3⟩ := frzL_sound ho hsz hrc cs _ h
  refine ⟨_, h1, fun G w ρ L' u hG hex hs hL hr => ?_⟩
  cases hr with
  | tup _ us hl g2 =>
   refine .tup cs' us (by rw [<- h2]; exact hl) fun i c v hc hv => ?_
   obtain ⟨c0, hc0, hf⟩ := h3 i c hc
   exact hf G w ρ L' v hG hex hs hL (g2 i c0 v hc0 hv)
 | .fn g cs, k, h => by
  simp only [frzK] at h
  obtain ⟨cs', h1, h2, h3⟩ := frzL_sound ho hsz hrc cs _ h
  refine ⟨_, h1, fun G w ρ L' u hG hex hs hL hr => ?_⟩
  cases hr with
  | fn _ _ us _ hl g2 hfv =>
   refine .fn g cs' us _ (by rw [<- h2]; exact hl) (fun i c v hc hv => ?_) hfv
   obtain ⟨c0, hc0, hf⟩ := h3 i c hc
   exact hf G w ρ L' v hG hex hs hL (g2 i c0 v hc0 hv)
 | .any, k, h => ⟨_, h, frz_id _⟩
 | .nil, k, h => ⟨_, h, frz_id _⟩
 | .bool _, k, h => ⟨_, h, frz_id _⟩
 | .int _ _, k, h => ⟨_, h, frz_id _⟩
 | .flt _, k, h => ⟨_, h, frz_id _⟩
 | .val _, k, h => ⟨_, h, frz_id _⟩
 | .rof _, k, h => ⟨_, h, frz_id _⟩
 | .roi _ _, k, h => ⟨_, h, frz_id _⟩
 | .ro _ _, k, h => ⟨_, h, frz_id _⟩
 | .pf _ _, k, h => ⟨_, h, frz_id _⟩
 | .pi _ _ _, k, h => ⟨_, h, frz_id _⟩
 | .rp _ _, k, h => ⟨_, h, frz_id _⟩
 | .rl _ _, k, h => ⟨_, h, frz_id _⟩
theorem frzL_sound {base : Nat} {gn : Nat -> Bool} {M : Heap} {rc : Rc} (ho : Own base gn) (hsz : ∀ n e sz c, gn n = true -> look M n = some ⟨e, sz, c⟩ -> (∀ xs, c = .flts xs -> sz = 1) /\ (∀ q xs, c = .ints q xs -> sz = 1) /\ (∀ t xs, c = .recs t xs -> sz = t.sz) /\ ∀ t a xs, c = .own t a xs [] -> sz = 1) (hrc : RcOk base gn M rc) : ∀ (vs : List V) (k : List V -> Bool), frzL gn M rc vs k = true -> ∃ vs', k vs' = true /\ vs.length = vs'.length /\ ∀ (i : Nat) v', vs'[i]? = some v' -> ∃ v, vs[i]? = some v /\ Frz base gn M v v'
 | [], k, h => ⟨[], h, rfl, fun i v' hv => by simp at hv⟩
 | v :: r, k, h => by
  simp only [frzL] at h
  obtain ⟨v', h1, h2⟩ := frzK_sound ho hsz hrc v _ h
  obtain ⟨r', h3, h4, h5⟩ := frzL_sound ho hsz hrc r _ h1
  refine ⟨v' :: r', h3, by simp [h4], fun i c hc => ?_⟩
  cases i with
  | zero => simp at hc; subst hc; exact ⟨v, rfl, h2⟩
  | succ i => obtain ⟨c0, hc0, hf⟩ := h5 i c (by simpa using hc); exact ⟨c0, by simpa using hc0, hf⟩
end
theorem goneM_own (md : Bool) (base : Nat) (M : Heap) : Own base (goneM md base M) := by
 have h0 : ∀ n, gone base M n = true -> base <= n := by
  intro n h
  unfold gone at h
  split at h <;> simp at h <;> exact h.2
 intro n h
 cases md with
 | false => exact h0 n h
 | true =>
  have h : goneP base M n = true := h
  unfold goneP at h
  rcases Bool.or_eq_true_iff.1 h with h | h
  ·exact h0 n h
  ·split at h
   ·exact of_decide_eq_true h
   ·cases h
theorem goneM_sz (md : Bool) (base : Nat) (M : Heap) : ∀ n e sz c, goneM md base M n = true -> look M n = some ⟨e, sz, c⟩ -> (∀ xs, c = .flts xs -> sz = 1) /\ (∀ q xs, c = .ints q xs -> sz = 1) /\ (∀ t xs, c = .recs t xs -> sz = t.sz) /\ ∀ t a xs, c = .own t a xs [] -> sz = 1 := by
 intro n e sz c h hb
 have h0 : gone base M n = true -> (∀ xs, c = .flts xs -> sz = 1) /\ (∀ q xs, c = .ints q xs -> sz = 1) /\ (∀ t xs, c = .recs t xs -> sz = t.sz) /\ ∀ t a xs, c = .own t a xs [] -> sz = 1 := by
  intro h
  unfold gone at h
  rw [hb] at h
  refine ⟨?_, ?_, ?_, ?_⟩
  ·rintro xs rfl; simp at h; exact h.1
  ·rintro q xs rfl; simp at h; exact h.1
  ·rintro t xs rfl; simp at h; exact h.1
  ·rintro t a xs rfl; simp at h; exact h.1
 cases md with
 | false => exact h0 h
 | true =>
  have h : goneP base M n = true := h
  unfold goneP at h
  rcases Bool.or_eq_true_iff.1 h with h | h
  ·exact h0 h
  ·rw [hb] at h
   refine ⟨?_, ?_, ?_, ?_⟩
   ·rintro xs rfl; simp at h
   ·rintro q xs rfl; simp at h
   ·rintro t xs rfl; simp at h
   ·rintro t a xs rfl; simp at h
theorem frzD_ok (md : Bool) (base : Nat) (M : Heap) : ∀ d, RcOk base (goneM md base M) M (frzD (goneM md base M) M d)
 | 0 => fun cs k h => by simp [frzD] at h
 | d + 1 => fun cs k h => frzL_sound (goneM_own md base M) (goneM_sz md base M) (frzD_ok md base M d) cs k h
def FrzB (base : Nat) (gn : Nat -> Bool) (M : Heap) (b b' : Blk) : Prop := b'.c.holes = b.c.holes /\
 ∀ (G : Gh) (w : World) (ρ : Rho) (L' : LK) (q : Option Place), G.base = base -> (∀ b, ¬ G.ex b) -> SimW G w ρ (look M) -> Thaw gn M L' -> BlkAt (okc G ρ (look M)) w ρ q b -> BlkAt (okc G ρ L') w ρ q b'
theorem body_at_cells (cs : List V) (i : Nat) : (Body.cells cs).at i = cs[i]? := rfl
theorem frzB_sound {P : Program} {md : Bool} {base : Nat} {M : Heap} (b : Blk) (k : Blk -> Bool) (h : frzB P (goneM md base M) M b k = true) : ∃ b', k b' = true /\ FrzB base (goneM md base M) M b b' := by
 unfold frzB at h
 split at h
 ·rename_i cs hc
  obtain ⟨cs', h1, h2, h3⟩ := frzD_ok md base M 4 cs _ h
  have hsize : (nilToL P (kinds P 4 b.e) cs').length = b.c.size := by rw [nilToL_length, hc, <- h2]; rfl
  refine ⟨_, h1, by rw [hc]; rfl, fun G w ρ L' q hG hex hs hL hq => ?_⟩
  cases q with
  | none => exact hsize.trans hq
  | some p =>
  ·obtain ⟨cur, k1, k2, k3, k4, k5, hr, k7⟩ := hq
   refine ⟨cur, k1, k2, k3.trans hsize.symm, k4, k5, ?_, by rw [hc] at k7; exact k7⟩
   rw [hc] at hr
   have hf : ∀ i, ∃ u : Value, i < cs'.length -> (cur[i]? = some u /\ u.oneCell' = true /\ ∀ z, cs'[i]? = some z -> Rep (okc G ρ L') w ρ z u) := by
    intro i
    by_cases hi : i < cs'.length
    ·obtain ⟨c0, hc0, hfz⟩ := h3 i cs'[i] (List.getElem?_eq_getElem hi)
     obtain ⟨u, u1, u2, u3⟩ := hr i c0 (by rw [body_at_cells]; exact hc0)
     exact ⟨u, fun _ => ⟨u1, u2, fun z hz => by rw [List.getElem?_eq_getElem hi] at hz; cases hz; exact hfz G w ρ L' u hG hex hs hL u3⟩⟩
    ·exact ⟨.bool false, fun h => absurd h hi⟩
   obtain ⟨g, hg⟩ := Classical.skolem.1 hf
   have hrl : RepL (okc G ρ L') w ρ cs' ((List.range cs'.length).map g) := by
    refine ⟨by simp, fun i x u hx hu => ?_⟩
    have hi : i < cs'.length := (List.getElem?_eq_some_iff.1 hx).1
    rw [List.getElem?_map, List.getElem?_range hi] at hu
    cases hu
    exact (hg i hi).2.2 x hx
   have hn := nilToL_rep (P := P) (kinds P 4 b.e) cs' _ hrl
   intro i x hx
   rw [body_at_cells] at hx
   have hi : i < cs'.length := by
    have := (List.getElem?_eq_some_iff.1 hx).1
    rwa [nilToL_length] at this
   refine ⟨g i, (hg i hi).1, (hg i hi).2.1, hn.2 i x (g i) hx ?_⟩
   rw [List.getElem?_map, List.getElem?_range hi]; rfl
 ·exact ⟨b, h, rfl, fun G w ρ L' q hG hex hs hL hr => by subst hG; exact hr.of (keeps_thaw hL) fun _ _ _ _ => rfl⟩
theorem frzH_sound {P : Program} {md : Bool} {base : Nat} {M : Heap} : ∀ (l : Heap) (n : Nat) (k : Heap -> Bool), frzH P (goneM md base M) M n l k = true ->
  ∃ l', k l' = true /\ l'.length = l.length /\ ∀ (i : Nat) b', l'[i]? = some (some b') -> ∃ b, l[i]? = some (some b) /\ goneM md base M (n + i) = false /\ FrzB base (goneM md base M) M b b'
 | [], n, k, h => ⟨[], h, rfl, fun i b' hb => by simp at hb⟩
 | none :: r, n, k, h => by
  simp only [frzH] at h
  obtain ⟨l', h1, h2, h3⟩ := frzH_sound r (n + 1) _ h
  refine ⟨none :: l', h1, by simp [h2], fun i b' hb => ?_⟩
  cases i with
  | zero => simp at hb
  | succ i =>
   obtain ⟨b, g1, g2, g3⟩ := h3 i b' (by simpa using hb)
   exact ⟨b, by simpa using g1, by rw [show n + (i + 1) = n + 1 + i by omega]; exact g2, g3⟩
 | some b :: r, n, k, h => by
  simp only [frzH] at h
  cases hg : goneM md base M n with
  | true =>
   rw [hg, cond_true] at h
   obtain ⟨l', h1, h2, h3⟩ := frzH_sound r (n + 1) _ h
   refine ⟨none :: l', h1, by simp [h2], fun i b' hb => ?_⟩
   cases i with
   | zero => simp at hb
   | succ i =>
    obtain ⟨b, g1, g2, g3⟩ := h3 i b' (by simpa using hb)
    exact ⟨b, by simpa using g1, by rw [show n + (i + 1) = n + 1 + i by omega]; exact g2, g3⟩
  | false =>
   rw [hg, cond_false] at h
   obtain ⟨b1, h0, hb1⟩ := frzB_sound b _ h
   obtain ⟨l', h1, h2, h3⟩ := frzH_sound r (n + 1) _ h0
   refine ⟨some b1 :: l', h1, by simp [h2], fun i b' hb => ?_⟩
   cases i with
   | zero => simp at hb; subst hb; exact ⟨b, rfl, hg, hb1⟩
   | succ i =>
    obtain ⟨b, g1, g2, g3⟩ := h3 i b' (by simpa using hb)
    exact ⟨b, by simpa using g1, by rw [show n + (i + 1) = n + 1 + i by omega]; exact g2, g3⟩
theorem frzS_sound {P : Program} {md : Bool} {base : Nat} {s : St} {k : St -> Bool} (h : frzS P md base s k = true) :
  ∃ s', k s' = true /\ s'.M.length = s.M.length /\ ∀ (G : Gh) (w : World) (ρ : Rho) (a : Act), G.base = base -> Sim G w ρ s a -> Sim G w ρ s' a := by
 unfold frzS at h
 obtain ⟨F, h1, h2, h3⟩ := frzD_ok md base s.M 4 s.F _ h
 obtain ⟨M, h4, h5, h6⟩ := frzH_sound s.M 0 _ h1
 refine ⟨⟨F, M⟩, h4, h5, fun G w ρ a hG hs => ?_⟩
 have hL : Thaw (goneM md base s.M) s.M (look M) := by
  intro m b' hb'
  obtain ⟨b, g1, g2, g3⟩ := h6 m b' (look_some'.1 hb')
  exact ⟨b, look_some'.2 g1, g3.1, by simpa using g2⟩
 have hlive : ∀ m b', look M m = some b' -> ∃ b, look s.M m = some b /\ FrzB base (goneM md base s.M) s.M b b' := by
  intro m b' hb'
  obtain ⟨b, g1, -, g3⟩ := h6 m b' (look_some'.1 hb')
  exact ⟨b, look_some'.2 g1, g3⟩
 refine ⟨⟨fun n b' hb' => ?_, fun n m bn bm p q hn hm hp hq => ?_, hs.sim.own, hs.sim.size, hs.sim.os, hs.sim.tape, hs.sim.output, hs.sim.old, hs.sim.tab, hs.sim.high⟩, hs.noex, fun n hn => hs.dom n (by rw [<- h5]; exact hn), hs.defers, fun t => ?_, ?_, by rw [h5]; exact hs.base⟩
 ·obtain ⟨b, hb, e1, hfz⟩ := hlive n b' hb'
  obtain ⟨q, hq, hat⟩ := hs.sim.blks n b hb
  exact ⟨q, hq, hfz G w ρ _ q hG hs.noex hs.sim hL hat⟩
 ·obtain ⟨b1, hb1, e1, -⟩ := hlive n bn hn
  obtain ⟨b2, hb2, e2, -⟩ := hlive m bm hm
  exact fun x hx1 hx2 => hs.sim.inj n m b1 b2 p q hb1 hb2 hp hq x (hasB_holes e1 hx1) (hasB_holes e2 hx2)
 ·show Rep _ w ρ (F.getD t .any) _
  by_cases ht : t < F.length
  ·obtain ⟨v, hv, hf⟩ := h3 t F[t] (List.getElem?_eq_getElem ht)
   have := hs.fr t
   rw [List.getD_eq_getElem?_getD, hv] at this
   rw [List.getD_eq_getElem?_getD, List.getElem?_eq_getElem ht]
   exact hf G w ρ _ _ hG hs.noex hs.sim hL this
  ·rw [List.getD_eq_getElem?_getD, List.getElem?_eq_none (by omega)]
   exact .any _
 ·rw [hs.size, h2]
def resTmps : List ResultVar -> List Nat
 | [] => []
 | .tmp t :: r => t :: resTmps r
 | .cell t _ :: r => t :: resTmps r
def nilRes (P : Program) (fn : Func) (r : V) : V := match r with
 | .tup vs => .tup (nilArgs P fn.resultTypes.toList vs)
 | v => nilArg P (fn.resultTypes.toList.headD 0) v
theorem nilRes_sound {P : Program} {fn : Func} {ok : Nat -> Prop} {w : World} {ρ : Rho} {x : V} {v : Value} (h : Rep ok w ρ x v) : Rep ok w ρ (nilRes P fn x) v := by
 unfold nilRes
 split
 ·cases h with
  | tup _ us hl h2 =>
   have := nilArgs_rep (P := P) fn.resultTypes.toList _ us ⟨hl, h2⟩
   exact .tup _ us this.1 this.2
 ·exact nilArg_sound _ h
def endZ (P : Program) (md : Bool) (base : Nat) (fn : Func) (s : St) (k : V -> List Blk -> Bool) : Bool :=
 frzS P md base (normS P base (some ⟨resTmps fn.results.toList, [], [], []⟩) s) fun s' => endV P base fn.results.toList s' fun r H => k (nilRes P fn r) H
theorem endZ_sound {P : Program} {md : Bool} {base : Nat} {fn : Func} {s : St} {k : V -> List Blk -> Bool} (hb : base <= s.M.length) (h : endZ P md base fn s k = true) :
  ∃ r H', k r H' = true /\ ∀ (G : Gh) (w : World) (ρ : Rho) (a : Act), G.base = base -> Sim G w ρ s a -> ∃ v ρ', (results fn a.tmps).run P w = .ok v w /\ (∀ n q, n < base -> ρ n = some q -> ρ' n = some q) /\ (∀ n, H'.length <= n -> ρ' n = none) /\
   SimW G w ρ' (live H') /\ Rep (okc G ρ' (live H')) w ρ' r v := by
 unfold endZ at h
 obtain ⟨n1, n2⟩ := normS_sound (P := P) (some ⟨resTmps fn.results.toList, [], [], []⟩) s base hb
 obtain ⟨s', h1, h2, h3⟩ := frzS_sound h
 obtain ⟨r, H', h4, h5⟩ := endV_sound (by rw [h2]; exact n1) h1
 refine ⟨_, H', h4, fun G w ρ a hG hs => ?_⟩
 obtain ⟨ρ1, hs1, e1⟩ := n2 G w ρ a hG hs
 obtain ⟨v, ρ', g1, g2, g3, g4, g5⟩ := h5 G w ρ1 a hG (h3 G w ρ1 a hG hs1)
 exact ⟨v, ρ', g1, fun n q hn hq => g2 n q hn (e1 n q hn hq), g3, g4, nilRes_sound g5⟩
def bodyZ (md : Bool) (cx : Cx) (an : Nat -> Option Ann) (f : Nat) (args : List V) (H : List Blk) (k : V -> List Blk -> Bool) : Bool :=
 match cx.P.funcs[f]? with
 | some fn => match fn.body with
  | some c =>
   let fin := fun s => endZ cx.P md H.length fn s k
   !(fn.name == "runtime.NumGoroutine") && codeV cx H.length an c 0 ⟨args ++ List.replicate (fn.ntmps - args.length) .any, H.map some⟩ ⟨fin, fun _ _ => false, fin⟩
  | none => false
 | none => false
theorem bodyZ_calls {md : Bool} {cx : Cx} (hO : OS cx) {an : Nat -> Option Ann} {f : Nat} {args : List V} {H : List Blk} {k : V -> List Blk -> Bool} (hk : ∀ fn c, cx.P.funcs[f]? = some fn -> fn.body = some c -> HooksOk cx H.length an c 0) (h : bodyZ md cx an f args H k = true) :
  ∃ r H', (Ok cx.P f args H r H' /\ OkC cx.P f args H r H') /\ k r H' = true := by
 unfold bodyZ at h
 split at h
 ·rename_i fn hfn
  split at h
  ·rename_i c hc
   simp only at h
   obtain ⟨hname, h'⟩ := and_true h
   have hname' : ¬ fn.name = "runtime.NumGoroutine" := by simpa using hname
   have hb0 : H.length <= (H.map some).length := by simp
   obtain ⟨e, s', h1, h2, h3⟩ := codeV_sound hO c 0 _ _ (hk fn c hfn hc) hb0 h'
   have hend : endZ cx.P md H.length fn s' k = true /\ (e = .normal \/ e = .ret) := by
    cases e <;> simp [K.of] at h1
    ·exact ⟨h1, .inl rfl⟩
    ·exact ⟨h1, .inr rfl⟩
   obtain ⟨r, H', hk, hfin⟩ := endZ_sound h2 hend.1
   refine ⟨r, H', ?_, hk⟩
   have hok : OkC cx.P f args H r H' := by
    intro w ρ ok vs hsim hdom hargs
    refine calls_of_wp hfn hc ?_
    have hS : Sim (gh w H.length ok) w ρ ⟨args ++ List.replicate (fn.ntmps - args.length) .any, H.map some⟩ { tmps := vs.toArray ++ Array.replicate (fn.ntmps - vs.toArray.size) undef, defers := [] } := by
     refine ⟨hsim, fun _ h => h, fun n hn => hdom n (by simpa using hn), ⟨rfl, fun _ h => by cases h⟩, fun t => ?_, by simp [hargs.1], by simp [gh]⟩
     show Rep _ w ρ ((args ++ List.replicate (fn.ntmps - args.length) V.any).getD t .any) _
     by_cases ht : t < args.length
     ·have htv : t < vs.length := by rw [<- hargs.1]; exact ht
      have e1 : (args ++ List.replicate (fn.ntmps - args.length) V.any).getD t .any = args[t] := by
       rw [List.getD, List.getElem?_append_left ht]; simp [ht]
      have e2 : (vs.toArray ++ Array.replicate (fn.ntmps - vs.toArray.size) undef).getD t undef = vs[t] := by
       rw [Array.getD_eq_getD_getElem?, Array.getElem?_append_left (by simpa using htv)]; simp [htv]
      rw [e1, e2]
      exact hargs.2 t _ _ (by simp [ht]) (by simp [htv])
     ·have e1 : (args ++ List.replicate (fn.ntmps - args.length) V.any).getD t .any = .any := by
       rw [List.getD, List.getElem?_append_right (by omega), List.getElem?_replicate]
       split <;> rfl
      rw [e1]; exact .any _
    refine h3 (gh w H.length ok) w ρ _ ⟨rfl, .none rfl⟩ hS _ fun w' ρ' a' hs' hr => ?_
    obtain ⟨v, ρ'', g1, g2, g3, g4, g5⟩ := hfin (gh w H.length ok) w' ρ' a' rfl hs'
    have hpost : a'.defers = [] /\ ∃ v, (results fn a'.tmps).run cx.P w' = .ok v w' /\ ∃ v', Ending.returned v = .returned v' /\ ∃ ρ', (∀ n, n < H.length -> ρ' n = ρ n) /\ (∀ n, H'.length <= n -> ρ' n = none) /\ SimW (gh w H.length ok) w' ρ' (live H') /\ Rep (okc (gh w H.length ok) ρ' (live H')) w' ρ' r v' := by
     refine ⟨hs'.defers.1, v, g1, v, rfl, ρ'', fun n hn => ?_, g3, g4, g5⟩
     obtain ⟨q, hq, _⟩ := hsim.blks n H[n] (live_get.2 (by simp [hn]))
     rw [hq, g2 n q hn (hr n q hn hq)]
    rcases hend.2 with rfl | rfl
    ·exact hpost
    ·exact hpost
   refine ⟨?_, hok⟩
   intro w ρ ok vs hsim hdom hargs o a N Q hN
   have hrun : (callFunc f vs.toArray).run cx.P w = .ok (.enter f vs.toArray) w := by
    simp [callFunc, hfn, hname', hc]
   rw [hrun, Oper.upon_enter]
   have hcalls := hok w ρ ok vs hsim hdom hargs
   refine hcalls.mono fun e' w' he => ?_
   obtain ⟨v, rfl, hv⟩ := he
   exact hN v w' hv
  ·cases h
 ·cases h
theorem good_fsZ {md : Bool} {cx : Cx} (hO : OS cx) {f : Nat} (sh : FnSh) (S : List Atom -> (V -> List Blk -> Bool) -> Bool) (an : Nat -> Option Ann) (n base : Nat) (hn : (lps cx.P f).length = n) (hk : ∀ i, i < n -> HookOk cx base an (lp cx.P f i))
  (h : ∀ a k, S a k = true -> ∃ H, sh.heap a = H.map some /\ H.length = base /\ bodyZ md cx an f (sh.args a) H k = true) : GoodF cx.P f (mkFs sh S) := by
 intro args H k hs
 unfold mkFs at hs
 split at hs
 ·rename_i a ha
  obtain ⟨rfl, e2⟩ := FnSh.ext_build ha
  obtain ⟨H', g1, g2, g3⟩ := h a k hs
  rw [g1] at e2
  obtain rfl := map_some_inj e2
  have hks : ∀ fn c, cx.P.funcs[f]? = some fn -> fn.body = some c -> HooksOk cx H.length an c 0 := fun fn c hfn hc => hooksOk_of c _ fun p hp => by
   have e : lps cx.P f = loops c 0 := by simp [lps, hfn, hc]
   rw [<- e] at hp
   obtain ⟨i, hi, rfl⟩ := List.getElem_of_mem hp
   have := hk i (by omega)
   rw [<- g2] at this
   unfold lp at this
   rwa [List.getD_eq_getElem?_getD, List.getElem?_eq_getElem hi] at this
  obtain ⟨r, H2, h1, h2⟩ := bodyZ_calls hO hks g3
  exact ⟨r, H2, h1.1, h2⟩
 ·cases hs
end Go.Mach
end
section
namespace Go.Mach
def DefOk (P : Program) (g : FuncId) : Prop :=
 (∃ fn, P.funcs[g]? = some fn /\ fn.body.isSome = true /\ (fn.name == "runtime.NumGoroutine") = false) /\
 ∀ (w : World) (b : Nat) (n : Int) (cur : Array Value) (e : TypeId), w.heap[b]? = some (.cells cur e (0, 0)) -> cur[0]? = some (.int .i64 n) -> CallsD P g #[.pointer (some ⟨b, 0, none⟩)] .returning w fun e u w' => (∃ v, e = .returned v) /\ u = .returning /\ w' = w.drew
def endM (P : Program) (md : Option Bool) (base : Nat) (fn : Func) (s : St) (k : V -> List Blk -> Bool) : Bool := match md with
 | none => endV P base fn.results.toList s k
 | some m => endZ P m base fn s k
theorem endM_sound {P : Program} {md : Option Bool} {base : Nat} {fn : Func} {s : St} {k : V -> List Blk -> Bool} (hb : base <= s.M.length) (h : endM P md base fn s k = true) :
  ∃ r H', k r H' = true /\ ∀ (G : Gh) (w : World) (ρ : Rho) (a : Act), G.base = base -> Sim G w ρ s a -> ∃ v ρ', (results fn a.tmps).run P w = .ok v w /\ (∀ n q, n < base -> ρ n = some q -> ρ' n = some q) /\ (∀ n, H'.length <= n -> ρ' n = none) /\
   SimW G w ρ' (live H') /\ Rep (okc G ρ' (live H')) w ρ' r v := by
 cases md with
 | none => exact endV_sound hb h
 | some m => exact endZ_sound hb h
def defAt (cx : Cx) (t : Nat) (s : St) : Bool := match s.F.getD t .any with
 | .fn g [.ptr n 0] => (Nat.ble g 999999 && cx.ref (2000000 + g)) && (match look s.M n with
  | some ⟨_, 1, .cells [.int .i64 _]⟩ => true
  | _ => false)
 | _ => false
def defFin (cx : Cx) (md : Option Bool) (base t : Nat) (fn : Func) (k : V -> List Blk -> Bool) (s : St) : Bool := defAt cx t s && endM cx.P md base fn s k
def isDefer (t : Nat) (o : Oper) : Bool := match o.op with
 | .defer c => (match c.callee with
  | .value (.tmp t') => t == t'
  | _ => false) && (c.args.size == 0 && (o.dst.isNone && o.guard.isNone))
 | _ => false
def isFnV : V -> Bool
 | .fn g _ => Nat.ble g 999999
 | _ => false
def bodyD (md : Option Bool) (cx : Cx) (an : Nat -> Option Ann) (f : Nat) (args : List V) (H : List Blk) (k : V -> List Blk -> Bool) : Bool :=
 match cx.P.funcs[f]? with
 | some fn => match fn.body with
  | some (.seq r0 (.seq (.region _ ops false) c)) => match ops.toList with
   | [mk, df] => match mk.dst with
    | some t => ((mk.guard.isNone && isDefer t df) && (spares t c && !(fn.name == "runtime.NumGoroutine"))) &&
      codeV cx H.length an r0 0 ⟨args ++ List.replicate (fn.ntmps - args.length) .any, H.map some⟩ ⟨fun s => opV cx H.length s.F s.M mk.op fun v U _ => (isFnV v && decide (t < s.F.length)) &&
       codeV cx H.length an c 0 ⟨setF s.F mk.dst v, appU s.M U⟩ ⟨defFin cx md H.length t fn k, fun _ _ => false, defFin cx md H.length t fn k⟩, fun _ _ => false, fun _ => false⟩
    | none => false
   | _ => false
  | _ => false
 | none => false
theorem SimW.ghost {G G' : Gh} {w : World} {ρ : Rho} {L : LK} (h : SimW G w ρ L) (e1 : G'.B = G.B) (e2 : G'.base = G.base) (e3 : G'.w0 = G.w0) (e4 : G'.ok0 = G.ok0) (e5 : G'.ex = G.ex) : SimW G' w ρ L := by
 obtain ⟨B, base, w0, ok0, ex, ds, dt, dv⟩ := G
 obtain ⟨B', base', w0', ok0', ex', ds', dt', dv'⟩ := G'
 cases e1; cases e2; cases e3; cases e4; cases e5
 exact ⟨h.blks, h.inj, h.own, h.size, h.os, h.tape, h.output, h.old, h.tab, h.high⟩
theorem Sim.drew {G : Gh} {w : World} {ρ : Rho} {s : St} {a : Act} (h : Sim G w ρ s a) : Sim G w.drew ρ s a := by
 obtain ⟨h1, h2⟩ := h.sim.drew
 exact ⟨h1, h.noex, h.dom, h.defers, fun t => (h.fr t).mono h2, h.size, h.base⟩
theorem defAt_sound {cx : Cx} (hD : ∀ g, g < 1000000 -> cx.ref (2000000 + g) = true -> DefOk cx.P g) {t : Nat} {s : St} (h : defAt cx t s = true) {G : Gh} {w : World} {ρ : Rho} {a : Act} (hs : Sim G w ρ s a) :
  ∃ g b n cur e, DefOk cx.P g /\ a.tmps.getD t undef = .func (.func g) #[] #[.pointer (some ⟨b, 0, none⟩)] /\ w.heap[b]? = some (.cells cur e (0, 0)) /\ cur[0]? = some (.int .i64 n) := by
 unfold defAt at h
 split at h
 ·rename_i g n hF
  obtain ⟨h01, h2⟩ := and_true h
  obtain ⟨h0, h1⟩ := and_true h01
  have hlt : g < 1000000 := Nat.lt_succ_of_le (Nat.le_of_ble_eq_true h0)
  split at h2
  ·rename_i e x hL
   have hr := hs.fr t
   rw [hF] at hr
   generalize a.tmps.getD t undef = u at hr ⊢
   cases hr with
   | fn _ _ vs _ hl hc hfv =>
    obtain rfl : u = .func (.func g) #[] vs.toArray := by
     rcases hfv with ⟨_, h⟩ | ⟨h, _⟩
     ·exact h
     ·omega
    match vs, hl with
    | [v], _ =>
     have hv := hc 0 _ v rfl rfl
     obtain ⟨p, hp, rfl⟩ := hv.ptr_inv
     obtain ⟨q, hq, hb⟩ := hs.sim.blks n _ hL
     rw [hp] at hq; cases hq
     obtain ⟨cur, c1, c2, c3, c4, c5, c6, c7⟩ := hb
     obtain ⟨v, g1, g2, g3⟩ := c6 0 (.int .i64 x) rfl
     have := g3.int_inv
     subst this
     exact ⟨g, p.b, x, cur, _, hD g hlt h1, rfl, c1, g1⟩
  ·cases h2
 ·cases h
theorem bodyD_calls {md : Option Bool} {cx : Cx} (hO : OS cx) (hD : ∀ g, g < 1000000 -> cx.ref (2000000 + g) = true -> DefOk cx.P g) {an : Nat -> Option Ann} {f : Nat} {args : List V} {H : List Blk} {k : V -> List Blk -> Bool} (hk : ∀ fn c, cx.P.funcs[f]? = some fn -> fn.body = some c -> HooksOk cx H.length an c 0) (h : bodyD md cx an f args H k = true) :
  ∃ r H', Ok cx.P f args H r H' /\ k r H' = true := by
 unfold bodyD at h
 split at h
 ·rename_i fn hfn
  split at h
  ·rename_i r0 id ops c hc
   split at h
   ·rename_i mk df hops
    split at h
    ·rename_i t hdst
     obtain ⟨h0, h'⟩ := and_true h
     obtain ⟨h01, h02⟩ := and_true h0
     obtain ⟨hmg, hdf⟩ := and_true h01
     obtain ⟨hsp, hname⟩ := and_true h02
     have hname' : ¬ fn.name = "runtime.NumGoroutine" := by simpa using hname
     have hmg' : mk.guard = none := by simpa using hmg
     have hb0 : H.length <= (H.map some).length := by simp
     have hks := hk fn _ hfn hc
     obtain ⟨e1, s1, g1, g2, g3⟩ := codeV_sound hO r0 0 _ _ hks.1 hb0 h'
     cases e1 with
     | normal =>
      simp only [K.of] at g1
      obtain ⟨x, U, T, hgood, q1⟩ := opV_sound hO g2 g1
      obtain ⟨q0, q1⟩ := and_true q1
      obtain ⟨q01, q02⟩ := and_true q0
      have hlt : t < s1.F.length := by simpa using q02
      obtain ⟨u1, u2, u3⟩ := appU_spec U s1.M
      obtain ⟨e2, s2, k1, k2, k3⟩ := codeV_sound hO c 0 _ _ hks.2.2 (Nat.le_trans g2 u2) q1
      have hend : defFin cx md H.length t fn k s2 = true /\ (e2 = .normal \/ e2 = .ret) := by
       cases e2 <;> simp [K.of] at k1
       ·exact ⟨k1, .inl rfl⟩
       ·exact ⟨k1, .inr rfl⟩
      obtain ⟨hat, hend1⟩ := and_true hend.1
      obtain ⟨r, H', hk', hfin⟩ := endM_sound k2 hend1
      refine ⟨r, H', ?_, hk'⟩
      have hok : OkC cx.P f args H r H' := by
       intro w ρ ok vs hsim hdom hargs
       refine calls_of_wp_defers hfn hc ?_
       have hS : Sim (gh w H.length ok) w ρ ⟨args ++ List.replicate (fn.ntmps - args.length) .any, H.map some⟩ { tmps := vs.toArray ++ Array.replicate (fn.ntmps - vs.toArray.size) undef, defers := [] } := by
        refine ⟨hsim, fun _ h => h, fun n hn => hdom n (by simpa using hn), ⟨rfl, fun _ h => by cases h⟩, fun t => ?_, by simp [hargs.1], by simp [gh]⟩
        show Rep _ w ρ ((args ++ List.replicate (fn.ntmps - args.length) V.any).getD t .any) _
        by_cases ht : t < args.length
        ·have htv : t < vs.length := by rw [<- hargs.1]; exact ht
         have e1 : (args ++ List.replicate (fn.ntmps - args.length) V.any).getD t .any = args[t] := by
          rw [List.getD, List.getElem?_append_left ht]; simp [ht]
         have e2 : (vs.toArray ++ Array.replicate (fn.ntmps - vs.toArray.size) undef).getD t undef = vs[t] := by
          rw [Array.getD_eq_getD_getElem?, Array.getElem?_append_left (by simpa using htv)]; simp [htv]
         rw [e1, e2]
         exact hargs.2 t _ _ (by simp [ht]) (by simp [htv])
        ·have e1 : (args ++ List.replicate (fn.ntmps - args.length) V.any).getD t .any = .any := by
          rw [List.getD, List.getElem?_append_right (by omega), List.getElem?_replicate]
          split <;> rfl
         rw [e1]; exact .any _
       refine wp_seq (g3 (gh w H.length ok) w ρ _ ⟨rfl, .none rfl⟩ hS _ fun w1 ρ1 a1 hs1 hr1 => ?_)
       show (Code.seq (.region id ops false) c).wp cx.P _ a1 w1
       refine wp_seq (wp_region_list ?_)
       rw [hops]
       unfold wpList
       rw [if_pos (by simp [Region.wanted, hmg'])]
       refine .inl (hgood (gh w H.length ok) w1 ρ1 (look s1.M) a1 mk rfl rfl hs1.noex hs1.sim (fun y _ => rep_ev hs1.fr y) (fun _ _ => rfl) (fun n b _ hn => ⟨hs1.dom n hn, Nat.le_trans g2 hn⟩) _ _ fun v w2 ρ2 p1 p2 p3 p4 => ?_)
       have hs2 := hs1.put (d := mk.dst) p1 p2 p3 p4 (fun t ht => by cases ht)
       obtain ⟨g, vs', rfl⟩ : ∃ g vs', v = .func (.func g) #[] vs' := by
        obtain ⟨gx, cpx, rfl⟩ : ∃ g caps, x = .fn g caps := by
         cases x <;> first
          | exact ⟨_, _, rfl⟩
          | (simp [isFnV] at q01)
        cases p2 with
        | fn _ _ us _ _ _ hfv =>
         rcases hfv with ⟨_, h⟩ | ⟨h, _⟩
         ·exact ⟨gx, us.toArray, h⟩
         ·exfalso
          have q := Nat.le_of_ble_eq_true q01
          omega
       have htv : (a1.put mk.dst (.func (.func g) #[] vs')).tmps.getD t undef = .func (.func g) #[] vs' := by
        rw [put_getD, if_pos ⟨hdst, by rw [hs1.size]; exact hlt⟩]
       generalize ha2 : a1.put mk.dst (.func (.func g) #[] vs') = a2 at hs2 htv ⊢
       unfold wpList
       unfold isDefer at hdf
       split at hdf
       ·rename_i cc hop
        obtain ⟨d1, d2⟩ := and_true hdf
        obtain ⟨d3, d4⟩ := and_true d2
        obtain ⟨d5, d6⟩ := and_true d4
        have d5' : df.dst = none := by simpa using d5
        have d6' : df.guard = none := by simpa using d6
        have d3' : cc.args = #[] := Array.eq_empty_of_size_eq_zero (by simpa using d3)
        split at d1
        ·rename_i t' hcal
         obtain rfl : t = t' := by simpa using d1
         rw [if_pos (by simp [Region.wanted, d6'])]
         refine .inl ?_
         let d : Deferred := { target := .fn (.func g) vs', args := #[] }
         have hrun : (execOp a2.eval df).run cx.P w2 = .ok (.defer d) w2 := by
          have hev : a2.eval (.tmp t) = .func (.func g) #[] vs' := htv
          unfold execOp
          simp [hop, resolve, hcal, hev, Deferred.ofValue, d3', d]
         unfold Oper.wp
         rw [hrun, Oper.upon_defer]
         have hd0 : a2.defers = [] := hs2.defers.1
         let G1 : Gh := { gh w H.length ok with ds := [d], dt := some t, dv := .func (.func g) #[] vs' }
         have hs3 : Sim G1 w2 ρ2 ⟨setF s1.F mk.dst x, appU s1.M U⟩ ({ a2 with defers := d :: a2.defers }.put df.dst undef) := by
          rw [d5']
          refine ⟨hs2.sim.ghost rfl rfl rfl rfl rfl, hs2.noex, hs2.dom, ⟨?_, fun t' ht' => ?_⟩, hs2.fr, hs2.size, hs2.base⟩
          ·show d :: a2.defers = [d]
           rw [hd0]
          ·cases ht'
           exact htv
         unfold wpList
         show Exit.then _ _ .normal _ _
         refine k3 G1 w2 ρ2 _ ⟨rfl, fun t' ht' => by cases ht'; exact hsp⟩ hs3 _ fun w3 ρ3 a3 hs4 hr4 => ?_
         obtain ⟨g', b, n, cur, eb, hdef, hv, hcell, hcur⟩ := defAt_sound hD hat hs4
         have hv2 := hs4.defers.2 t rfl
         rw [hv] at hv2
         have hvs : (.func g', #[.pointer (some ⟨b, 0, none⟩)]) = ((.func g, vs') : Fn × Array Value) := by
          have hv2 : Value.func (.func g') #[] #[.pointer (some ⟨b, 0, none⟩)] = .func (.func g) #[] vs' := hv2
          simp only [Value.func.injEq, Fn.func.injEq] at hv2
          rw [hv2.1, hv2.2.2]
         simp only [Prod.mk.injEq, Fn.func.injEq] at hvs
         obtain ⟨rfl, rfl⟩ := hvs
         have hds : a3.defers = [d] := hs4.defers.1
         obtain ⟨v', ρ'', z1, z2, z3, z4, z5⟩ := hfin G1 w3.drew ρ3 a3 rfl hs4.drew
         have hpost : Leaves cx.P fn a3.tmps (fun e' w' => ∃ v, e' = .returned v /\ ∃ ρ', (∀ n, n < H.length -> ρ' n = ρ n) /\ (∀ n, H'.length <= n -> ρ' n = none) /\ SimW (gh w H.length ok) w' ρ' (live H') /\ Rep (okc (gh w H.length ok) ρ' (live H')) w' ρ' r v) a3.defers .returning w3 := by
          rw [hds]
          obtain ⟨⟨fg, hfg, hbg, hng⟩, hcall⟩ := hdef
          have hng' : ¬ fg.name = "runtime.NumGoroutine" := by simpa using hng
          refine ⟨by simp, .func g', #[.pointer (some ⟨b, 0, none⟩)], g', #[.pointer (some ⟨b, 0, none⟩)], rfl, ?_, ?_⟩
          ·obtain ⟨cg, hcg⟩ := Option.isSome_iff_exists.1 hbg
           simp [d, invoke, callFunc, hfg, hng', hcg]
          ·intro c0 cs hu
           obtain ⟨e, u', w', fr, ⟨⟨vr, rfl⟩, rfl, rfl⟩, hrest⟩ := hcall w3 b n cur eb hcell hcur c0 cs hu
           refine ⟨_, _, _, fr, ?_, hrest⟩
           refine ⟨v', z1, v', rfl, ρ'', fun n hn => ?_, z3, z4.ghost rfl rfl rfl rfl rfl, z5⟩
           obtain ⟨q, hq, _⟩ := hsim.blks n H[n] (live_get.2 (by simp [hn]))
           rw [hq]
           exact z2 n q hn (hr4 n q hn ((p3.rho n q (hr1 n q hn hq))))
         rcases hend.2 with rfl | rfl
         ·exact hpost
         ·exact hpost
        ·cases d1
       ·cases hdf
      intro w ρ ok vs hsim hdom hargs o a N Q hN
      have hrun : (callFunc f vs.toArray).run cx.P w = .ok (.enter f vs.toArray) w := by
       simp [callFunc, hfn, hname', hc]
      rw [hrun, Oper.upon_enter]
      have hcalls := hok w ρ ok vs hsim hdom hargs
      refine hcalls.mono fun e' w' he => ?_
      obtain ⟨v, rfl, hv⟩ := he
      exact hN v w' hv
     | exit i => simp [K.of] at g1
     | ret => simp [K.of] at g1
     | goto l => simp [K.of] at g1
     | panic p => simp [K.of] at g1
     | outgrown => simp [K.of] at g1
    ·cases h
   ·cases h
  ·cases h
 ·cases h
end Go.Mach
end
section
namespace Go.Mach
def scheds (m : Region.Mode) (ops : Array Oper) : Nat -> Array Bool -> List Nat -> List (List Nat)
 | 0, _, acc => [acc.reverse]
 | fuel + 1, listed, acc =>
  let rs := (List.range ops.size).filter fun i =>
   !listed.getD i true && ((ops[i]?).map (·.after.all fun e => !Region.binds m e || listed.getD e.on false)).getD false
  match rs with
  | [] => [acc.reverse]
  | _ => (rs.map fun i => scheds m ops fuel (listed.setIfInBounds i true) (i :: acc)).flatten
theorem go_mem (m : Region.Mode) (ops : Array Oper) : ∀ (fuel t : Nat) (listed : Array Bool) (acc : List Nat), Region.linearise.go m ops fuel t listed acc ∈ scheds m ops fuel listed acc
 | 0, t, listed, acc => by simp [Region.linearise.go, scheds]
 | fuel + 1, t, listed, acc => by
  simp only [Region.linearise.go, scheds]
  generalize (List.range ops.size).filter (fun i => !listed.getD i true && ((ops[i]?).map (·.after.all fun e => !Region.binds m e || listed.getD e.on false)).getD false) = rs
  cases rs with
  | nil => simp
  | cons x r =>
   have hl : t % (x :: r).length < (x :: r).length := Nat.mod_lt _ (by simp)
   rw [List.getElem?_eq_getElem hl]
   simp only
   exact List.mem_flatten.2 ⟨_, List.mem_map.2 ⟨_, List.getElem_mem hl, rfl⟩, go_mem m ops fuel _ _ _⟩
section
variable {P : Program} {Q : Exit -> Act -> List Frame -> World -> Prop} {a : Act} {cs : List Frame} {w : World} {ops : Array Oper}
theorem wpS_region_draw {id : Nat} (hm : P.follows .mixedOrders = true) (h : ∀ l, l ∈ scheds .any ops ops.size (Array.replicate ops.size false) [] -> wpOpsS P ops Q l a cs w.drew) : (Code.region id ops true).wpS P Q a cs w := by
 intro b k hb hr
 have hmem := go_mem .any ops ops.size (w.tape w.drawn (.order b.fn id)) (Array.replicate ops.size false) []
 obtain ⟨e, a', cs', w', q, r⟩ := wp_opsS _ a cs w.drew (h _ hmem) b k hb hr
 refine ⟨e, a', cs', w', q, .of_steps (.one ?_) r⟩
 rw [step_region_draw]
 simp only [Region.schedule, hm, Bool.true_or, if_true]
 rfl
theorem wpOpsS_op {i : Nat} {rest : List Nat} {o : Oper} (ho : ops[i]? = some o) (hg : o.guard = none)
  (h : o.wp P a w (fun a' w' => wpOpsS P ops Q rest a' cs w') (fun e a' w' => Q e a' cs w')) : wpOpsS P ops Q (i :: rest) a cs w := by
 simp only [wpOpsS, ho]
 rw [if_pos (by simp [Region.wanted, hg])]
 unfold Oper.wp at h
 split
 ·rename_i w' hr
  rw [hr] at h
  exact h.elim
 ·exact h
theorem wpOpsS_recover {i : Nat} {rest : List Nat} {o : Oper} (ho : ops[i]? = some o) (hg : o.guard = none) (hop : o.op = .call ⟨.builtin .recover, #[], #[]⟩) (hc : recoverD cs = none)
  (h : wpOpsS P ops Q rest (a.put o.dst .nilIface) cs w) : wpOpsS P ops Q (i :: rest) a cs w := by
 simp only [wpOpsS, ho]
 rw [if_pos (by simp [Region.wanted, hg])]
 have hr : (execOp a.eval o).run P w = .ok .recover w := by
  simp [execOp, hop, go_sem]
 rw [hr]
 simp only [hc]
 exact h
end
theorem put_get (a : Act) (t : Nat) (v : Value) (h : t < a.tmps.size) : (a.put (some t) v).tmps.getD t undef = v := by rw [put_getD, if_pos ⟨rfl, h⟩]
theorem put_ne (a : Act) (d : Option Nat) (v : Value) (t : Nat) (h : d ≠ some t) : (a.put d v).tmps.getD t undef = a.tmps.getD t undef := by rw [put_getD, if_neg (fun e => h e.1)]
theorem face_of {P : Program} {fc : FuncId} {fn : Func} {p0 p1 p2 p3 p4 p5 : Oper} {i0 i1 i2 i3 i4 : Nat} {t20 tb : TypeId} {x y : Code} {z : Value}
  (hf : P.funcs[fc]? = some fn) (hn : fn.ntmps = 15) (hr : fn.results = #[.tmp 4])
  (hb : fn.body = some (.seq (.region i0 #[p0] false) (.seq (.seq (.region i1 #[p1] false) (.block 0 (.seq (.region i2 #[p2] false) (.cond (.tmp 8) (.seq (.region i3 #[p3] false) (.seq (.region i4 #[p4, p5] false) .ret)) x)))) y)))
  (g0 : p0.guard = none) (g1 : p1.guard = none) (g2 : p2.guard = none) (g3 : p3.guard = none) (g4 : p4.guard = none) (g5 : p5.guard = none)
  (d0 : p0.dst = some 4) (d1 : p1.dst = some 7) (d2 : p2.dst = some 8) (d3 : p3.dst = some 5) (d4 : p4.dst = some 9) (d5 : p5.dst = some 4)
  (e0 : p0.op = .assign (.const z)) (e1 : p1.op = .move (.tmp 0)) (e2 : p2.op = .binOp .eql t20 (.tmp 7) (.const .nilIface) tb) (e3 : p3.op = .assign (.tmp 7)) (e4 : p4.op = .move (.tmp 1)) (e5 : p5.op = .assign (.tmp 9))
  (hgd : ∀ w, (eqGuard .eql t20 (.tmp 7) (.const .nilIface) .nilIface .nilIface).run P w = .ok () w) (hnil : ∀ w, (binOp .eql t20 .nilIface .nilIface).run P w = .ok (.bool true) w) (w : World) (v : Value) : Calls P fc #[.nilIface, v] w fun e w' => e = .returned v /\ w' = w := by
 have one : ∀ {o : Oper} {a : Act} {w : World} {u : Value} {ops : Array Oper} {rest : List Oper} {Q : Exit -> Act -> World -> Prop}, o.guard = none -> (execOp a.eval o).run P w = .ok (.value u) w -> wpList P ops Q rest (a.put o.dst u) w -> wpList P ops Q (o :: rest) a w := by
  intro o a w u ops rest Q hg hr h
  unfold wpList
  rw [if_pos (by simp [Region.wanted, hg])]
  exact .inl (wp_of_run hr h)
 refine calls_of_wp hf hb ?_
 rw [hn]
 generalize ha : (Act.mk (#[Value.nilIface, v] ++ Array.replicate (15 - #[Value.nilIface, v].size) undef) []) = a
 have hsz : a.tmps.size = 15 := by rw [<- ha]; rfl
 have h0 : a.tmps.getD 0 undef = .nilIface := by rw [<- ha]; rfl
 have h1 : a.tmps.getD 1 undef = v := by rw [<- ha]; rfl
 have hd : a.defers = [] := by rw [<- ha]
 clear ha
 refine wp_seq (wp_region_list (one g0 (u := z) (by simp [execOp, e0, Act.eval]) ?_))
 generalize ha0 : a.put p0.dst z = a0
 have s0 : a0.tmps.size = 15 := by rw [<- ha0, put_size, hsz]
 have q0 : a0.tmps.getD 0 undef = .nilIface := by rw [<- ha0, put_ne _ _ _ _ (by rw [d0]; decide), h0]
 have q1 : a0.tmps.getD 1 undef = v := by rw [<- ha0, put_ne _ _ _ _ (by rw [d0]; decide), h1]
 have qd : a0.defers = [] := by rw [<- ha0, put_defers, hd]
 clear ha0
 refine wp_seq (wp_seq (wp_region_list (one g1 (u := .nilIface) (by simp [execOp, e1, Act.eval, q0]) ?_)))
 generalize ha1 : a0.put p1.dst .nilIface = a1
 have s1 : a1.tmps.size = 15 := by rw [<- ha1, put_size, s0]
 have r1 : a1.tmps.getD 1 undef = v := by rw [<- ha1, put_ne _ _ _ _ (by rw [d1]; decide), q1]
 have r7 : a1.tmps.getD 7 undef = .nilIface := by rw [<- ha1, d1, put_get _ _ _ (by omega)]
 have rd : a1.defers = [] := by rw [<- ha1, put_defers, qd]
 clear ha1
 refine wp_block (wp_seq (wp_region_list (one g2 (u := .bool true) (by simp [execOp, e2, Act.eval, r7, hnil, hgd]) ?_)))
 generalize ha2 : a1.put p2.dst (.bool true) = a2
 have s2 : a2.tmps.size = 15 := by rw [<- ha2, put_size, s1]
 have t1 : a2.tmps.getD 1 undef = v := by rw [<- ha2, put_ne _ _ _ _ (by rw [d2]; decide), r1]
 have t7 : a2.tmps.getD 7 undef = .nilIface := by rw [<- ha2, put_ne _ _ _ _ (by rw [d2]; decide), r7]
 have t8 : a2.tmps.getD 8 undef = .bool true := by rw [<- ha2, d2, put_get _ _ _ (by omega)]
 have td : a2.defers = [] := by rw [<- ha2, put_defers, rd]
 clear ha2
 refine wp_cond_true (by show a2.eval (.tmp 8) = _; exact t8) ?_
 refine wp_seq (wp_region_list (one g3 (u := .nilIface) (by simp [execOp, e3, Act.eval, t7]) ?_))
 generalize ha3 : a2.put p3.dst .nilIface = a3
 have s3 : a3.tmps.size = 15 := by rw [<- ha3, put_size, s2]
 have u1 : a3.tmps.getD 1 undef = v := by rw [<- ha3, put_ne _ _ _ _ (by rw [d3]; decide), t1]
 have ud : a3.defers = [] := by rw [<- ha3, put_defers, td]
 clear ha3
 refine wp_seq (wp_region_list (one g4 (u := v) (by simp [execOp, e4, Act.eval, u1]) ?_))
 generalize ha4 : a3.put p4.dst v = a4
 have s4 : a4.tmps.size = 15 := by rw [<- ha4, put_size, s3]
 have v9 : a4.tmps.getD 9 undef = v := by rw [<- ha4, d4, put_get _ _ _ (by omega)]
 have vd : a4.defers = [] := by rw [<- ha4, put_defers, ud]
 clear ha4
 refine one g5 (u := v) (by simp [execOp, e5, Act.eval, v9]) ?_
 generalize ha5 : a4.put p5.dst v = a5
 have v4 : a5.tmps.getD 4 undef = v := by rw [<- ha5, d5, put_get _ _ _ (by omega)]
 have vd' : a5.defers = [] := by rw [<- ha5, put_defers, vd]
 refine wp_ret ?_
 show a5.defers = [] /\ _
 refine ⟨vd', v, ?_, rfl, rfl⟩
 rw [Array.getD_eq_getD_getElem?] at v4
 simp [results, hr, v4]
theorem defOk_of {P : Program} {g fc : FuncId} {fg ff : Func} {o0 o1 o2 o3 : Oper} {id : Nat} {t : TypeId} {ats : Array TypeId}
  (hf : P.funcs[g]? = some fg) (hname : (fg.name == "runtime.NumGoroutine") = false) (hn : fg.ntmps = 4) (hr : fg.results = #[]) (hb : fg.body = some (.region id #[o0, o1, o2, o3] true))
  (hff : P.funcs[fc]? = some ff) (hfn : (ff.name == "runtime.NumGoroutine") = false) (hfb : ff.body.isSome = true)
  (hm : P.follows .mixedOrders = true) (hs : scheds .any #[o0, o1, o2, o3] 4 (Array.replicate 4 false) [] = [[0, 1, 2, 3], [1, 0, 2, 3]])
  (g0 : o0.guard = none) (g1 : o1.guard = none) (g2 : o2.guard = none) (g3 : o3.guard = none)
  (d0 : o0.dst = some 1) (d1 : o1.dst = some 2) (d2 : o2.dst = some 3)
  (e0 : o0.op = .call ⟨.builtin .recover, #[], #[]⟩) (e1 : o1.op = .load t (.tmp 0)) (e2 : o2.op = .call ⟨.value (.func fc), #[.tmp 1, .tmp 2], ats⟩) (e3 : o3.op = .store t (.tmp 0) (.tmp 3))
  (ht : isAggT P t = some false) (hsz : szOf P t = some 1)
  (hface : ∀ (w : World) (n : Value), Calls P fc #[.nilIface, n] w fun e w' => e = .returned n /\ w' = w) : DefOk P g := by
 refine ⟨⟨fg, hf, by rw [hb]; rfl, hname⟩, fun w b n cur e hw hc => ?_⟩
 refine callsD_of_wpS hf hb fun c₀ cs hu => ?_
 rw [hn]
 generalize ha : (Act.mk (#[Value.pointer (some ⟨b, 0, none⟩)] ++ Array.replicate (4 - #[Value.pointer (some ⟨b, 0, none⟩)].size) undef) []) = a
 have hsize : a.tmps.size = 4 := by rw [<- ha]; rfl
 have h0 : a.tmps.getD 0 undef = .pointer (some ⟨b, 0, none⟩) := by rw [<- ha]; rfl
 have hd : a.defers = [] := by rw [<- ha]
 clear ha
 have hrec : recoverD (c₀ :: cs) = none := by simp [recoverD, hu]
 have hcell : w.drew.cell? ⟨b, 0, none⟩ = some (.int .i64 n) := by
  show World.cell? w ⟨b, 0, none⟩ = _
  simp [World.cell?, hw, hc]
 have hload : ∀ a' : Act, a'.tmps.getD 0 undef = .pointer (some ⟨b, 0, none⟩) -> (execOp a'.eval o1).run P w.drew = .ok (.value (.int .i64 n)) w.drew := by
  intro a' h0'
  obtain ⟨v, h1, h2⟩ := load_run (P := P) (ok := fun _ => True) (w := w.drew) (ρ := fun _ => none) (b := b) (o := 0) ht hsz (z := .int .i64 n) (.inr ⟨rfl, _, hcell, .int _ _⟩)
  have := h2.int_inv
  subst this
  simp [execOp, e1, Act.eval, h0', h1]
 have rest : ∀ a' : Act, a'.tmps.size = 4 -> a'.tmps.getD 0 undef = .pointer (some ⟨b, 0, none⟩) -> a'.tmps.getD 1 undef = .nilIface -> a'.tmps.getD 2 undef = .int .i64 n -> a'.defers = [] ->
   wpOpsS P #[o0, o1, o2, o3] (bodyPostS P fg c₀ cs fun e u' w' => (∃ v, e = .returned v) /\ u' = .returning /\ w' = w.drew) [2, 3] a' (c₀ :: cs) w.drew := by
  intro a' k0 k1 k2 k3 k4
  refine wpOpsS_op (o := o2) rfl g2 ?_
  have hrun : (execOp a'.eval o2).run P w.drew = .ok (.enter fc #[.nilIface, .int .i64 n]) w.drew := by
   have hfn' : ¬ ff.name = "runtime.NumGoroutine" := by simpa using hfn
   obtain ⟨cf, hcf⟩ := Option.isSome_iff_exists.1 hfb
   have ef : a'.eval (.func fc) = .func (.func fc) #[] #[] := rfl
   have e1' : a'.eval (.tmp 1) = .nilIface := k2
   have e2' : a'.eval (.tmp 2) = .int .i64 n := k3
   simp [execOp, e2, resolve, Deferred.ofValue, ef, e1', e2', invoke, callFunc, hff, hfn', hcf]
  unfold Oper.wp
  rw [hrun, Oper.upon_enter]
  refine (hface w.drew (.int .i64 n)).mono fun e' w' he => ?_
  obtain ⟨rfl, rfl⟩ := he
  simp only
  generalize ha3 : a'.put o2.dst (.int .i64 n) = a3
  have j0 : a3.tmps.getD 0 undef = .pointer (some ⟨b, 0, none⟩) := by rw [<- ha3, put_ne _ _ _ _ (by rw [d2]; decide), k1]
  have j3 : a3.tmps.getD 3 undef = .int .i64 n := by rw [<- ha3, d2, put_get _ _ _ (by omega)]
  have jd : a3.defers = [] := by rw [<- ha3, put_defers, k4]
  refine wpOpsS_op (o := o3) rfl g3 ?_
  have hst := run_storeCells_at P b 0 e [.int .i64 n] 0 cur w.drew hw (by
   have : 0 < cur.size := (Array.getElem?_eq_some_iff.1 hc).1
   show 0 + 0 + 1 <= cur.size
   omega) (by intro v hv; simp at hv; subst hv; rfl)
  simp only [Nat.add_zero] at hst
  have hsame : (cur.toList.take 0 ++ [Value.int .i64 n] ++ cur.toList.drop (0 + [Value.int .i64 n].length)).toArray = cur := by
   have h0 : 0 < cur.size := (Array.getElem?_eq_some_iff.1 hc).1
   apply Array.ext_getElem?
   intro i
   cases i with
   | zero => simp [hc]
   | succ i => simp
  rw [hsame, setRow_self w.drew b cur e (0, 0) hw] at hst
  have hrun3 : (execOp a3.eval o3).run P w.drew = .ok .skip w.drew := by
   have e0' : a3.eval (.tmp 0) = .pointer (some ⟨b, 0, none⟩) := j0
   have e3' : a3.eval (.tmp 3) = .int .i64 n := j3
   have hcs : (Value.int .i64 n).cells = #[Value.int .i64 n] := rfl
   simp [execOp, e3, e0', e3', Instr.storeAt, Instr.sureAddr, storeVar, szOf_run hsz, hcs, hst]
  unfold Oper.wp
  rw [hrun3, Oper.upon_skip]
  show bodyPostS P fg c₀ cs _ .normal _ _ _
  refine ⟨by rw [put_defers, jd], .returning, ?_, .tuple #[], ?_, ⟨_, rfl⟩, rfl, rfl⟩
  ·rw [<- hu]
  ·simp [results, hr]
 refine wpS_region_draw hm fun l hl => ?_
 rw [show (#[o0, o1, o2, o3] : Array Oper).size = 4 from rfl, hs] at hl
 simp only [List.mem_cons, List.not_mem_nil, or_false] at hl
 rcases hl with rfl | rfl
 ·refine wpOpsS_recover (o := o0) rfl g0 e0 hrec (wpOpsS_op (o := o1) rfl g1 (wp_of_run (hload _ (by rw [put_ne _ _ _ _ (by rw [d0]; decide), h0])) ?_))
  refine rest _ (by rw [put_size, put_size, hsize]) ?_ ?_ ?_ (by rw [put_defers, put_defers, hd])
  ·rw [put_ne _ _ _ _ (by rw [d1]; decide), put_ne _ _ _ _ (by rw [d0]; decide), h0]
  ·rw [put_ne _ _ _ _ (by rw [d1]; decide), d0, put_get _ _ _ (by omega)]
  ·rw [d1, put_get _ _ _ (by rw [put_size]; omega)]
 ·refine wpOpsS_op (o := o1) rfl g1 (wp_of_run (hload _ h0) (wpOpsS_recover (o := o0) rfl g0 e0 hrec ?_))
  refine rest _ (by rw [put_size, put_size, hsize]) ?_ ?_ ?_ (by rw [put_defers, put_defers, hd])
  ·rw [put_ne _ _ _ _ (by rw [d0]; decide), put_ne _ _ _ _ (by rw [d1]; decide), h0]
  ·rw [d0, put_get _ _ _ (by rw [put_size]; omega)]
  ·rw [put_ne _ _ _ _ (by rw [d0]; decide), d1, put_get _ _ _ (by omega)]
end Go.Mach
end
section
namespace Go.Mach
theorem canon_frep (b : Nat) : FRep (canon b) (.float .f64 b) := by
 unfold canon
 cases h : isNaN b with
 | true => exact ⟨b, rfl, h⟩
 | false => rfl
theorem repL_one {ok : Nat -> Prop} {w : World} {ρ : Rho} {x : V} {vs : List Value} (h : RepL ok w ρ [x] vs) : ∃ v, vs = [v] /\ Rep ok w ρ x v := by
 obtain ⟨h1, h2⟩ := h
 match vs, h1 with
 | [v], _ => exact ⟨v, rfl, h2 0 x v rfl rfl⟩
theorem good_ext1 {P : Program} {f : Nat} {fn : Func} {e : Array Value -> Sem Value} (hf : P.funcs[f]? = some fn) (hname : (fn.name == "runtime.NumGoroutine") = false)
  (hb : fn.body.isNone = true) (hn : Extern.findNext fn = none) (he : Extern.find fn = some e) (sh : FnSh) (S : List Atom -> (V -> List Blk -> Bool) -> Bool)
  (h : ∀ a k, S a k = true -> sh.heap a = [] /\ ∃ r, k r [] = true /\ ∀ (ok : Nat -> Prop) (w : World) (ρ : Rho) (vs : List Value), RepL ok w ρ (sh.args a) vs -> ∃ v w', (e vs.toArray).run P w = .ok v w' /\ (w' = w \/ w' = w.drew) /\ Rep ok w ρ r v) : GoodF P f (mkFs sh S) := by
 refine good_extern fun args H k hs => ?_
 unfold mkFs at hs
 split at hs
 ·rename_i a ha
  obtain ⟨rfl, e2⟩ := FnSh.ext_build ha
  obtain ⟨g0, r, g1, g2⟩ := h a k hs
  rw [g0] at e2
  obtain rfl : H = [] := by simpa using e2
  refine ⟨r, g1, fun ok w ρ vs hv => ?_⟩
  obtain ⟨v, w', q1, q2, q3⟩ := g2 ok w ρ vs hv
  refine ⟨v, w', ?_, q2, q3⟩
  rw [run_callFunc_extern hf hname hb hn he, q1]; rfl
 ·cases hs
theorem good_frombits {P : Program} {f : Nat} {fn : Func} (hf : P.funcs[f]? = some fn) (hname : (fn.name == "runtime.NumGoroutine") = false)
  (hb : fn.body.isNone = true) (hn : Extern.findNext fn = none) (he : Extern.find fn = some Extern.MathFloatBits.float64frombits) :
  GoodF P f (mkFs ⟨[.int .u64], []⟩ fun a k => match a with | [.int n] => k (.flt (canon n.toNat)) [] | _ => false) := by
 refine good_ext1 hf hname hb hn he _ _ fun a k h => ?_
 split at h
 ·rename_i n
  refine ⟨rfl, _, h, fun ok w ρ vs hv => ?_⟩
  obtain ⟨v, rfl, hr⟩ := repL_one hv
  obtain rfl := hr.int_inv
  exact ⟨.float .f64 n.toNat, w, rfl, .inl rfl, .flt _ _ (canon_frep _)⟩
 ·cases h
theorem good_bits {P : Program} {f : Nat} {fn : Func} (hf : P.funcs[f]? = some fn) (hname : (fn.name == "runtime.NumGoroutine") = false)
  (hb : fn.body.isNone = true) (hn : Extern.findNext fn = none) (he : Extern.find fn = some Extern.MathFloatBits.float64bits) :
  GoodF P f (mkFs ⟨[.flt], []⟩ fun a k => match a with | [.fl (some b)] => k (.int .u64 b) [] | _ => false) := by
 refine good_ext1 hf hname hb hn he _ _ fun a k h => ?_
 split at h
 ·rename_i b
  refine ⟨rfl, _, h, fun ok w ρ vs hv => ?_⟩
  obtain ⟨v, rfl, hr⟩ := repL_one hv
  have hv := hr.flt_inv
  obtain rfl : v = .float .f64 b := hv
  exact ⟨.int .u64 b, w, rfl, .inl rfl, .int _ _⟩
 ·cases h
theorem good_sqrt {P : Program} {f : Nat} {fn : Func} (hf : P.funcs[f]? = some fn) (hname : (fn.name == "runtime.NumGoroutine") = false)
  (hb : fn.body.isNone = true) (hn : Extern.findNext fn = none) (he : Extern.find fn = some Extern.MathSqrt.sqrt) (hnan : ∀ b, isNaN b = true -> Ieee.double.sqrt b = none) :
  GoodF P f (mkFs ⟨[.flt], []⟩ fun a k => match a with | [.fl x] => k (.flt (fsqrt x)) [] | _ => false) := by
 refine good_ext1 hf hname hb hn he _ _ fun a k h => ?_
 split at h
 ·rename_i x
  refine ⟨rfl, _, h, fun ok w ρ vs hv => ?_⟩
  obtain ⟨v, rfl, hr⟩ := repL_one hv
  have hv : FRep x v := hr.flt_inv
  obtain ⟨b, rfl⟩ := hv.float
  have hs : Ieee.double.sqrt b = fsqrt x := by
   cases x with
   | none => obtain ⟨b', e, hb'⟩ := hv; cases e; rw [hnan _ hb']; rfl
   | some b' => cases hv; rfl
  cases hq : fsqrt x with
  | some r =>
   refine ⟨.float .f64 r, w, ?_, .inl rfl, .flt _ _ rfl⟩
   rw [hq] at hs
   have e1 : Extern.MathSqrt.sqrt [Value.float .f64 b].toArray = (match Ieee.double.sqrt b with | some r => pure (.float .f64 r) | none => do pure (.float .f64 (<- choose (.nanBits .f64 b b)))) := rfl
   rw [e1, hs]; rfl
  | none =>
   rw [hq] at hs
   refine ⟨.float .f64 ((Question.nanBits .f64 b b).cut (w.tape w.drawn (.nanBits .f64 b b))), w.drew, ?_, .inr rfl, .flt _ _ ⟨_, rfl, isNaN_cut _ _ _⟩⟩
   have e1 : Extern.MathSqrt.sqrt [Value.float .f64 b].toArray = (match Ieee.double.sqrt b with | some r => pure (.float .f64 r) | none => do pure (.float .f64 (<- choose (.nanBits .f64 b b)))) := rfl
   rw [e1, hs]; simp [Question.forced]
 ·cases h
theorem good_bits_fb {P : Program} {f : Nat} {fn : Func} (hf : P.funcs[f]? = some fn) (hname : (fn.name == "runtime.NumGoroutine") = false)
  (hb : fn.body.isNone = true) (hn : Extern.findNext fn = none) (he : Extern.find fn = some Extern.MathFloatBits.float64bits) :
  GoodF P f (mkFs ⟨[.fb], []⟩ fun a k => match a with | [.nat b] => k (.int .u64 b) [] | _ => false) := by
 refine good_ext1 hf hname hb hn he _ _ fun a k h => ?_
 split at h
 ·rename_i b
  refine ⟨rfl, _, h, fun ok w ρ vs hv => ?_⟩
  obtain ⟨v, rfl, hr⟩ := repL_one hv
  have hv : Rep ok w ρ (.val (.float .f64 b)) v := hr
  cases hv
  exact ⟨.int .u64 b, w, rfl, .inl rfl, .int _ _⟩
 ·cases h
def fbOf : List V -> List Value -> List V
 | .flt _ :: r, v :: vs => .val v :: fbOf r vs
 | a :: r, _ :: vs => a :: fbOf r vs
 | r, [] => r
 | [], _ => []
theorem fbOf_rep {ok : Nat -> Prop} {w : World} {ρ : Rho} : ∀ (args : List V) (vs : List Value), RepL ok w ρ args vs -> RepL ok w ρ (fbOf args vs) vs
 | [], vs, h => by cases vs <;> exact h
 | a :: r, [], h => by cases a <;> exact h
 | a :: r, v :: vs, h => by
  have hr : RepL ok w ρ r vs := ⟨by have := h.1; simpa using this, fun i c u hc hu => h.2 (i + 1) c u (by simpa using hc) (by simpa using hu)⟩
  have ih := fbOf_rep r vs hr
  have ha : Rep ok w ρ a v := h.2 0 a v rfl rfl
  have key : ∀ a', Rep ok w ρ a' v -> RepL ok w ρ (a' :: fbOf r vs) (v :: vs) := by
   intro a' ha'
   refine ⟨by have := ih.1; simp [this], fun i c u hc hu => ?_⟩
   cases i with
   | zero => simp at hc hu; subst hc; subst hu; exact ha'
   | succ i => exact ih.2 i c u (by simpa using hc) (by simpa using hu)
  cases a <;> first | exact key _ (.val _) | exact key _ ha
theorem ok_fb {P : Program} {f : Nat} {args : List V} {H : List Blk} {r : V} {H' : List Blk} (h : ∀ vs : List Value, (∀ (i : Nat) x v, args[i]? = some (.flt x) -> vs[i]? = some v -> FRep x v) -> args.length = vs.length -> Ok P f (fbOf args vs) H r H') : Ok P f args H r H' := by
 intro w ρ ok vs hs hd ha
 refine h vs (fun i x v hx hv => ?_) ha.1 w ρ ok vs hs hd (fbOf_rep args vs ha)
 have := ha.2 i _ v hx hv
 exact this.flt_inv
end Go.Mach
end
section
namespace Go.Mach
theorem repL_three {ok : Nat -> Prop} {w : World} {ρ : Rho} {x y z : V} {vs : List Value} (h : RepL ok w ρ [x, y, z] vs) : ∃ u v t, vs = [u, v, t] /\ Rep ok w ρ x u /\ Rep ok w ρ y v /\ Rep ok w ρ z t := by
 obtain ⟨h1, h2⟩ := h
 match vs, h1 with
 | [u, v, t], _ => exact ⟨u, v, t, rfl, h2 0 x u rfl rfl, h2 1 y v rfl rfl, h2 2 z t rfl rfl⟩
def addRow : Array Value -> Sem Value := match Extern.MathBitsCarry.rows with
 | (_, e) :: _ => e
 | [] => fun _ => pure .nilIface
def subRow : Array Value -> Sem Value := match Extern.MathBitsCarry.rows with
 | _ :: (_, e) :: _ => e
 | _ => fun _ => pure .nilIface
theorem run_three {P : Program} {w : World} (nm : String) (k1 k2 k3 : IntKind) (x y c : Int) (hc : c.toNat <= 1) : (Extern.MathBitsCarry.three nm #[.int k1 x, .int k2 y, .int k3 c]).run P w = .ok (x.toNat, y.toNat, c.toNat) w := match c, hc with
 | .ofNat 0, _ => rfl
 | .ofNat 1, _ => rfl
 | .ofNat (n + 2), h => absurd h (by show ¬ (n + 2 <= 1); omega)
 | .negSucc n, _ => rfl
theorem run_add64 {P : Program} {w : World} (k1 k2 k3 : IntKind) (x y c : Int) (hc : c.toNat <= 1) : (addRow #[.int k1 x, .int k2 y, .int k3 c]).run P w = .ok (.tuple #[.int .u64 (((x.toNat + y.toNat + c.toNat) % 18446744073709551616 : Nat) : Int), .int .u64 (((x.toNat + y.toNat + c.toNat) / 18446744073709551616 : Nat) : Int)]) w := by
 simp only [addRow, Extern.MathBitsCarry.rows, Sem.run_bind, run_three "Add64" k1 k2 k3 x y c hc, Result.andThen_ok, Sem.run_pure, Extern.MathBitsCarry.pair, Extern.MathBitsCarry.m64]
 rfl
theorem run_sub64 {P : Program} {w : World} (k1 k2 k3 : IntKind) (x y c : Int) (hc : c.toNat <= 1) : (subRow #[.int k1 x, .int k2 y, .int k3 c]).run P w = .ok (.tuple #[.int .u64 (((x.toNat + 18446744073709551616 - y.toNat - c.toNat) % 18446744073709551616 : Nat) : Int), .int .u64 (cond (decide (x.toNat < y.toNat + c.toNat)) 1 0)]) w := by
 simp only [subRow, Extern.MathBitsCarry.rows, Sem.run_bind, run_three "Sub64" k1 k2 k3 x y c hc, Result.andThen_ok, Sem.run_pure, Extern.MathBitsCarry.pair, Extern.MathBitsCarry.m64]
 by_cases h : x.toNat < y.toNat + c.toNat
 ·simp [h]
 ·simp [h]
theorem good_add64 {P : Program} {f : Nat} {fn : Func} (hf : P.funcs[f]? = some fn) (hname : (fn.name == "runtime.NumGoroutine") = false)
  (hb : fn.body.isNone = true) (hn : Extern.findNext fn = none) (he : Extern.find fn = some addRow) :
  GoodF P f (mkFs ⟨[.int .u64, .int .u64, .int .u64], []⟩ fun a k => match a with
   | [.int x, .int y, .int c] => (decide (c.toNat <= 1)) && k (.tup [.int .u64 (((x.toNat + y.toNat + c.toNat) % 18446744073709551616 : Nat) : Int), .int .u64 (((x.toNat + y.toNat + c.toNat) / 18446744073709551616 : Nat) : Int)]) []
   | _ => false) := by
 refine good_ext1 hf hname hb hn he _ _ fun a k h => ?_
 split at h
 ·rename_i x y c
  obtain ⟨h1, h2⟩ := and_true h
  refine ⟨rfl, _, h2, fun ok w ρ vs hv => ?_⟩
  obtain ⟨u, v, t, rfl, r1, r2, r3⟩ := repL_three hv
  obtain rfl := r1.int_inv; obtain rfl := r2.int_inv; obtain rfl := r3.int_inv
  exact ⟨_, w, run_add64 _ _ _ x y c (of_decide_eq_true h1), .inl rfl, .tup _ [_, _] rfl fun i a v ha hv => by
   match i with
   | 0 => cases ha; cases hv; exact .int _ _
   | 1 => cases ha; cases hv; exact .int _ _
   | i + 2 => cases ha⟩
 ·cases h
theorem good_sub64 {P : Program} {f : Nat} {fn : Func} (hf : P.funcs[f]? = some fn) (hname : (fn.name == "runtime.NumGoroutine") = false)
  (hb : fn.body.isNone = true) (hn : Extern.findNext fn = none) (he : Extern.find fn = some subRow) :
  GoodF P f (mkFs ⟨[.int .u64, .int .u64, .int .u64], []⟩ fun a k => match a with
   | [.int x, .int y, .int c] => (decide (c.toNat <= 1)) && k (.tup [.int .u64 (((x.toNat + 18446744073709551616 - y.toNat - c.toNat) % 18446744073709551616 : Nat) : Int), .int .u64 (cond (decide (x.toNat < y.toNat + c.toNat)) 1 0)]) []
   | _ => false) := by
 refine good_ext1 hf hname hb hn he _ _ fun a k h => ?_
 split at h
 ·rename_i x y c
  obtain ⟨h1, h2⟩ := and_true h
  refine ⟨rfl, _, h2, fun ok w ρ vs hv => ?_⟩
  obtain ⟨u, v, t, rfl, r1, r2, r3⟩ := repL_three hv
  obtain rfl := r1.int_inv; obtain rfl := r2.int_inv; obtain rfl := r3.int_inv
  exact ⟨_, w, run_sub64 _ _ _ x y c (of_decide_eq_true h1), .inl rfl, .tup _ [_, _] rfl fun i a v ha hv => by
   match i with
   | 0 => cases ha; cases hv; exact .int _ _
   | 1 => cases ha; cases hv; exact .int _ _
   | i + 2 => cases ha⟩
 ·cases h
end Go.Mach
end
section
namespace Go.Mach
theorem inR_of {i : Int} {n : Nat} (h1 : 0 <= i) (h2 : i < n) : inR i n = true := by unfold inR; simp; omega
theorem fits64_iff (n : Int) : fits .i64 n = true ↔ -9223372036854775808 <= n /\ n <= 9223372036854775807 := by
 unfold fits
 have e1 : IntKind.min .i64 = -9223372036854775808 := by decide
 have e2 : IntKind.max .i64 = 9223372036854775807 := by decide
 simp [e1, e2]
theorem mkOk_iff (b : Nat) (l c : Int) : mkOk b l c = true ↔ 0 <= l /\ l <= c /\ c <= 9223372036854775807 /\ (b : Int) * c <= 140737488355328 := by unfold mkOk; simp
theorem iterG_eq {σ : Type} {step : σ -> (σ -> Bool) -> Bool} (C : Nat -> σ) (n : Nat) {N : Nat} (hn : n < N) {out : Bool} (hs : ∀ i, i < n -> ∀ K : σ -> Bool, step (C i) K = K (C (i + 1))) (hx : ∀ K, step (C n) K = out) : iterG N step (C 0) = out := by
 have : ∀ m, m <= n -> ∀ N, m < N -> iterG N step (C (n - m)) = out := by
  intro m
  induction m with
  | zero =>
   intro _ N hN
   cases N with
   | zero => omega
   | succ N => exact hx _
  | succ m ih =>
   intro hm N hN
   cases N with
   | zero => omega
   | succ N =>
    show step (C (n - (m + 1))) (iterG N step) = out
    rw [hs (n - (m + 1)) (by omega), show n - (m + 1) + 1 = n - m by omega]
    exact ih (by omega) N (by omega)
 simpa using this n (Nat.le_refl _) N hn
end Go.Mach
end
section
namespace Go.Mach
open Ieee
def isNum : Datum -> Bool
 | .number .. => true
 | _ => false
def finF : Fl -> Bool
 | some b => isNum (Ieee.double.read b)
 | none => false
def cls (b : Nat) : Int :=
 if isNaN b then 1 else if b / 4503599627370496 % 2048 = 2047 then 2 else if b / 4503599627370496 % 2048 = 0 then (if b % 4503599627370496 = 0 then 3 else 4) else 5
theorem cls_fin (b : Nat) : (decide (cls b = 1) || decide (cls b = 2)) = !isNum (Ieee.double.read b) := by
 have e1 : Ieee.double.signWeight = 9223372036854775808 := by decide
 have e2 : Ieee.double.binade = 4503599627370496 := by decide
 have e3 : Ieee.double.infRung = 9218868437227405312 := by decide
 have hn := isNaN_iff b
 unfold cls Format.read
 simp only [e1, e2, e3]
 by_cases h : isNaN b = true
 ·have h' := hn.1 h
  have a1 : ¬ (b % 9223372036854775808 < 4503599627370496) := by omega
  have a2 : ¬ (b % 9223372036854775808 < 9218868437227405312) := by omega
  have a3 : ¬ (b % 9223372036854775808 = 9218868437227405312) := by omega
  simp [h, a1, a2, a3, isNum]
 ·have h' : ¬ (9218868437227405312 < b % 9223372036854775808) := fun q => h (hn.2 q)
  simp only [h, if_false, Bool.false_eq_true]
  by_cases a3 : b % 9223372036854775808 = 9218868437227405312
  ·have c1 : b / 4503599627370496 % 2048 = 2047 := by omega
   simp [c1, a3, isNum]
  ·have c1 : ¬ (b / 4503599627370496 % 2048 = 2047) := by omega
   by_cases a1 : b % 9223372036854775808 < 4503599627370496
   ·simp only [c1, a1, if_true, if_false, isNum]; split <;> (try split) <;> simp
   ·have a2 : b % 9223372036854775808 < 9218868437227405312 := by omega
    simp only [c1, a1, a2, if_true, if_false, isNum]; split <;> (try split) <;> simp
theorem wrap_u64 (n : Nat) (h : n < 18446744073709551616) : IntKind.wrap .u64 (n : Int) = n := by
 have : IntKind.wrap .u64 (n : Int) = (n : Int) % 18446744073709551616 := by rfl
 rw [this]; omega
theorem bitsN_and_mask (a k : Nat) (hk : k <= 64) : bitsN .and .u64 (a : Int) ((2 ^ k - 1 : Nat) : Int) = ((a % 2 ^ k : Nat) : Int) := by
 unfold bitsN bitsI
 simp only [Option.getD_some]
 have e : ((BitVec.ofInt (IntKind.bits .u64) (a : Int)) &&& (BitVec.ofInt (IntKind.bits .u64) ((2 ^ k - 1 : Nat) : Int))).toNat = a % 2 ^ k := by
  show ((BitVec.ofInt 64 (a : Int)) &&& (BitVec.ofInt 64 ((2 ^ k - 1 : Nat) : Int))).toNat = a % 2 ^ k
  rw [BitVec.toNat_and, BitVec.ofInt_natCast, BitVec.ofInt_natCast, BitVec.toNat_ofNat, BitVec.toNat_ofNat]
  have h1 : 2 ^ k <= 2 ^ 64 := Nat.pow_le_pow_right (by decide) hk
  have h0 : 0 < 2 ^ k := Nat.two_pow_pos k
  rw [Nat.mod_eq_of_lt (a := 2 ^ k - 1) (by omega), Nat.and_two_pow_sub_one_eq_mod, Nat.mod_mod_of_dvd]
  exact Nat.pow_dvd_pow 2 hk
 rw [e, wrap_u64]
 have h1 : 2 ^ k <= 2 ^ 64 := Nat.pow_le_pow_right (by decide) hk
 have : a % 2 ^ k < 2 ^ k := Nat.mod_lt _ (Nat.two_pow_pos k)
 have : (2 : Nat) ^ 64 = 18446744073709551616 := by decide
 omega
theorem bitsN_andNot_top (a : Nat) : bitsN .andNot .u64 (a : Int) 9223372036854775808 = ((a % 9223372036854775808 : Nat) : Int) := by
 unfold bitsN bitsI
 simp only [Option.getD_some]
 have e : ((BitVec.ofInt (IntKind.bits .u64) (a : Int)) &&& ~~~(BitVec.ofInt (IntKind.bits .u64) (9223372036854775808 : Int))).toNat = a % 9223372036854775808 := by
  have hm : ~~~(BitVec.ofInt 64 (9223372036854775808 : Int)) = BitVec.ofNat 64 (2 ^ 63 - 1) := by decide
  show ((BitVec.ofInt 64 (a : Int)) &&& ~~~(BitVec.ofInt 64 (9223372036854775808 : Int))).toNat = a % 9223372036854775808
  rw [hm, BitVec.toNat_and, BitVec.ofInt_natCast, BitVec.toNat_ofNat, BitVec.toNat_ofNat, Nat.mod_eq_of_lt (a := 2 ^ 63 - 1) (by decide), Nat.and_two_pow_sub_one_eq_mod, Nat.mod_mod_of_dvd]
  exact Nat.pow_dvd_pow 2 (by decide)
 rw [e, wrap_u64]
 omega
end Go.Mach
end
section
namespace Go.Mach
def clsF : Fl -> Int
 | some b => cls b
 | none => 1
def cn : Fl -> Fl
 | some b => if isNaN b then none else some b
 | none => none
def absF : Fl -> Fl
 | some b => canon (b % 9223372036854775808)
 | none => none
theorem clsF_fin (x : Fl) : (decide (clsF x = 1) || decide (clsF x = 2)) = !finF x := by
 cases x with
 | none => rfl
 | some b => exact cls_fin b
theorem clsF_lo (x : Fl) : 1 <= clsF x := by
 cases x with
 | none => decide
 | some b => show 1 <= cls b; unfold cls; split <;> (try split) <;> (try split) <;> (try split) <;> decide
theorem fits_ok {n : Int} (h1 : -9223372036854775808 <= n) (h2 : n <= 9223372036854775807) : fits .i64 n = true := (fits64_iff n).2 ⟨h1, h2⟩
theorem mkOk_ok {b : Nat} {l c : Int} (h0 : 0 <= l) (h1 : l <= c) (h2 : c <= 9223372036854775807) (h3 : (b : Int) * c <= 140737488355328) : mkOk b l c = true := (mkOk_iff b l c).2 ⟨h0, h1, h2, h3⟩
theorem dec_true {p : Prop} [Decidable p] (h : p) : decide p = true := by simp [h]
theorem dec_false {p : Prop} [Decidable p] (h : ¬ p) : decide p = false := by simp [h]
def allN (p : Nat -> Bool) : Nat -> Bool
 | 0 => true
 | n + 1 => allN p n && p n
theorem allN_iff {p : Nat -> Bool} : ∀ {n : Nat}, allN p n = true ↔ ∀ i, i < n -> p i = true
 | 0 => by simp [allN]
 | n + 1 => by
  rw [allN, Bool.and_eq_true, allN_iff]
  constructor
  ·intro h i hi
   by_cases e : i = n
   ·subst e; exact h.2
   ·exact h.1 i (by omega)
  ·intro h
   exact ⟨fun i hi => h i (by omega), h n (by omega)⟩
def allT (p : Nat -> Bool) (n : Nat) : Nat -> Bool
 | 0 => true
 | m + 1 => p (n - (m + 1)) && allT p n m
theorem allT_iff {p : Nat -> Bool} {n : Nat} : ∀ {m : Nat}, m <= n -> (allT p n m = true ↔ ∀ i, n - m <= i -> i < n -> p i = true)
 | 0, _ => by simp only [allT, true_iff]; intro i h1 h2; omega
 | m + 1, hm => by
  rw [allT, Bool.and_eq_true, allT_iff (by omega)]
  constructor
  ·intro h i h1 h2
   by_cases e : i = n - (m + 1)
   ·subst e; exact h.1
   ·exact h.2 i (by omega) h2
  ·intro h
   exact ⟨h _ (by omega) (by omega), fun i h1 h2 => h i (by omega) h2⟩
theorem iterG_all {σ : Type} {step : σ -> (σ -> Bool) -> Bool} (C : Nat -> σ) (p : Nat -> Bool) (n : Nat) {N : Nat} (hn : n < N) {ex out : Bool}
  (hs : ∀ i, i < n -> ∀ K : σ -> Bool, step (C i) K = cond (p i) (K (C (i + 1))) ex) (hx : ∀ K, step (C n) K = out) : iterG N step (C 0) = cond (allN p n) out ex := by
 have key : ∀ m, m <= n -> ∀ N, m < N -> iterG N step (C (n - m)) = cond (allT p n m) out ex := by
  intro m
  induction m with
  | zero =>
   intro _ N hN
   cases N with
   | zero => omega
   | succ N => exact hx _
  | succ m ih =>
   intro hm N hN
   cases N with
   | zero => omega
   | succ N =>
    show step (C (n - (m + 1))) (iterG N step) = _
    have e : n - (m + 1) + 1 = n - m := by omega
    rw [hs (n - (m + 1)) (by omega), e, ih (by omega) N (by omega), allT]
    cases p (n - (m + 1)) <;> rfl
 have := key n (Nat.le_refl _) N hn
 rw [Nat.sub_self] at this
 rw [this]
 congr 1
 rw [Bool.eq_iff_iff, allT_iff (Nat.le_refl _), allN_iff]
 exact ⟨fun h i hi => h i (by omega) hi, fun h i _ hi => h i hi⟩
end Go.Mach
end
section
namespace Go.Mach
open Ieee
theorem sqrt_nan (b : Nat) (h : isNaN b = true) : Ieee.double.sqrt b = none := by
 obtain ⟨s, g, e⟩ := read_nan h
 simp [Ieee.Format.sqrt, e, Ieee.Datum.root]
theorem good_lift1 {P : Program} {f : Nat} {F : Fs} {sh : FnSh} (S : List Atom -> (V -> List Blk -> Bool) -> Bool) (R : Fl -> V) (hF : GoodF P f F) (hsh : sh = ⟨[.flt], []⟩)
  (hS : ∀ a k, S a k = true -> ∃ x, a = [.fl x] /\ k (R x) [] = true)
  (h : ∀ b k, F [.val (.float .f64 b)] [] k = k (R (cn (some b))) []) (hR : ∀ b, R (cn (some b)) = R (some b)) : GoodF P f (mkFs sh S) := by
 subst hsh
 intro args H k hk
 unfold mkFs at hk
 split at hk
 ·rename_i a ha
  obtain ⟨x, rfl, hx⟩ := hS a k hk
  obtain ⟨rfl, e2⟩ := FnSh.ext_build ha
  obtain rfl : H = [] := by simpa [FnSh.heap, buildM] using e2
  refine ⟨R x, [], ?_, hx⟩
  refine ok_fb fun vs hv hl => ?_
  match vs, hl with
  | [v], _ =>
   have hr : FRep x v := hv 0 x v rfl rfl
   obtain ⟨b, rfl⟩ := hr.float
   have hb : R x = R (cn (some b)) := by
    cases x with
    | none => obtain ⟨b', e, hb'⟩ := hr; cases e; simp [cn, hb']
    | some b' => cases hr; exact (hR _).symm
   obtain ⟨r, H', h1, h2⟩ := hF [.val (.float .f64 b)] [] (fun r H => @decide (r = R (cn (some b)) /\ H = []) (Classical.propDecidable _)) (by rw [h]; simp)
   simp only [decide_eq_true_eq] at h2
   obtain ⟨rfl, rfl⟩ := h2
   rw [hb]
   exact h1
 ·cases hk
end Go.Mach
end
section
namespace Go.Mach
open Go.ChangeShapes Go.WideShapes Go.ChangeAt Go.RowKit
section
variable {H : Type} {enc : TypeId × Value -> H} {P : Program} {w : World} {sp : Nat -> Bool} {held : Bool}
def flatB (P : Program) (fs : Array Field) : Bool := fs.toList.zipIdx.all fun p => p.1.offset == p.2 && P.cellsOf p.1.type == 1
theorem flatB_at {fs : Array Field} (h : flatB P fs = true) {i : Nat} {f : Field} (hf : fs[i]? = some f) : f.offset = i /\ P.cellsOf f.type = 1 := by
 have := List.all_eq_true.1 h (f, i) (by rw [List.mem_zipIdx_iff_getElem?]; simpa using hf)
 simpa using this
theorem open_flat {r : Reach} {b0 base : Nat} {t : TypeId} {v : Value} {d : DataW H} {ps : List MemPlace} {fs : Array Field} (ht : P.underlying t = some (.struct fs)) (hfl : flatB P fs = true) (hc : P.cellsOf t = fs.size)
  (hts : P.cellTypes P.depth t = some (fs.toList.map (·.type))) (hval : Value.okWide P w r b0 t v) (hd : DataW.Trod enc P w base sp held t v d ps) :
  ∃ cs : List Value, v = .agg cs.toArray /\ cs.length = fs.size /\ ∃ ys : List (DataW H × List MemPlace), d = .agg (ys.map (·.1)) /\ ys.length = fs.size /\
   ∀ (i : Nat) f, fs[i]? = some f -> ∃ c y n, cs[i]? = some c /\ ys[i]? = some y /\ DataW.trod enc P w base sp held n f.type [c] = some y /\ Cell.okWide P w r b0 f.type c := by
 simp only [Value.okWide, ht] at hval
 obtain ⟨cs, rfl, h2, ts, h3, -, h4⟩ := hval
 rw [hts] at h3
 cases h3
 obtain ⟨fuel, hf⟩ := hd
 have hcells : (Value.cells (.agg cs)) = cs := rfl
 rw [hcells] at hf
 obtain ⟨xs, n, -, hx, hl, hlen, hat⟩ := DataW.trod_struct ht hf
 simp only [Prod.mk.injEq] at hx
 have hsz : cs.toList.length = fs.size := by rw [hl, hc]
 refine ⟨cs.toList, by simp, hsz, xs, hx.1, hlen, fun i f hif => ?_⟩
 obtain ⟨q1, q2⟩ := flatB_at hfl hif
 have hi : i < fs.size := (Array.getElem?_eq_some_iff.1 hif).1
 have hi' : i < cs.toList.length := by omega
 have hx' := hat i f hif
 rw [q1, q2] at hx'
 have e1 : (cs.toList.drop i).take 1 = [cs.toList[i]] := by
  rw [List.take_one, List.head?_drop, List.getElem?_eq_getElem hi']; rfl
 rw [e1, List.getElem?_eq_getElem (by omega)] at hx'
 obtain ⟨u, hu, hcell⟩ := h4 i cs.toList[i] (by simp)
 have hu' : u = f.type := by
  have hm : i % (fs.toList.map (·.type)).length = i := Nat.mod_eq_of_lt (by simpa using hi)
  rw [hm] at hu
  have hif' : fs.toList[i]? = some f := by simpa using hif
  rw [List.getElem?_map, hif'] at hu
  simpa using hu.symm
 subst hu'
 exact ⟨_, _, n, List.getElem?_eq_getElem hi', List.getElem?_eq_getElem (by omega), hx', hcell⟩
theorem open_flat3 {r : Reach} {b0 base : Nat} {t : TypeId} {v : Value} {d : DataW H} {ps : List MemPlace} {f0 f1 f2 : Field} (ht : P.underlying t = some (.struct #[f0, f1, f2])) (hfl : flatB P #[f0, f1, f2] = true) (hc : P.cellsOf t = 3)
  (hts : P.cellTypes P.depth t = some [f0.type, f1.type, f2.type]) (hval : Value.okWide P w r b0 t v) (hd : DataW.Trod enc P w base sp held t v d ps) :
  ∃ (c0 c1 c2 : Value) (y0 y1 y2 : DataW H × List MemPlace), v = .agg #[c0, c1, c2] /\ d = .agg [y0.1, y1.1, y2.1] /\
   (∃ n, DataW.trod enc P w base sp held n f0.type [c0] = some y0) /\ (∃ n, DataW.trod enc P w base sp held n f1.type [c1] = some y1) /\ (∃ n, DataW.trod enc P w base sp held n f2.type [c2] = some y2) /\
   Cell.okWide P w r b0 f0.type c0 /\ Cell.okWide P w r b0 f1.type c1 /\ Cell.okWide P w r b0 f2.type c2 := by
 obtain ⟨cs, rfl, h1, ys, rfl, h2, hat⟩ := open_flat ht hfl hc hts hval hd
 have h1 : cs.length = 3 := h1
 have h2 : ys.length = 3 := h2
 obtain ⟨c0, y0, n0, e0, g0, t0, o0⟩ := hat 0 f0 rfl
 obtain ⟨c1, y1, n1, e1, g1, t1, o1⟩ := hat 1 f1 rfl
 obtain ⟨c2, y2, n2, e2, g2, t2, o2⟩ := hat 2 f2 rfl
 match cs, h1, ys, h2 with
 | [a, b, c], _, [x, y, z], _ =>
  simp at e0 e1 e2 g0 g1 g2
  subst e0; subst e1; subst e2; subst g0; subst g1; subst g2
  exact ⟨_, _, _, _, _, _, rfl, rfl, ⟨_, t0⟩, ⟨_, t1⟩, ⟨_, t2⟩, o0, o1, o2⟩
theorem okWide_spot {r : Reach} {b0 : Nat} {t e : TypeId} {a : Addr} {len cap : Nat} (ht : P.underlying t = some (.slice e)) (hv : Cell.okWide P w r b0 t (.slice (some a) len cap)) : a.spot = none /\ a.block < w.heap.size := by
 simp only [Cell.okWide, ht, Cell.ok] at hv
 obtain ⟨-, -, -, h1, row, cells, h2, -⟩ := hv
 refine ⟨h1, ?_⟩
 unfold World.shape? at h2
 by_cases hb : a.block < w.heap.size
 ·exact hb
 ·rw [Array.getElem?_eq_none (by omega)] at h2; cases h2
theorem open_int1 {base : Nat} {t : TypeId} {k : IntKind} {n : Nat} {c : Value} {y : DataW H × List MemPlace} (ht : P.underlying t = some (.int k)) (h : DataW.trod enc P w base sp held n t [c] = some y) : ∃ z, c = .int k z /\ (Lit.int k z).wf = true := by
 obtain ⟨z, h1, -, h3⟩ := DataW.trod_int ht h
 cases h1
 exact ⟨z, rfl, h3⟩
theorem open_roi {r : Reach} {b0 base : Nat} {t e : TypeId} {k : IntKind} {n : Nat} {c : Value} {y : DataW H × List MemPlace} (ht : P.underlying t = some (.slice e)) (he : P.underlying e = some (.int k)) (hc : P.cellsOf e = 1)
  (hv : Cell.okWide P w r b0 t c) (h : DataW.trod enc P w base (fun _ => true) held n t [c] = some y) :
  ∃ zs : List Int, (∀ ok : Nat -> Prop, (∀ b, ok b) -> ∀ ρ, Rep ok w ρ (.roi k zs) c) /\ (zs = [] \/ ∃ els spare : List (DataW H), y.1 = .slice els spare /\ els.length = zs.length) /\ (∀ z ∈ zs, (Lit.int k z).wf = true) /\ c.oneCell' = true := by
 rcases open_ints ht he hc h with ⟨hcs, hy⟩ | ⟨a, len, cap, zs, hcs, -, hl, hm, hz, hy, hcell, hwz⟩
 ·cases hcs
  exact ⟨[], fun _ _ _ => .roin k, .inl rfl, by simp, rfl⟩
 ·cases hcs
  obtain ⟨h1, h2⟩ := okWide_spot ht hv
  obtain ⟨b, off, spot⟩ := a
  simp only at h1 h2
  subst h1
  simp only [if_true] at hz
  refine ⟨zs.take len, fun ok hok ρ => ?_, .inr ⟨_, _, by rw [hy], by simp [lits]⟩, fun z hz' => hwz z (List.mem_of_mem_take hz'), rfl⟩
  have e1 : len = (zs.take len).length := by simp; omega
  have : Rep ok w ρ (.roi k (zs.take len)) (.slice (some ⟨b, off, none⟩) (zs.take len).length cap) := by
   refine .roi k _ b off cap (hok b) h2 (by simp; omega) fun i x hx => ?_
   have hi : i < (zs.take len).length := (List.getElem?_eq_some_iff.1 hx).1
   have hi' : i < zs.length := by simp at hi; omega
   have := hcell i hi'
   have e2 : (Addr.add ⟨b, off, none⟩ i) = ⟨b, off + i, none⟩ := by
    unfold Addr.add; split
    ·rename_i h0; subst h0; rfl
    ·rfl
   rw [e2] at this
   rw [this]
   have e3 : zs.getD i 0 = x := by
    rw [List.getElem?_take] at hx
    split at hx
    ·rw [List.getD_eq_getElem?_getD, hx]; rfl
    ·cases hx
   rw [e3]
  rwa [<- e1] at this
theorem okWide_cell {r : Reach} {b0 : Nat} {t e : TypeId} {v : Value} (ht : P.underlying t = some (.slice e)) (hv : Value.okWide P w r b0 t v) : Cell.okWide P w r b0 t v := by
 simpa only [Value.okWide, ht] using hv
theorem sized_part {ts : List TypeId} {ds : List (DataW H)} (h : (DataW.weightsEach P ts ds).all (· <= reachBytes) = true) {j : Nat} {t : TypeId} {fs : Array Field} {parts : List (DataW H)} (ht : ts[j]? = some t) (hd : ds[j]? = some (.agg parts)) (hu : P.underlying t = some (.struct fs)) :
  (DataW.weightsEach P (fs.toList.map (·.type)) parts).all (· <= reachBytes) = true := by
 refine List.all_eq_true.2 fun n hn => List.all_eq_true.1 h n (DataW.weights_mem_each ht hd n ?_)
 simpa [DataW.weights, hu] using hn
end
theorem calls_of_okC {P : Program} {f : FuncId} {args : List V} {W : World} {vs : List Value} (h : OkC P f args [] (.bool true) []) (ht : ∀ b zs, tabT b = some zs -> TabAt W b zs) (hr : ∀ ok : Nat -> Prop, (∀ b, ok b) -> RepL ok W (fun _ => none) args vs) :
  Calls P f vs.toArray W fun e W' => e = .returned (.bool true) /\ Below W.heap.size W W' := by
 have hsim : SimW (gh W ([] : List Blk).length (fun _ => True)) W (fun _ => none) (live []) := by
  refine ⟨fun n blk h => ?_, fun n m bn bm p q h => ?_, fun n p _ h => (by cases h), Nat.le_refl _, rfl, rfl, rfl, fun _ _ _ _ => rfl, fun b zs e => ⟨trivial, ht b zs e⟩, fun n p h => (by cases h)⟩
  ·simp [live, look] at h
  ·simp [live, look] at h
 refine (h W (fun _ => none) (fun _ => True) vs hsim (fun _ _ => rfl) (hr _ fun b => ⟨.inl trivial, fun n blk p h => by simp [live, look] at h⟩)).mono fun e W' hq => ?_
 obtain ⟨v, rfl, ρ', -, -, hs, hv⟩ := hq
 have e1 : v = .bool true := by cases hv; rfl
 subst e1
 exact ⟨rfl, hs.os, hs.tape, hs.output, hs.size, fun b hb => hs.old b hb (fun h => h) fun n p hn => absurd hn (Nat.not_lt_zero n)⟩
end Go.Mach
end
section
namespace Go.Mach
def flat : Code -> List Code
 | .seq a b => flat a ++ flat b
 | c => [c]
def codesV (cx : Cx) (base : Nat) (an : Nat -> Option Ann) : List Code -> Nat -> St -> K -> Bool
 | [], _, s, κ => κ.nrm s
 | c :: r, bid, s, κ => codeV cx base an c bid s { κ with nrm := fun s' => codesV cx base an r bid s' κ }
theorem codesV_app (cx : Cx) (base : Nat) (an : Nat -> Option Ann) (bid : Nat) (l2 : List Code) : ∀ (l1 : List Code) (s : St) (κ : K), codesV cx base an (l1 ++ l2) bid s κ = codesV cx base an l1 bid s { κ with nrm := fun s' => codesV cx base an l2 bid s' κ }
 | [], s, κ => rfl
 | c :: r, s, κ => by
  simp only [List.cons_append, codesV]
  congr 1
  congr 1
  funext s'
  exact codesV_app cx base an bid l2 r s' κ
theorem codeV_flat (cx : Cx) (base : Nat) (an : Nat -> Option Ann) : ∀ (c : Code) (bid : Nat) (s : St) (κ : K), codeV cx base an c bid s κ = codesV cx base an (flat c) bid s κ := by
 intro c
 induction c with
 | seq a b iha ihb =>
  intro bid s κ
  rw [flat, codesV_app, <- iha]
  simp only [codeV]
  congr 1
  congr 1
  funext s'
  exact ihb bid s' κ
 | _ => intros; rfl
def cds (P : Program) (f : Nat) : List Code := match P.funcs[f]? with
 | some fn => match fn.body with
  | some c => flat c
  | none => []
 | none => []
def sg (P : Program) (f a n : Nat) : List Code := ((cds P f).drop a).take n
theorem codesV_cut {cx : Cx} {base : Nat} {an : Nat -> Option Ann} {P : Program} {f bid : Nat} (a n m : Nat) (h : a + n = m) (s : St) (κ : K) :
  codesV cx base an ((cds P f).drop a) bid s κ = codesV cx base an (sg P f a n) bid s { κ with nrm := fun s' => codesV cx base an ((cds P f).drop m) bid s' κ } := by
 subst h
 rw [<- codesV_app]
 congr 1
 unfold sg
 rw [<- List.drop_drop, List.take_append_drop]
def st0 (P : Program) (f : Nat) (args : List V) (H : List Blk) : St := match P.funcs[f]? with
 | some fn => ⟨args ++ List.replicate (fn.ntmps - args.length) .any, H.map some⟩
 | none => ⟨[], []⟩
def finV (P : Program) (f base : Nat) (k : V -> List Blk -> Bool) : K := match P.funcs[f]? with
 | some fn => ⟨fun s => endV P base fn.results.toList s k, fun _ _ => false, fun s => endV P base fn.results.toList s k⟩
 | none => ⟨fun _ => false, fun _ _ => false, fun _ => false⟩
def finZ (md : Bool) (P : Program) (f base : Nat) (k : V -> List Blk -> Bool) : K := match P.funcs[f]? with
 | some fn => ⟨fun s => endZ P md base fn s k, fun _ _ => false, fun s => endZ P md base fn s k⟩
 | none => ⟨fun _ => false, fun _ _ => false, fun _ => false⟩
def okB (P : Program) (f : Nat) : Bool := match P.funcs[f]? with
 | some fn => fn.body.isSome && !(fn.name == "runtime.NumGoroutine")
 | none => false
theorem bodyV_codes {cx : Cx} {an : Nat -> Option Ann} {f : Nat} {args : List V} {H : List Blk} {k : V -> List Blk -> Bool} (h : okB cx.P f = true) :
  bodyV cx an f args H k = codesV cx H.length an ((cds cx.P f).drop 0) 0 (st0 cx.P f args H) (finV cx.P f H.length k) := by
 unfold okB at h
 unfold bodyV cds st0 finV
 split at h
 ·rename_i fn hfn
  rw [hfn]
  simp only [Bool.and_eq_true] at h
  obtain ⟨c, hc⟩ := Option.isSome_iff_exists.1 h.1
  simp only [hc, List.drop_zero]
  rw [h.2, Bool.true_and, codeV_flat]
 ·cases h
theorem bodyZ_codes {md : Bool} {cx : Cx} {an : Nat -> Option Ann} {f : Nat} {args : List V} {H : List Blk} {k : V -> List Blk -> Bool} (h : okB cx.P f = true) :
  bodyZ md cx an f args H k = codesV cx H.length an ((cds cx.P f).drop 0) 0 (st0 cx.P f args H) (finZ md cx.P f H.length k) := by
 unfold okB at h
 unfold bodyZ cds st0 finZ
 split at h
 ·rename_i fn hfn
  try rw [hfn]
  simp only [Bool.and_eq_true] at h
  obtain ⟨c, hc⟩ := Option.isSome_iff_exists.1 h.1
  simp only [hc, List.drop_zero]
  rw [h.2, Bool.true_and, codeV_flat]
 ·cases h
def dq (d : List V) (i : Nat) : V := d.getD i .any
def dqs (d : List V) (a : Nat) : Nat -> List V -> List V
 | 0, tl => tl
 | n + 1, tl => d.getD a .any :: dqs d (a + 1) n tl
end Go.Mach
end
section
namespace Go.Mach
open Go.ChangeShapes Go.WideShapes Go.ChangeAt Go.RowKit
def RT.wf : (t : RT) -> t.Ty -> Prop
 | .flt, x => ∀ b, x = some b -> b < 18446744073709551616
 | .int k, n => (Lit.int k n).wf = true
 | .bool, _ => True
 | .fls, xs => xs.length * 8 <= reachBytes /\ ∀ x ∈ xs, ∀ b, x = some b -> b < 18446744073709551616
 | .ints k, xs => xs.length * (k.bits / 8) <= reachBytes /\ ∀ n ∈ xs, (Lit.int k n).wf = true
 | .pair a b, p => a.wf p.1 /\ b.wf p.2
 | .rows a, xs => xs.length * 8 <= reachBytes /\ ∀ x ∈ xs, a.wf x
 | .ptr a, x => a.wf x
mutual
def dmeas {H : Type} : DataW H -> Nat
 | .lit (.string bytes) => bytes.length + 1
 | .lit _ => 1
 | .nil => 1
 | .ptr d => dmeas d + 1
 | .slice elems spare => dmeasAll elems + dmeasAll spare + 1
 | .agg parts => dmeasAll parts + 1
 | .iface _ d => dmeas d + 1
 | .map _ => 1
 | .held _ => 1
def dmeasAll {H : Type} : List (DataW H) -> Nat
 | [] => 0
 | d :: r => dmeas d + dmeasAll r
end
section
variable {H : Type} {enc : TypeId × Value -> H} {P : Program} {w : World} {base : Nat} {held : Bool}
end
end Go.Mach
end
section
namespace Go.Mach
open Go.ChangeShapes Go.WideShapes Go.ChangeAt Go.RowKit
section
variable {H : Type} {enc : TypeId × Value -> H} {P : Program} {w : World}
theorem lists_nil {ok : Nat -> Prop} {w : World} {ρ : Rho} : RepL ok w ρ [] [] := ⟨rfl, fun i u v hu _ => by simp at hu⟩
theorem lists_cons {ok : Nat -> Prop} {w : World} {ρ : Rho} {a : V} {x : Value} {us : List V} {xs : List Value} (h1 : Rep ok w ρ a x) (h2 : RepL ok w ρ us xs) : RepL ok w ρ (a :: us) (x :: xs) := by
 refine ⟨by simp [h2.1], fun i u v hu hv => ?_⟩
 cases i with
 | zero => simp at hu hv; subst hu; subst hv; exact h1
 | succ i => exact h2.2 i u v (by simpa using hu) (by simpa using hv)
end
end Go.Mach
end
section
namespace Go.Mach
set_option linter.unusedVariables false
def eqV0 : V -> V -> Bool
 | .any, .any => true
 | .nil, .nil => true
 | .bool a, .bool b => a == b
 | .int k n, .int k' n' => decide (k = k') && decide (n = n')
 | .flt x, .flt y => decide (x = y)
 | .ptr a b, .ptr c d => a == c && b == d
 | .slw a, .slw b => a == b
 | .rof xs, .rof ys => decide (xs = ys)
 | _, _ => false
theorem eqV0_sound {a b : V} (h : eqV0 a b = true) : a = b := by
 cases a <;> cases b <;> simp only [eqV0, Bool.false_eq_true, Bool.and_eq_true, decide_eq_true_eq, beq_iff_eq] at h
 all_goals first
  | rfl
  | (obtain ⟨h1, h2⟩ := h; subst h1; subst h2; rfl)
  | (subst h; rfl)
def eqVs0 : List V -> List V -> Bool
 | [], [] => true
 | a :: as, b :: bs => eqV0 a b && eqVs0 as bs
 | _, _ => false
theorem eqVs0_sound : ∀ {a b : List V}, eqVs0 a b = true -> a = b
 | [], [], _ => rfl
 | a :: as, b :: bs, h => by
  simp only [eqVs0, Bool.and_eq_true] at h
  rw [eqV0_sound h.1, eqVs0_sound h.2]
 | [], _ :: _, h => by cases h
 | _ :: _, [], h => by cases h
def eqV (a b : V) : Bool := match a, b with
 | .fn f cs, .fn g ds => f == g && eqVs0 cs ds
 | a, b => eqV0 a b
theorem eqV_sound {a b : V} (h : eqV a b = true) : a = b := by
 unfold eqV at h
 split at h
 ·rw [Bool.and_eq_true, beq_iff_eq] at h
  rw [h.1, eqVs0_sound h.2]
 ·exact eqV0_sound h
def eqVs : List V -> List V -> Bool
 | [], [] => true
 | a :: as, b :: bs => eqV a b && eqVs as bs
 | _, _ => false
theorem eqVs_sound : ∀ {a b : List V}, eqVs a b = true -> a = b
 | [], [], _ => rfl
 | a :: as, b :: bs, h => by
  simp only [eqVs, Bool.and_eq_true] at h
  rw [eqV_sound h.1, eqVs_sound h.2]
 | [], _ :: _, h => by cases h
 | _ :: _, [], h => by cases h
def eqBody : Body -> Body -> Bool
 | .flts xs, .flts ys => decide (xs = ys)
 | .ints k xs, .ints k' ys => decide (k = k') && decide (xs = ys)
 | .cells a, .cells b => eqVs a b
 | _, _ => false
theorem eqBody_sound {a b : Body} (h : eqBody a b = true) : a = b := by
 cases a <;> cases b <;> simp only [eqBody, Bool.false_eq_true, Bool.and_eq_true, decide_eq_true_eq] at h
 ·subst h; rfl
 ·obtain ⟨h1, h2⟩ := h; subst h1; subst h2; rfl
 ·rw [eqVs_sound h]
def eqBs : List Blk -> List Blk -> Bool
 | [], [] => true
 | a :: as, b :: bs => a.e == b.e && (a.sz == b.sz && (eqBody a.c b.c && eqBs as bs))
 | _, _ => false
theorem eqBs_sound : ∀ {a b : List Blk}, eqBs a b = true -> a = b
 | [], [], _ => rfl
 | ⟨e, s, c⟩ :: as, ⟨e', s', c'⟩ :: bs, h => by
  simp only [eqBs, Bool.and_eq_true, beq_iff_eq] at h
  obtain ⟨h1, h2, h3, h4⟩ := h
  subst h1; subst h2
  rw [eqBody_sound h3, eqBs_sound h4]
 | [], _ :: _, h => by cases h
 | _ :: _, [], h => by cases h
def frB (md : Nat) (H H' : List Blk) : Bool := match md with
 | 0 => true
 | 1 => match H, H' with
  | ⟨e, sz, .cells (c :: r)⟩ :: tl, ⟨e', sz', .cells (c' :: r')⟩ :: tl' => e == e' && (sz == sz' && (eqVs r r' && eqBs tl tl'))
  | _, _ => false
 | _ => eqBs H' H
theorem frB_sound {md : Nat} {H H' : List Blk} (h : frB md H H' = true) : FrB md H H' := by
 match md, h with
 | 0, _ => trivial
 | 1, h =>
  simp only [frB] at h
  split at h
  ·rename_i e sz c r tl e' sz' c' r' tl'
   simp only [Bool.and_eq_true, beq_iff_eq] at h
   obtain ⟨h1, h2, h3, h4⟩ := h
   subst h1; subst h2
   have h3 := eqVs_sound h3
   have h4 := eqBs_sound h4
   subst h3; subst h4
   exact ⟨_, _, _, _, _, _, rfl, rfl⟩
  ·cases h
 | n + 2, h => exact eqBs_sound h
def selfF (md : Nat) (cx : Cx) (g : Nat) : Fs := fun args H k => bodyV cx (fun _ => none) g args H (fun v H' => frB md H H' && k v H')
theorem good_run {cx : Cx} (hO : OS cx) (g : Nat) : GoodF cx.P g (fun args H k => bodyV cx (fun _ => none) g args H k) := by
 refine good_body hO (lps cx.P g).length rfl fun args H k hs => ?_
 refine ⟨fun _ => none, fun i _ => ?_, hs⟩
 intro hk hh
 cases hh
theorem good_self {cx : Cx} (hO : OS cx) (md g : Nat) : GoodF cx.P g (selfF md cx g) := by
 intro args H k h
 obtain ⟨r, H', h1, h2⟩ := good_run hO g args H _ h
 rw [Bool.and_eq_true] at h2
 exact ⟨r, H', h1, h2.2⟩
open Classical in
theorem fr_self {cx : Cx} (md g : Nat) : FrF md (selfF md cx g) := by
 intro args H k h
 have e : (fun (v : V) (H' : List Blk) => frB md H H' && (k v H' && decide (FrB md H H'))) = fun v H' => frB md H H' && k v H' := by
  funext v H'
  cases hb : frB md H H' with
  | false => rfl
  | true => rw [decide_eq_true (frB_sound hb), Bool.and_true]
 unfold selfF at h ⊢
 rw [e]
 exact h
end Go.Mach
end
section
namespace Go.Mach
set_option linter.unusedVariables false
def selfD (md : Nat) (cx : Cx) (g : Nat) : Fs := fun args H k => bodyD none cx (fun _ => none) g args H (fun v H' => frB md H H' && k v H')
theorem good_selfD {cx : Cx} (hO : OS cx) (hD : ∀ g, g < 1000000 -> cx.ref (2000000 + g) = true -> DefOk cx.P g) (md g : Nat) : GoodF cx.P g (selfD md cx g) := by
 intro args H k h
 obtain ⟨r, H', h1, h2⟩ := bodyD_calls hO hD (fun fn c _ _ => hooksOk_of c 0 fun p hp => by intro hk hh; cases hh) h
 rw [Bool.and_eq_true] at h2
 exact ⟨r, H', h1, h2.2⟩
open Classical in
theorem fr_selfD {cx : Cx} (md g : Nat) : FrF md (selfD md cx g) := by
 intro args H k h
 have e : (fun (v : V) (H' : List Blk) => frB md H H' && (k v H' && decide (FrB md H H'))) = fun v H' => frB md H H' && k v H' := by
  funext v H'
  cases hb : frB md H H' with
  | false => rfl
  | true => rw [decide_eq_true (frB_sound hb), Bool.and_true]
 unfold selfD at h ⊢
 rw [e]
 exact h
def upS (P : Program) (ref : Nat -> Bool) (N : Nat) (df : Nat -> Bool) (base : List (Nat × Fs)) : List Nat -> List (Nat × Fs)
 | [] => base
 | g :: r => (g, cond (df g) (selfD (mdR ref g) ⟨P, ofList (upS P ref N df base r), ref, N⟩ g) (selfF (mdR ref g) ⟨P, ofList (upS P ref N df base r), ref, N⟩ g)) :: upS P ref N df base r
theorem upS_ok {P : Program} {ref : Nat -> Bool} {N : Nat} {df : Nat -> Bool} {base : List (Nat × Fs)} (h1 : OSound P (ofList base)) (h2 : FrL ref base) (hD : ∀ g, g < 1000000 -> ref (2000000 + g) = true -> DefOk P g) : ∀ L, OSound P (ofList (upS P ref N df base L)) /\ FrL ref (upS P ref N df base L)
 | [] => ⟨h1, h2⟩
 | g :: r => by
  obtain ⟨i1, i2⟩ := upS_ok h1 h2 hD r
  have hO : OS ⟨P, ofList (upS P ref N df base r), ref, N⟩ := os_of i1 i2
  refine ⟨ofList_cons ?_ i1, ?_, i2⟩
  ·cases hd : df g with
   | true => rw [cond_true]; exact good_selfD hO hD _ g
   | false => rw [cond_false]; exact good_self hO _ g
  ·cases hd : df g with
   | true => rw [cond_true]; exact fr_selfD _ g
   | false => rw [cond_false]; exact fr_self _ g
theorem upS_os {P : Program} {ref : Nat -> Bool} {N : Nat} {df : Nat -> Bool} {base : List (Nat × Fs)} (h1 : OSound P (ofList base)) (h2 : FrL ref base) (hD : ∀ g, g < 1000000 -> ref (2000000 + g) = true -> DefOk P g) (L : List Nat) : OS ⟨P, ofList (upS P ref N df base L), ref, N⟩ :=
 os_of (upS_ok h1 h2 hD L).1 (upS_ok h1 h2 hD L).2
end Go.Mach
end
section
namespace Go.Mach
set_option linter.unusedVariables false
theorem ok_of_run {cx : Cx} (hO : OS cx) {g : Nat} {args : List V} {r : V} {H' : List Blk} (h : ∀ k : V -> List Blk -> Bool, bodyV cx (fun _ => none) g args [] k = k r H') : Ok cx.P g args [] r H' := by
 have hb : GoodF cx.P g (fun args H k => bodyV cx (fun _ => none) g args H k) := by
  refine good_body hO (lps cx.P g).length rfl fun args H k hs => ?_
  refine ⟨fun _ => none, fun i _ => ?_, hs⟩
  intro hk hh
  cases hh
 obtain ⟨r', H2, h1, h2⟩ := hb args [] (fun v H => @decide (v = r /\ H = H') (Classical.propDecidable _)) ((h _).trans (by simp))
 simp only [decide_eq_true_eq] at h2
 obtain ⟨rfl, rfl⟩ := h2
 exact h1
theorem ok_virt {P : Program} {g : Nat} {args : List V} (b : Blk) (hb : b.c.size = 0) (h : Ok P g args [] .nil []) : Ok P g args [] (.slw 0) [b] := by
 intro w ρ ok vs hsim hdom hargs o a N Q hN
 refine h w ρ ok vs hsim hdom hargs o a N Q fun v w' ⟨ρ', h1, h2, h3, h4⟩ => hN v w' ?_
 obtain ⟨k1, k2⟩ := h3.virt 0 (h2 0 (Nat.zero_le _)) b hb
 have e : live [b] = updL (live []) 0 (some b) := by
  funext n
  cases n with
  | zero => rfl
  | succ n => simp [live, look, updL]
 refine ⟨updR ρ' 0 none, fun n hn => absurd hn (Nat.not_lt_zero _), fun n hn => ?_, by rw [e]; exact k1, ?_⟩
 ·have : n ≠ 0 := by intro h; subst h; simp at hn
  simp [updR, this, h2 n (Nat.zero_le _)]
 ·cases h4
  exact .slv _ (by simp [updR])
theorem good_clone {cx : Cx} (hO : OS cx) {g e : Nat} (h0 : ∀ (cap : Nat) (k : V -> List Blk -> Bool), bodyV cx (fun _ => none) g [.val (.slice none 0 cap)] [] k = k .nil [])
  (h1 : ∀ (a : Addr) (cap : Nat) (k : V -> List Blk -> Bool), bodyV cx (fun _ => none) g [.val (.slice (some a) 0 cap)] [] k = k (.slw 0) [⟨e, 1, .flts []⟩])
  (h2 : ∀ (x : Fl) (xs : List Fl) (k : V -> List Blk -> Bool), bodyV cx (fun _ => none) g [.rof (x :: xs)] [] k = (decide ((x :: xs).length * 8 <= 140737488355328) && k (.slw 0) [⟨e, 1, .flts (x :: xs)⟩]))
  {sh : FnSh} (hsh : sh = ⟨[.rof], []⟩) (S : List Atom -> (V -> List Blk -> Bool) -> Bool)
  (hS : ∀ a k, S a k = true -> ∃ xs, a = [.fls xs] /\ xs.length * 8 <= 140737488355328 /\ k (.slw 0) [⟨e, 1, .flts xs⟩] = true) : GoodF cx.P g (mkFs sh S) := by
 subst hsh
 intro args H k hk
 unfold mkFs at hk
 split at hk
 ·rename_i a ha
  obtain ⟨xs, rfl, hl, hx⟩ := hS a k hk
  obtain ⟨rfl, e2⟩ := FnSh.ext_build ha
  obtain rfl : H = [] := by simpa [FnSh.heap, buildM] using e2
  refine ⟨_, _, ?_, hx⟩
  intro w ρ ok vs hsim hdom hargs
  have hlen := hargs.1
  match vs, hlen with
  | [v], _ =>
   have hr : Rep (okc (gh w 0 ok) ρ (live [])) w ρ (.rof xs) v := hargs.2 0 (.rof xs) v rfl rfl
   have one : ∀ u : V, Rep (okc (gh w 0 ok) ρ (live [])) w ρ u v -> RepL (okc (gh w 0 ok) ρ (live [])) w ρ [u] [v] := by
    intro u hu
    refine ⟨rfl, fun i c z hc hz => ?_⟩
    cases i with
    | zero => cases hc; cases hz; exact hu
    | succ i => simp at hc
   have empty : ∀ (a : Option Addr) (cap : Nat), v = .slice a 0 cap -> xs = [] -> InvP cx.P g [v].toArray w fun v w' => ∃ ρ', (∀ n, n < ([] : List Blk).length -> ρ' n = ρ n) /\ (∀ n, [(⟨e, 1, .flts xs⟩ : Blk)].length <= n -> ρ' n = none) /\ SimW (gh w ([] : List Blk).length ok) w' ρ' (live [⟨e, 1, .flts xs⟩]) /\ Rep (okc (gh w ([] : List Blk).length ok) ρ' (live [⟨e, 1, .flts xs⟩])) w' ρ' (.slw 0) v := by
    intro a cap hv hxs
    subst hxs
    cases a with
    | none =>
     have hq := ok_virt (⟨e, 1, .flts []⟩ : Blk) rfl (ok_of_run hO (g := g) (h0 cap))
     exact hq w ρ ok [v] hsim hdom (one _ (by rw [hv]; exact .val _))
    | some a =>
     have hq := ok_of_run hO (g := g) (h1 a cap)
     exact hq w ρ ok [v] hsim hdom (one _ (by rw [hv]; exact .val _))
   cases xs with
   | nil =>
    cases hr with
    | rofn => exact empty _ _ rfl rfl
    | rof _ b o cap g0 _ _ _ _ _ => exact empty _ _ rfl rfl
   | cons x xs =>
    have hq := ok_of_run hO (g := g) (args := [.rof (x :: xs)]) (r := .slw 0) (H' := [⟨e, 1, .flts (x :: xs)⟩]) fun k => by rw [h2, decide_eq_true hl, Bool.true_and]
    exact hq w ρ ok [v] hsim hdom (one _ hr)
 ·cases hk
end Go.Mach
end
