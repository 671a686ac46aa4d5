/-
  THE MACHINE: a function's code as a row of parts, so that what follows a meeting of ways is walked once.
  Conditions: none.
-/
import Derived.Test.YtnfgnjciliapaaaGreatDoorMachP
namespace Go.Mach

def flat : Code -> List Code
  | .seq a b => flat a ++ flat b
  | c => [c]
def codesV (cx : Cx) (base : Nat) (an : Nat -> Option Ann) : List Code -> Nat -> St -> K -> Bool
  | [], _, s, κ => κ.nrm s
  | c :: r, bid, s, κ => codeV cx base an c bid s { κ with nrm := fun s' => codesV cx base an r bid s' κ }
theorem codesV_app (cx : Cx) (base : Nat) (an : Nat -> Option Ann) (bid : Nat) (l2 : List Code) : ∀ (l1 : List Code) (s : St) (κ : K), codesV cx base an (l1 ++ l2) bid s κ = codesV cx base an l1 bid s { κ with nrm := fun s' => codesV cx base an l2 bid s' κ }
  | [], s, κ => rfl
  | c :: r, s, κ => by
    simp only [List.cons_append, codesV]
    congr 1
    congr 1
    funext s'
    exact codesV_app cx base an bid l2 r s' κ
theorem codeV_flat (cx : Cx) (base : Nat) (an : Nat -> Option Ann) : ∀ (c : Code) (bid : Nat) (s : St) (κ : K), codeV cx base an c bid s κ = codesV cx base an (flat c) bid s κ := by
  intro c
  induction c with
  | seq a b iha ihb =>
    intro bid s κ
    rw [flat, codesV_app, <- iha]
    simp only [codeV]
    congr 1
    congr 1
    funext s'
    exact ihb bid s' κ
  | _ => intros; rfl
def cds (P : Program) (f : Nat) : List Code := match P.funcs[f]? with
  | some fn => match fn.body with
    | some c => flat c
    | none => []
  | none => []
def sg (P : Program) (f a n : Nat) : List Code := ((cds P f).drop a).take n
theorem codesV_cut {cx : Cx} {base : Nat} {an : Nat -> Option Ann} {P : Program} {f bid : Nat} (a n m : Nat) (h : a + n = m) (s : St) (κ : K) :
    codesV cx base an ((cds P f).drop a) bid s κ = codesV cx base an (sg P f a n) bid s { κ with nrm := fun s' => codesV cx base an ((cds P f).drop m) bid s' κ } := by
  subst h
  rw [<- codesV_app]
  congr 1
  unfold sg
  rw [<- List.drop_drop, List.take_append_drop]
def st0 (P : Program) (f : Nat) (args : List V) (H : List Blk) : St := match P.funcs[f]? with
  | some fn => ⟨args ++ List.replicate (fn.ntmps - args.length) .any, H.map some⟩
  | none => ⟨[], []⟩
def finV (P : Program) (f base : Nat) (k : V -> List Blk -> Bool) : K := match P.funcs[f]? with
  | some fn => ⟨fun s => endV P base fn.results.toList s k, fun _ _ => false, fun s => endV P base fn.results.toList s k⟩
  | none => ⟨fun _ => false, fun _ _ => false, fun _ => false⟩
def okB (P : Program) (f : Nat) : Bool := match P.funcs[f]? with
  | some fn => fn.body.isSome && !(fn.name == "runtime.NumGoroutine")
  | none => false
theorem bodyV_codes {cx : Cx} {an : Nat -> Option Ann} {f : Nat} {args : List V} {H : List Blk} {k : V -> List Blk -> Bool} (h : okB cx.P f = true) :
    bodyV cx an f args H k = codesV cx H.length an ((cds cx.P f).drop 0) 0 (st0 cx.P f args H) (finV cx.P f H.length k) := by
  unfold okB at h
  unfold bodyV cds st0 finV
  split at h
  · rename_i fn hfn
    rw [hfn]
    simp only [Bool.and_eq_true] at h
    obtain ⟨c, hc⟩ := Option.isSome_iff_exists.1 h.1
    simp only [hc, List.drop_zero]
    rw [h.2, Bool.true_and, codeV_flat]
  · cases h
def dq (d : List V) (i : Nat) : V := d.getD i .any
def dqs (d : List V) (a : Nat) : Nat -> List V -> List V
  | 0, tl => tl
  | n + 1, tl => d.getD a .any :: dqs d (a + 1) n tl
def subOp (K L : Int) (o : Oper) : Oper := match o.op with
  | .binOp .mul t x (.const (.int .u64 n)) t' => { o with op := .binOp .mul t x (.const (.int .u64 (cond (n == K) L n))) t' }
  | _ => o
def subC (K L : Int) : Code -> Code
  | .region i ops b => .region i (ops.toList.map (subOp K L)).toArray b
  | .seq a b => .seq (subC K L a) (subC K L b)
  | .cond c a b => .cond c (subC K L a) (subC K L b)
  | c => c
end Go.Mach
