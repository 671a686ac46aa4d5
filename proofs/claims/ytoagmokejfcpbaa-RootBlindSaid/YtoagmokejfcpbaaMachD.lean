/-
  THE MACHINE, fourth part: what an abstract value stands for in a world; that it goes on standing for it.
  Conditions: none.
-/
import Derived.Test.YtoagmokejfcpbaaMachC
namespace Go.Mach

structure Place where
  b : Nat
  len : Nat
  cap : Nat
/-- names to places; 'some none': an empty row that has no memory yet -/
abbrev Rho := Nat → Option (Option Place)

def FRep : Fl → Value → Prop
  | some b, v => v = .float .f64 b
  | none, v => ∃ b, v = .float .f64 b ∧ isNaN b = true

inductive Rep (ok : Nat → Prop) (w : World) (ρ : Rho) : V → Value → Prop
  | any (v : Value) : Rep ok w ρ .any v
  | nil : Rep ok w ρ .nil (.slice none 0 0)
  | bool (b : Bool) : Rep ok w ρ (.bool b) (.bool b)
  | int (k : IntKind) (n : Int) : Rep ok w ρ (.int k n) (.int k n)
  | flt (x : Fl) (v : Value) : FRep x v → Rep ok w ρ (.flt x) v
  | val (v : Value) : Rep ok w ρ (.val v) v
  | fn (g : Nat) (caps : List V) (vs : List Value) : caps.length = vs.length → (∀ (i : Nat) c v, caps[i]? = some c → vs[i]? = some v → Rep ok w ρ c v) → Rep ok w ρ (.fn g caps) (.func (.func g) #[] vs.toArray)
  | ptr (n o : Nat) (p : Place) : ρ n = some (some p) → Rep ok w ρ (.ptr n o) (.pointer (some ⟨p.b, o, none⟩))
  | slw (n : Nat) (p : Place) : ρ n = some (some p) → Rep ok w ρ (.slw n) (.slice (some ⟨p.b, 0, none⟩) p.len p.cap)
  | slv (n : Nat) : ρ n = some none → Rep ok w ρ (.slw n) (.slice none 0 0)
  | sl (n o len cap o' : Nat) (p : Place) : ρ n = some (some p) → len ≤ cap → (o' = o ∨ len = 0) → Rep ok w ρ (.sl n o len) (.slice (some ⟨p.b, o', none⟩) len cap)
  | slvp (n o : Nat) : ρ n = some none → Rep ok w ρ (.sl n o 0) (.slice none 0 0)
  | rofn : Rep ok w ρ (.rof []) (.slice none 0 0)
  | rof (xs : List Fl) (b o cap : Nat) (g : Nat → Value) : ok b → b < w.heap.size → xs.length ≤ cap → (∀ i, i < xs.length → w.cell? ⟨b, o + i, none⟩ = some (g i)) → (∀ (i : Nat) x, xs[i]? = some x → FRep x (g i)) →
      Rep ok w ρ (.rof xs) (.slice (some ⟨b, o, none⟩) xs.length cap)
  | roin (k : IntKind) : Rep ok w ρ (.roi k []) (.slice none 0 0)
  | roi (k : IntKind) (xs : List Int) (b o cap : Nat) : ok b → b < w.heap.size → xs.length ≤ cap → (∀ (i : Nat) x, xs[i]? = some x → w.cell? ⟨b, o + i, none⟩ = some (.int k x)) →
      Rep ok w ρ (.roi k xs) (.slice (some ⟨b, o, none⟩) xs.length cap)
  | ron (sz : Nat) : Rep ok w ρ (.ro sz []) (.slice none 0 0)
  | ro (sz : Nat) (cs : List V) (b o len cap : Nat) (g : Nat → Value) : ok b → b < w.heap.size → len * sz = cs.length → len ≤ cap → (∀ i, i < cs.length → w.cell? ⟨b, o + i, none⟩ = some (g i)) → (∀ i, i < cs.length → (g i).oneCell' = true) →
      (∀ (i : Nat) c, cs[i]? = some c → Rep ok w ρ c (g i)) → Rep ok w ρ (.ro sz cs) (.slice (some ⟨b, o, none⟩) len cap)
  | pf (xs : List Fl) (i b o : Nat) (v : Value) : w.cell? ⟨b, o, none⟩ = some v → FRep (xs.getD i none) v → ok b → b < w.heap.size → Rep ok w ρ (.pf xs i) (.pointer (some ⟨b, o, none⟩))
  | pi (k : IntKind) (xs : List Int) (i b o : Nat) : w.cell? ⟨b, o, none⟩ = some (.int k (xs.getD i 0)) → ok b → b < w.heap.size → Rep ok w ρ (.pi k xs i) (.pointer (some ⟨b, o, none⟩))
  | rp (cs : List V) (i b o : Nat) (g : Nat → Value) : ok b → b < w.heap.size → (∀ j, i + j < cs.length → w.cell? ⟨b, o + j, none⟩ = some (g (i + j))) → (∀ j, j < cs.length → (g j).oneCell' = true) →
      (∀ (j : Nat) c, cs[j]? = some c → Rep ok w ρ c (g j)) → Rep ok w ρ (.rp cs i) (.pointer (some ⟨b, o, none⟩))
  | agg (cs : List V) (vs : List Value) : cs.length = vs.length → (∀ v ∈ vs, v.oneCell' = true) → (∀ (i : Nat) c v, cs[i]? = some c → vs[i]? = some v → Rep ok w ρ c v) → Rep ok w ρ (.agg cs) (.agg vs.toArray)
  | tup (cs : List V) (vs : List Value) : cs.length = vs.length → (∀ (i : Nat) c v, cs[i]? = some c → vs[i]? = some v → Rep ok w ρ c v) → Rep ok w ρ (.tup cs) (.tuple vs.toArray)

/-- what holds is kept -/
structure Keeps (ok : Nat → Prop) (w : World) (ρ : Rho) (ok' : Nat → Prop) (w' : World) (ρ' : Rho) : Prop where
  rho : ∀ n q, ρ n = some q → ρ' n = some q
  blk : ∀ b, b < w.heap.size → ok b → ok' b ∧ w'.heap[b]? = w.heap[b]?
  size : w.heap.size ≤ w'.heap.size

theorem Keeps.refl (ok : Nat → Prop) (w : World) (ρ : Rho) : Keeps ok w ρ ok w ρ := ⟨fun _ _ h => h, fun _ _ h => ⟨h, rfl⟩, Nat.le_refl _⟩
theorem Keeps.trans {ok ok' ok'' : Nat → Prop} {w w' w'' : World} {ρ ρ' ρ'' : Rho} (h : Keeps ok w ρ ok' w' ρ') (k : Keeps ok' w' ρ' ok'' w'' ρ'') : Keeps ok w ρ ok'' w'' ρ'' :=
  ⟨fun n q e => k.rho n q (h.rho n q e), fun b hb ho => by
    obtain ⟨h1, h2⟩ := h.blk b hb ho
    obtain ⟨k1, k2⟩ := k.blk b (Nat.lt_of_lt_of_le hb h.size) h1
    exact ⟨k1, k2.trans h2⟩, Nat.le_trans h.size k.size⟩

theorem cell?_of {w w' : World} {b o : Nat} {v : Value} (h : w'.heap[b]? = w.heap[b]?) (hc : w.cell? ⟨b, o, none⟩ = some v) : w'.cell? ⟨b, o, none⟩ = some v := by
  rw [← hc]; simp only [World.cell?, h]

theorem Rep.mono {ok ok' : Nat → Prop} {w w' : World} {ρ ρ' : Rho} (hk : Keeps ok w ρ ok' w' ρ') {x : V} {v : Value} (h : Rep ok w ρ x v) : Rep ok' w' ρ' x v := by
  induction h with
  | any v => exact .any v
  | nil => exact .nil
  | bool b => exact .bool b
  | int k n => exact .int k n
  | flt x v h => exact .flt x v h
  | val v => exact .val v
  | fn g caps vs hl _ ih => exact .fn g caps vs hl ih
  | ptr n o p h => exact .ptr n o p (hk.rho _ _ h)
  | slw n p h => exact .slw n p (hk.rho _ _ h)
  | slv n h => exact .slv n (hk.rho _ _ h)
  | sl n o len cap o' p h hl ho => exact .sl n o len cap o' p (hk.rho _ _ h) hl ho
  | slvp n o h => exact .slvp n o (hk.rho _ _ h)
  | rofn => exact .rofn
  | rof xs b o cap g ho hb hcap hc hr => exact .rof xs b o cap g (hk.blk b hb ho).1 (Nat.lt_of_lt_of_le hb hk.size) hcap (fun i hi => cell?_of (hk.blk b hb ho).2 (hc i hi)) hr
  | roin k => exact .roin k
  | roi k xs b o cap ho hb hcap hc => exact .roi k xs b o cap (hk.blk b hb ho).1 (Nat.lt_of_lt_of_le hb hk.size) hcap (fun i x hi => cell?_of (hk.blk b hb ho).2 (hc i x hi))
  | ron sz => exact .ron sz
  | ro sz cs b o len cap g ho hb hl hcap hc h1 _ ih => exact .ro sz cs b o len cap g (hk.blk b hb ho).1 (Nat.lt_of_lt_of_le hb hk.size) hl hcap (fun i hi => cell?_of (hk.blk b hb ho).2 (hc i hi)) h1 ih
  | pf xs i b o v hc hf ho hb => exact .pf xs i b o v (cell?_of (hk.blk b hb ho).2 hc) hf (hk.blk b hb ho).1 (Nat.lt_of_lt_of_le hb hk.size)
  | pi k xs i b o hc ho hb => exact .pi k xs i b o (cell?_of (hk.blk b hb ho).2 hc) (hk.blk b hb ho).1 (Nat.lt_of_lt_of_le hb hk.size)
  | rp cs i b o g ho hb hc h1 _ ih => exact .rp cs i b o g (hk.blk b hb ho).1 (Nat.lt_of_lt_of_le hb hk.size) (fun j hj => cell?_of (hk.blk b hb ho).2 (hc j hj)) h1 ih
  | agg cs vs hl h1 _ ih => exact .agg cs vs hl h1 ih
  | tup cs vs hl _ ih => exact .tup cs vs hl ih

/-! ### blocks -/
def Body.at : Body → Nat → Option V
  | .flts xs, i => (xs[i]?).map .flt
  | .ints k xs, i => (xs[i]?).map (.int k)
  | .cells cs, i => cs[i]?
theorem Body.at_lt {c : Body} {i : Nat} {x : V} (h : c.at i = some x) : i < c.size := by
  cases c <;> simp only [Body.at, Body.size, Option.map_eq_some_iff] at h ⊢
  · obtain ⟨y, hy, _⟩ := h; exact (List.getElem?_eq_some_iff.1 hy).1
  · obtain ⟨y, hy, _⟩ := h; exact (List.getElem?_eq_some_iff.1 hy).1
  · exact (List.getElem?_eq_some_iff.1 h).1
theorem Body.at_some {c : Body} {i : Nat} (h : i < c.size) : ∃ x, c.at i = some x := by
  cases c <;> simp only [Body.at, Body.size] at h ⊢ <;> simp [h]

def BodyRep (ok : Nat → Prop) (w : World) (ρ : Rho) (c : Body) (cur : Array Value) : Prop :=
  ∀ i x, c.at i = some x → ∃ v, cur[i]? = some v ∧ v.oneCell' = true ∧ Rep ok w ρ x v
theorem BodyRep.mono {ok ok' : Nat → Prop} {w w' : World} {ρ ρ' : Rho} (hk : Keeps ok w ρ ok' w' ρ') {c : Body} {cur : Array Value} (h : BodyRep ok w ρ c cur) : BodyRep ok' w' ρ' c cur :=
  fun i x hx => let ⟨v, h1, h2, h3⟩ := h i x hx; ⟨v, h1, h2, h3.mono hk⟩

def BlkAt (ok : Nat → Prop) (w : World) (ρ : Rho) (q : Option Place) (blk : Blk) : Prop := match q with
  | none => blk.c.size = 0
  | some p => ∃ cur, w.heap[p.b]? = some (.cells cur blk.e (0, 0)) ∧ cur.size = p.cap * blk.sz ∧ p.len * blk.sz = blk.c.size ∧ p.len ≤ p.cap ∧ p.cap ≤ maxLen ∧ BodyRep ok w ρ blk.c cur

abbrev LK := Nat → Option Blk
structure Gh where
  B : Nat
  base : Nat
  w0 : World
  ok0 : Nat → Prop
def okc (G : Gh) (ρ : Rho) (L : LK) (b : Nat) : Prop := (G.ok0 b ∨ G.B ≤ b) ∧ ∀ n blk p, L n = some blk → ρ n = some (some p) → p.b ≠ b

structure SimW (G : Gh) (w : World) (ρ : Rho) (L : LK) : Prop where
  blks : ∀ n blk, L n = some blk → ∃ q, ρ n = some q ∧ BlkAt (okc G ρ L) w ρ q blk
  inj : ∀ n m bn bm p q, L n = some bn → L m = some bm → ρ n = some (some p) → ρ m = some (some q) → p.b = q.b → n = m
  own : ∀ n p, G.base ≤ n → ρ n = some (some p) → G.B ≤ p.b
  size : G.B ≤ w.heap.size
  os : w.os = G.w0.os
  tape : w.tape = G.w0.tape
  output : w.output = G.w0.output
  old : ∀ b, b < G.B → (∀ n p, n < G.base → ρ n = some (some p) → p.b ≠ b) → w.heap[b]? = G.w0.heap[b]?

/-- a name's content replaced -/
def updL (L : LK) (n : Nat) (b : Option Blk) : LK := fun m => if m = n then b else L m
def updR (ρ : Rho) (n : Nat) (q : Option Place) : Rho := fun m => if m = n then some q else ρ m

theorem SimW.lt {G : Gh} {w : World} {ρ : Rho} {L : LK} (h : SimW G w ρ L) {n : Nat} {blk : Blk} {p : Place} (hL : L n = some blk) (hp : ρ n = some (some p)) : p.b < w.heap.size := by
  obtain ⟨q, hq, hb⟩ := h.blks n blk hL
  rw [hp] at hq; cases hq
  obtain ⟨cur, hc, _⟩ := hb
  exact (Array.getElem?_eq_some_iff.1 hc).1

theorem SimW.drew {G : Gh} {w : World} {ρ : Rho} {L : LK} (h : SimW G w ρ L) : SimW G w.drew ρ L ∧ Keeps (okc G ρ L) w ρ (okc G ρ L) w.drew ρ := by
  have hk : Keeps (okc G ρ L) w ρ (okc G ρ L) w.drew ρ := ⟨fun _ _ h => h, fun _ _ h => ⟨h, rfl⟩, Nat.le_refl _⟩
  refine ⟨⟨?_, h.inj, h.own, h.size, h.os, h.tape, h.output, h.old⟩, hk⟩
  intro n blk hn
  obtain ⟨q, hq, hb⟩ := h.blks n blk hn
  refine ⟨q, hq, ?_⟩
  cases q with
  | none => exact hb
  | some p => obtain ⟨cur, h1, h2, h3, h4, h5, h6⟩ := hb; exact ⟨cur, h1, h2, h3, h4, h5, h6.mono hk⟩

/-- a world in which each block that counts is as it was -/
theorem SimW.same {G : Gh} {w w' : World} {ρ : Rho} {L : LK} (h : SimW G w ρ L) (hb : ∀ b, b < w.heap.size → w'.heap[b]? = w.heap[b]?) (hs : w.heap.size ≤ w'.heap.size)
    (h1 : w'.os = w.os) (h2 : w'.tape = w.tape) (h3 : w'.output = w.output) : SimW G w' ρ L ∧ Keeps (okc G ρ L) w ρ (okc G ρ L) w' ρ := by
  have hk : Keeps (okc G ρ L) w ρ (okc G ρ L) w' ρ := ⟨fun _ _ h => h, fun b hlt h => ⟨h, hb b hlt⟩, hs⟩
  refine ⟨⟨?_, h.inj, h.own, Nat.le_trans h.size hs, h1.trans h.os, h2.trans h.tape, h3.trans h.output, ?_⟩, hk⟩
  · intro n blk hn
    obtain ⟨q, hq, hbb⟩ := h.blks n blk hn
    refine ⟨q, hq, ?_⟩
    cases q with
    | none => exact hbb
    | some p => obtain ⟨cur, h1, h2, h3, h4, h5, h6⟩ := hbb; exact ⟨cur, (hb _ (h.lt hn hq)).trans h1, h2, h3, h4, h5, h6.mono hk⟩
  · intro b hlt hno
    exact (hb b (Nat.lt_of_lt_of_le hlt h.size)).trans (h.old b hlt hno)

/-- a new block, under a name that stood for nothing -/
theorem SimW.alloc {G : Gh} {w : World} {ρ : Rho} {L : LK} (h : SimW G w ρ L) (nm : Nat) (hnm : ρ nm = none) (hbase : G.base ≤ nm) (blk : Blk) (cur : Array Value) (len cap : Nat)
    (h1 : cur.size = cap * blk.sz) (h2 : len * blk.sz = blk.c.size) (h3 : len ≤ cap) (h4 : cap ≤ maxLen) (h5 : BodyRep (okc G ρ L) w ρ blk.c cur) :
    SimW G (w.alloc (.cells cur blk.e (0, 0))) (updR ρ nm (some ⟨w.heap.size, len, cap⟩)) (updL L nm (some blk)) ∧
    Keeps (okc G ρ L) w ρ (okc G (updR ρ nm (some ⟨w.heap.size, len, cap⟩)) (updL L nm (some blk))) (w.alloc (.cells cur blk.e (0, 0))) (updR ρ nm (some ⟨w.heap.size, len, cap⟩)) := by
  have hLnm : L nm = none := by
    cases e : L nm with
    | none => rfl
    | some b => obtain ⟨q, hq, _⟩ := h.blks nm b e; rw [hnm] at hq; cases hq
  have hold : ∀ b, b < w.heap.size → (w.alloc (.cells cur blk.e (0, 0))).heap[b]? = w.heap[b]? := fun b hb => heap_alloc_old _ _ hb
  have hk : Keeps (okc G ρ L) w ρ (okc G (updR ρ nm (some ⟨w.heap.size, len, cap⟩)) (updL L nm (some blk))) (w.alloc (.cells cur blk.e (0, 0))) (updR ρ nm (some ⟨w.heap.size, len, cap⟩)) := by
    refine ⟨?_, ?_, by simp⟩
    · intro n q hq
      unfold updR
      by_cases e : n = nm
      · subst e; rw [hnm] at hq; cases hq
      · simp [e, hq]
    · intro b hb ho
      refine ⟨⟨ho.1, ?_⟩, hold b hb⟩
      intro n bl p hn hp
      unfold updL at hn; unfold updR at hp
      by_cases e : n = nm
      · subst e; simp at hp; subst hp; simp; omega
      · simp only [e, if_false] at hn hp; exact ho.2 n bl p hn hp
  refine ⟨⟨?_, ?_, ?_, ?_, h.os, h.tape, h.output, ?_⟩, hk⟩
  · intro n bl hn
    unfold updL at hn
    by_cases e : n = nm
    · subst e
      simp only [if_true, Option.some.injEq] at hn
      subst hn
      refine ⟨some ⟨w.heap.size, len, cap⟩, by simp [updR], ?_⟩
      exact ⟨cur, heap_alloc_new _ _, h1, h2, h3, h4, h5.mono hk⟩
    · simp only [e, if_false] at hn
      obtain ⟨q, hq, hb⟩ := h.blks n bl hn
      refine ⟨q, by simp [updR, e, hq], ?_⟩
      cases q with
      | none => exact hb
      | some p =>
        obtain ⟨c2, g1, g2, g3, g4, g5, g6⟩ := hb
        exact ⟨c2, (hold _ (h.lt hn hq)).trans g1, g2, g3, g4, g5, g6.mono hk⟩
  · intro n m bn bm p q hn hm hp hq e
    unfold updL at hn hm; unfold updR at hp hq
    by_cases en : n = nm <;> by_cases em : m = nm
    · rw [en, em]
    · simp only [en, em, if_true, if_false, Option.some.injEq] at hn hm hp hq
      subst hp
      have := h.lt hm hq
      simp at e; omega
    · simp only [en, em, if_true, if_false, Option.some.injEq] at hn hm hp hq
      subst hq
      have := h.lt hn hp
      simp at e; omega
    · simp only [en, em, if_false] at hn hm hp hq
      exact h.inj n m bn bm p q hn hm hp hq e
  · intro n p hn hp
    unfold updR at hp
    by_cases e : n = nm
    · simp only [e, if_true, Option.some.injEq] at hp; subst hp; exact h.size
    · simp only [e, if_false] at hp; exact h.own n p hn hp
  · simp only [World.size_alloc]; exact Nat.le_succ_of_le h.size
  · intro b hb hno
    rw [hold b (Nat.lt_of_lt_of_le hb h.size)]
    refine h.old b hb fun n p hn hp => hno n p hn ?_
    unfold updR
    have : n ≠ nm := by omega
    simp [this, hp]

/-- a live block written -/
theorem SimW.write {G : Gh} {w : World} {ρ : Rho} {L : LK} (h : SimW G w ρ L) (n : Nat) (blk : Blk) (p : Place) (hn : L n = some blk) (hp : ρ n = some (some p)) (cur cur' : Array Value) (hc : w.heap[p.b]? = some (.cells cur blk.e (0, 0)))
    (c' : Body) (hsz : cur'.size = cur.size) (hcs : c'.size = blk.c.size) (hr : BodyRep (okc G ρ L) w ρ c' cur') :
    SimW G (w.setRow p.b cur') ρ (updL L n (some { blk with c := c' })) ∧ Keeps (okc G ρ L) w ρ (okc G ρ (updL L n (some { blk with c := c' }))) (w.setRow p.b cur') ρ := by
  have hlive : ∀ m, (updL L n (some { blk with c := c' }) m).isSome = true ↔ (L m).isSome = true := by
    intro m; unfold updL; by_cases e : m = n
    · subst e; simp [hn]
    · simp [e]
  have hok : ∀ b, okc G ρ L b → okc G ρ (updL L n (some { blk with c := c' })) b := by
    intro b ho
    refine ⟨ho.1, fun m bl q hm hq => ?_⟩
    have : (L m).isSome = true := (hlive m).1 (by simp [hm])
    obtain ⟨bl', hb'⟩ := Option.isSome_iff_exists.1 this
    exact ho.2 m bl' q hb' hq
  have hoth : ∀ b, b ≠ p.b → (w.setRow p.b cur').heap[b]? = w.heap[b]? := fun b hb => setRow_other w p.b b cur' hb
  have hk : Keeps (okc G ρ L) w ρ (okc G ρ (updL L n (some { blk with c := c' }))) (w.setRow p.b cur') ρ :=
    ⟨fun _ _ h => h, fun b _ ho => ⟨hok b ho, hoth b fun e => ho.2 n blk p hn hp e.symm⟩, by simp⟩
  refine ⟨⟨?_, ?_, h.own, by simpa using h.size, h.os, h.tape, h.output, ?_⟩, hk⟩
  · intro m bl hm
    unfold updL at hm
    by_cases e : m = n
    · subst e
      simp only [if_true, Option.some.injEq] at hm
      subst hm
      obtain ⟨q, hq, hb⟩ := h.blks m blk hn
      rw [hp] at hq; cases hq
      obtain ⟨c2, g1, g2, g3, g4, g5, _⟩ := hb
      rw [hc] at g1; cases g1
      exact ⟨some p, hp, cur', setRow_heap w p.b cur cur' _ _ hc, hsz.trans g2, g3.trans hcs.symm, g4, g5, hr.mono hk⟩
    · simp only [e, if_false] at hm
      obtain ⟨q, hq, hb⟩ := h.blks m bl hm
      refine ⟨q, hq, ?_⟩
      cases q with
      | none => exact hb
      | some p' =>
        obtain ⟨c2, g1, g2, g3, g4, g5, g6⟩ := hb
        exact ⟨c2, (hoth _ fun e' => e (h.inj m n bl blk p' p hm hn hq hp e')).trans g1, g2, g3, g4, g5, g6.mono hk⟩
  · intro m m' bn bm q q' hm hm' hq hq' e
    obtain ⟨b1, hb1⟩ := Option.isSome_iff_exists.1 ((hlive m).1 (by simp [hm]))
    obtain ⟨b2, hb2⟩ := Option.isSome_iff_exists.1 ((hlive m').1 (by simp [hm']))
    exact h.inj m m' b1 b2 q q' hb1 hb2 hq hq' e
  · intro b hb hno
    by_cases e : b = p.b
    · subst e
      by_cases hlt : n < G.base
      · exact absurd rfl (hno n p hlt hp)
      · have := h.own n p (by omega) hp; omega
    · rw [hoth b e]; exact h.old b hb hno

/-- a name let go -/
theorem SimW.drop {G : Gh} {w : World} {ρ : Rho} {L : LK} (h : SimW G w ρ L) (n : Nat) :
    SimW G w ρ (updL L n none) ∧ Keeps (okc G ρ L) w ρ (okc G ρ (updL L n none)) w ρ := by
  have hsub : ∀ m bl, updL L n none m = some bl → L m = some bl := by
    intro m bl hm; unfold updL at hm; by_cases e : m = n
    · simp [e] at hm
    · simpa [e] using hm
  have hk : Keeps (okc G ρ L) w ρ (okc G ρ (updL L n none)) w ρ :=
    ⟨fun _ _ h => h, fun b _ ho => ⟨⟨ho.1, fun m bl q hm hq => ho.2 m bl q (hsub m bl hm) hq⟩, rfl⟩, Nat.le_refl _⟩
  refine ⟨⟨?_, ?_, h.own, h.size, h.os, h.tape, h.output, h.old⟩, hk⟩
  · intro m bl hm
    obtain ⟨q, hq, hb⟩ := h.blks m bl (hsub m bl hm)
    refine ⟨q, hq, ?_⟩
    cases q with
    | none => exact hb
    | some p => obtain ⟨c2, g1, g2, g3, g4, g5, g6⟩ := hb; exact ⟨c2, g1, g2, g3, g4, g5, g6.mono hk⟩
  · intro m m' bn bm q q' hm hm' hq hq' e
    exact h.inj m m' bn bm q q' (hsub _ _ hm) (hsub _ _ hm') hq hq' e

/-- a row of the call's own that goes on under a new name, written or not -/
theorem SimW.regrow {G : Gh} {w : World} {ρ : Rho} {L : LK} (h : SimW G w ρ L) (n nm : Nat) (hnm : ρ nm = none) (hbase : G.base ≤ n) (blk : Blk) (p : Place) (hn : L n = some blk) (hp : ρ n = some (some p)) (cur cur' : Array Value)
    (hc : w.heap[p.b]? = some (.cells cur blk.e (0, 0))) (c' : Body) (len : Nat) (hsz : cur'.size = cur.size) (hl : len * blk.sz = c'.size) (hcap : len ≤ p.cap) (hr : BodyRep (okc G ρ L) w ρ c' cur') :
    SimW G (w.setRow p.b cur') (updR ρ nm (some ⟨p.b, len, p.cap⟩)) (updL (updL L n none) nm (some { blk with c := c' })) ∧
    Keeps (okc G ρ L) w ρ (okc G (updR ρ nm (some ⟨p.b, len, p.cap⟩)) (updL (updL L n none) nm (some { blk with c := c' }))) (w.setRow p.b cur') (updR ρ nm (some ⟨p.b, len, p.cap⟩)) := by
  have hne : n ≠ nm := by intro e; subst e; rw [hnm] at hp; cases hp
  have hoth : ∀ b, b ≠ p.b → (w.setRow p.b cur').heap[b]? = w.heap[b]? := fun b hb => setRow_other w p.b b cur' hb
  have hL : ∀ m bl, m ≠ nm → updL (updL L n none) nm (some { blk with c := c' }) m = some bl → m ≠ n ∧ L m = some bl := by
    intro m bl hm e
    unfold updL at e
    rw [if_neg hm] at e
    by_cases e2 : m = n
    · rw [if_pos e2] at e; cases e
    · rw [if_neg e2] at e; exact ⟨e2, e⟩
  have hok : ∀ b, okc G ρ L b → okc G (updR ρ nm (some ⟨p.b, len, p.cap⟩)) (updL (updL L n none) nm (some { blk with c := c' })) b := by
    intro b ho
    refine ⟨ho.1, fun m bl q hm hq => ?_⟩
    by_cases e : m = nm
    · subst e; simp [updR] at hq; subst hq; exact ho.2 n blk p hn hp
    · simp only [updR, e, if_false] at hq
      exact ho.2 m bl q (hL m bl e hm).2 hq
  have hk : Keeps (okc G ρ L) w ρ (okc G (updR ρ nm (some ⟨p.b, len, p.cap⟩)) (updL (updL L n none) nm (some { blk with c := c' }))) (w.setRow p.b cur') (updR ρ nm (some ⟨p.b, len, p.cap⟩)) := by
    refine ⟨?_, fun b _ ho => ⟨hok b ho, hoth b fun e => ho.2 n blk p hn hp e.symm⟩, by simp⟩
    intro m q hq
    unfold updR
    by_cases e : m = nm
    · subst e; rw [hnm] at hq; cases hq
    · simp [e, hq]
  obtain ⟨cur0, g1, g2, g3, g4, g5, g6⟩ : ∃ cur, w.heap[p.b]? = some (.cells cur blk.e (0, 0)) ∧ cur.size = p.cap * blk.sz ∧ p.len * blk.sz = blk.c.size ∧ p.len ≤ p.cap ∧ p.cap ≤ maxLen ∧ BodyRep (okc G ρ L) w ρ blk.c cur := by
    obtain ⟨q, hq, hb⟩ := h.blks n blk hn
    rw [hp] at hq; cases hq; exact hb
  rw [hc] at g1; cases g1
  refine ⟨⟨?_, ?_, ?_, by simpa using h.size, h.os, h.tape, h.output, ?_⟩, hk⟩
  · intro m bl hm
    by_cases e : m = nm
    · subst e
      simp only [updL, if_true, Option.some.injEq] at hm
      subst hm
      exact ⟨some ⟨p.b, len, p.cap⟩, by simp [updR], cur', setRow_heap w p.b cur cur' _ _ hc, hsz.trans g2, hl, hcap, g5, hr.mono hk⟩
    · obtain ⟨e2, hLm⟩ := hL m bl e hm
      obtain ⟨q, hq, hb⟩ := h.blks m bl hLm
      refine ⟨q, by simp [updR, e, hq], ?_⟩
      cases q with
      | none => exact hb
      | some p' =>
        obtain ⟨c2, k1, k2, k3, k4, k5, k6⟩ := hb
        exact ⟨c2, (hoth _ fun e' => e2 (h.inj m n bl blk p' p hLm hn hq hp e')).trans k1, k2, k3, k4, k5, k6.mono hk⟩
  · intro m m' bn bm q q' hm hm' hq hq' e
    by_cases e1 : m = nm <;> by_cases e2 : m' = nm
    · rw [e1, e2]
    · subst e1
      simp [updR] at hq; subst hq
      simp only [updR, e2, if_false] at hq'
      obtain ⟨e3, hL'⟩ := hL m' bm e2 hm'
      exact absurd (h.inj n m' blk bm p q' hn hL' hp hq' e).symm e3
    · subst e2
      simp [updR] at hq'; subst hq'
      simp only [updR, e1, if_false] at hq
      obtain ⟨e3, hL'⟩ := hL m bn e1 hm
      exact absurd (h.inj m n bn blk q p hL' hn hq hp e) e3
    · simp only [updR, e1, e2, if_false] at hq hq'
      exact h.inj m m' bn bm q q' (hL m bn e1 hm).2 (hL m' bm e2 hm').2 hq hq' e
  · intro m q hm hq
    by_cases e : m = nm
    · subst e; simp [updR] at hq; subst hq; exact h.own n p hbase hp
    · simp only [updR, e, if_false] at hq; exact h.own m q hm hq
  · intro b hb hno
    have hb' : b ≠ p.b := by have := h.own n p hbase hp; omega
    rw [hoth b hb']
    refine h.old b hb fun m q hm hq => hno m q hm ?_
    unfold updR
    by_cases e : m = nm
    · subst e; rw [hnm] at hq; cases hq
    · simp [e, hq]

/-- an empty row that has no memory yet -/
theorem SimW.virt {G : Gh} {w : World} {ρ : Rho} {L : LK} (h : SimW G w ρ L) (nm : Nat) (hnm : ρ nm = none) (blk : Blk) (h0 : blk.c.size = 0) :
    SimW G w (updR ρ nm none) (updL L nm (some blk)) ∧ Keeps (okc G ρ L) w ρ (okc G (updR ρ nm none) (updL L nm (some blk))) w (updR ρ nm none) := by
  have hk : Keeps (okc G ρ L) w ρ (okc G (updR ρ nm none) (updL L nm (some blk))) w (updR ρ nm none) := by
    refine ⟨?_, ?_, Nat.le_refl _⟩
    · intro n q hq; unfold updR; by_cases e : n = nm
      · subst e; rw [hnm] at hq; cases hq
      · simp [e, hq]
    · intro b hb ho
      refine ⟨⟨ho.1, ?_⟩, rfl⟩
      intro n bl p hn hp
      unfold updL at hn; unfold updR at hp
      by_cases e : n = nm
      · simp [e] at hp
      · simp only [e, if_false] at hn hp; exact ho.2 n bl p hn hp
  refine ⟨⟨?_, ?_, ?_, h.size, h.os, h.tape, h.output, ?_⟩, hk⟩
  · intro n bl hn
    unfold updL at hn
    by_cases e : n = nm
    · subst e; simp only [if_true, Option.some.injEq] at hn; subst hn
      exact ⟨none, by simp [updR], h0⟩
    · simp only [e, if_false] at hn
      obtain ⟨q, hq, hb⟩ := h.blks n bl hn
      refine ⟨q, by simp [updR, e, hq], ?_⟩
      cases q with
      | none => exact hb
      | some p => obtain ⟨c2, g1, g2, g3, g4, g5, g6⟩ := hb; exact ⟨c2, g1, g2, g3, g4, g5, g6.mono hk⟩
  · intro n m bn bm p q hn hm hp hq e
    unfold updL at hn hm; unfold updR at hp hq
    by_cases en : n = nm
    · simp [en] at hp
    · by_cases em : m = nm
      · simp [em] at hq
      · simp only [en, em, if_false] at hn hm hp hq; exact h.inj n m bn bm p q hn hm hp hq e
  · intro n p hn hp
    unfold updR at hp
    by_cases e : n = nm
    · simp [e] at hp
    · simp only [e, if_false] at hp; exact h.own n p hn hp
  · intro b hb hno
    refine h.old b hb fun n p hn hp => hno n p hn ?_
    unfold updR
    by_cases e : n = nm
    · subst e; rw [hnm] at hp; cases hp
    · simp [e, hp]

end Go.Mach
