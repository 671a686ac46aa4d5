/-
  THE MACHINE, fifth part: operations that leave memory alone do as the machine says.
  Conditions: none.
-/
import Derived.Test.YtoagmokejfcpbaaMachD
namespace Go.Mach

def updU : LK → Upd → LK
  | L, [] => L
  | L, (n, b) :: r => updU (updL L n b) r

/-- what the machine says of one operation holds of the model's -/
def OpGood (P : Program) (base : Nat) (F : List V) (M : Heap) (o : Op) (x : V) (U : Upd) (T : List Nat) : Prop :=
  ∀ (G : Gh) (w : World) (ρ : Rho) (L : LK) (a : Act) (o' : Oper), o'.op = o → G.base = base → SimW G w ρ L →
    (∀ y, y ∈ o.operands → Rep (okc G ρ L) w ρ (ev F y) (a.eval y)) →
    (∀ n, n ∈ T → L n = look M n) → (∀ n b, (n, b) ∈ U → M.length ≤ n → ρ n = none ∧ base ≤ n) →
    ∀ (N : Act → World → Prop) (Q : Exit → Act → World → Prop),
      (∀ v w' ρ', SimW G w' ρ' (updU L U) → Rep (okc G ρ' (updU L U)) w' ρ' x v → Keeps (okc G ρ L) w ρ (okc G ρ' (updU L U)) w' ρ' →
        (∀ n, ρ' n ≠ ρ n → n ∈ U.map (·.1)) → N (a.put o'.dst v) w') → o'.wp P a w N Q

theorem wp_of_run {P : Program} {o : Oper} {a : Act} {w w' : World} {v : Value} {N : Act → World → Prop} {Q : Exit → Act → World → Prop}
    (h : (execOp a.eval o).run P w = .ok (.value v) w') (hn : N (a.put o.dst v) w') : o.wp P a w N Q := by
  unfold Oper.wp; rw [h]; exact hn

theorem good_pure {P : Program} {base : Nat} {F : List V} {M : Heap} {o : Op} {x : V} {T : List Nat}
    (h : ∀ (G : Gh) (w : World) (ρ : Rho) (L : LK) (a : Act) (o' : Oper), o'.op = o → SimW G w ρ L → (∀ y, y ∈ o.operands → Rep (okc G ρ L) w ρ (ev F y) (a.eval y)) → (∀ n, n ∈ T → L n = look M n) →
      ∃ v w', (execOp a.eval o').run P w = .ok (.value v) w' ∧ (w' = w ∨ w' = w.drew) ∧ Rep (okc G ρ L) w ρ x v) : OpGood P base F M o x [] T := by
  intro G w ρ L a o' ho _ hs hops hT _ N Q hn
  obtain ⟨v, w', hr, hw, hx⟩ := h G w ρ L a o' ho hs hops hT
  refine wp_of_run hr ?_
  rcases hw with rfl | rfl
  · exact hn v _ ρ hs hx (Keeps.refl _ _ _) (fun n hne => absurd rfl hne)
  · obtain ⟨h1, h2⟩ := hs.drew
    exact hn v _ ρ h1 (hx.mono h2) h2 (fun n hne => absurd rfl hne)

/-! ### what a value is -/
section
variable {ok : Nat → Prop} {w : World} {ρ : Rho} {v : Value}
theorem Rep.bool_inv {b : Bool} (h : Rep ok w ρ (.bool b) v) : v = .bool b := by cases h; rfl
theorem Rep.int_inv {k : IntKind} {n : Int} (h : Rep ok w ρ (.int k n) v) : v = .int k n := by cases h; rfl
theorem Rep.flt_inv {x : Fl} (h : Rep ok w ρ (.flt x) v) : FRep x v := by cases h; assumption
theorem Rep.val_inv {u : Value} (h : Rep ok w ρ (.val u) v) : v = u := by cases h; rfl
theorem Rep.nil_inv (h : Rep ok w ρ .nil v) : v = .slice none 0 0 := by cases h; rfl
theorem Rep.ptr_inv {n o : Nat} (h : Rep ok w ρ (.ptr n o) v) : ∃ p, ρ n = some (some p) ∧ v = .pointer (some ⟨p.b, o, none⟩) := by cases h; exact ⟨_, by assumption, rfl⟩
theorem FRep.float {x : Fl} (h : FRep x v) : ∃ b, v = .float .f64 b := by
  cases x with
  | none => obtain ⟨b, h, _⟩ := h; exact ⟨b, h⟩
  | some b => exact ⟨b, h⟩

theorem frep_canon (b : Nat) : FRep (canon b) (.float .f64 b) := by
  unfold canon
  cases h : isNaN b with
  | true => exact ⟨b, rfl, h⟩
  | false => rfl

theorem rep_ofVal1 (u : Value) : Rep ok w ρ (ofVal1 u) u := by
  unfold ofVal1
  split <;> first
    | exact .bool _
    | exact .int _ _
    | exact .flt _ _ (frep_canon _)
    | exact .nil
    | exact .val _

theorem Rep.one {x : V} (h : Rep ok w ρ x v) (h1 : x.one = true) : v.oneCell' = true := by
  cases h <;> simp [V.one] at h1 <;> try rfl
  · rename_i hf; obtain ⟨b, rfl⟩ := hf.float; rfl
  · exact h1

theorem frep_one {x : Fl} (h : FRep x v) : v.oneCell' = true := by obtain ⟨b, rfl⟩ := h.float; rfl
end

/-! ### floats -/
theorem read_nan {b : Nat} (h : isNaN b = true) : ∃ s f, Ieee.double.read b = .nan s f := by
  unfold isNaN Ieee.Datum.isNaN at h
  cases e : Ieee.double.read b <;> simp [e] at h
  exact ⟨_, _, rfl⟩

theorem nan_left (f : Nat → Nat → Option Nat) (hf : f = Ieee.double.add ∨ f = Ieee.double.sub ∨ f = Ieee.double.mul ∨ f = Ieee.double.div) {a : Nat} (b : Nat) (h : isNaN a = true) : f a b = none := by
  obtain ⟨s, g, e⟩ := read_nan h
  rcases hf with rfl | rfl | rfl | rfl <;> simp [Ieee.Format.add, Ieee.Format.sub, Ieee.Format.mul, Ieee.Format.div, e, Ieee.Datum.sum, Ieee.Datum.product, Ieee.Datum.quotient]
theorem nan_right (f : Nat → Nat → Option Nat) (hf : f = Ieee.double.add ∨ f = Ieee.double.sub ∨ f = Ieee.double.mul ∨ f = Ieee.double.div) (a : Nat) {b : Nat} (h : isNaN b = true) : f a b = none := by
  obtain ⟨s, g, e⟩ := read_nan h
  rcases hf with rfl | rfl | rfl | rfl <;> simp only [Ieee.Format.add, Ieee.Format.sub, Ieee.Format.mul, Ieee.Format.div, e] <;> cases Ieee.double.read a <;> simp [Ieee.Datum.sum, Ieee.Datum.product, Ieee.Datum.quotient, Ieee.Datum.opposite]

theorem order_nan_left {a : Nat} (b : Nat) (h : isNaN a = true) : Ieee.double.order a b = none := by
  obtain ⟨s, g, e⟩ := read_nan h
  simp [Ieee.Format.order, e, Ieee.Datum.order]
theorem order_nan_right (a : Nat) {b : Nat} (h : isNaN b = true) : Ieee.double.order a b = none := by
  obtain ⟨s, g, e⟩ := read_nan h
  simp only [Ieee.Format.order, e]
  cases Ieee.double.read a <;> simp [Ieee.Datum.order]

/-- the exact operation on the bits is the one on floats up to the payload -/
theorem fbin_bits (f : Nat → Nat → Option Nat) (hf : f = Ieee.double.add ∨ f = Ieee.double.sub ∨ f = Ieee.double.mul ∨ f = Ieee.double.div) {x y : Fl} {a b : Nat} (hx : FRep x (.float .f64 a)) (hy : FRep y (.float .f64 b)) : f a b = fbin f x y := by
  cases x with
  | none => obtain ⟨a', e, h⟩ := hx; cases e; rw [nan_left f hf b h]; rfl
  | some a' => cases hx; cases y with
    | none => obtain ⟨b', e, h⟩ := hy; cases e; rw [nan_right f hf _ h]; rfl
    | some b' => cases hy; rfl
theorem ford_bits {x y : Fl} {a b : Nat} (hx : FRep x (.float .f64 a)) (hy : FRep y (.float .f64 b)) : Ieee.double.order a b = ford x y := by
  cases x with
  | none => obtain ⟨a', e, h⟩ := hx; cases e; rw [order_nan_left b h]; rfl
  | some a' => cases hx; cases y with
    | none => obtain ⟨b', e, h⟩ := hy; cases e; rw [order_nan_right _ h]; rfl
    | some b' => cases hy; rfl

theorem isNaN_iff (b : Nat) : isNaN b = true ↔ 9218868437227405312 < b % 9223372036854775808 := by
  have e1 : Ieee.double.signWeight = 9223372036854775808 := by decide
  have e2 : Ieee.double.binade = 4503599627370496 := by decide
  have e3 : Ieee.double.infRung = 9218868437227405312 := by decide
  unfold isNaN Ieee.Format.read
  simp only [e1, e2, e3]
  generalize b % 9223372036854775808 = r
  by_cases h1 : r < 4503599627370496
  · simp [h1, Ieee.Datum.isNaN]; omega
  · by_cases h2 : r < 9218868437227405312
    · simp [h1, h2, Ieee.Datum.isNaN]; omega
    · by_cases h3 : r = 9218868437227405312
      · simp [h3, Ieee.Datum.isNaN]
      · simp [h1, h2, h3, Ieee.Datum.isNaN]; omega

theorem isNaN_cut (x y t : Nat) : isNaN ((Question.nanBits .f64 x y).cut t) = true := by
  rw [isNaN_iff]
  simp only [Question.cut]
  have h1 : t / 2 % (2 ^ 52 - 1) < 2 ^ 52 - 1 := Nat.mod_lt _ (by decide)
  have h2 : t % 2 = 0 ∨ t % 2 = 1 := by omega
  generalize t / 2 % (2 ^ 52 - 1) = r at *
  rcases h2 with h2 | h2 <;> rw [h2] <;> omega

theorem run_fbin {P : Program} {w : World} (op : BinOp) (f : Nat → Nat → Option Nat) (t : TypeId) {x y : Fl} {u v : Value} (hx : FRep x u) (hy : FRep y v)
    (hf : f = Ieee.double.add ∧ op = .add ∨ f = Ieee.double.sub ∧ op = .sub ∨ f = Ieee.double.mul ∧ op = .mul ∨ f = Ieee.double.div ∧ op = .quo) :
    ∃ r w', (binOp op t u v).run P w = .ok r w' ∧ (w' = w ∨ w' = w.drew) ∧ FRep (fbin f x y) r := by
  obtain ⟨a, rfl⟩ := hx.float
  obtain ⟨b, rfl⟩ := hy.float
  have hf' : f = Ieee.double.add ∨ f = Ieee.double.sub ∨ f = Ieee.double.mul ∨ f = Ieee.double.div := by
    rcases hf with h | h | h | h <;> simp [h.1]
  have e := fbin_bits f hf' hx hy
  rw [← e]
  cases hr : f a b with
  | some r =>
    refine ⟨.float .f64 r, w, ?_, .inl rfl, rfl⟩
    rcases hf with ⟨rfl, rfl⟩ | ⟨rfl, rfl⟩ | ⟨rfl, rfl⟩ | ⟨rfl, rfl⟩ <;> simp [binOp, Op.floatArith, FloatKind.format, hr]
  | none =>
    refine ⟨.float .f64 ((Question.nanBits .f64 a b).cut (w.tape w.drawn (.nanBits .f64 a b))), w.drew, ?_, .inr rfl, _, rfl, isNaN_cut _ _ _⟩
    rcases hf with ⟨rfl, rfl⟩ | ⟨rfl, rfl⟩ | ⟨rfl, rfl⟩ | ⟨rfl, rfl⟩ <;> simp [binOp, Op.floatArith, FloatKind.format, hr, Question.forced]

theorem frep_neg {x : Fl} {a : Nat} (h : FRep x (.float .f64 a)) : FRep (fneg x) (.float .f64 (Op.negFloat .f64 a)) := by
  cases x with
  | some b => cases h; rfl
  | none =>
    obtain ⟨b, e, hn⟩ := h
    cases e
    refine ⟨_, rfl, ?_⟩
    rw [isNaN_iff] at hn ⊢
    have hx : ∀ (n : Nat), (n ^^^ 2 ^ 63) % 2 ^ 63 = n % 2 ^ 63 := by
      intro n
      apply Nat.eq_of_testBit_eq
      intro i
      simp only [Nat.testBit_mod_two_pow, Nat.testBit_xor]
      by_cases hi : i < 63
      · have : (2 ^ 63 : Nat).testBit i = false := by rw [Nat.testBit_two_pow]; simp; omega
        simp [hi, this]
      · simp [hi]
    have e : (2 : Nat) ^ 63 = 9223372036854775808 := by decide
    rw [← e] at hn ⊢
    show _ < (a ^^^ 2 ^ 63) % 2 ^ 63
    rw [hx]; exact hn

end Go.Mach
