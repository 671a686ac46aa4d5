/-
  THE MACHINE, sixth part: arithmetic, comparisons, conversions do as the machine says.
  Conditions: none.
-/
import Derived.Test.YtoagmokejfcpbaaMachE
namespace Go.Mach

theorem and_true {a b : Bool} (h : (a && b) = true) : a = true ∧ b = true := by simpa using h

theorem wrap_fits {n : Int} (h : fits .i64 n = true) : IntKind.i64.wrap n = n := by
  have h' : IntKind.i64.min ≤ n ∧ n ≤ IntKind.i64.max := of_decide_eq_true h
  have h1 : (-9223372036854775808 : Int) ≤ n := h'.1
  have h2 : n ≤ (9223372036854775807 : Int) := h'.2
  rw [IntKind.wrap_i64]; omega

theorem mkInt_sound {q : IntKind} {r : Int} {k : V → Bool} (h : mkInt q r k = true) : ∃ n, q.wrap r = n ∧ k (.int q n) = true := by
  unfold mkInt at h
  split at h
  · obtain ⟨h1, h2⟩ := and_true h
    exact ⟨r, wrap_fits h1, h2⟩
  · exact ⟨_, rfl, h⟩

/-- one operation on two values -/
def BinGood (P : Program) (op : BinOp) (t : TypeId) (x y z : V) : Prop :=
  ∀ (ok : Nat → Prop) (w : World) (ρ : Rho) (u v : Value), Rep ok w ρ x u → Rep ok w ρ y v →
    ∃ r w', (binOp op t u v).run P w = .ok r w' ∧ (w' = w ∨ w' = w.drew) ∧ Rep ok w ρ z r ∧ (∀ a b, (eqGuard op t a b u v).run P w = .ok () w)

theorem guard_int {P : Program} {w : World} (op : BinOp) (t : TypeId) (a b : Operand) (k k' : IntKind) (n m : Int) : (eqGuard op t a b (.int k n) (.int k' m)).run P w = .ok () w := by
  unfold eqGuard; cases op <;> rfl
theorem guard_float {P : Program} {w : World} (op : BinOp) (t : TypeId) (a b : Operand) (k k' : FloatKind) (n m : Nat) : (eqGuard op t a b (.float k n) (.float k' m)).run P w = .ok () w := by
  unfold eqGuard; cases op <;> rfl
theorem guard_bool {P : Program} {w : World} (op : BinOp) (t : TypeId) (a b : Operand) (n m : Bool) : (eqGuard op t a b (.bool n) (.bool m)).run P w = .ok () w := by
  unfold eqGuard; cases op <;> rfl

theorem bin_int {P : Program} {op : BinOp} {t : TypeId} {q : IntKind} {a b : Int} {z : V} {c : Value}
    (h : ∀ (w : World), (binOp op t (.int q a) (.int q b)).run P w = .ok c w) (hz : ∀ ok w ρ, Rep ok w ρ z c) : BinGood P op t (.int q a) (.int q b) z := by
  intro ok w ρ u v hu hv
  obtain rfl := hu.int_inv; obtain rfl := hv.int_inv
  exact ⟨c, w, h w, .inl rfl, hz _ _ _, fun a b => guard_int _ _ _ _ _ _ _ _⟩

theorem bits_some {op : BinOp} {q : IntKind} {a b r : Int} (h : bitsI op q a b = some r) (P : Program) (w : World) : (Op.intBits op q a b).run P w = .ok (.int q r) w := by
  unfold bitsI at h
  unfold Op.intBits
  cases op <;> simp only [reduceCtorEq, Option.some.injEq] at h <;> subst h <;> rfl

theorem intOp_sound {P : Program} {op : BinOp} {t : TypeId} {q : IntKind} {a b : Int} {k : V → Bool} (hs : op ≠ .shl ∧ op ≠ .shr) (h : intOp op q a b k = true) :
    ∃ z, BinGood P op t (.int q a) (.int q b) z ∧ k z = true := by
  cases op <;> simp only [intOp] at h
  case shl => exact absurd rfl hs.1
  case shr => exact absurd rfl hs.2
  case add => obtain ⟨n, e, h⟩ := mkInt_sound h; exact ⟨_, bin_int (c := .int q n) (fun w => by simp [binOp, Op.intArith, e]) (fun _ _ _ => .int _ _), h⟩
  case sub => obtain ⟨n, e, h⟩ := mkInt_sound h; exact ⟨_, bin_int (c := .int q n) (fun w => by simp [binOp, Op.intArith, e]) (fun _ _ _ => .int _ _), h⟩
  case mul => obtain ⟨n, e, h⟩ := mkInt_sound h; exact ⟨_, bin_int (c := .int q n) (fun w => by simp [binOp, Op.intArith, e]) (fun _ _ _ => .int _ _), h⟩
  case quo =>
    obtain ⟨h0, h⟩ := and_true h
    have hb : ¬ b = 0 := by simpa using h0
    obtain ⟨n, e, h⟩ := mkInt_sound h
    exact ⟨_, bin_int (c := .int q n) (fun w => by simp [binOp, Op.intDiv, hb, e]) (fun _ _ _ => .int _ _), h⟩
  case rem =>
    obtain ⟨h0, h⟩ := and_true h
    have hb : ¬ b = 0 := by simpa using h0
    exact ⟨_, bin_int (c := .int q (a.tmod b)) (fun w => by simp [binOp, Op.intDiv, hb]) (fun _ _ _ => .int _ _), h⟩
  case eql => exact ⟨_, bin_int (c := .bool (a == b)) (fun w => by simp [binOp, Op.intCmp]) (fun _ _ _ => .bool _), h⟩
  case neq => exact ⟨_, bin_int (c := .bool (a != b)) (fun w => by simp [binOp, Op.intCmp]) (fun _ _ _ => .bool _), h⟩
  case lss => exact ⟨_, bin_int (c := .bool (decide (a < b))) (fun w => by simp [binOp, Op.intCmp]) (fun _ _ _ => .bool _), h⟩
  case leq => exact ⟨_, bin_int (c := .bool (decide (a ≤ b))) (fun w => by simp [binOp, Op.intCmp]) (fun _ _ _ => .bool _), h⟩
  case gtr => exact ⟨_, bin_int (c := .bool (decide (a > b))) (fun w => by simp [binOp, Op.intCmp]) (fun _ _ _ => .bool _), h⟩
  case geq => exact ⟨_, bin_int (c := .bool (decide (a ≥ b))) (fun w => by simp [binOp, Op.intCmp]) (fun _ _ _ => .bool _), h⟩
  all_goals
    split at h
    · rename_i r e
      refine ⟨_, bin_int (c := .int q r) (fun w => ?_) (fun _ _ _ => .int _ _), h⟩
      have := bits_some e P w
      simpa [binOp] using this
    · cases h

theorem bin_flt {P : Program} {op : BinOp} {t : TypeId} {x y : Fl} {z : V}
    (h : ∀ (ok : Nat → Prop) (w : World) (ρ : Rho) (u v : Value), FRep x u → FRep y v → ∃ r w', (binOp op t u v).run P w = .ok r w' ∧ (w' = w ∨ w' = w.drew) ∧ Rep ok w ρ z r) : BinGood P op t (.flt x) (.flt y) z := by
  intro ok w ρ u v hu hv
  obtain ⟨r, w', h1, h2, h3⟩ := h ok w ρ u v hu.flt_inv hv.flt_inv
  obtain ⟨a, rfl⟩ := hu.flt_inv.float
  obtain ⟨b, rfl⟩ := hv.flt_inv.float
  exact ⟨r, w', h1, h2, h3, fun _ _ => guard_float _ _ _ _ _ _ _ _⟩

theorem fltOp_sound {P : Program} {op : BinOp} {t : TypeId} {x y : Fl} {k : V → Bool} (h : fltOp op x y k = true) :
    ∃ z, BinGood P op t (.flt x) (.flt y) z ∧ k z = true := by
  have cmp : ∀ {op : BinOp} {z : Bool}, (∀ (w : World) (a b : Nat), Ieee.double.order a b = ford x y → (binOp op t (.float .f64 a) (.float .f64 b)).run P w = .ok (.bool z) w) →
      BinGood P op t (.flt x) (.flt y) (.bool z) := by
    intro op z hc
    refine bin_flt fun ok w ρ u v hu hv => ?_
    obtain ⟨a, rfl⟩ := hu.float
    obtain ⟨b, rfl⟩ := hv.float
    exact ⟨_, w, hc w a b (ford_bits hu hv), .inl rfl, .bool _⟩
  have ari : ∀ {op : BinOp} {f : Nat → Nat → Option Nat}, (f = Ieee.double.add ∧ op = .add ∨ f = Ieee.double.sub ∧ op = .sub ∨ f = Ieee.double.mul ∧ op = .mul ∨ f = Ieee.double.div ∧ op = .quo) →
      BinGood P op t (.flt x) (.flt y) (.flt (fbin f x y)) := by
    intro op f hf
    refine bin_flt fun ok w ρ u v hu hv => ?_
    obtain ⟨r, w', h1, h2, h3⟩ := run_fbin (P := P) (w := w) op f t hu hv hf
    exact ⟨r, w', h1, h2, .flt _ _ h3⟩
  cases op <;> simp only [fltOp] at h <;> first
    | (cases h; done)
    | exact ⟨_, ari (.inl ⟨rfl, rfl⟩), h⟩
    | exact ⟨_, ari (.inr (.inl ⟨rfl, rfl⟩)), h⟩
    | exact ⟨_, ari (.inr (.inr (.inl ⟨rfl, rfl⟩))), h⟩
    | exact ⟨_, ari (.inr (.inr (.inr ⟨rfl, rfl⟩))), h⟩
    | exact ⟨_, cmp (fun w a b e => by simp [binOp, Op.floatCmp, FloatKind.format, e, feq, flt, fgt, fle, fge, bne]), h⟩

theorem run_eqb {P : Program} {w : World} {t : TypeId} (ht : P.underlying t = some .bool) (a b : Bool) : (binOp .eql t (.bool a) (.bool b)).run P w = .ok (.bool (a == b)) w := by
  have h : (Op.equal t (.bool a) (.bool b)).run P w = .ok (a == b) w := by
    rw [Op.equal, Op.maxDepth, Op.equalIn, Sem.run_bind, run_underlying ht]; rfl
  show ((Op.equal t (.bool a) (.bool b)) >>= fun r => pure (Value.bool r)).run P w = _
  rw [Sem.run_bind, h]; rfl
theorem run_neb {P : Program} {w : World} {t : TypeId} (ht : P.underlying t = some .bool) (a b : Bool) : (binOp .neq t (.bool a) (.bool b)).run P w = .ok (.bool (a != b)) w := by
  have h : (Op.equal t (.bool a) (.bool b)).run P w = .ok (a == b) w := by
    rw [Op.equal, Op.maxDepth, Op.equalIn, Sem.run_bind, run_underlying ht]; rfl
  show ((Op.equal t (.bool a) (.bool b)) >>= fun r => pure (Value.bool (!r))).run P w = _
  rw [Sem.run_bind, h]; rfl
theorem isBoolT_true {P : Program} {t : TypeId} (h : isBoolT P t = true) : P.underlying t = some .bool := by
  unfold isBoolT at h; split at h
  · assumption
  · cases h

theorem binV_sound {P : Program} {op : BinOp} {t : TypeId} {x y : V} {k : V → Bool} (h : binV op (isBoolT P t) x y k = true) : ∃ z, BinGood P op t x y z ∧ k z = true := by
  unfold binV at h
  split at h
  · rename_i q a k' b
    obtain ⟨h0, h1⟩ := and_true h
    have hb : ¬ b < 0 := by have := of_decide_eq_true h0; omega
    obtain ⟨n, e, h2⟩ := mkInt_sound h1
    refine ⟨_, ?_, h2⟩
    intro ok w ρ u v hu hv
    obtain rfl := hu.int_inv; obtain rfl := hv.int_inv
    exact ⟨.int q n, w, by simp [binOp, Op.shift, hb, e], .inl rfl, .int _ _, fun a b => guard_int _ _ _ _ _ _ _ _⟩
  · rename_i q a k' b
    obtain ⟨h0, h1⟩ := and_true h
    have hb : ¬ b < 0 := by have := of_decide_eq_true h0; omega
    refine ⟨_, ?_, h1⟩
    intro ok w ρ u v hu hv
    obtain rfl := hu.int_inv; obtain rfl := hv.int_inv
    exact ⟨.int q (a.fdiv (2 ^ (min b.toNat q.bits))), w, by simp [binOp, Op.shift, hb], .inl rfl, .int _ _, fun a b => guard_int _ _ _ _ _ _ _ _⟩
  · rename_i q a q' b hl hr
    obtain ⟨h0, h1⟩ := and_true h
    clear h
    obtain rfl := of_decide_eq_true h0
    exact intOp_sound ⟨fun e => hl e, fun e => hr e⟩ h1
  · exact fltOp_sound h
  · obtain ⟨h0, h1⟩ := and_true h
    refine ⟨_, ?_, h1⟩
    intro ok w ρ u v hu hv
    obtain rfl := hu.bool_inv; obtain rfl := hv.bool_inv
    exact ⟨_, w, run_eqb (isBoolT_true h0) _ _, .inl rfl, .bool _, fun a b => guard_bool _ _ _ _ _ _⟩
  · obtain ⟨h0, h1⟩ := and_true h
    refine ⟨_, ?_, h1⟩
    intro ok w ρ u v hu hv
    obtain rfl := hu.bool_inv; obtain rfl := hv.bool_inv
    exact ⟨_, w, run_neb (isBoolT_true h0) _ _, .inl rfl, .bool _, fun a b => guard_bool _ _ _ _ _ _⟩
  · cases h

def UnGood (P : Program) (op : UnOp) (x z : V) : Prop :=
  ∀ (ok : Nat → Prop) (w : World) (ρ : Rho) (u : Value), Rep ok w ρ x u → ∃ r, (Op.unary op u).run P w = .ok r w ∧ Rep ok w ρ z r
theorem unV_sound {P : Program} {op : UnOp} {x : V} {k : V → Bool} (h : unV op x k = true) : ∃ z, UnGood P op x z ∧ k z = true := by
  unfold unV at h
  split at h
  · refine ⟨_, ?_, h⟩
    intro ok w ρ u hu
    obtain rfl := hu.bool_inv
    exact ⟨_, rfl, .bool _⟩
  · obtain ⟨m, e, h⟩ := mkInt_sound h
    refine ⟨_, ?_, h⟩
    intro ok w ρ u hu
    obtain rfl := hu.int_inv
    rw [Int.zero_sub] at e
    exact ⟨.int _ m, by simp [Op.unary, Op.intArith, e], .int _ _⟩
  · refine ⟨_, ?_, h⟩
    intro ok w ρ u hu
    obtain ⟨a, rfl⟩ := hu.flt_inv.float
    exact ⟨_, rfl, .flt _ _ (frep_neg hu.flt_inv)⟩
  · split at h
    · rename_i r e
      refine ⟨_, ?_, h⟩
      intro ok w ρ u hu
      obtain rfl := hu.int_inv
      exact ⟨.int _ r, bits_some e P w, .int _ _⟩
    · cases h
  · cases h

def ConvGood (P : Program) (s d : TypeId) (x z : V) : Prop :=
  ∀ (ok : Nat → Prop) (w : World) (ρ : Rho) (u : Value), Rep ok w ρ x u → ∃ r, (convert s d u).run P w = .ok r w ∧ Rep ok w ρ z r
theorem convV_sound {P : Program} {s d : TypeId} {x : V} {k : V → Bool} (h : convV P s d x k = true) : ∃ z, ConvGood P s d x z ∧ k z = true := by
  unfold convV at h
  split at h
  · rename_i D q k' n hs hd
    obtain ⟨m, e, h⟩ := mkInt_sound h
    refine ⟨_, ?_, h⟩
    intro ok w ρ u hu
    obtain rfl := hu.int_inv
    exact ⟨.int q m, by cases D <;> simp [convert, run_underlying hs, run_underlying hd, Conv.intToInt, e], .int _ _⟩
  · rename_i D k' n hs hd
    refine ⟨_, ?_, h⟩
    intro ok w ρ u hu
    obtain rfl := hu.int_inv
    exact ⟨.float .f64 (FloatKind.f64.nearest n), by cases D <;> simp [convert, run_underlying hs, run_underlying hd, Conv.intToFloat], .flt _ _ rfl⟩
  · rename_i D x hs hd
    refine ⟨_, ?_, h⟩
    intro ok w ρ u hu
    obtain ⟨a, rfl⟩ := hu.flt_inv.float
    exact ⟨.float .f64 a, by cases D <;> simp [convert, run_underlying hs, run_underlying hd, Conv.floatToFloat], .flt _ _ hu.flt_inv⟩
  · rename_i D q b hs hd
    split at h
    · rename_i n e
      obtain ⟨h0, h⟩ := and_true h
      have hb := of_decide_eq_true h0
      refine ⟨_, ?_, h⟩
      intro ok w ρ u hu
      obtain rfl : u = .float .f64 b := hu.flt_inv
      exact ⟨.int q n, by cases D <;> simp [convert, run_underlying hs, run_underlying hd, Conv.floatToInt, FloatKind.decode, FloatKind.format, e, hb.1, hb.2], .int _ _⟩
    · cases h
  · cases h

end Go.Mach
