/-
  THE MACHINE, eleventh part: slice expressions and appends do as the machine says.
  Conditions: none.
-/
import Derived.Test.YtoagmokejfcpbaaMachJ
namespace Go.Mach

theorem boundV_sound {F : List V} {lo hi : Option Operand} {n : Nat} {k : Nat → Nat → Bool} (h : boundV F lo hi n k = true) :
    ∃ l u, l ≤ u ∧ u ≤ n ∧ k l u = true ∧ ∀ (P : Program) (ok : Nat → Prop) (w : World) (ρ : Rho) (g : Operand → Value) (isS : Bool) (cap : Nat), n ≤ cap → (∀ x, lo = some x → Rep ok w ρ (ev F x) (g x)) → (∀ x, hi = some x → Rep ok w ρ (ev F x) (g x)) →
      (Instr.sliceBounds isS n cap (lo.map g) (hi.map g) none).run P w = .ok (l, u, cap) w := by
  unfold boundV at h
  split at h
  · rename_i e1 e2
    obtain rfl := Option.map_eq_none_iff.1 e1
    obtain rfl := Option.map_eq_none_iff.1 e2
    exact ⟨0, n, by omega, Nat.le_refl _, h, fun P ok w ρ g isS cap hc _ _ => by simp [Instr.sliceBounds]⟩
  · rename_i q u e1 e2
    obtain rfl := Option.map_eq_none_iff.1 e1
    obtain ⟨y, rfl, hy⟩ := Option.map_eq_some_iff.1 e2
    obtain ⟨h0, h1⟩ := and_true h
    have hb := of_decide_eq_true h0
    refine ⟨0, u.toNat, by omega, by omega, h1, fun P ok w ρ g isS cap hc _ hh => ?_⟩
    have := hh y rfl; rw [hy] at this
    have hle : 0 ≤ u ∧ u ≤ (cap : Int) := by omega
    simp [Instr.sliceBounds, this.int_inv, Instr.sliceBound, asIntOf, hle]
  · rename_i q l e1 e2
    obtain rfl := Option.map_eq_none_iff.1 e2
    obtain ⟨y, rfl, hy⟩ := Option.map_eq_some_iff.1 e1
    obtain ⟨h0, h1⟩ := and_true h
    have hb := of_decide_eq_true h0
    refine ⟨l.toNat, n, by omega, by omega, h1, fun P ok w ρ g isS cap hc hl _ => ?_⟩
    have := hl y rfl; rw [hy] at this
    simp [Instr.sliceBounds, this.int_inv, Instr.sliceBound, asIntOf, hb]
  · rename_i q l q' u e1 e2
    obtain ⟨y, rfl, hy⟩ := Option.map_eq_some_iff.1 e1
    obtain ⟨z, rfl, hz⟩ := Option.map_eq_some_iff.1 e2
    obtain ⟨h0, h1⟩ := and_true h
    have hb := of_decide_eq_true h0
    refine ⟨l.toNat, u.toNat, by omega, by omega, h1, fun P ok w ρ g isS cap hc hl hh => ?_⟩
    have t1 := hl y rfl; rw [hy] at t1
    have t2 := hh z rfl; rw [hz] at t2
    have hle : 0 ≤ u ∧ u ≤ (cap : Int) := by omega
    have hle2 : 0 ≤ l ∧ l ≤ (u.toNat : Int) := by omega
    simp only [Instr.sliceBounds, Option.map_some, t1.int_inv, t2.int_inv, Instr.sliceBound, asIntOf, Sem.run_bind, Sem.run_pure, Result.andThen_ok, Sem.run_ite, if_pos hle, if_pos hle2]
  · cases h

section
variable {cx : Cx} {base : Nat} {F : List V} {M : Heap} {k : KOp}

theorem slice_ops {t : TypeId} {x : Operand} {lo hi : Option Operand} : (∀ y, lo = some y → y ∈ (Op.slice t x lo hi none).operands) ∧ (∀ y, hi = some y → y ∈ (Op.slice t x lo hi none).operands) ∧ x ∈ (Op.slice t x lo hi none).operands := by
  refine ⟨?_, ?_, ?_⟩
  · rintro y rfl; simp [Op.operands]
  · rintro y rfl; simp [Op.operands]
  · simp [Op.operands]

theorem sound_slice {t : TypeId} {x : Operand} {lo hi mx : Option Operand} (h : opV cx base F M (.slice t x lo hi mx) k = true) : ∃ z U T, OpGood cx.P base F M (.slice t x lo hi mx) z U T ∧ k z U T = true := by
  cases mx with
  | some m => simp only [opV] at h; cases h
  | none =>
  simp only [opV] at h
  split at h
  · rename_i e ht
    split at h
    · rename_i s hs
      have run : ∀ (G : Gh) (w : World) (ρ : Rho) (L : LK) (a : Act) (o' : Oper) (l u n cap : Nat) (b : Option Addr), o'.op = .slice t x lo hi none → a.eval x = .slice b n cap →
          (Instr.sliceBounds true n cap (lo.map a.eval) (hi.map a.eval) none).run cx.P w = .ok (l, u, cap) w → (execOp a.eval o').run cx.P w = .ok (.value (.slice (if cap = l then b else b.map (·.add (l * s))) (u - l) (cap - l))) w := by
        intro G w ρ L a o' l u n cap b ho hx hb
        simp only [execOp, ho, hx, Option.map_none, Sem.run_bind, Instr.sliceAt, run_underlying ht, Result.andThen_ok, Instr.slice, hb, szOf_run hs, Sem.run_pure]
      split at h
      · rename_i xs ex
        obtain ⟨h0, h1⟩ := and_true h
        obtain rfl : s = 1 := by simpa using h0
        obtain ⟨l, u, hlu, hun, hk, hb⟩ := boundV_sound h1
        refine ⟨_, _, _, good_pure (fun G w ρ L a o' ho hsim hops hT => ?_), hk⟩
        have hx := hops x slice_ops.2.2; rw [ex] at hx
        have hl := fun y hy => hops y (slice_ops.1 y hy)
        have hu := fun y hy => hops y (slice_ops.2.1 y hy)
        rcases hx.rof_inv with ⟨rfl, hv⟩ | ⟨b, o, cap, g, hv, hok, hb', hcap, hcell, hrep⟩
        · obtain rfl : u = 0 := by simp at hun; omega
          obtain rfl : l = 0 := by omega
          refine ⟨_, w, run G w ρ L a o' 0 0 0 0 none ho hv (hb _ _ _ _ _ _ _ (by simp) hl hu), .inl rfl, ?_⟩
          simp; exact .rofn
        · refine ⟨_, w, run G w ρ L a o' l u _ cap _ ho hv (hb _ _ _ _ _ _ _ hcap hl hu), .inl rfl, ?_⟩
          have hlen : u - l = ((xs.take u).drop l).length := by simp; omega
          by_cases e : cap = l
          · subst e
            have he : (xs.take u).drop cap = [] := List.eq_nil_of_length_eq_zero (by rw [← hlen]; omega)
            rw [if_pos rfl, he, show u - cap = ([] : List Fl).length from by simp; omega]
            exact .rof [] b o _ g hok hb' (by simp) (by simp) (by simp)
          · rw [if_neg e, hlen, Nat.mul_one]
            simp only [Option.map_some, addr_add]
            refine .rof _ b (o + l) _ (fun i => g (l + i)) hok hb' (by rw [← hlen]; omega) ?_ ?_
            · intro i hi
              rw [← hlen] at hi
              rw [Nat.add_assoc]; exact hcell (l + i) (by omega)
            · intro i y hy
              rw [List.getElem?_drop, List.getElem?_take] at hy
              split at hy
              · exact hrep _ _ hy
              · cases hy
      · rename_i q xs ex
        obtain ⟨h0, h1⟩ := and_true h
        obtain rfl : s = 1 := by simpa using h0
        obtain ⟨l, u, hlu, hun, hk, hb⟩ := boundV_sound h1
        refine ⟨_, _, _, good_pure (fun G w ρ L a o' ho hsim hops hT => ?_), hk⟩
        have hx := hops x slice_ops.2.2; rw [ex] at hx
        have hl := fun y hy => hops y (slice_ops.1 y hy)
        have hu := fun y hy => hops y (slice_ops.2.1 y hy)
        rcases hx.roi_inv with ⟨rfl, hv⟩ | ⟨b, o, cap, hv, hok, hb', hcap, hcell⟩
        · obtain rfl : u = 0 := by simp at hun; omega
          obtain rfl : l = 0 := by omega
          refine ⟨_, w, run G w ρ L a o' 0 0 0 0 none ho hv (hb _ _ _ _ _ _ _ (by simp) hl hu), .inl rfl, ?_⟩
          simp; exact .roin _
        · refine ⟨_, w, run G w ρ L a o' l u _ cap _ ho hv (hb _ _ _ _ _ _ _ hcap hl hu), .inl rfl, ?_⟩
          have hlen : u - l = ((xs.take u).drop l).length := by simp; omega
          by_cases e : cap = l
          · subst e
            have he : (xs.take u).drop cap = [] := List.eq_nil_of_length_eq_zero (by rw [← hlen]; omega)
            rw [if_pos rfl, he, show u - cap = ([] : List Int).length from by simp; omega]
            exact .roi q [] b o _ hok hb' (by simp) (by simp)
          · rw [if_neg e, hlen, Nat.mul_one]
            simp only [Option.map_some, addr_add]
            refine .roi q _ b (o + l) _ hok hb' (by rw [← hlen]; omega) ?_
            intro i y hy
            rw [List.getElem?_drop, List.getElem?_take] at hy
            split at hy
            · rw [Nat.add_assoc]; exact hcell _ _ hy
            · cases hy
      · rename_i n ex
        split at h
        · rename_i blk hM
          obtain ⟨h0, h1⟩ := and_true h
          obtain ⟨h2, h3⟩ := and_true h1
          obtain rfl : s = blk.sz := by simpa using h0
          have hs0 : ¬ blk.sz = 0 := by simpa using h2
          obtain ⟨l, u, hlu, hun, hk, hb⟩ := boundV_sound h3
          refine ⟨_, _, _, good_pure (fun G w ρ L a o' ho hsim hops hT => ?_), hk⟩
          have hx := hops x slice_ops.2.2; rw [ex] at hx
          have hl := fun y hy => hops y (slice_ops.1 y hy)
          have hu := fun y hy => hops y (slice_ops.2.1 y hy)
          have hL : L n = some blk := by rw [hT n (by simp), hM]
          rcases hx.slw_inv with ⟨p, hp, hv⟩ | ⟨hp, hv⟩
          · obtain ⟨cur, c1, c2, c3, c4, c5, c6⟩ := hsim.place hL hp
            rw [count_eq c3 hs0] at hb hun
            refine ⟨_, w, run G w ρ L a o' l u _ p.cap _ ho hv (hb _ _ _ _ _ _ _ c4 hl hu), .inl rfl, ?_⟩
            by_cases e : p.cap = l
            · rw [if_pos e]; exact .sl n _ _ _ 0 p hp (by omega) (.inr (by omega))
            · rw [if_neg e]
              simp only [Option.map_some, addr_add, Nat.zero_add]
              exact .sl n _ _ _ _ p hp (by omega) (.inl (scale_eq _ _).symm)
          · rw [count_zero (hsim.empty hL hp)] at hb hun
            obtain rfl : u = 0 := by omega
            obtain rfl : l = 0 := by omega
            refine ⟨_, w, run G w ρ L a o' 0 0 0 0 none ho hv (hb _ _ _ _ _ _ _ (by simp) hl hu), .inl rfl, ?_⟩
            simp; exact .slvp _ _ hp
        · cases h
      · rename_i n o len ex
        split at h
        · rename_i blk hM
          obtain ⟨h0, h1⟩ := and_true h
          obtain ⟨h2, h3⟩ := and_true h1
          obtain rfl : s = blk.sz := by simpa using h0
          obtain ⟨l, u, hlu, hun, hk, hb⟩ := boundV_sound h3
          refine ⟨_, _, _, good_pure (fun G w ρ L a o' ho hsim hops hT => ?_), hk⟩
          have hx := hops x slice_ops.2.2; rw [ex] at hx
          have hl := fun y hy => hops y (slice_ops.1 y hy)
          have hu := fun y hy => hops y (slice_ops.2.1 y hy)
          rcases hx.sl_inv with ⟨p, cap, of, hp, hcap, ho', hv⟩ | ⟨hp, rfl, hv⟩
          · refine ⟨_, w, run G w ρ L a o' l u _ cap _ ho hv (hb _ _ _ _ _ _ _ hcap hl hu), .inl rfl, ?_⟩
            by_cases e : cap = l
            · rw [if_pos e]; exact .sl n _ _ _ _ p hp (by omega) (.inr (by omega))
            · rw [if_neg e]
              simp only [Option.map_some, addr_add]
              refine .sl n _ _ _ _ p hp (by omega) ?_
              rcases ho' with rfl | h0
              · exact .inl (by rw [scale_eq])
              · exact .inr (by omega)
          · obtain rfl : u = 0 := by omega
            obtain rfl : l = 0 := by omega
            refine ⟨_, w, run G w ρ L a o' 0 0 0 0 none ho hv (hb _ _ _ _ _ _ _ (by simp) hl hu), .inl rfl, ?_⟩
            simp; exact .slvp _ _ hp
        · cases h
      · cases h
    · cases h
  · rename_i len e ht
    split at h
    · rename_i s hs
      split at h
      · rename_i n o ex
        split at h
        · rename_i blk hM
          obtain ⟨h0, h1⟩ := and_true h
          obtain ⟨h2, h3⟩ := and_true h1
          obtain rfl : s = 1 := by simpa using h2
          obtain ⟨l, u, hlu, hun, hk, hb⟩ := boundV_sound h3
          refine ⟨_, _, _, good_pure (fun G w ρ L a o' ho hsim hops hT => ?_), hk⟩
          have hx := hops x slice_ops.2.2; rw [ex] at hx
          have hl := fun y hy => hops y (slice_ops.1 y hy)
          have hu := fun y hy => hops y (slice_ops.2.1 y hy)
          obtain ⟨p, hp, hv⟩ := hx.ptr_inv
          have hbb := hb cx.P (okc G ρ L) w ρ a.eval false len (Nat.le_refl _) hl hu
          refine ⟨.slice (some (if len = l then ⟨p.b, o, none⟩ else ⟨p.b, o + l * 1, none⟩)) (u - l) (len - l), w, ?_, .inl rfl, ?_⟩
          · simp only [execOp, ho, hv, Option.map_none, Sem.run_bind, Instr.sliceAt, run_underlying ht, Result.andThen_ok, Instr.sureAddr, Sem.run_pure, hbb, szOf_run hs, addr_add]
          · by_cases e : len = l
            · rw [if_pos e]; exact .sl n _ _ _ _ p hp (by omega) (.inr (by omega))
            · rw [if_neg e]; exact .sl n _ _ _ _ p hp (by omega) (.inl (by rw [scale_eq]))
        · cases h
      · cases h
    · cases h
  · cases h

theorem Body.cut_sound {c c' : Body} {o n : Nat} (h : c.cut o n = some c') : c'.size = n ∧ o + n ≤ c.size ∧ ∀ i, i < n → c'.at i = c.at (o + i) := by
  cases c with
  | flts xs =>
    simp only [Body.cut] at h
    by_cases e : o + n ≤ xs.length
    · rw [decide_eq_true e, cond_true] at h; cases h
      exact ⟨by simp [Body.size]; omega, e, fun i hi => by simp [Body.at, hi]⟩
    · rw [decide_eq_false e, cond_false] at h; cases h
  | ints q xs =>
    simp only [Body.cut] at h
    by_cases e : o + n ≤ xs.length
    · rw [decide_eq_true e, cond_true] at h; cases h
      exact ⟨by simp [Body.size]; omega, e, fun i hi => by simp [Body.at, hi]⟩
    · rw [decide_eq_false e, cond_false] at h; cases h
  | cells cs =>
    simp only [Body.cut] at h
    by_cases e : o + n ≤ cs.length
    · rw [decide_eq_true e, cond_true] at h; cases h
      exact ⟨by simp [Body.size]; omega, e, fun i hi => by simp [Body.at, hi]⟩
    · rw [decide_eq_false e, cond_false] at h; cases h
theorem cond_some {α : Type} {b : Bool} {x : Option α} {y : α} (h : cond b x none = some y) : b = true ∧ x = some y := by
  cases b
  · cases h
  · exact ⟨rfl, h⟩

/-- what the source of an append is -/
theorem srcBody_sound {M : Heap} {sz : Nat} {x : V} {src : Body} (hsz : ¬ sz = 0) (h : srcBody M sz x = some src) :
    ∀ (G : Gh) (w : World) (ρ : Rho) (L : LK) (v : Value), SimW G w ρ L → (∀ n, n ∈ x.refs → L n = look M n) → Rep (okc G ρ L) w ρ x v →
      ∃ (m c : Nat) (a : Option Addr) (news : List Value), v = .slice a m c ∧ m * sz = src.size ∧ news.length = src.size ∧ (∀ u ∈ news, u.oneCell' = true) ∧ (∀ (j : Nat) z u, src.at j = some z → news[j]? = some u → Rep (okc G ρ L) w ρ z u) ∧
        (¬ m = 0 → ∃ b, a = some b ∧ ∀ (j : Nat) u, news[j]? = some u → w.cell? (b.add j) = some u) := by
  intro G w ρ L v hsim hagree hx
  have pick : ∀ (b o n : Nat) (c : Body), (∀ i z, i < n → c.at i = some z → ∃ u, w.cell? ⟨b, o + i, none⟩ = some u ∧ u.oneCell' = true ∧ Rep (okc G ρ L) w ρ z u) → c.size = n →
      ∃ news : List Value, news.length = c.size ∧ (∀ u ∈ news, u.oneCell' = true) ∧ (∀ (j : Nat) z u, c.at j = some z → news[j]? = some u → Rep (okc G ρ L) w ρ z u) ∧ ∀ (j : Nat) u, news[j]? = some u → w.cell? ((⟨b, o, none⟩ : Addr).add j) = some u := by
    intro b o n c hc hn
    have hf : ∀ i, ∃ u : Value, i < n → (w.cell? ⟨b, o + i, none⟩ = some u ∧ u.oneCell' = true ∧ ∀ z, c.at i = some z → Rep (okc G ρ L) w ρ z u) := by
      intro i
      by_cases hi : i < n
      · obtain ⟨z, hz⟩ := Body.at_some (c := c) (i := i) (by omega)
        obtain ⟨u, h1, h2, h3⟩ := hc i z hi hz
        exact ⟨u, fun _ => ⟨h1, h2, fun z' hz' => by rw [hz] at hz'; cases hz'; exact h3⟩⟩
      · exact ⟨.bool false, fun h => absurd h hi⟩
    obtain ⟨f, hf⟩ := Classical.skolem.1 hf
    refine ⟨(List.range n).map f, by simp [hn], ?_, ?_, ?_⟩
    · intro u hu
      obtain ⟨i, hi, rfl⟩ := List.mem_map.1 hu
      exact (hf i (List.mem_range.1 hi)).2.1
    · intro j z u hz hu
      have hj : j < n := by have := Body.at_lt hz; omega
      rw [List.getElem?_map, List.getElem?_range hj] at hu
      cases hu
      exact (hf j hj).2.2 z hz
    · intro j u hu
      have hj : j < n := by have := (List.getElem?_eq_some_iff.1 hu).1; simpa using this
      rw [List.getElem?_map, List.getElem?_range hj] at hu
      cases hu
      rw [addr_add]; exact (hf j hj).1
  have empty : ∀ (c : Body) (a : Option Addr) (cap : Nat), c.size = 0 → ∃ (m c' : Nat) (a' : Option Addr) (news : List Value), Value.slice a 0 cap = .slice a' m c' ∧ m * sz = c.size ∧ news.length = c.size ∧ (∀ u ∈ news, u.oneCell' = true) ∧ (∀ (j : Nat) z u, c.at j = some z → news[j]? = some u → Rep (okc G ρ L) w ρ z u) ∧
        (¬ m = 0 → ∃ b, a' = some b ∧ ∀ (j : Nat) u, news[j]? = some u → w.cell? (b.add j) = some u) := by
    intro c a cap hc
    exact ⟨0, cap, a, [], rfl, by simp [hc], by simp [hc], by simp, by simp, by simp⟩
  unfold srcBody at h
  split at h
  · cases h
    obtain rfl := hx.nil_inv
    exact empty _ _ _ rfl
  · rename_i xs
    obtain ⟨e, h'⟩ := cond_some h
    clear h
    obtain rfl : sz = 1 := by simpa using e
    cases h'
    rcases hx.rof_inv with ⟨rfl, rfl⟩ | ⟨b, o, cap, g, rfl, hok, hb, hcap, hcell, hrep⟩
    · exact empty _ _ _ rfl
    · obtain ⟨news, n1, n2, n3, n4⟩ := pick b o xs.length (.flts xs) (fun i z hi hz => by
        simp only [Body.at, Option.map_eq_some_iff] at hz
        obtain ⟨y, hy, rfl⟩ := hz
        exact ⟨g i, hcell i hi, frep_one (hrep i y hy), .flt _ _ (hrep i y hy)⟩) rfl
      exact ⟨_, _, _, news, rfl, by simp [Body.size], n1, n2, n3, fun _ => ⟨_, rfl, n4⟩⟩
  · rename_i q xs
    obtain ⟨e, h'⟩ := cond_some h
    clear h
    obtain rfl : sz = 1 := by simpa using e
    cases h'
    rcases hx.roi_inv with ⟨rfl, rfl⟩ | ⟨b, o, cap, rfl, hok, hb, hcap, hcell⟩
    · exact empty _ _ _ rfl
    · obtain ⟨news, n1, n2, n3, n4⟩ := pick b o xs.length (.ints q xs) (fun i z hi hz => by
        simp only [Body.at, Option.map_eq_some_iff] at hz
        obtain ⟨y, hy, rfl⟩ := hz
        exact ⟨_, hcell i y hy, rfl, .int _ _⟩) rfl
      exact ⟨_, _, _, news, rfl, by simp [Body.size], n1, n2, n3, fun _ => ⟨_, rfl, n4⟩⟩
  · rename_i s cs
    obtain ⟨e, h'⟩ := cond_some h
    clear h
    obtain rfl : s = sz := by simpa using e
    cases h'
    rcases hx.ro_inv with ⟨rfl, rfl⟩ | ⟨b, o, len, cap, g, rfl, hok, hb, hl, hcap, hcell, hone, hrep⟩
    · exact empty _ _ _ rfl
    · obtain ⟨news, n1, n2, n3, n4⟩ := pick b o cs.length (.cells cs) (fun i z hi hz => ⟨g i, hcell i hi, hone i hi, hrep i z hz⟩) rfl
      exact ⟨_, _, _, news, rfl, by simp [Body.size, hl], n1, n2, n3, fun _ => ⟨_, rfl, n4⟩⟩
  · rename_i n
    split at h
    · rename_i blk hM
      obtain ⟨e, h'⟩ := cond_some h
      clear h
      obtain rfl : blk.sz = sz := by simpa using e
      cases h'
      have hL : L n = some blk := by rw [hagree n (by simp [V.refs]), hM]
      rcases hx.slw_inv with ⟨p, hp, rfl⟩ | ⟨hp, rfl⟩
      · obtain ⟨cur, c1, c2, c3, c4, c5, c6⟩ := hsim.place hL hp
        obtain ⟨news, n1, n2, n3, n4⟩ := pick p.b 0 blk.c.size blk.c (fun i z hi hz => by
          obtain ⟨u, u1, u2, u3⟩ := c6 i z hz
          exact ⟨u, by rw [Nat.zero_add]; exact cell_of_heap c1 u1, u2, u3⟩) rfl
        exact ⟨_, _, _, news, rfl, c3, n1, n2, n3, fun _ => ⟨_, rfl, n4⟩⟩
      · exact empty _ _ _ (hsim.empty hL hp)
    · cases h
  · rename_i n o len
    split at h
    · rename_i blk hM
      obtain ⟨e, h'⟩ := cond_some h
      clear h
      obtain rfl : blk.sz = sz := by simpa using e
      obtain ⟨hcs, hle, hat⟩ := Body.cut_sound h'
      rw [scale_eq] at hcs hle hat
      have hL : L n = some blk := by rw [hagree n (by simp [V.refs]), hM]
      rcases hx.sl_inv with ⟨p, cap, o', hp, hcap, ho', rfl⟩ | ⟨hp, rfl, rfl⟩
      · rcases ho' with rfl | rfl
        · obtain ⟨cur, c1, c2, c3, c4, c5, c6⟩ := hsim.place hL hp
          obtain ⟨news, n1, n2, n3, n4⟩ := pick p.b o' (len * blk.sz) src (fun i z hi hz => by
            rw [hat i hi] at hz
            obtain ⟨u, u1, u2, u3⟩ := c6 _ z hz
            exact ⟨u, cell_of_heap c1 u1, u2, u3⟩) hcs
          exact ⟨_, _, _, news, rfl, hcs.symm, n1, n2, n3, fun _ => ⟨_, rfl, n4⟩⟩
        · exact empty _ _ _ (by simpa using hcs)
      · exact empty _ _ _ (by simpa using hcs)
    · cases h
  · cases h
end
end Go.Mach
