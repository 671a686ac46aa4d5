/-
  THE MACHINE, eighth part: addresses, lengths, slices, loads do as the machine says.
  Conditions: none.
-/
import Derived.Test.YtoagmokejfcpbaaMachG
namespace Go.Mach

/-! ### bodies -/
theorem Body.get_sound {c : Body} {o : Nat} {k : V → Bool} (h : c.get o k = true) : ∃ z, c.at o = some z ∧ k z = true := by
  cases c with
  | flts xs =>
    simp only [Body.get] at h
    obtain ⟨h0, h1⟩ := and_true h
    have hl := of_decide_eq_true h0
    exact ⟨_, by simp [Body.at, hl]; rfl, by simpa [hl] using h1⟩
  | ints q xs =>
    simp only [Body.get] at h
    obtain ⟨h0, h1⟩ := and_true h
    have hl := of_decide_eq_true h0
    exact ⟨_, by simp [Body.at, hl]; rfl, by simpa [hl] using h1⟩
  | cells cs =>
    simp only [Body.get] at h
    split at h
    · rename_i v e; exact ⟨v, e, h⟩
    · cases h
theorem Body.part_sound {c : Body} {o s : Nat} {k : List V → Bool} (h : c.part o s k = true) : ∃ zs, zs.length = s ∧ (∀ (i : Nat) z, zs[i]? = some z → c.at (o + i) = some z) ∧ k zs = true := by
  cases c with
  | flts xs =>
    simp only [Body.part] at h
    obtain ⟨h0, h1⟩ := and_true h
    have hl := of_decide_eq_true h0
    refine ⟨_, by simp; omega, ?_, h1⟩
    intro i z hz
    simp only [List.getElem?_map, List.getElem?_take, List.getElem?_drop] at hz
    split at hz
    · exact hz
    · simp at hz
  | ints q xs =>
    simp only [Body.part] at h
    obtain ⟨h0, h1⟩ := and_true h
    have hl := of_decide_eq_true h0
    refine ⟨_, by simp; omega, ?_, h1⟩
    intro i z hz
    simp only [List.getElem?_map, List.getElem?_take, List.getElem?_drop] at hz
    split at hz
    · exact hz
    · simp at hz
  | cells cs =>
    simp only [Body.part] at h
    obtain ⟨h0, h1⟩ := and_true h
    have hl := of_decide_eq_true h0
    refine ⟨_, by simp; omega, ?_, h1⟩
    intro i z hz
    simp only [List.getElem?_take, List.getElem?_drop] at hz
    split at hz
    · exact hz
    · simp at hz

theorem setFrom_length {α : Type} : ∀ (vs cs : List α) (o : Nat), (setFrom cs o vs).length = cs.length
  | [], _, _ => rfl
  | v :: r, cs, o => by simp [setFrom, setFrom_length r]
theorem setFrom_get {α : Type} : ∀ (vs cs : List α) (o i : Nat), o + vs.length ≤ cs.length → (setFrom cs o vs)[i]? = if o ≤ i ∧ i < o + vs.length then vs[i - o]? else cs[i]?
  | [], cs, o, i, _ => by
    rw [if_neg (by simp only [List.length_nil]; omega)]; rfl
  | v :: r, cs, o, i, h => by
    simp only [List.length_cons] at h
    rw [setFrom, setFrom_get r (cs.set o v) (o + 1) i (by simp; omega)]
    simp only [List.length_cons]
    by_cases e : i = o
    · subst e
      rw [if_neg (by omega), if_pos (by omega), List.getElem?_set]
      simp; try omega
    · by_cases h1 : o + 1 ≤ i ∧ i < o + 1 + r.length
      · rw [if_pos h1, if_pos (by omega), show i - o = (i - (o + 1)) + 1 from by omega]
        rfl
      · rw [if_neg h1, if_neg (by omega), List.getElem?_set_ne (by omega)]

theorem Body.set_sound {c : Body} {o : Nat} {v : V} {k : Body → Bool} (h : c.set o v k = true) :
    ∃ c', k c' = true ∧ c'.size = c.size ∧ o < c.size ∧ v.one = true ∧ ∀ i z, c'.at i = some z → (i = o ∧ z = v) ∨ (i ≠ o ∧ c.at i = some z) := by
  unfold Body.set at h
  split at h
  · rename_i xs x
    obtain ⟨h0, h1⟩ := and_true h
    have hl := of_decide_eq_true h0
    refine ⟨_, h1, by simp [Body.size], hl, rfl, ?_⟩
    intro i z hz
    simp only [Body.at, List.getElem?_set] at hz ⊢
    by_cases e : o = i
    · subst e; simp [hl] at hz; exact .inl ⟨rfl, hz.symm⟩
    · simp only [e, if_false] at hz; exact .inr ⟨fun e' => e e'.symm, hz⟩
  · rename_i q xs q' n
    obtain ⟨h0, h1⟩ := and_true h
    obtain ⟨h1, h2⟩ := and_true h1
    obtain rfl := of_decide_eq_true h0
    have hl := of_decide_eq_true h1
    refine ⟨_, h2, by simp [Body.size], hl, rfl, ?_⟩
    intro i z hz
    simp only [Body.at, List.getElem?_set] at hz ⊢
    by_cases e : o = i
    · subst e; simp [hl] at hz; exact .inl ⟨rfl, hz.symm⟩
    · simp only [e, if_false] at hz; exact .inr ⟨fun e' => e e'.symm, hz⟩
  · rename_i cs
    split at h
    · rename_i u e
      obtain ⟨h0, h1⟩ := and_true h
      have hl : o < cs.length := (List.getElem?_eq_some_iff.1 e).1
      refine ⟨_, h1, by simp [Body.size], hl, h0, ?_⟩
      intro i z hz
      simp only [Body.at, List.getElem?_set] at hz ⊢
      by_cases e : o = i
      · subst e; simp [hl] at hz; exact .inl ⟨rfl, hz.symm⟩
      · simp only [e, if_false] at hz; exact .inr ⟨fun e' => e e'.symm, hz⟩
    · cases h
  · cases h
theorem Body.setPart_sound {c : Body} {o : Nat} {vs : List V} {k : Body → Bool} (h : c.setPart o vs k = true) :
    ∃ c', k c' = true ∧ c'.size = c.size ∧ o + vs.length ≤ c.size ∧ vs.all V.one = true ∧ ∀ i z, c'.at i = some z → (o ≤ i ∧ i < o + vs.length ∧ vs[i - o]? = some z) ∨ (¬ (o ≤ i ∧ i < o + vs.length) ∧ c.at i = some z) := by
  unfold Body.setPart at h
  split at h
  · rename_i cs
    obtain ⟨h0, h1⟩ := and_true h
    obtain ⟨h1, h2⟩ := and_true h1
    have hl := of_decide_eq_true h0
    refine ⟨_, h2, setFrom_length _ _ _, hl, h1, ?_⟩
    intro i z hz
    simp only [Body.at, setFrom_get _ _ _ _ hl] at hz ⊢
    by_cases e : o ≤ i ∧ i < o + vs.length
    · rw [if_pos e] at hz; exact .inl ⟨e.1, e.2, hz⟩
    · rw [if_neg e] at hz; exact .inr ⟨e, hz⟩
  · cases h

theorem count_le {blk : Blk} {len : Nat} (h : len * blk.sz = blk.c.size) : blk.count ≤ len := by
  unfold Blk.count
  split
  · rename_i e; rw [e] at h; omega
  · rw [← h]
    by_cases h0 : blk.sz = 0
    · simp [h0]
    · rw [Nat.mul_div_cancel _ (by omega)]; omega
theorem count_eq {blk : Blk} {len : Nat} (h : len * blk.sz = blk.c.size) (h0 : ¬ blk.sz = 0) : blk.count = len := by
  unfold Blk.count
  split
  · rename_i e; rw [e] at h; omega
  · rw [← h, Nat.mul_div_cancel _ (by omega)]

/-! ### what a slice is -/
section
variable {ok : Nat → Prop} {w : World} {ρ : Rho} {v : Value}
theorem Rep.slw_inv {n : Nat} (h : Rep ok w ρ (.slw n) v) : (∃ p, ρ n = some (some p) ∧ v = .slice (some ⟨p.b, 0, none⟩) p.len p.cap) ∨ (ρ n = some none ∧ v = .slice none 0 0) := by
  cases h with
  | slw n p h => exact .inl ⟨p, h, rfl⟩
  | slv n h => exact .inr ⟨h, rfl⟩
theorem Rep.sl_inv {n o len : Nat} (h : Rep ok w ρ (.sl n o len) v) : (∃ p cap o', ρ n = some (some p) ∧ len ≤ cap ∧ (o' = o ∨ len = 0) ∧ v = .slice (some ⟨p.b, o', none⟩) len cap) ∨ (ρ n = some none ∧ len = 0 ∧ v = .slice none 0 0) := by
  cases h with
  | sl n o len cap o' p h hl ho => exact .inl ⟨p, cap, o', h, hl, ho, rfl⟩
  | slvp n o h => exact .inr ⟨h, rfl, rfl⟩
theorem Rep.rof_inv {xs : List Fl} (h : Rep ok w ρ (.rof xs) v) : (xs = [] ∧ v = .slice none 0 0) ∨ ∃ (b o cap : Nat) (g : Nat → Value), v = .slice (some ⟨b, o, none⟩) xs.length cap ∧ ok b ∧ b < w.heap.size ∧ xs.length ≤ cap ∧
    (∀ i, i < xs.length → w.cell? ⟨b, o + i, none⟩ = some (g i)) ∧ (∀ (i : Nat) x, xs[i]? = some x → FRep x (g i)) := by
  cases h with
  | rofn => exact .inl ⟨rfl, rfl⟩
  | rof xs b o cap g h1 h2 h3 h4 h5 => exact .inr ⟨b, o, cap, g, rfl, h1, h2, h3, h4, h5⟩
theorem Rep.roi_inv {k : IntKind} {xs : List Int} (h : Rep ok w ρ (.roi k xs) v) : (xs = [] ∧ v = .slice none 0 0) ∨ ∃ (b o cap : Nat), v = .slice (some ⟨b, o, none⟩) xs.length cap ∧ ok b ∧ b < w.heap.size ∧ xs.length ≤ cap ∧
    (∀ (i : Nat) x, xs[i]? = some x → w.cell? ⟨b, o + i, none⟩ = some (.int k x)) := by
  cases h with
  | roin => exact .inl ⟨rfl, rfl⟩
  | roi k xs b o cap h1 h2 h3 h4 => exact .inr ⟨b, o, cap, rfl, h1, h2, h3, h4⟩
theorem Rep.ro_inv {sz : Nat} {cs : List V} (h : Rep ok w ρ (.ro sz cs) v) : (cs = [] ∧ v = .slice none 0 0) ∨ ∃ (b o len cap : Nat) (g : Nat → Value), v = .slice (some ⟨b, o, none⟩) len cap ∧ ok b ∧ b < w.heap.size ∧ len * sz = cs.length ∧ len ≤ cap ∧
    (∀ i, i < cs.length → w.cell? ⟨b, o + i, none⟩ = some (g i)) ∧ (∀ i, i < cs.length → (g i).oneCell' = true) ∧ (∀ (i : Nat) c, cs[i]? = some c → Rep ok w ρ c (g i)) := by
  cases h with
  | ron => exact .inl ⟨rfl, rfl⟩
  | ro sz cs b o len cap g h1 h2 h3 h4 h5 h6 h7 => exact .inr ⟨b, o, len, cap, g, rfl, h1, h2, h3, h4, h5, h6, h7⟩
end

theorem elemOf_some {P : Program} {t e : Nat} (h : elemOf P t = some e) : P.underlying t = some (.slice e) := by
  unfold elemOf at h; split at h
  · cases h; assumption
  · cases h

/-- the place of a name that is live and looked at -/
theorem SimW.place {G : Gh} {w : World} {ρ : Rho} {L : LK} (hs : SimW G w ρ L) {n : Nat} {blk : Blk} {p : Place} (hL : L n = some blk) (hp : ρ n = some (some p)) :
    ∃ cur, w.heap[p.b]? = some (.cells cur blk.e (0, 0)) ∧ cur.size = p.cap * blk.sz ∧ p.len * blk.sz = blk.c.size ∧ p.len ≤ p.cap ∧ p.cap ≤ maxLen ∧ BodyRep (okc G ρ L) w ρ blk.c cur := by
  obtain ⟨q, hq, hb⟩ := hs.blks n blk hL
  rw [hp] at hq; cases hq
  exact hb
theorem SimW.empty {G : Gh} {w : World} {ρ : Rho} {L : LK} (hs : SimW G w ρ L) {n : Nat} {blk : Blk} (hL : L n = some blk) (hp : ρ n = some none) : blk.c.size = 0 := by
  obtain ⟨q, hq, hb⟩ := hs.blks n blk hL
  rw [hp] at hq; cases hq
  exact hb
theorem count_zero {blk : Blk} (h : blk.c.size = 0) : blk.count = 0 := by
  unfold Blk.count; split <;> simp [h]

theorem idx_run {P : Program} {w : World} {t e s b o len cap : Nat} {q : IntKind} {i : Int} (ht : P.underlying t = some (.slice e)) (hs : szOf P e = some s) (h0 : 0 ≤ i) (h1 : i < (len : Int)) :
    (Instr.indexAt t (.slice (some ⟨b, o, none⟩) len cap) (.int q i)).run P w = .ok (.pointer (some ⟨b, o + i.toNat * s, none⟩)) w := by
  simp [Instr.indexAt, asIntOf, run_underlying ht, h0, h1, szOf_run hs, addr_add]
theorem idx_run_arr {P : Program} {w : World} {t e s b o len : Nat} {q : IntKind} {i : Int} (ht : P.underlying t = some (.array len e)) (hs : szOf P e = some s) (h0 : 0 ≤ i) (h1 : i < (len : Int)) :
    (Instr.indexAt t (.pointer (some ⟨b, o, none⟩)) (.int q i)).run P w = .ok (.pointer (some ⟨b, o + i.toNat * s, none⟩)) w := by
  simp [Instr.indexAt, asIntOf, run_underlying ht, Instr.sureAddr, h0, h1, szOf_run hs, addr_add]

theorem idxV_sound {P : Program} {M : Heap} {t : TypeId} {x : V} {q : IntKind} {i : Int} {k : V → Bool} (h : idxV P M t x i k = true) :
    ∃ z, k z = true ∧ ∀ (G : Gh) (w : World) (ρ : Rho) (L : LK) (v : Value), SimW G w ρ L → (∀ n, n ∈ x.refs → L n = look M n) → Rep (okc G ρ L) w ρ x v →
      ∃ r, (Instr.indexAt t v (.int q i)).run P w = .ok r w ∧ Rep (okc G ρ L) w ρ z r := by
  unfold idxV at h
  split at h
  · rename_i e ht
    split at h
    · rename_i s hs
      split at h
      · rename_i xs
        obtain ⟨h1, h'⟩ := and_true h
        obtain ⟨h2, h''⟩ := and_true h'
        clear h h'
        obtain rfl : s = 1 := by simpa using h1
        have hi := inR_iff h2
        refine ⟨_, h'', fun G w ρ L v _ _ hx => ?_⟩
        rcases hx.rof_inv with ⟨rfl, _⟩ | ⟨b, o, cap, g, rfl, ho, hb, hc, hcell, hrep⟩
        · simp at hi; omega
        · have hlt : i.toNat < xs.length := by omega
          exact ⟨_, idx_run ht hs hi.1 hi.2, .pf xs _ b _ (g i.toNat) (by rw [Nat.mul_one]; exact hcell _ hlt) (by simpa [hlt] using hrep i.toNat _ (by simp [hlt])) ho hb⟩
      · rename_i q' xs
        obtain ⟨h1, h'⟩ := and_true h
        obtain ⟨h2, h''⟩ := and_true h'
        clear h h'
        obtain rfl : s = 1 := by simpa using h1
        have hi := inR_iff h2
        refine ⟨_, h'', fun G w ρ L v _ _ hx => ?_⟩
        rcases hx.roi_inv with ⟨rfl, _⟩ | ⟨b, o, cap, rfl, ho, hb, hc, hcell⟩
        · simp at hi; omega
        · have hlt : i.toNat < xs.length := by omega
          exact ⟨_, idx_run ht hs hi.1 hi.2, .pi q' xs _ b _ (by rw [Nat.mul_one]; simpa [hlt] using hcell i.toNat _ (by simp [hlt])) ho hb⟩
      · rename_i sz cs
        obtain ⟨h1, h'⟩ := and_true h
        obtain ⟨h2, h'⟩ := and_true h'
        obtain ⟨h3, h''⟩ := and_true h'
        clear h h'
        obtain rfl : s = sz := by simpa using h1
        have hs0 : ¬ s = 0 := by simpa using h2
        have hi := inR_iff h3
        refine ⟨_, h'', fun G w ρ L v _ _ hx => ?_⟩
        rcases hx.ro_inv with ⟨rfl, _⟩ | ⟨b, o, len, cap, g, rfl, ho, hb, hl, hc, hcell, h1, hrep⟩
        · simp at hi; omega
        · have hlen : cs.length / s = len := by rw [← hl, Nat.mul_div_cancel _ (by omega)]
          rw [hlen] at hi
          refine ⟨_, idx_run ht hs hi.1 hi.2, .rp cs _ b _ g ho hb ?_ h1 hrep⟩
          intro j hj
          rw [scale_eq] at hj ⊢
          have := hcell (i.toNat * s + j) hj
          rw [← Nat.add_assoc] at this
          exact this
      · rename_i n
        split at h
        · rename_i blk hM
          obtain ⟨h1, h⟩ := and_true h
          obtain ⟨h2, h⟩ := and_true h
          obtain rfl : s = blk.sz := by simpa using h1
          have hi := inR_iff h2
          refine ⟨_, h, fun G w ρ L v hsim hagree hx => ?_⟩
          have hL : L n = some blk := by rw [hagree n (by simp [V.refs]), hM]
          rcases hx.slw_inv with ⟨p, hp, rfl⟩ | ⟨hp, rfl⟩
          · obtain ⟨cur, c1, c2, c3, c4, c5, c6⟩ := hsim.place hL hp
            have := count_le c3
            refine ⟨_, idx_run ht hs hi.1 (by omega), ?_⟩
            rw [scale_eq, Nat.zero_add]
            exact .ptr n _ p hp
          · have := count_zero (hsim.empty hL hp); omega
        · cases h
      · rename_i n o len
        split at h
        · rename_i blk hM
          obtain ⟨h1, h⟩ := and_true h
          obtain ⟨h2, h⟩ := and_true h
          have hi := inR_iff h2
          refine ⟨_, h, fun G w ρ L v hsim hagree hx => ?_⟩
          rcases hx.sl_inv with ⟨p, cap, o', hp, hcap, ho', rfl⟩ | ⟨hp, rfl, _⟩
          · obtain rfl : o' = o := ho'.resolve_right (by omega)
            refine ⟨_, idx_run ht hs hi.1 hi.2, ?_⟩
            rw [scale_eq]
            exact .ptr n _ p hp
          · simp at hi; omega
        · cases h
      · cases h
    · cases h
  · rename_i len e ht
    split at h
    · rename_i s hs
      split at h
      · rename_i n o
        obtain ⟨h1, h⟩ := and_true h
        have hi := inR_iff h1
        refine ⟨_, h, fun G w ρ L v hsim hagree hx => ?_⟩
        obtain ⟨p, hp, rfl⟩ := hx.ptr_inv
        refine ⟨_, idx_run_arr ht hs hi.1 hi.2, ?_⟩
        rw [scale_eq]
        exact .ptr n _ p hp
      · rename_i cs o
        obtain ⟨h1, h⟩ := and_true h
        have hi := inR_iff h1
        refine ⟨_, h, fun G w ρ L v hsim hagree hx => ?_⟩
        obtain ⟨b, o', g, rfl, ho, hb, hc, hone, hr⟩ := hx.rp_inv
        refine ⟨_, idx_run_arr ht hs hi.1 hi.2, .rp cs _ b _ g ho hb ?_ hone hr⟩
        intro j hj
        rw [scale_eq] at hj ⊢
        have := hc (i.toNat * s + j) (by omega)
        rw [← Nat.add_assoc, ← Nat.add_assoc] at this
        exact this
      · cases h
    · cases h
  · cases h

theorem lenV_sound {P : Program} {M : Heap} {t : TypeId} {x : V} {k : V → Bool} (h : lenV P M t x k = true) :
    ∃ z, k z = true ∧ ∀ (G : Gh) (w : World) (ρ : Rho) (L : LK) (v : Value) (ty : TypeId), SimW G w ρ L → (∀ n, n ∈ x.refs → L n = look M n) → Rep (okc G ρ L) w ρ x v →
      ∃ r, (Builtin.len_ #[t] ty #[v]).run P w = .ok r w ∧ Rep (okc G ρ L) w ρ z r := by
  have sl : ∀ {e : Nat} {w : World} (a : Option Addr) (n c : Nat) (ty : TypeId), P.underlying t = some (.slice e) → (Builtin.len_ #[t] ty #[.slice a n c]).run P w = .ok (.int .i64 n) w := by
    intro e w a n c ty ht
    simp [Builtin.len_, run_underlying ht, goInt]
  unfold lenV at h
  split at h
  · rename_i e ht
    exact ⟨_, h, fun G w ρ L v ty _ _ hx => by obtain rfl := hx.nil_inv; exact ⟨_, sl _ _ _ _ ht, .int _ _⟩⟩
  · rename_i e xs ht
    refine ⟨_, h, fun G w ρ L v ty _ _ hx => ?_⟩
    rcases hx.rof_inv with ⟨rfl, rfl⟩ | ⟨b, o, cap, g, rfl, _⟩
    · exact ⟨_, sl _ _ _ _ ht, .int _ _⟩
    · exact ⟨_, sl _ _ _ _ ht, .int _ _⟩
  · rename_i e q xs ht
    refine ⟨_, h, fun G w ρ L v ty _ _ hx => ?_⟩
    rcases hx.roi_inv with ⟨rfl, rfl⟩ | ⟨b, o, cap, rfl, _⟩
    · exact ⟨_, sl _ _ _ _ ht, .int _ _⟩
    · exact ⟨_, sl _ _ _ _ ht, .int _ _⟩
  · rename_i e sz cs ht
    obtain ⟨h1, h⟩ := and_true h
    have hs0 : ¬ sz = 0 := by simpa using h1
    refine ⟨_, h, fun G w ρ L v ty _ _ hx => ?_⟩
    rcases hx.ro_inv with ⟨rfl, rfl⟩ | ⟨b, o, len, cap, g, rfl, _, _, hl, _⟩
    · refine ⟨_, sl _ _ _ _ ht, ?_⟩; simp; exact .int _ _
    · refine ⟨_, sl _ _ _ _ ht, ?_⟩; rw [← hl, Nat.mul_div_cancel _ (by omega)]; exact .int _ _
  · rename_i e n ht
    split at h
    · rename_i blk hM
      obtain ⟨h1, h⟩ := and_true h
      have hs0 : ¬ blk.sz = 0 := by simpa using h1
      refine ⟨_, h, fun G w ρ L v ty hsim hagree hx => ?_⟩
      have hL : L n = some blk := by rw [hagree n (by simp [V.refs]), hM]
      rcases hx.slw_inv with ⟨p, hp, rfl⟩ | ⟨hp, rfl⟩
      · obtain ⟨cur, c1, c2, c3, c4, c5, c6⟩ := hsim.place hL hp
        refine ⟨_, sl _ _ _ _ ht, ?_⟩
        rw [count_eq c3 hs0]; exact .int _ _
      · refine ⟨_, sl _ _ _ _ ht, ?_⟩
        rw [count_zero (hsim.empty hL hp)]; exact .int _ _
    · cases h
  · rename_i e n o len ht
    refine ⟨_, h, fun G w ρ L v ty _ _ hx => ?_⟩
    rcases hx.sl_inv with ⟨p, cap, o', hp, hcap, _, rfl⟩ | ⟨hp, rfl, rfl⟩
    · exact ⟨_, sl _ _ _ _ ht, .int _ _⟩
    · exact ⟨_, sl _ _ _ _ ht, .int _ _⟩
  · rename_i n e ht
    refine ⟨_, h, fun G w ρ L v ty _ _ hx => ⟨.int .i64 n, ?_, .int _ _⟩⟩
    cases v <;> simp [Builtin.len_, run_underlying ht, goInt]
  · rename_i s ht
    refine ⟨_, h, fun G w ρ L v ty _ _ hx => ?_⟩
    obtain rfl := hx.val_inv
    exact ⟨.int .i64 s.size, by simp [Builtin.len_, run_underlying ht, goInt], .int _ _⟩
  · cases h

section
variable {cx : Cx} {base : Nat} {F : List V} {M : Heap} {k : KOp}

theorem sound_indexAddr {t : TypeId} {x j : Operand} (h : opV cx base F M (.indexAddr t x j) k = true) : ∃ z U T, OpGood cx.P base F M (.indexAddr t x j) z U T ∧ k z U T = true := by
  simp only [opV] at h
  split at h
  · rename_i q i e
    obtain ⟨z, hk, hz⟩ := idxV_sound (q := q) h
    refine ⟨z, _, _, good_pure (fun G w ρ L a o' ho hs hops hT => ?_), hk⟩
    have hj := hops j (by simp [Op.operands]); rw [e] at hj
    obtain ⟨r, hr, hrep⟩ := hz G w ρ L _ hs hT (hops x (by simp [Op.operands]))
    exact ⟨r, w, by simp [execOp, ho, hj.int_inv, hr], .inl rfl, hrep⟩
  · cases h

/-- a load of a place whose cells are known -/
theorem load_run {P : Program} {ok : Nat → Prop} {w : World} {ρ : Rho} {t s : Nat} {g : Bool} {b o : Nat} (hg : isAggT P t = some g) (hs : szOf P t = some s) {z : V}
    (h : (g = true ∧ ∃ zs, z = .agg zs ∧ zs.length = s ∧ ∀ (i : Nat) c, zs[i]? = some c → ∃ v, w.cell? ⟨b, o + i, none⟩ = some v ∧ v.oneCell' = true ∧ Rep ok w ρ c v) ∨
      (g = false ∧ ∃ v, w.cell? ⟨b, o, none⟩ = some v ∧ Rep ok w ρ z v)) :
    ∃ v, (Instr.loadAt t (.pointer (some ⟨b, o, none⟩))).run P w = .ok v w ∧ Rep ok w ρ z v := by
  rcases h with ⟨rfl, zs, rfl, hl, h⟩ | ⟨rfl, v, hc, hv⟩
  · have hf : ∀ i, ∃ u : Value, i < zs.length → (w.cell? ⟨b, o + i, none⟩ = some u ∧ u.oneCell' = true ∧ ∀ c, zs[i]? = some c → Rep ok w ρ c u) := by
      intro i
      by_cases hi : i < zs.length
      · obtain ⟨u, h1, h2, h3⟩ := h i zs[i] (by simp [hi])
        exact ⟨u, fun _ => ⟨h1, h2, fun c hc => by simp [hi] at hc; subst hc; exact h3⟩⟩
      · exact ⟨.bool false, fun h => absurd h hi⟩
    have hf' := Classical.skolem.1 hf
    obtain ⟨f, hf⟩ := hf'
    have hr : (loadCells ⟨b, o, none⟩ s).run P w = .ok ((List.range s).map f).toArray w :=
      run_loadCells w _ s f fun j hj => by rw [addr_add]; exact (hf j (by omega)).1
    refine ⟨.agg ((List.range s).map f).toArray, by simp only [Instr.loadAt, Instr.sureAddr, Sem.run_bind, Sem.run_pure, Result.andThen_ok, loadVar, isAggT_run hg, if_true, szOf_run hs, hr], .agg _ _ (by simp [hl]) ?_ ?_⟩
    · intro u hu
      obtain ⟨i, hi, rfl⟩ := List.mem_map.1 hu
      exact (hf i (by rw [hl]; exact List.mem_range.1 hi)).2.1
    · intro i c u hc hu
      have hi : i < zs.length := (List.getElem?_eq_some_iff.1 hc).1
      rw [List.getElem?_map, List.getElem?_range (by omega)] at hu
      cases hu
      exact (hf i hi).2.2 c hc
  · exact ⟨v, by simp [Instr.loadAt, Instr.sureAddr, loadVar, isAggT_run hg, hc], hv⟩

theorem cell_of_heap {w : World} {b o : Nat} {cur : Array Value} {e : Nat} {v : Value} (h : w.heap[b]? = some (.cells cur e (0, 0))) (hv : cur[o]? = some v) : w.cell? ⟨b, o, none⟩ = some v := by
  simp [World.cell?, h, hv]

theorem sound_load {t : TypeId} {x : Operand} (h : opV cx base F M (.load t x) k = true) : ∃ z U T, OpGood cx.P base F M (.load t x) z U T ∧ k z U T = true := by
  simp only [opV] at h
  split at h
  · rename_i ag s hag hsz
    split at h
    · rename_i n p e
      split at h
      · rename_i blk hM
        have main : ∀ z, ((ag = true ∧ ∃ zs, z = .agg zs ∧ zs.length = s ∧ ∀ (i : Nat) c, zs[i]? = some c → blk.c.at (p + i) = some c) ∨ (ag = false ∧ blk.c.at p = some z)) → OpGood cx.P base F M (.load t x) z [] [n] := by
          intro z hz
          refine good_pure (fun G w ρ L a o' ho hs hops hT => ?_)
          have hx := hops x (by simp [Op.operands]); rw [e] at hx
          obtain ⟨pl, hp, hv⟩ := hx.ptr_inv
          have hL : L n = some blk := by rw [hT n (by simp), hM]
          obtain ⟨cur, c1, c2, c3, c4, c5, c6⟩ := hs.place hL hp
          have key : ∃ v, (Instr.loadAt t (.pointer (some ⟨pl.b, p, none⟩))).run cx.P w = .ok v w ∧ Rep (okc G ρ L) w ρ z v := by
            refine load_run hag hsz ?_
            rcases hz with ⟨h1, zs, h2, h3, h4⟩ | ⟨h1, h2⟩
            · refine .inl ⟨h1, zs, h2, h3, fun i c hc => ?_⟩
              obtain ⟨v, g1, g2, g3⟩ := c6 _ _ (h4 i c hc)
              exact ⟨v, cell_of_heap c1 g1, g2, g3⟩
            · obtain ⟨v, g1, g2, g3⟩ := c6 _ _ h2
              exact .inr ⟨h1, v, cell_of_heap c1 g1, g3⟩
          obtain ⟨v, h1, h2⟩ := key
          exact ⟨v, w, by simp [execOp, ho, hv, h1], .inl rfl, h2⟩
        cases ag
        · simp only [cond_false] at h
          obtain ⟨z, hz, hk⟩ := Body.get_sound h
          exact ⟨_, _, _, main z (.inr ⟨rfl, hz⟩), hk⟩
        · simp only [cond_true] at h
          obtain ⟨zs, hl, hz, hk⟩ := Body.part_sound h
          exact ⟨_, _, _, main _ (.inl ⟨rfl, zs, rfl, hl, hz⟩), hk⟩
      · cases h
    · rename_i xs i e
      obtain ⟨h0, h⟩ := and_true h
      obtain rfl : ag = false := by simpa using h0
      refine ⟨_, _, _, good_pure (fun G w ρ L a o' ho hs hops hT => ?_), h⟩
      have hx := hops x (by simp [Op.operands]); rw [e] at hx
      generalize hv : a.eval x = v at hx
      cases hx with
      | pf xs i b o u hc hf hok hb =>
        obtain ⟨r, h1, h2⟩ := load_run (P := cx.P) (w := w) (ρ := ρ) (ok := okc G ρ L) (b := b) (o := o) (z := .flt (xs.getD i none)) hag hsz (.inr ⟨rfl, u, hc, .flt _ _ hf⟩)
        exact ⟨r, w, by simp [execOp, ho, hv, h1], .inl rfl, h2⟩
    · rename_i q xs i e
      obtain ⟨h0, h⟩ := and_true h
      obtain rfl : ag = false := by simpa using h0
      refine ⟨_, _, _, good_pure (fun G w ρ L a o' ho hs hops hT => ?_), h⟩
      have hx := hops x (by simp [Op.operands]); rw [e] at hx
      generalize hv : a.eval x = v at hx
      cases hx with
      | pi q xs i b o hc hok hb =>
        obtain ⟨r, h1, h2⟩ := load_run (P := cx.P) (w := w) (ρ := ρ) (ok := okc G ρ L) (b := b) (o := o) (z := .int q (xs.getD i 0)) hag hsz (.inr ⟨rfl, _, hc, .int _ _⟩)
        exact ⟨r, w, by simp [execOp, ho, hv, h1], .inl rfl, h2⟩
    · rename_i cs i e
      have main : ∀ z, ((ag = true ∧ i + s ≤ cs.length ∧ z = .agg ((cs.drop i).take s)) ∨ (ag = false ∧ cs[i]? = some z)) → OpGood cx.P base F M (.load t x) z [] [] := by
        intro z hz
        refine good_pure (fun G w ρ L a o' ho hs hops hT => ?_)
        have hx := hops x (by simp [Op.operands]); rw [e] at hx
        obtain ⟨b, o, g, hv, hok, hb, hc, hone, hr⟩ := hx.rp_inv
        have key : ∃ v, (Instr.loadAt t (.pointer (some ⟨b, o, none⟩))).run cx.P w = .ok v w ∧ Rep (okc G ρ L) w ρ z v := by
          refine load_run hag hsz ?_
          rcases hz with ⟨h1, h2, h3⟩ | ⟨h1, h2⟩
          · refine .inl ⟨h1, _, h3, by simp; omega, fun j c hcj => ?_⟩
            simp only [List.getElem?_take, List.getElem?_drop] at hcj
            split at hcj
            · rename_i hj
              exact ⟨g (i + j), hc j (by omega), hone _ (by omega), hr _ _ hcj⟩
            · cases hcj
          · have hlt := (List.getElem?_eq_some_iff.1 h2).1
            exact .inr ⟨h1, g i, by simpa using hc 0 (by omega), hr _ _ h2⟩
        obtain ⟨v, h1, h2⟩ := key
        exact ⟨v, w, by simp [execOp, ho, hv, h1], .inl rfl, h2⟩
      cases ag
      · simp only [cond_false] at h
        split at h
        · rename_i z hz; exact ⟨_, _, _, main z (.inr ⟨rfl, hz⟩), h⟩
        · cases h
      · simp only [cond_true] at h
        obtain ⟨h0, h⟩ := and_true h
        exact ⟨_, _, _, main _ (.inl ⟨rfl, of_decide_eq_true h0, rfl⟩), h⟩
    · cases h
  · cases h
end
end Go.Mach
