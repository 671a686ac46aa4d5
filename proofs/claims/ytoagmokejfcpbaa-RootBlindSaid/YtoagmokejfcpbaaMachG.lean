/-
  THE MACHINE, seventh part: the operations that compute do as the machine says.
  Conditions: none.
-/
import Derived.Test.YtoagmokejfcpbaaMachF
namespace Go.Mach

theorem addr_add (b o n : Nat) : (⟨b, o, none⟩ : Addr).add n = ⟨b, o + n, none⟩ := by
  unfold Addr.add; split
  · subst_vars; rfl
  · rfl

theorem szOf_run {P : Program} {t s : Nat} (h : szOf P t = some s) (w : World) : (sizeOf t).run P w = .ok s w := by
  unfold szOf at h
  obtain ⟨i, hi, rfl⟩ := Option.map_eq_some_iff.1 h
  simp [sizeOf, typeInfo, hi]
theorem szOf_info {P : Program} {t s : Nat} (h : szOf P t = some s) : ∃ i, P.info? t = some i ∧ i.size = s := by
  unfold szOf at h
  obtain ⟨i, hi, rfl⟩ := Option.map_eq_some_iff.1 h
  exact ⟨i, hi, rfl⟩
theorem isAggT_run {P : Program} {t : Nat} {g : Bool} (h : isAggT P t = some g) (w : World) : (isAgg t).run P w = .ok g w := by
  unfold isAggT at h
  unfold isAgg
  split at h
  · rename_i e; cases h; simp [run_underlying e]
  · rename_i e; cases h; simp [run_underlying e]
  · rename_i d e1 e2 e; cases h
    rw [Sem.run_bind, run_underlying e]
    cases d <;> first | rfl | (exact absurd rfl (e1 _)) | (exact absurd rfl (e2 _ _))
  · cases h

section
variable {ok : Nat → Prop} {w : World} {ρ : Rho} {v : Value}
theorem Rep.agg_inv {cs : List V} (h : Rep ok w ρ (.agg cs) v) : ∃ vs : List Value, v = .agg vs.toArray ∧ cs.length = vs.length ∧ (∀ u ∈ vs, u.oneCell' = true) ∧ ∀ (i : Nat) c u, cs[i]? = some c → vs[i]? = some u → Rep ok w ρ c u := by
  cases h with
  | agg cs vs hl h1 h => exact ⟨vs, rfl, hl, h1, h⟩
theorem Rep.tup_inv {cs : List V} (h : Rep ok w ρ (.tup cs) v) : ∃ vs : List Value, v = .tuple vs.toArray ∧ cs.length = vs.length ∧ ∀ (i : Nat) c u, cs[i]? = some c → vs[i]? = some u → Rep ok w ρ c u := by
  cases h with
  | tup cs vs hl h => exact ⟨vs, rfl, hl, h⟩
theorem Rep.fn_inv {g : Nat} {caps : List V} (h : Rep ok w ρ (.fn g caps) v) : ∃ vs : List Value, v = .func (.func g) #[] vs.toArray ∧ caps.length = vs.length ∧ ∀ (i : Nat) c u, caps[i]? = some c → vs[i]? = some u → Rep ok w ρ c u := by
  cases h with
  | fn g caps vs hl h => exact ⟨vs, rfl, hl, h⟩
end

theorem Rep.rp_inv {ok : Nat → Prop} {w : World} {ρ : Rho} {v : Value} {cs : List V} {i : Nat} (h : Rep ok w ρ (.rp cs i) v) : ∃ (b o : Nat) (g : Nat → Value), v = .pointer (some ⟨b, o, none⟩) ∧ ok b ∧ b < w.heap.size ∧ (∀ j, i + j < cs.length → w.cell? ⟨b, o + j, none⟩ = some (g (i + j))) ∧
    (∀ j, j < cs.length → (g j).oneCell' = true) ∧ ∀ (j : Nat) c, cs[j]? = some c → Rep ok w ρ c (g j) := by
  cases h with
  | rp cs i b o g hok hb hc h1 hr => exact ⟨b, o, g, rfl, hok, hb, hc, h1, hr⟩

/-- a part of a struct or array -/
theorem part_run {P : Program} {ok : Nat → Prop} {w : World} {ρ : Rho} {t s off : Nat} {g : Bool} {cs : List V} {vs : List Value} {x : V}
    (hg : isAggT P t = some g) (hs : szOf P t = some s) (hl : cs.length = vs.length) (h1 : ∀ u ∈ vs, u.oneCell' = true) (h : ∀ (i : Nat) c u, cs[i]? = some c → vs[i]? = some u → Rep ok w ρ c u)
    (hx : (g = true ∧ off + s ≤ cs.length ∧ x = .agg ((cs.drop off).take s)) ∨ (g = false ∧ cs[off]? = some x)) :
    ∃ v, (part t vs.toArray off).run P w = .ok v w ∧ Rep ok w ρ x v := by
  rcases hx with ⟨rfl, hle, rfl⟩ | ⟨rfl, hc⟩
  · refine ⟨.agg ((vs.drop off).take s).toArray, ?_, .agg _ _ ?_ ?_ ?_⟩
    · simp only [part, Sem.run_bind, isAggT_run hg, Result.andThen_ok, if_true, szOf_run hs, Sem.run_pure]
      congr 2
      apply Array.ext'
      simp [List.extract_eq_take_drop]
    · simp only [List.length_take, List.length_drop]; omega
    · intro u hu; exact h1 u (List.mem_of_mem_drop (List.mem_of_mem_take hu))
    · intro i c u hc hu
      simp only [List.getElem?_take, List.getElem?_drop] at hc hu
      split at hc
      · rename_i hi; simp only [hi, if_true] at hu; exact h _ c u hc hu
      · cases hc
  · have hlt : off < vs.length := by rw [← hl]; exact (List.getElem?_eq_some_iff.1 hc).1
    refine ⟨vs[off], ?_, h off x _ hc (by simp [hlt])⟩
    simp only [part, Sem.run_bind, isAggT_run hg, Result.andThen_ok, Bool.false_eq_true, if_false]
    simp [hlt]

section
variable {cx : Cx} {base : Nat} {F : List V} {M : Heap} {k : KOp}

theorem sound_move {x : Operand} (h : opV cx base F M (.move x) k = true) : ∃ y U T, OpGood cx.P base F M (.move x) y U T ∧ k y U T = true := by
  simp only [opV] at h
  exact ⟨_, _, _, good_pure (fun G w ρ L a o' ho hs hops _ => ⟨a.eval x, w, by simp [execOp, ho], .inl rfl, hops x (by simp [Op.operands])⟩), h⟩
theorem sound_assign {x : Operand} (h : opV cx base F M (.assign x) k = true) : ∃ y U T, OpGood cx.P base F M (.assign x) y U T ∧ k y U T = true := by
  simp only [opV] at h
  exact ⟨_, _, _, good_pure (fun G w ρ L a o' ho hs hops _ => ⟨a.eval x, w, by simp [execOp, ho], .inl rfl, hops x (by simp [Op.operands])⟩), h⟩
theorem sound_pick {c x y : Operand} (h : opV cx base F M (.pick c x y) k = true) : ∃ z U T, OpGood cx.P base F M (.pick c x y) z U T ∧ k z U T = true := by
  simp only [opV] at h
  split at h
  · rename_i t e
    cases t
    · exact ⟨_, _, _, good_pure (fun G w ρ L a o' ho hs hops _ => ⟨a.eval y, w, by
        have hc := hops c (by simp [Op.operands]); rw [e] at hc; have := hc.bool_inv
        simp [execOp, ho, this, asBool], .inl rfl, hops y (by simp [Op.operands])⟩), h⟩
    · exact ⟨_, _, _, good_pure (fun G w ρ L a o' ho hs hops _ => ⟨a.eval x, w, by
        have hc := hops c (by simp [Op.operands]); rw [e] at hc; have := hc.bool_inv
        simp [execOp, ho, this, asBool], .inl rfl, hops x (by simp [Op.operands])⟩), h⟩
  · cases h

theorem sound_nilCheck {x : Operand} (h : opV cx base F M (.nilCheck x) k = true) : ∃ y U T, OpGood cx.P base F M (.nilCheck x) y U T ∧ k y U T = true := by
  simp only [opV] at h
  have main : ∀ y, ev F x = y → (∀ ok w ρ v, Rep ok w ρ y v → (∃ b, v = .pointer (some b)) ∨ ∃ g vs, v = .func (.func g) #[] vs) → OpGood cx.P base F M (.nilCheck x) y [] [] := by
    intro y e hy
    refine good_pure (fun G w ρ L a o' ho hs hops _ => ⟨a.eval x, w, ?_, .inl rfl, e ▸ hops x (by simp [Op.operands])⟩)
    have hv := hops x (by simp [Op.operands])
    rw [e] at hv
    rcases hy _ _ _ _ hv with ⟨b, hb⟩ | ⟨g, vs, hb⟩ <;> simp [execOp, ho, hb]
  split at h <;> first
    | (cases h; done)
    | (rename_i e; exact ⟨_, _, _, main _ e (fun ok w ρ v hv => by cases hv <;> first | exact .inl ⟨_, rfl⟩ | exact .inr ⟨_, _, rfl⟩), h⟩)

theorem sound_binOp {op : BinOp} {t t' : TypeId} {x y : Operand} (h : opV cx base F M (.binOp op t x y t') k = true) : ∃ z U T, OpGood cx.P base F M (.binOp op t x y t') z U T ∧ k z U T = true := by
  simp only [opV] at h
  obtain ⟨z, hz, hk⟩ := binV_sound h
  refine ⟨z, _, _, good_pure (fun G w ρ L a o' ho hs hops _ => ?_), hk⟩
  obtain ⟨r, w', h1, h2, h3, h4⟩ := hz (okc G ρ L) w ρ _ _ (hops x (by simp [Op.operands])) (hops y (by simp [Op.operands]))
  exact ⟨r, w', by simp [execOp, ho, h4, h1], h2, h3⟩
theorem sound_unOp {op : UnOp} {t : TypeId} {x : Operand} (h : opV cx base F M (.unOp op t x) k = true) : ∃ z U T, OpGood cx.P base F M (.unOp op t x) z U T ∧ k z U T = true := by
  simp only [opV] at h
  obtain ⟨z, hz, hk⟩ := unV_sound (P := cx.P) h
  refine ⟨z, _, _, good_pure (fun G w ρ L a o' ho hs hops _ => ?_), hk⟩
  obtain ⟨r, h1, h3⟩ := hz (okc G ρ L) w ρ _ (hops x (by simp [Op.operands]))
  exact ⟨r, w, by simp [execOp, ho, h1], .inl rfl, h3⟩
theorem sound_convert {s d : TypeId} {x : Operand} (h : opV cx base F M (.convert s d x) k = true) : ∃ z U T, OpGood cx.P base F M (.convert s d x) z U T ∧ k z U T = true := by
  simp only [opV] at h
  obtain ⟨z, hz, hk⟩ := convV_sound h
  refine ⟨z, _, _, good_pure (fun G w ρ L a o' ho hs hops _ => ?_), hk⟩
  obtain ⟨r, h1, h3⟩ := hz (okc G ρ L) w ρ _ (hops x (by simp [Op.operands]))
  exact ⟨r, w, by simp [execOp, ho, h1], .inl rfl, h3⟩
theorem sound_extract {x : Operand} {i : Nat} (h : opV cx base F M (.extract x i) k = true) : ∃ z U T, OpGood cx.P base F M (.extract x i) z U T ∧ k z U T = true := by
  simp only [opV] at h
  split at h
  · rename_i vs e
    split at h
    · rename_i v hv
      refine ⟨_, _, _, good_pure (fun G w ρ L a o' ho hs hops _ => ?_), h⟩
      have hx := hops x (by simp [Op.operands]); rw [e] at hx
      obtain ⟨us, hu, hl, hr⟩ := hx.tup_inv
      have hlt : i < us.length := by rw [← hl]; exact (List.getElem?_eq_some_iff.1 hv).1
      exact ⟨us[i], w, by simp [execOp, ho, hu, Instr.extract, hlt], .inl rfl, hr i v _ hv (by simp [hlt])⟩
    · cases h
  · cases h
theorem sound_makeFunc {f : Fn} {first caps : Array Operand} (h : opV cx base F M (.makeFunc f first caps) k = true) : ∃ z U T, OpGood cx.P base F M (.makeFunc f first caps) z U T ∧ k z U T = true := by
  cases f <;> simp only [opV] at h <;> try (cases h; done)
  rename_i g
  obtain ⟨h0, h1⟩ := and_true h
  obtain rfl : first = #[] := by simpa using h0
  refine ⟨_, _, _, good_pure (fun G w ρ L a o' ho hs hops _ => ⟨.func (.func g) #[] (caps.map a.eval), w, by simp [execOp, ho, Instr.makeFunc], .inl rfl, ?_⟩), h1⟩
  have e : caps.map a.eval = (caps.toList.map a.eval).toArray := by apply Array.ext'; simp
  rw [e]
  refine .fn g _ _ (by simp) ?_
  intro i c u hc hu
  rw [List.getElem?_map] at hc hu
  obtain ⟨y, hy, rfl⟩ := Option.map_eq_some_iff.1 hc
  obtain ⟨y', hy', rfl⟩ := Option.map_eq_some_iff.1 hu
  rw [hy] at hy'; cases hy'
  refine hops y ?_
  have := List.mem_of_getElem? hy
  simp [Op.operands]
  simpa using this

theorem sound_field {t : TypeId} {x : Operand} {f : Nat} (h : opV cx base F M (.field t x f) k = true) : ∃ z U T, OpGood cx.P base F M (.field t x f) z U T ∧ k z U T = true := by
  simp only [opV] at h
  split at h
  · rename_i fs hu
    split at h
    · rename_i fd hf
      split at h
      · rename_i ag s cs hag hsz e
        have main : ∀ y, (ag = true ∧ fd.offset + s ≤ cs.length ∧ y = .agg ((cs.drop fd.offset).take s)) ∨ (ag = false ∧ cs[fd.offset]? = some y) → OpGood cx.P base F M (.field t x f) y [] [] := by
          intro y hy
          refine good_pure (fun G w ρ L a o' ho hs hops _ => ?_)
          have hx := hops x (by simp [Op.operands]); rw [e] at hx
          obtain ⟨us, hu', hl, h1, hr⟩ := hx.agg_inv
          obtain ⟨v, hv, hrep⟩ := part_run hag hsz hl h1 hr hy
          exact ⟨v, w, by simp [execOp, ho, Instr.field, run_underlying hu, hf, hu', asAgg, hv], .inl rfl, hrep⟩
        cases ag
        · simp only [cond_false] at h
          split at h
          · rename_i v hv; exact ⟨_, _, _, main _ (.inr ⟨rfl, hv⟩), h⟩
          · cases h
        · simp only [cond_true] at h
          obtain ⟨h0, h1⟩ := and_true h
          exact ⟨_, _, _, main _ (.inl ⟨rfl, of_decide_eq_true h0, rfl⟩), h1⟩
      · cases h
    · cases h
  · cases h

theorem scale_eq (i s : Nat) : scale i s = i * s := by
  unfold scale; split <;> simp
theorem inR_iff {i : Int} {n : Nat} (h : inR i n = true) : 0 ≤ i ∧ i < (n : Int) := of_decide_eq_true h

theorem sound_index {t : TypeId} {x j : Operand} (h : opV cx base F M (.index t x j) k = true) : ∃ z U T, OpGood cx.P base F M (.index t x j) z U T ∧ k z U T = true := by
  simp only [opV] at h
  split at h
  · rename_i len e q i cs hu ei ex
    split at h
    · rename_i ag s hag hsz
      obtain ⟨hin, h⟩ := and_true h
      have hi := inR_iff hin
      have main : ∀ y, (ag = true ∧ scale i.toNat s + s ≤ cs.length ∧ y = .agg ((cs.drop (scale i.toNat s)).take s)) ∨ (ag = false ∧ cs[scale i.toNat s]? = some y) → OpGood cx.P base F M (.index t x j) y [] [] := by
        intro y hy
        refine good_pure (fun G w ρ L a o' ho hs hops _ => ?_)
        have hx := hops x (by simp [Op.operands]); rw [ex] at hx
        have hj := hops j (by simp [Op.operands]); rw [ei] at hj
        obtain ⟨us, hu', hl, h1, hr⟩ := hx.agg_inv
        obtain ⟨v, hv, hrep⟩ := part_run hag hsz hl h1 hr hy
        rw [scale_eq] at hv
        exact ⟨v, w, by simp [execOp, ho, Instr.index, run_underlying hu, hu', hj.int_inv, asIntOf, hi.1, hi.2, szOf_run hsz, hv], .inl rfl, hrep⟩
      cases ag
      · simp only [cond_false] at h
        split at h
        · rename_i v hv; exact ⟨_, _, _, main _ (.inr ⟨rfl, hv⟩), h⟩
        · cases h
      · simp only [cond_true] at h
        obtain ⟨h0, h1⟩ := and_true h
        exact ⟨_, _, _, main _ (.inl ⟨rfl, of_decide_eq_true h0, rfl⟩), h1⟩
    · cases h
  · cases h

theorem sound_fieldAddr {s : TypeId} {x : Operand} {f : Nat} (h : opV cx base F M (.fieldAddr s x f) k = true) : ∃ z U T, OpGood cx.P base F M (.fieldAddr s x f) z U T ∧ k z U T = true := by
  simp only [opV] at h
  split at h
  · rename_i fs hu
    split at h
    · rename_i fd hf
      split at h
      · rename_i z hz
        obtain ⟨h0, h⟩ := and_true h
        have hz0 : ¬ z = 0 := by simpa using h0
        have run : ∀ (b o : Nat) (w : World) (v : Value), v = .pointer (some ⟨b, o, none⟩) → (Instr.fieldAt s v f).run cx.P w = .ok (.pointer (some ⟨b, o + fd.offset, none⟩)) w := by
          intro b o w v hv
          subst hv
          simp [Instr.fieldAt, run_underlying hu, hf, Instr.sureAddr, fieldPlace, szOf_run hz, hz0, addr_add]
        split at h
        · rename_i n p e
          refine ⟨_, _, _, good_pure (fun G w ρ L a o' ho hs hops _ => ?_), h⟩
          have hx := hops x (by simp [Op.operands]); rw [e] at hx
          obtain ⟨pl, hp, hv⟩ := hx.ptr_inv
          exact ⟨_, w, by simp [execOp, ho, run _ _ w _ hv], .inl rfl, .ptr n _ pl hp⟩
        · rename_i cs i e
          refine ⟨_, _, _, good_pure (fun G w ρ L a o' ho hs hops _ => ?_), h⟩
          have hx := hops x (by simp [Op.operands]); rw [e] at hx
          obtain ⟨b, o, g, hv, hok, hb, hc, h1, hr⟩ := hx.rp_inv
          refine ⟨.pointer (some ⟨b, o + fd.offset, none⟩), w, by simp [execOp, ho, run _ _ w _ hv], .inl rfl, .rp cs _ b (o + fd.offset) g hok hb ?_ h1 hr⟩
          intro j hj
          have := hc (fd.offset + j) (by omega)
          rw [← Nat.add_assoc, ← Nat.add_assoc] at this
          exact this
        · cases h
      · cases h
    · cases h
  · cases h
end
end Go.Mach
