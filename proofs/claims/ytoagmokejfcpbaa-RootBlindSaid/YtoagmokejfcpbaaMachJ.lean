/-
  THE MACHINE, tenth part: stores, makes, slice expressions, appends do as the machine says.
  Conditions: none.
-/
import Derived.Test.YtoagmokejfcpbaaMachI
namespace Go.Mach

theorem splice_get {α : Type} (cur vs : List α) (o i : Nat) (h : o + vs.length ≤ cur.length) : (cur.take o ++ vs ++ cur.drop (o + vs.length))[i]? = if o ≤ i ∧ i < o + vs.length then vs[i - o]? else cur[i]? := by
  rw [List.append_assoc, List.getElem?_append]
  simp only [List.length_take, Nat.min_eq_left (show o ≤ cur.length by omega)]
  by_cases h1 : i < o
  · rw [if_pos h1, if_neg (by omega), List.getElem?_take, if_pos h1]
  · rw [if_neg h1, List.getElem?_append]
    by_cases h2 : i - o < vs.length
    · rw [if_pos h2, if_pos (by omega)]
    · rw [if_neg h2, if_neg (by omega), List.getElem?_drop]
      congr 1; omega

section
variable {cx : Cx} {base : Nat} {F : List V} {M : Heap} {k : KOp}

theorem good_store {P : Program} {t s : TypeId} {x y : Operand} {n p : Nat} {blk : Blk} {vs : List V} {c' : Body} (hM : look M n = some blk) (hs : szOf P t = some s) (ex : ev F x = .ptr n p) (hl : vs.length = s) (hvc : vcells (ev F y) = some vs)
    (hone : vs.all V.one = true) (hle : p + vs.length ≤ blk.c.size) (hc : c'.size = blk.c.size) (hat : ∀ i z, c'.at i = some z → (p ≤ i ∧ i < p + vs.length ∧ vs[i - p]? = some z) ∨ (¬ (p ≤ i ∧ i < p + vs.length) ∧ blk.c.at i = some z)) :
    OpGood P base F M (.store t x y) .any [(n, some { blk with c := c' })] [n] := by
  intro G w ρ L a o' ho hb hsim hops hT _ N Q hn
  have hx := hops x (by simp [Op.operands]); rw [ex] at hx
  have hy := hops y (by simp [Op.operands])
  obtain ⟨pl, hp, hv⟩ := hx.ptr_inv
  have hL : L n = some blk := by rw [hT n (by simp), hM]
  obtain ⟨cur, c1, c2, c3, c4, c5, c6⟩ := hsim.place hL hp
  have hrep := vcells_rep hvc hy
  have hones := hrep.one hone
  have hfit : p + (a.eval y).cells.toList.length ≤ cur.size := by
    rw [← hrep.1]
    have : blk.c.size ≤ cur.size := by rw [← c3, c2]; exact Nat.mul_le_mul_right _ c4
    omega
  have hst := run_storeCells_at P pl.b p blk.e (a.eval y).cells.toList 0 cur w c1 (by simpa using hfit) hones
  simp only [Nat.add_zero] at hst
  have hsz : (a.eval y).cells.size = s := by rw [← hl, hrep.1]; simp
  have hrun : (Instr.storeAt t (a.eval x) (a.eval y)).run P w = .ok () (w.setRow pl.b (cur.toList.take p ++ (a.eval y).cells.toList ++ cur.toList.drop (p + (a.eval y).cells.toList.length)).toArray) := by
    rw [hv]
    simp only [Instr.storeAt, Instr.sureAddr, Sem.run_bind, Sem.run_pure, Result.andThen_ok, storeVar, szOf_run hs, hsz, ne_eq, not_true_eq_false, if_false, hst]
  have hlen : p + (a.eval y).cells.toList.length ≤ cur.toList.length := by simpa using hfit
  obtain ⟨s1, s2⟩ := hsim.write n blk pl hL hp cur (cur.toList.take p ++ (a.eval y).cells.toList ++ cur.toList.drop (p + (a.eval y).cells.toList.length)).toArray c1 c' (by
    simp only [List.size_toArray, List.length_append, List.length_take, List.length_drop, Array.length_toList] at hlen ⊢; omega) hc (by
    intro i z hz
    have hg : (cur.toList.take p ++ (a.eval y).cells.toList ++ cur.toList.drop (p + (a.eval y).cells.toList.length)).toArray[i]? = if p ≤ i ∧ i < p + (a.eval y).cells.toList.length then (a.eval y).cells.toList[i - p]? else cur.toList[i]? := by
      rw [List.getElem?_toArray]; exact splice_get _ _ _ _ hlen
    rcases hat i z hz with ⟨g1, g2, g3⟩ | ⟨g1, g2⟩
    · rw [hrep.1] at g2
      have hi : i - p < (a.eval y).cells.toList.length := by omega
      refine ⟨(a.eval y).cells.toList[i - p], ?_, hones _ (List.getElem_mem hi), hrep.2 _ z _ g3 (by simp only [List.getElem?_eq_getElem hi])⟩
      rw [hg, if_pos ⟨g1, g2⟩, List.getElem?_eq_getElem hi]
    · rw [hrep.1] at g1
      obtain ⟨v, v1, v2, v3⟩ := c6 i z g2
      refine ⟨v, ?_, v2, v3⟩
      rw [hg, if_neg g1]; simpa using v1)
  unfold Oper.wp
  simp only [execOp, ho, Sem.run_bind, hrun, Result.andThen_ok, Sem.run_pure, Oper.upon_skip]
  exact hn undef _ ρ s1 (.any _) s2 (fun m hm => absurd rfl hm)

theorem sound_store {t : TypeId} {x y : Operand} (h : opV cx base F M (.store t x y) k = true) : ∃ z U T, OpGood cx.P base F M (.store t x y) z U T ∧ k z U T = true := by
  simp only [opV] at h
  split at h
  · rename_i s n p vs hs ex ey
    split at h
    · rename_i blk hM
      obtain ⟨h0, h1⟩ := and_true h
      have hl : vs.length = s := by simpa using h0
      obtain ⟨c', hk, g1, g2, g3, g4⟩ := Body.setPart_sound h1
      exact ⟨_, _, _, good_store hM hs ex hl (by rw [ey]; rfl) g3 g2 g1 g4, hk⟩
    · cases h
  · rename_i s n p hs ex hno
    split at h
    · rename_i blk hM
      obtain ⟨h0, h1⟩ := and_true h
      obtain ⟨h2, h3⟩ := and_true h1
      have hl : s = 1 := by simpa using h0
      obtain ⟨c', hk, g1, g2, g3, g4⟩ := Body.set_sound h3
      refine ⟨_, _, _, good_store (vs := [ev F y]) hM hs ex (by simp [hl]) ?_ (by simp [g3]) (by simp only [List.length_cons, List.length_nil]; omega) g1 ?_, hk⟩
      · unfold vcells
        split
        · rename_i cs e; rw [e] at g3; simp [V.one] at g3
        · simp [g3]
      · intro i z hz
        rcases g4 i z hz with ⟨rfl, rfl⟩ | ⟨e, hz⟩
        · exact .inl ⟨Nat.le_refl _, by simp, by simp⟩
        · exact .inr ⟨by simp; omega, hz⟩
    · cases h
  · cases h

theorem zeroBody_rep {P : Program} {e n : Nat} {z : List V} {c : Body} (hz : zeroCellsOf P e = some z) (h : zeroBody P e n = some c) : c.size = ((List.replicate n z).flatten).length ∧ ∀ i, c.at i = ((List.replicate n z).flatten)[i]? := by
  have fl : ∀ {α : Type} (x : α) (f : α → V) (m : Nat), (List.replicate m [f x]).flatten = (List.replicate m x).map f := by
    intro α x f m
    induction m with
    | zero => rfl
    | succ m ih => rw [List.replicate_succ, List.flatten_cons, ih, List.replicate_succ]; rfl
  unfold zeroBody at h
  rw [hz] at h
  split at h
  · rename_i x e1 e2
    cases h; cases e2
    rw [fl x V.flt n]
    exact ⟨by simp [Body.size], fun i => by simp only [Body.at, List.getElem?_map]⟩
  · rename_i q q' x e1 e2
    cases e2
    by_cases e : q' = q
    · subst e
      simp at h; subst h
      rw [fl x (V.int q') n]
      exact ⟨by simp [Body.size], fun i => by simp only [Body.at, List.getElem?_map]⟩
    · simp [e] at h
  · rename_i e1 e2
    cases h; cases e2
    exact ⟨rfl, fun i => rfl⟩
  · cases h

theorem bytesOf_info {P : Program} {t s : Nat} (h : bytesOf P t = some s) : ∃ i, P.info? t = some i ∧ i.bytes = s := by
  unfold bytesOf at h
  obtain ⟨i, hi, rfl⟩ := Option.map_eq_some_iff.1 h
  exact ⟨i, hi, rfl⟩

theorem sound_makeSlice {t : TypeId} {l c : Operand} (h : opV cx base F M (.makeSlice t l c) k = true) : ∃ z U T, OpGood cx.P base F M (.makeSlice t l c) z U T ∧ k z U T = true := by
  simp only [opV] at h
  split at h
  · rename_i e he
    split at h
    · rename_i s by' hs hby
      split at h
      · rename_i ql l' qc c' el ec
        obtain ⟨h0, h1⟩ := and_true h
        obtain ⟨h2, h3⟩ := and_true h1
        have hb := of_decide_eq_true h0
        split at h2
        · rename_i z hz
          obtain ⟨h2a, h2b⟩ := and_true h2
          have hzl : z.length = s := by simpa using h2a
          split at h3
          · rename_i body hbody
            obtain ⟨b1, b2⟩ := zeroBody_rep hz hbody
            obtain ⟨i, v, hi, hv, _, hrep⟩ := zeroCells_rep hz
            obtain ⟨i2, hi2, hsz⟩ := szOf_info hs
            rw [hi] at hi2; cases hi2
            obtain ⟨i3, hi3, hbz⟩ := bytesOf_info hby
            rw [hi] at hi3; cases hi3
            refine ⟨_, _, _, good_alloc (Nat.le_refl _) (fun G w ρ L a o' ho hs' hops => ?_), h3⟩
            have hl := hops l (by simp [Op.operands]); rw [el] at hl
            have hc := hops c (by simp [Op.operands]); rw [ec] at hc
            have hrun := run_make (P := cx.P) w t e i v (elemOf_some he) hi hv ql qc l' c' hb.1 hb.2.1 (by rw [hbz]; omega) hb.2.2.1
            refine ⟨madeCells v.cells (c'.toNat * i.size), l'.toNat, c'.toNat, .slice (some ⟨w.heap.size, 0, none⟩) l'.toNat c'.toNat, ?_, ?_, ?_, by omega, ?_, ?_, ?_⟩
            · simp [execOp, ho, hl.int_inv, hc.int_inv, hrun]
            · rw [size_madeCells, hsz]
            · rw [b1]; simp [hzl]
            · unfold maxLen; omega
            · have hsub : ∀ j x, body.at j = some x → ∃ u, (madeCells v.cells (c'.toNat * i.size))[j]? = some u ∧ u.oneCell' = true ∧ Rep (okc G ρ L) w ρ x u := by
                intro j x hx
                rw [b2] at hx
                have hj : j < l'.toNat * s := by
                  have := (List.getElem?_eq_some_iff.1 hx).1; simp [hzl] at this; exact this
                have hs0 : ¬ s = 0 := by intro e; simp [e] at hj
                have hjc : j < c'.toNat * s := Nat.lt_of_lt_of_le hj (Nat.mul_le_mul_right _ (by omega))
                rw [flatten_rep_get _ _ _ (by omega) (by rw [hzl]; exact hj), hzl] at hx
                have hr := hrep (okc G ρ L) w ρ
                have hvs : v.cells.size = s := by have := hr.1; simp at this; omega
                have hm : j % s < v.cells.size := by rw [hvs]; exact Nat.mod_lt _ (by omega)
                refine ⟨v.cells[j % s], ?_, ?_, hr.2 (j % s) x _ hx (by simp [hm])⟩
                · unfold madeCells
                  rw [hsz, hvs]
                  simp [hjc, hm]
                · have hxo : x.one = true := List.all_eq_true.1 h2b _ (List.mem_of_getElem? hx)
                  exact (hr.2 (j % s) x _ hx (by simp [hm])).one hxo
              exact hsub
            · intro ok w' ρ' hp; exact .slw _ _ hp
          · cases h3
        · cases h2
      · cases h
    · cases h
  · cases h
end
end Go.Mach
