/-
  THE MACHINE, ninth part: new memory, structs built, stores do as the machine says.
  Conditions: none.
-/
import Derived.Test.YtoagmokejfcpbaaMachH
namespace Go.Mach

def RepL (ok : Nat → Prop) (w : World) (ρ : Rho) (cs : List V) (us : List Value) : Prop := cs.length = us.length ∧ ∀ (i : Nat) c u, cs[i]? = some c → us[i]? = some u → Rep ok w ρ c u
theorem RepL.mono {ok ok' : Nat → Prop} {w w' : World} {ρ ρ' : Rho} (hk : Keeps ok w ρ ok' w' ρ') {cs : List V} {us : List Value} (h : RepL ok w ρ cs us) : RepL ok' w' ρ' cs us :=
  ⟨h.1, fun i c u hc hu => (h.2 i c u hc hu).mono hk⟩
theorem RepL.one {ok : Nat → Prop} {w : World} {ρ : Rho} {cs : List V} {us : List Value} (h : RepL ok w ρ cs us) (h1 : cs.all V.one = true) : ∀ u ∈ us, u.oneCell' = true := by
  intro u hu
  obtain ⟨i, hi, rfl⟩ := List.getElem_of_mem hu
  have hic : i < cs.length := by rw [h.1]; exact hi
  exact (h.2 i cs[i] us[i] (by simp [hic]) (by simp [hi])).one (List.all_eq_true.1 h1 _ (List.getElem_mem hic))
theorem RepL.body {ok : Nat → Prop} {w : World} {ρ : Rho} {cs : List V} {us : List Value} (h : RepL ok w ρ cs us) (h1 : cs.all V.one = true) : BodyRep ok w ρ (.cells cs) us.toArray := by
  intro i x hx
  have hi : i < cs.length := (List.getElem?_eq_some_iff.1 hx).1
  have hiu : i < us.length := by rw [← h.1]; exact hi
  exact ⟨us[i], by simp [hiu], h.one h1 _ (List.getElem_mem hiu), h.2 i x _ hx (by simp [hiu])⟩

theorem vcells_rep {ok : Nat → Prop} {w : World} {ρ : Rho} {x : V} {v : Value} {cs : List V} (h : vcells x = some cs) (hx : Rep ok w ρ x v) : RepL ok w ρ cs v.cells.toList := by
  unfold vcells at h
  split at h
  · cases h
    obtain ⟨us, rfl, hl, _, hr⟩ := hx.agg_inv
    exact ⟨hl, hr⟩
  · cases h1 : x.one with
    | false => simp [h1] at h
    | true =>
      simp [h1] at h
      subst h
      have ho := hx.one h1
      have hc : v.cells = #[v] := by cases v <;> first | rfl | (simp [Value.oneCell'] at ho)
      rw [hc]
      refine ⟨rfl, fun i c u hc hu => ?_⟩
      cases i with
      | zero => simp at hc hu; subst hc; subst hu; exact hx
      | succ i => simp at hc

theorem zeroCells_rep {P : Program} {t : Nat} {cs : List V} (h : zeroCellsOf P t = some cs) : ∃ i v, P.info? t = some i ∧ i.zero = some v ∧ cs = v.cells.toList.map ofVal1 ∧ ∀ ok w ρ, RepL ok w ρ cs v.cells.toList := by
  unfold zeroCellsOf at h
  split at h
  · rename_i i hi
    obtain ⟨v, hv, rfl⟩ := Option.map_eq_some_iff.1 h
    refine ⟨i, v, hi, hv, rfl, fun ok w ρ => ⟨by simp, fun j c u hc hu => ?_⟩⟩
    rw [List.getElem?_map, hu] at hc
    cases hc
    exact rep_ofVal1 u
  · cases h

theorem fold_set {α : Type} (off : Nat) : ∀ (vs : List α) (j : Nat) (cells : List α), (vs.zipIdx j).foldl (fun cs (p : α × Nat) => cs.setIfInBounds (off + p.2) p.1) cells.toArray = (setFrom cells (off + j) vs).toArray
  | [], _, _ => rfl
  | v :: r, j, cells => by
    simp only [List.zipIdx_cons, List.foldl_cons, List.setIfInBounds_toArray, fold_set off r, setFrom]
    rw [Nat.add_assoc]
theorem fold_set_arr {α : Type} (off : Nat) (vs : Array α) (cells : List α) : vs.zipIdx.foldl (fun cs (x : α × Nat) => match x with | (c, j) => cs.setIfInBounds (off + j) c) cells.toArray = (setFrom cells off vs.toList).toArray := by
  have := fold_set off vs.toList 0 cells
  rw [Nat.add_zero] at this
  rw [← this, ← Array.foldl_toList, Array.toList_zipIdx]

theorem RepL.setFrom {ok : Nat → Prop} {w : World} {ρ : Rho} {cs vs : List V} {us xs : List Value} (h : RepL ok w ρ cs us) (hv : RepL ok w ρ vs xs) {off : Nat} (hle : off + vs.length ≤ cs.length) :
    RepL ok w ρ (setFrom cs off vs) (setFrom us off xs) := by
  refine ⟨by rw [setFrom_length, setFrom_length]; exact h.1, fun i c u hc hu => ?_⟩
  rw [setFrom_get _ _ _ _ hle] at hc
  rw [setFrom_get _ _ _ _ (by rw [← hv.1, ← h.1]; exact hle), ← hv.1] at hu
  split at hc
  · rename_i e; rw [if_pos e] at hu; exact hv.2 _ c u hc hu
  · rename_i e; rw [if_neg e] at hu; exact h.2 _ c u hc hu

theorem fill_sound (place : Nat → Option (Nat × Nat)) (f : Operand → V) : ∀ (L : List (Nat × Operand)) (cs : List V) (k : List V → Bool), fillV place cs (L.map fun p => (p.1, f p.2)) k = true →
    ∃ cs', k cs' = true ∧ cs'.length = cs.length ∧ ∀ (ok : Nat → Prop) (w : World) (ρ : Rho) (g : Operand → Value) (us : List Value), RepL ok w ρ cs us → (∀ p, p ∈ L → Rep ok w ρ (f p.2) (g p.2)) →
      ∃ us', Instr.fill place us.toArray (L.map fun p => (p.1, g p.2)) = some us'.toArray ∧ RepL ok w ρ cs' us'
  | [], cs, k, h => ⟨cs, h, rfl, fun ok w ρ g us hr _ => ⟨us, rfl, hr⟩⟩
  | (i, x) :: r, cs, k, h => by
    simp only [List.map_cons, fillV] at h
    split at h
    · rename_i off s vs hp hv
      obtain ⟨h0, h1⟩ := and_true h
      obtain ⟨h2, h3⟩ := and_true h1
      have hs : vs.length = s := by simpa using h0
      have hle := of_decide_eq_true h2
      obtain ⟨cs', hk, hl, hf⟩ := fill_sound place f r _ k h3
      refine ⟨cs', hk, by rw [hl, setFrom_length], fun ok w ρ g us hr hops => ?_⟩
      have hx := vcells_rep hv (hops (i, x) (by simp))
      have hsz : (g x).cells.size = s := by rw [← hs, hx.1]; simp
      obtain ⟨us', h4, h5⟩ := hf ok w ρ g _ (hr.setFrom hx (by rw [hs]; exact hle)) (fun p hp => hops p (by simp [hp]))
      refine ⟨us', ?_, h5⟩
      simp only [List.map_cons, Instr.fill, hp]
      rw [if_neg (by simp [hsz]; rw [← hr.1]; omega), fold_set_arr]
      exact h4
    · cases h

/-! ### new memory -/
theorem good_alloc {P : Program} {base : Nat} {F : List V} {M : Heap} {o : Op} {x : V} {nm : Nat} {blk : Blk} (hlen : M.length ≤ nm)
    (h : ∀ (G : Gh) (w : World) (ρ : Rho) (L : LK) (a : Act) (o' : Oper), o'.op = o → SimW G w ρ L → (∀ y, y ∈ o.operands → Rep (okc G ρ L) w ρ (ev F y) (a.eval y)) →
      ∃ cur len cap v, (execOp a.eval o').run P w = .ok (.value v) (w.alloc (.cells cur blk.e (0, 0))) ∧ cur.size = cap * blk.sz ∧ len * blk.sz = blk.c.size ∧ len ≤ cap ∧ cap ≤ maxLen ∧ BodyRep (okc G ρ L) w ρ blk.c cur ∧
        ∀ ok w' ρ', ρ' nm = some (some ⟨w.heap.size, len, cap⟩) → Rep ok w' ρ' x v) : OpGood P base F M o x [(nm, some blk)] [] := by
  intro G w ρ L a o' ho hb hs hops _ hnew N Q hn
  obtain ⟨hnm, hbase⟩ := hnew nm (some blk) (by simp) hlen
  obtain ⟨cur, len, cap, v, hr, h1, h2, h3, h4, h5, h6⟩ := h G w ρ L a o' ho hs hops
  obtain ⟨s1, s2⟩ := hs.alloc nm hnm (by omega) blk cur len cap h1 h2 h3 h4 h5
  refine wp_of_run hr (hn v _ _ s1 (h6 _ _ _ (by simp [updR])) s2 ?_)
  intro n hne
  by_cases e : n = nm
  · simp [e]
  · simp [updR, e] at hne

section
variable {cx : Cx} {base : Nat} {F : List V} {M : Heap} {k : KOp}

theorem sound_alloc {t : TypeId} (h : opV cx base F M (.alloc t) k = true) : ∃ z U T, OpGood cx.P base F M (.alloc t) z U T ∧ k z U T = true := by
  simp only [opV] at h
  split at h
  · rename_i cs hz
    obtain ⟨h0, h1⟩ := and_true h
    obtain ⟨h2, h3⟩ := and_true h1
    have hlen := of_decide_eq_true h0
    obtain ⟨i, v, hi, hv, _, hrep⟩ := zeroCells_rep hz
    refine ⟨_, _, _, good_alloc (Nat.le_refl _) (fun G w ρ L a o' ho hs hops => ?_), h3⟩
    have hr := hrep (okc G ρ L) w ρ
    refine ⟨v.cells, cs.length, cs.length, .pointer (some ⟨w.heap.size, 0, none⟩), ?_, ?_, ?_, Nat.le_refl _, ?_, ?_, ?_⟩
    · simp [execOp, ho, Instr.alloc, zeroValue, typeInfo, hi, hv, newVar, newRow]
    · have := hr.1; simp at this ⊢; exact this.symm
    · simp [Body.size]
    · unfold maxLen; omega
    · have := hr.body h2; simpa using this
    · intro ok w' ρ' hp; exact .ptr _ 0 _ hp
  · cases h
theorem sound_box {t : TypeId} {x : Operand} (h : opV cx base F M (.box t x) k = true) : ∃ z U T, OpGood cx.P base F M (.box t x) z U T ∧ k z U T = true := by
  simp only [opV] at h
  split at h
  · rename_i cs hz
    obtain ⟨h0, h1⟩ := and_true h
    obtain ⟨h2, h3⟩ := and_true h1
    have hlen := of_decide_eq_true h0
    refine ⟨_, _, _, good_alloc (Nat.le_refl _) (fun G w ρ L a o' ho hs hops => ?_), h3⟩
    have hr := vcells_rep hz (hops x (by simp [Op.operands]))
    refine ⟨(a.eval x).cells, cs.length, cs.length, .pointer (some ⟨w.heap.size, 0, none⟩), ?_, ?_, ?_, Nat.le_refl _, ?_, ?_, ?_⟩
    · simp [execOp, ho, Instr.box, newVar, newRow]
    · have := hr.1; simp at this ⊢; exact this.symm
    · simp [Body.size]
    · unfold maxLen; omega
    · have := hr.body h2; simpa using this
    · intro ok w' ρ' hp; exact .ptr _ 0 _ hp
  · cases h

theorem places_run {P : Program} {fs : List Field} {pl : List (Nat × Nat)} (h : places P fs = some pl) : fs.mapM (fun f => (P.info? f.type).map fun i => (f.offset, i.size)) = some pl := by
  unfold places szOf at h
  simpa [Option.map_map, Function.comp_def] using h

theorem sound_build {t : TypeId} {parts : Array (Nat × Operand)} (h : opV cx base F M (.build t parts) k = true) : ∃ z U T, OpGood cx.P base F M (.build t parts) z U T ∧ k z U T = true := by
  simp only [opV] at h
  have fin : ∀ (pl : Nat → Option (Nat × Nat)) (z : List V), zeroCellsOf cx.P t = some z → (∀ v (rs : List (Nat × Value)), (∃ i, cx.P.info? t = some i ∧ i.zero = some v) → cx.P.built t rs = Instr.fill pl v.cells rs) →
      fillV pl z (parts.toList.map fun p => (p.1, ev F p.2)) (fun cs => cs.all V.one && k (.agg cs) [] []) = true → ∃ z U T, OpGood cx.P base F M (.build t parts) z U T ∧ k z U T = true := by
    intro pl z hz hb hf
    obtain ⟨i, v, hi, hv, _, hrep⟩ := zeroCells_rep hz
    obtain ⟨cs', hk, _, hfill⟩ := fill_sound pl (ev F) parts.toList z _ hf
    obtain ⟨h1, h2⟩ := and_true hk
    refine ⟨_, _, _, good_pure (fun G w ρ L a o' ho hs hops _ => ?_), h2⟩
    obtain ⟨us', hu, hr⟩ := hfill (okc G ρ L) w ρ a.eval v.cells.toList (hrep _ _ _) (fun p hp => hops p.2 (by
      simp only [Op.operands]
      exact Array.mem_def.2 (by simpa using ⟨p.1, by simpa using hp⟩)))
    refine ⟨.agg us'.toArray, w, ?_, .inl rfl, .agg _ _ hr.1 (hr.one h1) hr.2⟩
    have hbuilt : cx.P.built t (parts.map fun (i, x) => (i, a.eval x)).toList = some us'.toArray := by
      rw [hb v _ ⟨i, hi, hv⟩]
      rw [← hu]
      simp
    simp [execOp, ho, run_build w t _ _ hbuilt]
  split at h
  · rename_i z fs hz hu
    split at h
    · rename_i pl hp
      refine fin _ z hz ?_ h
      rintro v rs ⟨i, hi, hv⟩
      simp [Program.built, hi, hu, hv, places_run hp]
    · cases h
  · rename_i z n e hz hu
    split at h
    · rename_i s hs
      refine fin _ z hz ?_ h
      rintro v rs ⟨i, hi, hv⟩
      obtain ⟨j, hj, rfl⟩ := szOf_info hs
      simp only [Program.built, hi, hu, hv, hj]
      congr 1
      funext i
      rw [scale_eq]
    · cases h
  · cases h

theorem flatten_rep_get {α : Type} : ∀ (n : Nat) (z : List α) (i : Nat), 0 < z.length → i < n * z.length → ((List.replicate n z).flatten)[i]? = z[i % z.length]?
  | 0, z, i, h0, h => by simp at h
  | n + 1, z, i, h0, h => by
    rw [List.replicate_succ, List.flatten_cons, List.getElem?_append]
    split
    · rename_i hi; rw [Nat.mod_eq_of_lt hi]
    · rename_i hi
      have hn : i - z.length < n * z.length := by rw [Nat.add_mul] at h; omega
      rw [flatten_rep_get n z _ h0 hn]
      congr 1
      conv => rhs; rw [show i = (i - z.length) + z.length from by omega, Nat.add_mod_right]
theorem flatten_rep_length {α : Type} (n : Nat) (z : List α) : ((List.replicate n z).flatten).length = n * z.length := by simp

/-- rows of noughts -/
theorem zeros_rep {ok : Nat → Prop} {w : World} {ρ : Rho} {z : List V} {u : Array Value} (n s : Nat) (h : RepL ok w ρ z u.toList) (hs : z.length = s) (h0 : ¬ s = 0) :
    RepL ok w ρ ((List.replicate n z).flatten) ((Array.range (n * s)).map (u[· % u.size]!)).toList := by
  have hus : u.size = s := by have := h.1; simp at this; omega
  refine ⟨by simp [hs], fun i c x hc hx => ?_⟩
  have hi : i < n * s := by have := (List.getElem?_eq_some_iff.1 hc).1; simp [hs] at this; exact this
  rw [flatten_rep_get n z i (by omega) (by rw [hs]; exact hi), hs] at hc
  have hm : i % s < u.size := by rw [hus]; exact Nat.mod_lt _ (by omega)
  refine h.2 (i % s) c x hc ?_
  simp [hi, hus] at hx
  rw [← hx]
  simp [hm]

theorem allFl_map : ∀ {cs : List V} {xs : List Fl}, allFl cs = some xs → cs = xs.map V.flt
  | [], xs, h => by simp [allFl] at h; subst h; rfl
  | .flt x :: r, xs, h => by
    simp only [allFl, Option.map_eq_some_iff] at h
    obtain ⟨ys, hy, rfl⟩ := h
    simp [allFl_map hy]
  | .any :: _, _, h | .nil :: _, _, h | .bool _ :: _, _, h | .int _ _ :: _, _, h | .val _ :: _, _, h | .fn _ _ :: _, _, h | .ptr _ _ :: _, _, h | .slw _ :: _, _, h | .sl _ _ _ :: _, _, h | .rof _ :: _, _, h | .roi _ _ :: _, _, h
  | .ro _ _ :: _, _, h | .pf _ _ :: _, _, h | .pi _ _ _ :: _, _, h | .rp _ _ :: _, _, h | .agg _ :: _, _, h | .tup _ :: _, _, h => by simp [allFl] at h
theorem allInt_map {q : IntKind} : ∀ {cs : List V} {xs : List Int}, allInt q cs = some xs → cs = xs.map (V.int q)
  | [], xs, h => by simp [allInt] at h; subst h; rfl
  | .int q' n :: r, xs, h => by
    simp only [allInt] at h
    by_cases e : q' = q
    · subst e
      simp only [decide_true, cond_true, Option.map_eq_some_iff] at h
      obtain ⟨ys, hy, rfl⟩ := h
      simp [allInt_map hy]
    · simp [e] at h
  | .any :: _, _, h | .nil :: _, _, h | .bool _ :: _, _, h | .flt _ :: _, _, h | .val _ :: _, _, h | .fn _ _ :: _, _, h | .ptr _ _ :: _, _, h | .slw _ :: _, _, h | .sl _ _ _ :: _, _, h | .rof _ :: _, _, h | .roi _ _ :: _, _, h
  | .ro _ _ :: _, _, h | .pf _ _ :: _, _, h | .pi _ _ _ :: _, _, h | .rp _ _ :: _, _, h | .agg _ :: _, _, h | .tup _ :: _, _, h => by simp [allInt] at h

theorem mkBody_at {P : Program} {e : Nat} {cs : List V} {c : Body} (h : mkBody P e cs = some c) : c.size = cs.length ∧ (∀ i, c.at i = cs[i]?) ∧ cs.all V.one = true := by
  unfold mkBody at h
  split at h
  · obtain ⟨xs, hx, rfl⟩ := Option.map_eq_some_iff.1 h
    obtain rfl := allFl_map hx
    exact ⟨by simp [Body.size], fun i => by simp [Body.at], by simp [V.one]⟩
  · obtain ⟨xs, hx, rfl⟩ := Option.map_eq_some_iff.1 h
    obtain rfl := allInt_map hx
    exact ⟨by simp [Body.size], fun i => by simp [Body.at], by simp [V.one]⟩
  · cases h1 : cs.all V.one with
    | false => simp [h1] at h
    | true => simp [h1] at h; subst h; exact ⟨rfl, fun i => rfl, rfl⟩
  · cases h
theorem BodyRep.of_at {ok : Nat → Prop} {w : World} {ρ : Rho} {c c' : Body} {cur : Array Value} (h : ∀ i, c.at i = c'.at i) (hb : BodyRep ok w ρ c' cur) : BodyRep ok w ρ c cur :=
  fun i x hx => hb i x (by rw [← h i]; exact hx)

theorem sound_buildSlice {t : TypeId} {len : Nat} {parts : Array (Nat × Operand)} (h : opV cx base F M (.buildSlice t len parts) k = true) : ∃ z U T, OpGood cx.P base F M (.buildSlice t len parts) z U T ∧ k z U T = true := by
  simp only [opV] at h
  split at h
  · rename_i e he
    split at h
    · rename_i s z hs hz
      obtain ⟨h0, h1⟩ := and_true h
      obtain ⟨h2, h3⟩ := and_true h1
      obtain ⟨h4, h5⟩ := and_true h3
      have hle := of_decide_eq_true h0
      have hzl : z.length = s := by simpa using h2
      have hs0 : ¬ s = 0 := by simpa using h4
      obtain ⟨i, v, hi, hv, _, hrep⟩ := zeroCells_rep hz
      obtain ⟨cs', hk, hl, hfill⟩ := fill_sound _ (ev F) parts.toList _ _ h5
      have ht := elemOf_some he
      split at hk
      · rename_i c hc
        obtain ⟨c1, c2, c3⟩ := mkBody_at hc
        have hl' : cs'.length = len * s := by rw [hl]; simp [hzl]
        refine ⟨_, _, _, good_alloc (Nat.le_refl _) (fun G w ρ L a o' ho hs' hops => ?_), hk⟩
        obtain ⟨us', hu, hr⟩ := hfill (okc G ρ L) w ρ a.eval _ (zeros_rep len s (hrep (okc G ρ L) w ρ) hzl hs0) (fun p hp => hops p.2 (by
          simp only [Op.operands]
          exact Array.mem_def.2 (by simpa using ⟨p.1, by simpa using hp⟩)))
        refine ⟨us'.toArray, len, len, .slice (some ⟨w.heap.size, 0, none⟩) len len, ?_, ?_, ?_, Nat.le_refl _, ?_, ?_, ?_⟩
        · have hfill' : Instr.fill (fun i => some (i * s, s)) ((Array.range (len * s)).map (v.cells[· % v.cells.size]!)) (parts.map fun (i, x) => (i, a.eval x)).toList = some us'.toArray := by
            rw [← hu, Array.toArray_toList, Array.toList_map]
            simp only [scale_eq]
          have hrun : (Instr.buildSlice t len (parts.map fun (i, x) => (i, a.eval x))).run cx.P w = .ok (.slice (some ⟨w.heap.size, 0, none⟩) len len) (w.alloc (.cells us'.toArray e (0, 0))) := by
            have hng : ¬ (len * s > 2 ^ 24) := by omega
            by_cases hn : len * s = 0
            · have hz0 : (Array.range (len * s)).map (v.cells[· % v.cells.size]!) = (Array.range (len * s)).map ((#[] : Array Value)[· % (#[] : Array Value).size]!) := by rw [hn]; apply Array.ext'; simp
              rw [hz0] at hfill'
              simp only [Instr.buildSlice, Sem.run_bind, run_underlying ht, Result.andThen_ok, szOf_run hs, if_neg hng, if_pos hn, Sem.run_pure, hfill', newRow, run_newObj]
              rfl
            · simp only [Instr.buildSlice, Sem.run_bind, run_underlying ht, Result.andThen_ok, szOf_run hs, if_neg hng, if_neg hn, Sem.run_pure, zeroValue, typeInfo, run_program, hi, hv, hfill', newRow, run_newObj]
              rfl
          simp only [execOp, ho, Sem.run_bind, hrun, Result.andThen_ok, Sem.run_pure]
        · have := hr.1; simp; omega
        · rw [c1, hl']
        · have : len ≤ len * s := Nat.le_mul_of_pos_right _ (by omega)
          unfold maxLen; omega
        · exact BodyRep.of_at (c' := .cells cs') (fun i => c2 i) (hr.body c3)
        · intro ok w' ρ' hp; exact .slw _ _ hp
      · cases hk
    · cases h
  · cases h
end
end Go.Mach
