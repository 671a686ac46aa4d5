/-
  THE MACHINE, twelfth part: append does as the machine says.
  Conditions: none.
-/
import Derived.Test.YtoagmokejfcpbaaMachK
namespace Go.Mach

theorem app_sound {b src c : Body} (h : b.app src = some c) : c.size = b.size + src.size ∧ ∀ i z, c.at i = some z → (i < b.size ∧ b.at i = some z) ∨ (b.size ≤ i ∧ src.at (i - b.size) = some z) := by
  have ap : ∀ {α : Type} (xs ys : List α) (f : α → V) i z, ((xs ++ ys)[i]?).map f = some z → (i < xs.length ∧ (xs[i]?).map f = some z) ∨ (xs.length ≤ i ∧ (ys[i - xs.length]?).map f = some z) := by
    intro α xs ys f i z h
    rw [List.getElem?_append] at h
    split at h
    · exact .inl ⟨by assumption, h⟩
    · exact .inr ⟨by omega, h⟩
  unfold Body.app at h
  split at h
  · cases h; exact ⟨by simp [Body.size], fun i z hz => ap _ _ _ i z hz⟩
  · obtain ⟨h1, h2⟩ := cond_some h
    obtain rfl := of_decide_eq_true h1
    cases h2; exact ⟨by simp [Body.size], fun i z hz => ap _ _ _ i z hz⟩
  · obtain ⟨h1, h2⟩ := cond_some h
    cases h2
    refine ⟨by simp [Body.size], fun i z hz => ?_⟩
    rename_i xs ys
    have := ap xs ys id i z (by simpa [Body.at] using hz)
    simpa [Body.at, Body.size] using this
  · cases h
    refine ⟨by simp [Body.size], fun i z hz => .inl ⟨Body.at_lt hz, hz⟩⟩
  · cases h

theorem append_zero {P : Program} {w : World} {t e : TypeId} {i : TypeInfo} (ty : TypeId) (ht : P.underlying t = some (.slice e)) (hi : P.info? e = some i) (b : Option Addr) (n cap : Nat) (a : Option Addr) (c : Nat) (hn : n ≤ cap) :
    (Builtin.append_ #[t, t] ty #[.slice b n cap, .slice a 0 c]).run P w = .ok (.slice b n cap) w := by
  cases a <;> cases b <;> simp [Builtin.append_, run_underlying ht, sizeOf, typeInfo, hi, Builtin.lenOf, Builtin.firstCells, loadCells, loadCellsFrom, hn, storeCells]

theorem zeroBody_zero {P : Program} {e : Nat} {z : List V} {c : Body} (hz : zeroCellsOf P e = some z) (h : zeroBody P e 0 = some c) : c.size = 0 := by
  have := (zeroBody_rep hz h).1
  simpa using this

section
variable {cx : Cx} {base : Nat} {F : List V} {M : Heap} {k : KOp}

theorem append_exec {P : Program} {w w' : World} {a : Act} {o : Oper} {c : Call} {s x : Operand} {t : TypeId} {v : Value} (ho : o.op = .call c) (hc : c.callee = .builtin .append) (ha : c.args = #[s, x]) (ht : c.argTypes = #[t, t])
    (h : (Builtin.append_ #[t, t] o.type #[a.eval s, a.eval x]).run P w = .ok v w') : (execOp a.eval o).run P w = .ok (.value v) w' := by
  unfold execOp
  simp only [ho, resolve, hc, ha, ht, invoke, builtin, Sem.run_bind, Sem.run_pure, Result.andThen_ok, List.map_toArray, List.map_cons, List.map_nil, h]

theorem sound_append {c : Call} (hc : c.callee = .builtin .append) (h : opV cx base F M (.call c) k = true) : ∃ z U T, OpGood cx.P base F M (.call c) z U T ∧ k z U T = true := by
  obtain ⟨callee, args, argTypes⟩ := c
  simp only at hc
  subst hc
  simp only [opV] at h
  split at h
  · rename_i s x t t' ha hts
    obtain ⟨h0, hh⟩ := and_true h
    clear h
    obtain rfl : t = t' := by simpa using h0
    have ha' : args = #[s, x] := by apply Array.ext'; simpa using ha
    have ht' : argTypes = #[t, t] := by apply Array.ext'; simpa using hts
    subst ha'; subst ht'
    split at hh
    · rename_i e he
      split at hh
      · rename_i sz by' z nb hsz hby hz hnb
        obtain ⟨g1, g⟩ := and_true hh
        obtain ⟨g2, g3⟩ := and_true g
        have hzl : z.length = sz := by simpa using g1
        have hsz0 : ¬ sz = 0 := by intro e; simp [e] at g2
        have hby0 : ¬ by' = 0 := by intro e; simp [e] at g2
        clear hh h0 g1 g2 g
        have ht := elemOf_some he
        obtain ⟨i, hi, hisz⟩ := szOf_info hsz
        obtain ⟨i2, hi2, hiby⟩ := bytesOf_info hby
        rw [hi] at hi2; cases hi2
        obtain ⟨i3, zv, hi3, hzv, _, hzrep⟩ := zeroCells_rep hz
        rw [hi] at hi3; cases hi3
        have hzsz : zv.cells.size = sz := by
          have := (hzrep (fun _ => True) default (fun _ => none)).1
          simp at this; omega
        have hnb0 := zeroBody_zero hz hnb
        split at g3
        · rename_i src hsrc
          have hsrc' := srcBody_sound (M := M) hsz0 hsrc
          -- a row that has no memory is appended to
          have fresh : ∀ (G : Gh) (w : World) (ρ : Rho) (L : LK) (a : Act) (o' : Oper) (c : Body) (nm : Nat), o'.op = .call { callee := .builtin .append, args := #[s, x], argTypes := #[t, t] } → SimW G w ρ L → ρ nm = none → G.base ≤ nm →
              (∀ n, n ∈ (ev F x).refs → L n = look M n) → Rep (okc G ρ L) w ρ (ev F x) (a.eval x) → a.eval s = .slice none 0 0 → c.size = src.size → (∀ i z, c.at i = some z → src.at i = some z) → (Blk.count ⟨e, sz, c⟩) * by' ≤ 140737488355328 →
              ∃ v w' ρ', (execOp a.eval o').run cx.P w = .ok (.value v) w' ∧ SimW G w' ρ' (updL L nm (some ⟨e, sz, c⟩)) ∧ Rep (okc G ρ' (updL L nm (some ⟨e, sz, c⟩))) w' ρ' (.slw nm) v ∧ Keeps (okc G ρ L) w ρ (okc G ρ' (updL L nm (some ⟨e, sz, c⟩))) w' ρ' ∧ (∀ n, ρ' n ≠ ρ n → n = nm) := by
            intro G w ρ L a o' c nm ho hsim hnm hbase hagree hx hs hcs hcat hbd
            obtain ⟨m, cc, ad, news, hv, hm, hnl, hn1, hnr, hcell⟩ := hsrc' G w ρ L _ hsim hagree hx
            have hcount : Blk.count ⟨e, sz, c⟩ = m := count_eq (blk := ⟨e, sz, c⟩) (by show m * sz = c.size; rw [hcs, hm]) hsz0
            rw [hcount] at hbd
            have hrho : ∀ (q : Option Place) n, updR ρ nm q n ≠ ρ n → n = nm := by
              intro q n hne
              by_cases e : n = nm
              · exact e
              · simp [updR, e] at hne
            by_cases hm0 : m = 0
            · subst hm0
              have hr := append_zero (P := cx.P) (w := w) o'.type ht hi none 0 0 ad cc (Nat.le_refl _)
              obtain ⟨s1, s2⟩ := hsim.virt nm hnm ⟨e, sz, c⟩ (by show c.size = 0; rw [hcs, ← hm]; simp)
              exact ⟨_, w, _, append_exec ho rfl rfl rfl (by rw [hs, hv]; exact hr), s1, .slv nm (by simp [updR]), s2, hrho _⟩
            · obtain ⟨b, hab, hcell2⟩ := hcell hm0; clear hcell; subst hab
              have hmle : m ≤ 140737488355328 := Nat.le_trans (Nat.le_mul_of_pos_right m (by omega)) hbd
              have hr := run_append_nil (P := cx.P) w t o'.type e i zv ht hi hzv b m cc news (by rw [hnl, hisz]; omega) hcell2 (by omega) (by omega) (by rw [hiby]; omega)
              obtain ⟨d1, d2⟩ := hsim.drew
              have hge := grownCap_ge w m 0 e
              obtain ⟨s1, s2⟩ := d1.alloc nm hnm hbase ⟨e, sz, c⟩ (news.toArray ++ Builtin.zeroCells zv.cells (grownCap w m 0 e - m)) m (grownCap w m 0 e)
                (by simp only [Array.size_append, List.size_toArray, size_zeroCells, hzsz, hnl, ← hm, ← Nat.add_mul]; congr 1; omega) (by show m * sz = c.size; rw [hcs, hm]) hge (grownCap_le_maxLen w m 0 e (by unfold maxLen; omega)) (by
                  intro j y hy
                  have hj : j < news.length := by rw [hnl, ← hcs]; exact Body.at_lt hy
                  refine ⟨news[j], by simp [Array.getElem?_append, hj], hn1 _ (List.getElem_mem hj), (hnr j y _ (hcat j y hy) (by simp [hj])).mono d2⟩)
              exact ⟨_, _, _, append_exec ho rfl rfl rfl (by rw [hs, hv]; exact hr), s1, .slw nm ⟨w.heap.size, m, grownCap w m 0 e⟩ (by simp [updR]), d2.trans s2, hrho _⟩
          split at g3
          · rename_i es
            split at g3
            · rename_i c hc
              obtain ⟨a1, a2⟩ := and_true g3
              have hbd := of_decide_eq_true a1
              obtain ⟨p1, p2⟩ := app_sound hc
              refine ⟨_, _, _, ?_, a2⟩
              intro G w ρ L a o' ho hb hsim hops hT hnew N Q hn
              have hx := hops x (by simp [Op.operands, Call.operands])
              have hs := hops s (by simp [Op.operands, Call.operands]); rw [es] at hs
              obtain ⟨hnm, hbase⟩ := hnew M.length (some ⟨e, sz, c⟩) (by simp) (Nat.le_refl _)
              obtain ⟨v, w', ρ', r1, r2, r3, r4, r5⟩ := fresh G w ρ L a o' c M.length ho hsim hnm (by omega) hT hx hs.nil_inv (by omega) (fun i y hy => by
                rcases p2 i y hy with ⟨q1, _⟩ | ⟨_, q2⟩
                · omega
                · simpa [hnb0] using q2) hbd
              exact wp_of_run r1 (hn v w' ρ' r2 r3 r4 (fun n hne => by simp [r5 n hne]))
            · cases g3
          · rename_i n es
            split at g3
            · rename_i blk hM
              split at g3
              · rename_i c hc
                obtain ⟨a1, a2⟩ := and_true g3
                obtain ⟨a3, a4⟩ := and_true a2
                obtain ⟨a5, a6⟩ := and_true a4
                obtain ⟨a7, a8⟩ := and_true a6
                obtain ⟨a9, a10⟩ := and_true a8
                have hbn := of_decide_eq_true a1
                have hbe : blk.e = e := by simpa using a3
                have hbs : blk.sz = sz := by simpa using a5
                have hnx : n ∉ (ev F x).refs := by simpa using a7
                have hbd := of_decide_eq_true a9
                obtain ⟨p1, p2⟩ := app_sound hc
                refine ⟨_, _, _, ?_, a10⟩
                intro G w ρ L a o' ho hb hsim hops hT hnew N Q hn
                have hx := hops x (by simp [Op.operands, Call.operands])
                have hs := hops s (by simp [Op.operands, Call.operands]); rw [es] at hs
                obtain ⟨hnm, hbase⟩ := hnew M.length (some ⟨e, sz, c⟩) (by simp) (Nat.le_refl _)
                have hL : L n = some blk := by rw [hT n (by simp), hM]
                have hagree : ∀ m, m ∈ (ev F x).refs → L m = look M m := fun m hm => hT m (by simp [hm])
                rcases hs.slw_inv with ⟨p, hp, hsv⟩ | ⟨hp, hsv⟩
                · obtain ⟨cur, c1, c2, c3, c4, c5, c6⟩ := hsim.place hL hp
                  obtain ⟨m, cc, ad, news, hv, hm, hnl, hn1, hnr, hcell⟩ := hsrc' G w ρ L _ hsim hagree hx
                  have hmul : (p.len + m) * sz = c.size := by rw [Nat.add_mul, p1, ← hm, ← hbs, c3]
                  have hcount : Blk.count ⟨e, sz, c⟩ = p.len + m := count_eq (blk := ⟨e, sz, c⟩) hmul hsz0
                  rw [hcount] at hbd
                  have hmle : p.len + m ≤ 140737488355328 := Nat.le_trans (Nat.le_mul_of_pos_right _ (by omega)) hbd
                  have hrho : ∀ (q : Option Place) n', updR ρ M.length q n' ≠ ρ n' → n' ∈ [(n, (none : Option Blk)), (M.length, some ⟨e, sz, c⟩)].map (·.1) := by
                    intro q n' hne
                    by_cases e' : n' = M.length
                    · simp [e']
                    · simp [updR, e'] at hne
                  by_cases hm0 : m = 0
                  · subst hm0
                    have hr := append_zero (P := cx.P) (w := w) o'.type ht hi (some ⟨p.b, 0, none⟩) p.len p.cap ad cc c4
                    have hself : w.setRow p.b cur = w := setRow_self w p.b cur _ _ c1
                    obtain ⟨s1, s2⟩ := hsim.regrow n M.length hnm (by omega) blk p hL hp cur cur c1 c p.len rfl (by rw [hbs]; simpa using hmul) c4 (fun j y hy => by
                      rcases p2 j y hy with ⟨_, q2⟩ | ⟨q1, q2⟩
                      · exact c6 j y q2
                      · have := Body.at_lt q2; rw [← hm] at this; simp at this)
                    rw [hself] at s1 s2
                    rw [show ({ blk with c := c } : Blk) = ⟨e, sz, c⟩ by rw [← hbe, ← hbs]] at s1 s2
                    refine wp_of_run (append_exec ho rfl rfl rfl (by rw [hsv, hv]; exact hr)) (hn _ w _ s1 (.slw M.length ⟨p.b, p.len, p.cap⟩ (by simp [updR])) s2 (hrho _))
                  · obtain ⟨b, hab, hcell2⟩ := hcell hm0; clear hcell; subst hab
                    by_cases hroom : p.len + m ≤ p.cap
                    · have hfit : p.len * i.size + news.length ≤ cur.size := by rw [hisz, hnl, ← hm, ← Nat.add_mul, c2, hbs]; exact Nat.mul_le_mul_right _ hroom
                      rw [hbe] at c1
                      have hr := run_append_room (P := cx.P) w t o'.type e i ht hi p.b p.len p.cap cur c1 b m cc news (by rw [hnl, hisz]; omega) hcell2 hn1 hroom hfit
                      rw [← hbe] at c1
                      have hlen : p.len * i.size + news.length ≤ cur.toList.length := by simpa using hfit
                      obtain ⟨s1, s2⟩ := hsim.regrow n M.length hnm (by omega) blk p hL hp cur (cur.toList.take (p.len * i.size) ++ news ++ cur.toList.drop (p.len * i.size + news.length)).toArray c1 c (p.len + m) (by
                          simp only [List.size_toArray, List.length_append, List.length_take, List.length_drop, Array.length_toList] at hlen ⊢; omega) (by rw [hbs]; exact hmul) hroom (fun j y hy => by
                        have hg : (cur.toList.take (p.len * i.size) ++ news ++ cur.toList.drop (p.len * i.size + news.length)).toArray[j]? = if p.len * i.size ≤ j ∧ j < p.len * i.size + news.length then news[j - p.len * i.size]? else cur.toList[j]? := by
                          rw [List.getElem?_toArray]; exact splice_get _ _ _ _ hlen
                        have hb' : p.len * i.size = blk.c.size := by rw [hisz, ← hbs, c3]
                        rw [hb'] at hg ⊢
                        rcases p2 j y hy with ⟨q1, q2⟩ | ⟨q1, q2⟩
                        · obtain ⟨u, u1, u2, u3⟩ := c6 j y q2
                          exact ⟨u, by rw [hg, if_neg (by omega)]; simpa using u1, u2, u3⟩
                        · have hj : j - blk.c.size < news.length := by rw [hnl]; exact Body.at_lt q2
                          exact ⟨news[j - blk.c.size], by rw [hg, if_pos ⟨q1, by omega⟩, List.getElem?_eq_getElem hj], hn1 _ (List.getElem_mem hj), hnr _ y _ q2 (by rw [List.getElem?_eq_getElem hj])⟩)
                      rw [show ({ blk with c := c } : Blk) = ⟨e, sz, c⟩ by rw [← hbe, ← hbs]] at s1 s2
                      exact wp_of_run (append_exec ho rfl rfl rfl (by rw [hsv, hv]; exact hr)) (hn _ _ _ s1 (.slw M.length ⟨p.b, p.len + m, p.cap⟩ (by simp [updR])) s2 (hrho _))
                    · have hfits : blk.c.size ≤ cur.size := by rw [← c3, c2]; exact Nat.mul_le_mul_right _ c4
                      have hcurl : (cur.toList.take blk.c.size).length = blk.c.size := by simp; omega
                      have holds : ∀ (j : Nat) u, (cur.toList.take blk.c.size)[j]? = some u → w.cell? ((⟨p.b, 0, none⟩ : Addr).add j) = some u := by
                        intro j u hu
                        rw [addr_add, Nat.zero_add]
                        rw [List.getElem?_take] at hu
                        split at hu
                        · exact cell_of_heap c1 (by simpa using hu)
                        · cases hu
                      have hr := run_append_grow (P := cx.P) w t o'.type e i zv ht hi hzv ⟨p.b, 0, none⟩ p.len p.cap (cur.toList.take blk.c.size) (by rw [hcurl, hisz, ← hbs, c3]) holds b m cc news (by rw [hnl, hisz]; omega) hcell2 (by omega) (by omega) (growslice_fits (by omega) (by rw [hiby]; exact hbd))
                      obtain ⟨d1, d2⟩ := hsim.drew
                      obtain ⟨e1, e2⟩ := d1.drop n
                      have hge := grownCap_ge w (p.len + m) p.cap e
                      obtain ⟨s1, s2⟩ := e1.alloc M.length hnm (by omega) ⟨e, sz, c⟩ ((cur.toList.take blk.c.size).toArray ++ news.toArray ++ Builtin.zeroCells zv.cells (grownCap w (p.len + m) p.cap e - (p.len + m))) (p.len + m) (grownCap w (p.len + m) p.cap e)
                        (by
                          simp only [Array.size_append, List.size_toArray, size_zeroCells, hzsz, hnl, hcurl]
                          rw [← p1, ← hmul, ← Nat.add_mul]; congr 1; omega) hmul hge (grownCap_le_maxLen w (p.len + m) p.cap e (by unfold maxLen; omega)) (by
                          intro j y hy
                          rcases p2 j y hy with ⟨q1, q2⟩ | ⟨q1, q2⟩
                          · obtain ⟨u, u1, u2, u3⟩ := c6 j y q2
                            refine ⟨u, ?_, u2, (u3.mono d2).mono e2⟩
                            rw [Array.getElem?_append, if_pos (by simp [hcurl]; omega), Array.getElem?_append, if_pos (by simp [hcurl]; omega)]
                            simp [q1]; simpa using u1
                          · have hj : j - blk.c.size < news.length := by rw [hnl]; exact Body.at_lt q2
                            refine ⟨news[j - blk.c.size], ?_, hn1 _ (List.getElem_mem hj), ((hnr _ y _ q2 (by rw [List.getElem?_eq_getElem hj])).mono d2).mono e2⟩
                            rw [Array.getElem?_append, if_pos (by simp only [Array.size_append, List.size_toArray, hcurl]; omega), Array.getElem?_append, if_neg (by simp only [List.size_toArray, hcurl]; omega)]
                            simp only [List.size_toArray, hcurl, List.getElem?_toArray]
                            rw [List.getElem?_eq_getElem hj])
                      exact wp_of_run (append_exec ho rfl rfl rfl (by rw [hsv, hv]; exact hr)) (hn _ _ _ s1 (.slw M.length ⟨w.heap.size, p.len + m, grownCap w (p.len + m) p.cap e⟩ (by simp [updR])) ((d2.trans e2).trans s2) (hrho _))
                · have hsz' := hsim.empty hL hp
                  obtain ⟨e1, e2⟩ := hsim.drop n
                  obtain ⟨v, w', ρ', r1, r2, r3, r4, r5⟩ := fresh G w ρ (updL L n none) a o' c M.length ho e1 hnm (by omega) (fun m' hm' => by
                    have hne : m' ≠ n := fun e => hnx (e ▸ hm')
                    simp only [updL, hne, if_false]; exact hagree m' hm') (hx.mono e2) hsv (by omega) (fun j y hy => by
                    rcases p2 j y hy with ⟨q1, _⟩ | ⟨_, q2⟩
                    · omega
                    · simpa [hsz'] using q2) hbd
                  exact wp_of_run r1 (hn v w' ρ' r2 r3 (e2.trans r4) (fun n' hne => by simp [r5 n' hne]))
              · cases g3
            · cases g3
          · cases g3
        · cases g3
      · cases hh
    · cases hh
  · cases h
end
end Go.Mach
