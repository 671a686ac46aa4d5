/-
  THE MACHINE, eighteenth part: THE SOUNDNESS: a function's body does as the machine says.
  Conditions: none.
-/
import Derived.Test.YtoagmokejfcpbaaMachQ
import Derived.LoopN
namespace Go.Mach

/-! ### names numbered anew -/
def rhoRen (base : Nat) (L : List Nat) (ρ : Rho) : Rho := fun n => if n < base then ρ n else match L[n - base]? with
  | some m => ρ m
  | none => none

theorem renum_sound {base : Nat} {L : List Nat} {ρ : Rho} : ∀ n m q, renum base L n = some m → ρ n = some q → rhoRen base L ρ m = some q := by
  intro n m q hm hq
  unfold renum at hm
  by_cases h : n < base
  · simp [h] at hm; subst hm; simp [rhoRen, h, hq]
  · simp only [h, decide_false, cond_false] at hm
    obtain ⟨i, hi, rfl⟩ := Option.map_eq_some_iff.1 hm
    have := idxIn_some hi
    simp [rhoRen, show ¬ base + i < base by omega, this, hq]

theorem look_renHeap {base : Nat} {L : List Nat} {M : Heap} (hb : base ≤ M.length) (n : Nat) :
    look (renHeap base L M) n = if n < base then (look M n).map (Blk.ren (renum base L)) else match L[n - base]? with
      | some m => (look M m).map (Blk.ren (renum base L))
      | none => none := by
  have hl : ((M.take base).map (·.map (Blk.ren (renum base L)))).length = base := by simp; omega
  unfold renHeap
  by_cases h : n < base
  · rw [if_pos h]
    unfold look
    rw [List.getElem?_append_left (by rw [hl]; exact h), List.getElem?_map, List.getElem?_take, if_pos h]
    cases M[n]? with
    | none => rfl
    | some b => cases b <;> rfl
  · rw [if_neg h]
    unfold look
    rw [List.getElem?_append_right (by rw [hl]; omega), hl, List.getElem?_map]
    cases L[n - base]? with
    | none => rfl
    | some m =>
      have key : ∀ (x : Option Blk), (match (some x : Option (Option Blk)) with | some (some b) => some b | _ => none) = x := by intro x; cases x <;> rfl
      exact key _

theorem renHeap_length {base : Nat} {L : List Nat} {M : Heap} (hb : base ≤ M.length) : (renHeap base L M).length = base + L.length := by
  unfold renHeap; simp; omega

/-- the world behind new names -/
theorem SimW.renum {G : Gh} {w : World} {ρ : Rho} {M : Heap} (h : SimW G w ρ (look M)) (hb : G.base ≤ M.length) {L : List Nat} (hn : nodupB L = true) (hL : ∀ n, n ∈ L → G.base ≤ n) :
    SimW G w (rhoRen G.base L ρ) (look (renHeap G.base L M)) ∧ Keeps (okc G ρ (look M)) w ρ (okc G (rhoRen G.base L ρ) (look (renHeap G.base L M))) w ρ := by
  -- each live block was one
  have hold : ∀ n bl, look (renHeap G.base L M) n = some bl → ∃ m b0, look M m = some b0 ∧ bl = b0.ren (Go.Mach.renum G.base L) ∧ rhoRen G.base L ρ n = ρ m ∧ ((n < G.base ∧ m = n) ∨ (G.base ≤ n ∧ L[n - G.base]? = some m)) := by
    intro n bl hnb
    rw [look_renHeap hb] at hnb
    by_cases h1 : n < G.base
    · rw [if_pos h1] at hnb
      obtain ⟨b0, hb0, rfl⟩ := Option.map_eq_some_iff.1 hnb
      exact ⟨n, b0, hb0, rfl, by simp [rhoRen, h1], .inl ⟨h1, rfl⟩⟩
    · rw [if_neg h1] at hnb
      split at hnb
      · rename_i m hm
        obtain ⟨b0, hb0, rfl⟩ := Option.map_eq_some_iff.1 hnb
        exact ⟨m, b0, hb0, rfl, by simp [rhoRen, h1, hm], .inr ⟨by omega, hm⟩⟩
      · cases hnb
  have hk : Keeps (okc G ρ (look M)) w ρ (okc G (rhoRen G.base L ρ) (look (renHeap G.base L M))) w ρ := by
    refine ⟨fun _ _ h => h, fun b _ ho => ⟨⟨ho.1, fun n bl p hnb hp => ?_⟩, rfl⟩, Nat.le_refl _⟩
    obtain ⟨m, b0, h1, _, h3, _⟩ := hold n bl hnb
    rw [h3] at hp
    exact ho.2 m b0 p h1 hp
  refine ⟨⟨?_, ?_, ?_, h.size, h.os, h.tape, h.output, ?_⟩, hk⟩
  · intro n bl hnb
    obtain ⟨m, b0, h1, rfl, h3, _⟩ := hold n bl hnb
    obtain ⟨q, hq, hbb⟩ := h.blks m b0 h1
    refine ⟨q, by rw [h3]; exact hq, ?_⟩
    cases q with
    | none => show (b0.c.ren _).size = 0; rw [Body.ren_size]; exact hbb
    | some p =>
      obtain ⟨cur, c1, c2, c3, c4, c5, c6⟩ := hbb
      exact ⟨cur, c1, c2, by show _ = (b0.c.ren _).size; rw [Body.ren_size]; exact c3, c4, c5, BodyRep.ren renum_sound (c6.mono hk)⟩
  · intro n n' bn bn' p q hn1 hn2 hp hq e
    obtain ⟨m, b0, h1, _, h3, h4⟩ := hold n bn hn1
    obtain ⟨m', b1, k1, _, k3, k4⟩ := hold n' bn' hn2
    rw [h3] at hp; rw [k3] at hq
    have := h.inj m m' b0 b1 p q h1 k1 hp hq e
    subst this
    rcases h4 with ⟨a1, a2⟩ | ⟨a1, a2⟩ <;> rcases k4 with ⟨c1, c2⟩ | ⟨c1, c2⟩
    · omega
    · have := hL m (List.mem_of_getElem? c2); omega
    · have := hL m (List.mem_of_getElem? a2); omega
    · have := nodupB_sound hn _ _ m a2 c2; omega
  · intro n p hn' hp
    unfold rhoRen at hp
    rw [if_neg (by omega)] at hp
    split at hp
    · rename_i m hm
      exact h.own m p (hL m (List.mem_of_getElem? hm)) hp
    · cases hp
  · intro b hb' hno
    refine h.old b hb' fun n p hn' hp => hno n p hn' ?_
    simp [rhoRen, hn', hp]

theorem newNames_ge {base : Nat} {M : Heap} {r : List Nat} : ∀ n, n ∈ newNames base M r → base ≤ n := by
  intro n hn
  unfold newNames at hn
  simpa using (List.mem_filter.1 hn).2

theorem keepF_getD (keep : List Nat) (f : Nat → Option Nat) : ∀ (F : List V) (i t : Nat), (keepF keep f i F).getD t .any = cond (keep.contains (i + t)) ((F.getD t .any).ren f) .any
  | [], i, t => by simp [keepF]; cases keep.contains (i + t) <;> simp [V.ren]
  | v :: r, i, 0 => by simp [keepF]
  | v :: r, i, t + 1 => by
    have := keepF_getD keep f r (i + 1) t
    simp only [keepF, List.getD_cons_succ]
    rw [this, show i + 1 + t = i + (t + 1) from by omega]
theorem keepF_length (keep : List Nat) (f : Nat → Option Nat) : ∀ (F : List V) (i : Nat), (keepF keep f i F).length = F.length
  | [], _ => rfl
  | v :: r, i => by simp [keepF, keepF_length keep f r]

/-- a block's content read otherwise, in the same world -/
theorem SimW.rebody {G : Gh} {w : World} {ρ : Rho} {L : LK} (h : SimW G w ρ L) (n : Nat) (blk : Blk) (hn : L n = some blk) (c' : Body) (hcs : c'.size = blk.c.size)
    (hr : ∀ cur, BodyRep (okc G ρ L) w ρ blk.c cur → BodyRep (okc G ρ L) w ρ c' cur) :
    SimW G w ρ (updL L n (some { blk with c := c' })) ∧ Keeps (okc G ρ L) w ρ (okc G ρ (updL L n (some { blk with c := c' }))) w ρ := by
  have hlive : ∀ m, (updL L n (some { blk with c := c' }) m).isSome = true → (L m).isSome = true := by
    intro m; unfold updL; by_cases e : m = n
    · subst e; simp [hn]
    · simp [e]
  have hk : Keeps (okc G ρ L) w ρ (okc G ρ (updL L n (some { blk with c := c' }))) w ρ := by
    refine ⟨fun _ _ h => h, fun b _ ho => ⟨⟨ho.1, fun m bl q hm hq => ?_⟩, rfl⟩, Nat.le_refl _⟩
    obtain ⟨bl', hb'⟩ := Option.isSome_iff_exists.1 (hlive m (by simp [hm]))
    exact ho.2 m bl' q hb' hq
  refine ⟨⟨?_, ?_, h.own, h.size, h.os, h.tape, h.output, h.old⟩, hk⟩
  · intro m bl hm
    unfold updL at hm
    by_cases e : m = n
    · subst e
      simp only [if_true, Option.some.injEq] at hm
      subst hm
      obtain ⟨q, hq, hb⟩ := h.blks m blk hn
      refine ⟨q, hq, ?_⟩
      cases q with
      | none => exact hcs.trans hb
      | some p => obtain ⟨c2, g1, g2, g3, g4, g5, g6⟩ := hb; exact ⟨c2, g1, g2, g3.trans hcs.symm, g4, g5, (hr _ g6).mono hk⟩
    · simp only [e, if_false] at hm
      obtain ⟨q, hq, hb⟩ := h.blks m bl hm
      refine ⟨q, hq, ?_⟩
      cases q with
      | none => exact hb
      | some p => obtain ⟨c2, g1, g2, g3, g4, g5, g6⟩ := hb; exact ⟨c2, g1, g2, g3, g4, g5, g6.mono hk⟩
  · intro m m' bn bm q q' hm hm' hq hq' e
    obtain ⟨b1, hb1⟩ := Option.isSome_iff_exists.1 (hlive m (by simp [hm]))
    obtain ⟨b2, hb2⟩ := Option.isSome_iff_exists.1 (hlive m' (by simp [hm']))
    exact h.inj m m' b1 b2 q q' hb1 hb2 hq hq' e

theorem look_push {M : Heap} {b : Option Blk} : look (M ++ [b]) = updL (look M) M.length b := by
  have := look_putAt M M.length b
  unfold putAt at this
  simpa using this
theorem look_setM {M : Heap} {n : Nat} {b : Option Blk} (hn : n < M.length) : look (M.set n b) = updL (look M) n b := by
  have := look_putAt M n b
  unfold putAt at this
  simpa [hn] using this

/-- a new name for an empty row -/
theorem Sim.push {G : Gh} {w : World} {ρ : Rho} {s : St} {a : Act} (h : Sim G w ρ s a) (blk : Blk) (h0 : blk.c.size = 0) :
    Sim G w (updR ρ s.M.length none) ⟨s.F, s.M ++ [some blk]⟩ a ∧ Keeps (okc G ρ (look s.M)) w ρ (okc G (updR ρ s.M.length none) (look (s.M ++ [some blk]))) w (updR ρ s.M.length none) := by
  obtain ⟨h1, h2⟩ := h.sim.virt s.M.length (h.dom _ (Nat.le_refl _)) blk h0
  rw [look_push]
  refine ⟨⟨by rw [look_push]; exact h1, fun n hn => ?_, h.defers, fun u => ?_, h.size, ?_⟩, h2⟩
  · simp at hn
    have : n ≠ s.M.length := by omega
    simp [updR, this, h.dom n (by omega)]
  · show Rep (okc G _ (look (s.M ++ [some blk]))) w _ _ _
    rw [look_push]; exact (h.fr u).mono h2
  · have := h.base; show _ ≤ (s.M ++ [some blk]).length; simp; omega

theorem virtS_sound {P : Program} : ∀ (vs : List (Nat × Option Nat × Nat)) (s : St) (G : Gh) (w : World) (ρ : Rho) (a : Act), Sim G w ρ s a → s.M.length ≤ (virtS P vs s).M.length ∧ ∃ ρ', Sim G w ρ' (virtS P vs s) a ∧ ∀ n q, ρ n = some q → ρ' n = some q
  | [], s, G, w, ρ, a, h => ⟨Nat.le_refl _, ρ, h, fun _ _ h => h⟩
  | (t, none, e) :: r, s, G, w, ρ, a, h => by
    simp only [virtS]
    split
    · rename_i sz b hF hsz hz
      have hb0 : b.size = 0 := by
        cases hzc : zeroCellsOf P e with
        | none => simp only [zeroBody, hzc] at hz; split at hz <;> simp_all
        | some z => exact zeroBody_zero hzc hz
      obtain ⟨h1, h2⟩ := h.push ⟨e, sz, b⟩ hb0
      have hsim : Sim G w (updR ρ s.M.length none) ⟨s.F.set t (.slw s.M.length), s.M ++ [some ⟨e, sz, b⟩]⟩ a := by
        refine ⟨h1.sim, h1.dom, h.defers, fun u => ?_, by simp [h.size], h1.base⟩
        show Rep (okc G _ (look (s.M ++ [some ⟨e, sz, b⟩]))) w _ ((s.F.set t (.slw s.M.length)).getD u .any) _
        have hs := setF_getD s.F (some t) (.slw s.M.length) u
        simp only [setF] at hs
        rw [hs]
        split
        · rename_i hu
          obtain ⟨hu1, hu2⟩ := hu
          cases hu1
          have hr := h.fr t
          rw [hF] at hr
          rw [hr.nil_inv]
          exact .slv _ (by simp [updR])
        · exact (h.fr u).mono h2
      obtain ⟨g1, ρ', g2, g3⟩ := virtS_sound r _ G w _ a hsim
      refine ⟨Nat.le_trans (by simp) g1, ρ', g2, fun n q hq => g3 n q (h2.rho n q hq)⟩
    · exact virtS_sound r s G w ρ a h
  | (t, some i, e) :: r, s, G, w, ρ, a, h => by
    simp only [virtS]
    split
    · rename_i n o sz z hF hsz hz
      split
      · rename_i e0 s0 cs hlk
        split
        · rename_i hcell
          have hb0 : z.size = 0 := by
            cases hzc : zeroCellsOf P e with
            | none => simp only [zeroBody, hzc] at hz; split at hz <;> simp_all
            | some z => exact zeroBody_zero hzc hz
          obtain ⟨h1, h2⟩ := h.push ⟨e, sz, z⟩ hb0
          have hn : n < s.M.length := look_lt hlk
          have hlk' : look (s.M ++ [some ⟨e, sz, z⟩]) n = some ⟨e0, s0, .cells cs⟩ := by
            rw [look_push]; unfold updL; rw [if_neg (by omega)]; exact hlk
          obtain ⟨k1, k2⟩ := h1.sim.rebody n _ hlk' (.cells (cs.set (o + i) (.slw s.M.length))) (by simp [Body.size]) (by
            intro cur hb j x hx
            have hx : (cs.set (o + i) (.slw s.M.length))[j]? = some x := hx
            by_cases e : j = o + i
            · subst e
              have hlt : o + i < cs.length := by
                rcases Nat.lt_or_ge (o + i) cs.length with h | h
                · exact h
                · rw [List.getElem?_eq_none h] at hcell; cases hcell
              rw [List.getElem?_set_self hlt] at hx
              cases hx
              obtain ⟨v, g1, g2, g3⟩ := hb (o + i) .nil hcell
              refine ⟨v, g1, g2, ?_⟩
              rw [g3.nil_inv]
              exact .slv _ (by simp [updR])
            · rw [List.getElem?_set_ne (Ne.symm e)] at hx
              exact hb j x hx)
          have hM : s.M.set n (some ⟨e0, s0, .cells (cs.set (o + i) (.slw s.M.length))⟩) ++ [(some ⟨e, sz, z⟩ : Option Blk)] = (s.M ++ [(some ⟨e, sz, z⟩ : Option Blk)]).set n (some ⟨e0, s0, .cells (cs.set (o + i) (.slw s.M.length))⟩) := by
            rw [List.set_append_left _ _ hn]
          have hlM : look (s.M.set n (some ⟨e0, s0, .cells (cs.set (o + i) (.slw s.M.length))⟩) ++ [(some ⟨e, sz, z⟩ : Option Blk)]) = updL (look (s.M ++ [(some ⟨e, sz, z⟩ : Option Blk)])) n (some ⟨e0, s0, .cells (cs.set (o + i) (.slw s.M.length))⟩) := by
            rw [hM, look_setM (by simp; omega)]
          have hsim : Sim G w (updR ρ s.M.length none) ⟨s.F, s.M.set n (some ⟨e0, s0, .cells (cs.set (o + i) (.slw s.M.length))⟩) ++ [some ⟨e, sz, z⟩]⟩ a := by
            refine ⟨by rw [hlM]; exact k1, fun m hm => h1.dom m (by simpa using hm), h.defers, fun u => ?_, h.size, by have := h1.base; simpa using this⟩
            show Rep (okc G _ (look (s.M.set n _ ++ [some ⟨e, sz, z⟩]))) w _ _ _
            rw [hlM]
            exact (h1.fr u).mono k2
          obtain ⟨g1, ρ', g2, g3⟩ := virtS_sound r _ G w _ a hsim
          refine ⟨Nat.le_trans (by simp) g1, ρ', g2, fun n q hq => g3 n q (h2.rho n q hq)⟩
        · exact virtS_sound r s G w ρ a h
      · exact virtS_sound r s G w ρ a h
    · exact virtS_sound r s G w ρ a h

theorem normS_sound {P : Program} (an : Option Nrm) (s : St) (base : Nat) (hb : base ≤ s.M.length) : base ≤ (normS P base an s).M.length ∧ ∀ (G : Gh) (w : World) (ρ : Rho) (a : Act), G.base = base → Sim G w ρ s a → ∃ ρ', Sim G w ρ' (normS P base an s) a ∧ ∀ n q, n < base → ρ n = some q → ρ' n = some q := by
  cases an with
  | none => exact ⟨hb, fun G w ρ a _ h => ⟨ρ, h, fun _ _ _ h => h⟩⟩
  | some an =>
    have hvl : s.M.length ≤ (virtS P an.virt s).M.length := by
      have : ∀ (vs : List (Nat × Option Nat × Nat)) (s : St), s.M.length ≤ (virtS P vs s).M.length := by
        intro vs
        induction vs with
        | nil => intro s; exact Nat.le_refl _
        | cons x r ih =>
          intro s
          obtain ⟨t, x, e⟩ := x
          cases x with
          | none =>
            simp only [virtS]
            split
            · exact Nat.le_trans (by simp) (ih _)
            · exact ih s
          | some i =>
            simp only [virtS]
            split
            · split
              · split
                · exact Nat.le_trans (by simp) (ih _)
                · exact ih s
              · exact ih s
            · exact ih s
      exact this _ _
    simp only [normS]
    generalize hL : newNames base (virtS P an.virt s).M (keepRefs an.keep 0 (virtS P an.virt s).F) = L
    have hLge : ∀ n, n ∈ L → base ≤ n := fun n hn => newNames_ge n (by rw [hL]; exact hn)
    cases hnd : nodupB L with
    | false =>
      simp only [cond_false]
      refine ⟨Nat.le_trans hb hvl, fun G w ρ a _ h => ?_⟩
      obtain ⟨_, ρ', h1, h2⟩ := virtS_sound an.virt s G w ρ a h
      exact ⟨ρ', h1, fun n q _ hq => h2 n q hq⟩
    | true =>
      simp only [cond_true]
      refine ⟨by rw [renHeap_length (Nat.le_trans hb hvl)]; omega, fun G w ρ a hG h => ?_⟩
      obtain ⟨_, ρ', h1, h2⟩ := virtS_sound an.virt s G w ρ a h
      subst hG
      obtain ⟨h3, h4⟩ := h1.sim.renum h1.base hnd hLge
      refine ⟨rhoRen G.base L ρ', ⟨h3, fun n hn => ?_, h1.defers, fun t => ?_, by rw [keepF_length]; exact h1.size, by rw [renHeap_length h1.base]; omega⟩, fun n q hn hq => by simp [rhoRen, hn, h2 n q hq]⟩
      · have hn : (renHeap G.base L (virtS P an.virt s).M).length ≤ n := hn
        rw [renHeap_length h1.base] at hn
        unfold rhoRen
        rw [if_neg (by omega), List.getElem?_eq_none (by omega)]
      · show Rep _ w _ ((keepF an.keep (renum G.base L) 0 (virtS P an.virt s).F).getD t .any) _
        rw [keepF_getD]
        cases an.keep.contains (0 + t) with
        | false => exact .any _
        | true => exact ren_sound renum_sound ((h1.fr t).mono h4)

/-! ### code -/
def K.of (κ : K) : Exit → St → Bool
  | .normal, s => κ.nrm s
  | .exit i, s => κ.ext i s
  | .ret, s => κ.ret s
  | _, _ => false

/-- what the machine says of a piece of code holds of the model's -/
def Leads (cx : Cx) (base : Nat) (c : Code) (s : St) (e : Exit) (s' : St) : Prop :=
  ∀ (G : Gh) (w : World) (ρ : Rho) (a : Act), G.base = base → Sim G w ρ s a → ∀ (Q : Exit → Act → World → Prop),
    (∀ w' ρ' a', Sim G w' ρ' s' a' → (∀ n q, n < base → ρ n = some q → ρ' n = some q) → Q e a' w') → c.wp cx.P Q a w

theorem codeV_sound {cx : Cx} (hO : OSound cx.P cx.O) {base : Nat} {an : Nat → Option Ann} : ∀ (c : Code) (bid : Nat) (s : St) (κ : K), HooksOk cx base an c bid → base ≤ s.M.length → codeV cx base an c bid s κ = true →
    ∃ e s', κ.of e s' = true ∧ base ≤ s'.M.length ∧ Leads cx base c s e s'
  | .skip, bid, s, κ, hk, hb, h => ⟨.normal, s, h, hb, fun G w ρ a _ hs Q hQ => wp_skip (hQ w ρ a hs fun _ _ _ h => h)⟩
  | .region id ops false, bid, s, κ, hk, hb, h => by
    simp only [codeV] at h
    obtain ⟨s', h1, h2, h3⟩ := opsV_sound hO ops.toList s κ.nrm hb h
    exact ⟨.normal, s', h1, h2, fun G w ρ a hG hs Q hQ => wp_region_list (h3 G w ρ a hG hs Q hQ)⟩
  | .region id ops true, bid, s, κ, hk, hb, h => by
    simp only [codeV] at h
    obtain ⟨g1, g2⟩ := and_true h
    obtain ⟨s', h1, h2, h3⟩ := drawV_sound (id := id) hO hb g1 g2
    exact ⟨.normal, s', h1, h2, h3⟩
  | .seq c d, bid, s, κ, hk, hb, h => by
    simp only [codeV] at h
    obtain ⟨e, s1, h1, h2, h3⟩ := codeV_sound hO c bid s _ hk.1 hb h
    cases e with
    | normal =>
      obtain ⟨e2, s2, k1, k2, k3⟩ := codeV_sound hO d bid s1 κ hk.2 h2 h1
      exact ⟨e2, s2, k1, k2, fun G w ρ a hG hs Q hQ => wp_seq (h3 G w ρ a hG hs _ fun w' ρ' a' hs' hr => k3 G w' ρ' a' hG hs' Q fun w'' ρ'' a'' hs'' hr' => hQ w'' ρ'' a'' hs'' fun n q hn hq => hr' n q hn (hr n q hn hq))⟩
    | exit i => exact ⟨.exit i, s1, h1, h2, fun G w ρ a hG hs Q hQ => wp_seq (h3 G w ρ a hG hs _ fun w' ρ' a' hs' hr => hQ w' ρ' a' hs' hr)⟩
    | ret => exact ⟨.ret, s1, h1, h2, fun G w ρ a hG hs Q hQ => wp_seq (h3 G w ρ a hG hs _ fun w' ρ' a' hs' hr => hQ w' ρ' a' hs' hr)⟩
    | goto l => simp [K.of] at h1
    | panic p => simp [K.of] at h1
    | outgrown => simp [K.of] at h1
  | .cond (.tmp t) c d, bid, s, κ, hk, hb, h => by
    simp only [codeV] at h
    split at h
    · rename_i b hF
      have hev : ∀ {G : Gh} {w : World} {ρ : Rho} {a : Act}, Sim G w ρ s a → a.eval (.tmp t) = .bool b := by
        intro G w ρ a hs
        have hr := hs.fr t
        rw [hF] at hr
        exact hr.bool_inv
      cases b with
      | true =>
        rw [cond_true, set_same hF] at h
        obtain ⟨e, s1, h1, h2, h3⟩ := codeV_sound hO c bid s κ hk.1 hb h
        exact ⟨e, s1, h1, h2, fun G w ρ a hG hs Q hQ => wp_cond_true (hev hs) (h3 G w ρ a hG hs Q hQ)⟩
      | false =>
        rw [cond_false, set_same hF] at h
        obtain ⟨e, s1, h1, h2, h3⟩ := codeV_sound hO d bid s κ hk.2 hb h
        exact ⟨e, s1, h1, h2, fun G w ρ a hG hs Q hQ => wp_cond_false (hev hs) (h3 G w ρ a hG hs Q hQ)⟩
    · cases h
  | .block id c, bid, s, κ, hk, hb, h => by
    simp only [codeV] at h
    obtain ⟨e, s1, h1, h2, h3⟩ := codeV_sound hO c id s _ hk hb h
    cases e with
    | normal => exact ⟨.normal, s1, h1, h2, fun G w ρ a hG hs Q hQ => wp_block (h3 G w ρ a hG hs _ fun w' ρ' a' hs' hr => hQ w' ρ' a' hs' hr)⟩
    | exit i =>
      simp only [K.of] at h1
      cases e : (i == id) with
      | true =>
        rw [e, cond_true] at h1
        obtain rfl : i = id := by simpa using e
        exact ⟨.normal, s1, h1, h2, fun G w ρ a hG hs Q hQ => wp_block (h3 G w ρ a hG hs _ fun w' ρ' a' hs' hr => by simp only [Exit.inBlock, if_true]; exact hQ w' ρ' a' hs' hr)⟩
      | false =>
        rw [e, cond_false] at h1
        have hne : ¬ i = id := by simpa using e
        exact ⟨.exit i, s1, h1, h2, fun G w ρ a hG hs Q hQ => wp_block (h3 G w ρ a hG hs _ fun w' ρ' a' hs' hr => by simp only [Exit.inBlock, hne, if_false]; exact hQ w' ρ' a' hs' hr)⟩
    | ret => exact ⟨.ret, s1, h1, h2, fun G w ρ a hG hs Q hQ => wp_block (h3 G w ρ a hG hs _ fun w' ρ' a' hs' hr => hQ w' ρ' a' hs' hr)⟩
    | goto l => simp [K.of] at h1
    | panic p => simp [K.of] at h1
    | outgrown => simp [K.of] at h1
  | .loop c, bid, s, κ, hk, hb, h => by
    obtain ⟨n1, n2⟩ := normS_sound (P := cx.P) (headOf (an bid)) s base hb
    have h : iter cx.N (fun s k => codeV cx base an c bid s (roundK cx.P base (an bid) κ k)) (normS cx.P base (headOf (an bid)) s) = true := by
      simp only [codeV] at h
      split at h
      · rename_i hk' hkk
        exact hk.2 hk' hkk _ κ h
      · exact h
    have main : ∀ (N : Nat) (s : St), base ≤ s.M.length → iter N (fun s k => codeV cx base an c bid s (roundK cx.P base (an bid) κ k)) s = true →
        ∃ e s', κ.of e s' = true ∧ base ≤ s'.M.length ∧ ∀ (G : Gh) (w : World) (ρ : Rho) (a : Act), G.base = base → Sim G w ρ s a → ∀ (Q : Exit → Act → World → Prop),
          (∀ w' ρ' a', Sim G w' ρ' s' a' → (∀ n q, n < base → ρ n = some q → ρ' n = some q) → Q e a' w') → Code.rounds cx.P c Q N a w := by
      intro N
      induction N with
      | zero => intro s _ h; simp [iter] at h
      | succ N ih =>
        intro s hb h
        simp only [iter] at h
        obtain ⟨e, s1, h1, h2, h3⟩ := codeV_sound hO c bid _ _ hk.1 hb h
        have go : ∀ (e' : Exit) (s' : St), (∀ (G : Gh) (w : World) (ρ : Rho) (a : Act), G.base = base → Sim G w ρ s1 a → ∀ (Q : Exit → Act → World → Prop),
            (∀ w' ρ' a', Sim G w' ρ' s' a' → (∀ n q, n < base → ρ n = some q → ρ' n = some q) → Q e' a' w') → Exit.then (Code.rounds cx.P c Q N) Q e a w) →
            ∀ (G : Gh) (w : World) (ρ : Rho) (a : Act), G.base = base → Sim G w ρ s a → ∀ (Q : Exit → Act → World → Prop),
          (∀ w' ρ' a', Sim G w' ρ' s' a' → (∀ n q, n < base → ρ n = some q → ρ' n = some q) → Q e' a' w') → Code.rounds cx.P c Q (N + 1) a w := by
          intro e' s' hgo G w ρ a hG hs Q hQ
          rw [rounds_succ]
          exact h3 G w ρ a hG hs _ fun w' ρ' a' hs' hr => hgo G w' ρ' a' hG hs' Q fun w'' ρ'' a'' hs'' hr' => hQ w'' ρ'' a'' hs'' fun n q hn hq => hr' n q hn (hr n q hn hq)
        cases e with
        | normal =>
          have h1 : iter N _ (normS cx.P base (headOf (an bid)) s1) = true := h1
          obtain ⟨m1, m2⟩ := normS_sound (P := cx.P) (headOf (an bid)) s1 base h2
          obtain ⟨e2, s2, k1, k2, k3⟩ := ih _ m1 h1
          refine ⟨e2, s2, k1, k2, go e2 s2 fun G w ρ a hG hs Q hQ => ?_⟩
          obtain ⟨ρ1, hs1, hr1⟩ := m2 G w ρ a hG hs
          exact k3 G w ρ1 a hG hs1 Q fun w' ρ' a' hs' hr => hQ w' ρ' a' hs' fun n q hn hq => hr n q hn (hr1 n q hn hq)
        | exit i =>
          obtain ⟨m1, m2⟩ := normS_sound (P := cx.P) (exitOf (an bid) i) s1 base h2
          refine ⟨.exit i, _, h1, m1, go (.exit i) _ fun G w ρ a hG hs Q hQ => ?_⟩
          obtain ⟨ρ1, hs1, hr1⟩ := m2 G w ρ a hG hs
          exact hQ w ρ1 a hs1 hr1
        | ret =>
          obtain ⟨m1, m2⟩ := normS_sound (P := cx.P) (retOf (an bid)) s1 base h2
          refine ⟨.ret, _, h1, m1, go .ret _ fun G w ρ a hG hs Q hQ => ?_⟩
          obtain ⟨ρ1, hs1, hr1⟩ := m2 G w ρ a hG hs
          exact hQ w ρ1 a hs1 hr1
        | goto l => simp [K.of] at h1
        | panic p => simp [K.of] at h1
        | outgrown => simp [K.of] at h1
    obtain ⟨e, s', h1, h2, h3⟩ := main cx.N _ n1 h
    refine ⟨e, s', h1, h2, fun G w ρ a hG hs Q hQ => wp_loop_rounds cx.N ?_⟩
    obtain ⟨ρ1, hs1, hr1⟩ := n2 G w ρ a hG hs
    exact h3 G w ρ1 a hG hs1 Q fun w' ρ' a' hs' hr => hQ w' ρ' a' hs' fun n q hn hq => hr n q hn (hr1 n q hn hq)
  | .exit id, bid, s, κ, hk, hb, h => ⟨.exit id, s, h, hb, fun G w ρ a _ hs Q hQ => wp_exit (hQ w ρ a hs fun _ _ _ h => h)⟩
  | .ret, bid, s, κ, hk, hb, h => ⟨.ret, s, h, hb, fun G w ρ a _ hs Q hQ => wp_ret (hQ w ρ a hs fun _ _ _ h => h)⟩
  | .cond (.const _) _ _, _, _, _, _, _, h => by simp [codeV] at h
  | .cond (.global _) _ _, _, _, _, _, _, h => by simp [codeV] at h
  | .cond (.func _) _ _, _, _, _, _, _, h => by simp [codeV] at h
  | .rangeFunc .., _, _, _, _, _, h => by simp [codeV] at h
  | .scope _, _, _, _, _, _, h => by simp [codeV] at h
  | .label _, _, _, _, _, _, h => by simp [codeV] at h
  | .goto _, _, _, _, _, _, h => by simp [codeV] at h
  | .refuse _, _, _, _, _, _, h => by simp [codeV] at h

/-! ### results -/
def resRun (tmps : Array Value) (r : ResultVar) : Sem Value := match r with
  | .tmp t => pure (tmps.getD t undef)
  | .cell a t => do loadVar t (← asAddr (tmps.getD a undef))

theorem resV_sound {P : Program} {s : St} {r : ResultVar} {k : V → Bool} (h : resV P s r k = true) :
    ∃ x, k x = true ∧ ∀ (G : Gh) (w : World) (ρ : Rho) (a : Act), Sim G w ρ s a → ∃ v, (resRun a.tmps r).run P w = .ok v w ∧ Rep (okc G ρ (look s.M)) w ρ x v := by
  cases r with
  | tmp t => exact ⟨_, h, fun G w ρ a hs => ⟨_, rfl, hs.fr t⟩⟩
  | cell t ty =>
    simp only [resV] at h
    split at h
    · rename_i ag z n p hag hz hF
      split at h
      · rename_i b hM
        have main : ∀ y, ((ag = true ∧ ∃ zs, y = .agg zs ∧ zs.length = z ∧ ∀ (i : Nat) c, zs[i]? = some c → b.c.at (p + i) = some c) ∨ (ag = false ∧ b.c.at p = some y)) → ∀ (G : Gh) (w : World) (ρ : Rho) (a : Act), Sim G w ρ s a →
            ∃ v, (resRun a.tmps (.cell t ty)).run P w = .ok v w ∧ Rep (okc G ρ (look s.M)) w ρ y v := by
          intro y hy G w ρ a hs
          have hx := hs.fr t; rw [hF] at hx
          obtain ⟨pl, hp, hv⟩ := hx.ptr_inv
          obtain ⟨cur, c1, c2, c3, c4, c5, c6⟩ := hs.sim.place hM hp
          have key : ∃ v, (Instr.loadAt ty (.pointer (some ⟨pl.b, p, none⟩))).run P w = .ok v w ∧ Rep (okc G ρ (look s.M)) w ρ y v := by
            refine load_run hag hz ?_
            rcases hy with ⟨h1, zs, h2, h3, h4⟩ | ⟨h1, h2⟩
            · refine .inl ⟨h1, zs, h2, h3, fun i c hc => ?_⟩
              obtain ⟨v, g1, g2, g3⟩ := c6 _ _ (h4 i c hc)
              exact ⟨v, cell_of_heap c1 g1, g2, g3⟩
            · obtain ⟨v, g1, g2, g3⟩ := c6 _ _ h2
              exact .inr ⟨h1, v, cell_of_heap c1 g1, g3⟩
          obtain ⟨v, h1, h2⟩ := key
          refine ⟨v, ?_, h2⟩
          simp only [Instr.loadAt, Instr.sureAddr, Sem.run_bind, Sem.run_pure, Result.andThen_ok] at h1
          simp only [resRun, hv, asAddr, Sem.run_bind, Sem.run_pure, Result.andThen_ok, h1]
        cases ag
        · simp only [cond_false] at h
          obtain ⟨y, hy, hk⟩ := Body.get_sound h
          exact ⟨y, hk, main y (.inr ⟨rfl, hy⟩)⟩
        · simp only [cond_true] at h
          obtain ⟨zs, hl, hy, hk⟩ := Body.part_sound h
          exact ⟨_, hk, main _ (.inl ⟨rfl, zs, rfl, hl, hy⟩)⟩
      · cases h
    · cases h

theorem ressV_sound {P : Program} {s : St} : ∀ (rs : List ResultVar) (k : List V → Bool), ressV P s rs k = true →
    ∃ xs, k xs = true ∧ ∀ (G : Gh) (w : World) (ρ : Rho) (a : Act), Sim G w ρ s a → ∃ vs, (rs.mapM (resRun a.tmps)).run P w = .ok vs w ∧ RepL (okc G ρ (look s.M)) w ρ xs vs
  | [], k, h => ⟨[], h, fun G w ρ a _ => ⟨[], by simp, rfl, by simp⟩⟩
  | r :: rs, k, h => by
    simp only [ressV] at h
    obtain ⟨x, h1, h2⟩ := resV_sound h
    obtain ⟨xs, h3, h4⟩ := ressV_sound rs _ h1
    refine ⟨x :: xs, h3, fun G w ρ a hs => ?_⟩
    obtain ⟨v, g1, g2⟩ := h2 G w ρ a hs
    obtain ⟨vs, g3, g4⟩ := h4 G w ρ a hs
    refine ⟨v :: vs, by simp [List.mapM_cons, g1, g3], by simp [g4.1], fun i c u hc hu => ?_⟩
    cases i with
    | zero => simp at hc hu; subst hc; subst hu; exact g2
    | succ i => exact g4.2 i c u (by simpa using hc) (by simpa using hu)

theorem allLive_map : ∀ {M : Heap} {H : List Blk}, allLive M = some H → M = H.map some
  | [], H, h => by simp [allLive] at h; subst h; rfl
  | some b :: r, H, h => by
    simp only [allLive, Option.map_eq_some_iff] at h
    obtain ⟨H', h1, rfl⟩ := h
    simp [allLive_map h1]
  | none :: _, _, h => by simp [allLive] at h

theorem endV_sound {P : Program} {base : Nat} {fn : Func} {s : St} {k : V → List Blk → Bool} (hb : base ≤ s.M.length) (h : endV P base fn.results.toList s k = true) :
    ∃ r H', k r H' = true ∧ ∀ (G : Gh) (w : World) (ρ : Rho) (a : Act), G.base = base → Sim G w ρ s a → ∃ v ρ', (results fn a.tmps).run P w = .ok v w ∧ (∀ n q, n < base → ρ n = some q → ρ' n = some q) ∧ (∀ n, H'.length ≤ n → ρ' n = none) ∧
      SimW G w ρ' (live H') ∧ Rep (okc G ρ' (live H')) w ρ' r v := by
  unfold endV at h
  obtain ⟨xs, h1, h2⟩ := ressV_sound _ _ h
  obtain ⟨hnd, h3⟩ := and_true h1
  split at h3
  · rename_i H hH
    have hM := allLive_map hH
    have hfin : ∀ (G : Gh) (w : World) (ρ : Rho) (a : Act), G.base = base → Sim G w ρ s a → ∃ vs ρ', (fn.results.mapM (resRun a.tmps)).run P w = .ok vs.toArray w ∧ (∀ n q, n < base → ρ n = some q → ρ' n = some q) ∧ (∀ n, H.length ≤ n → ρ' n = none) ∧
        SimW G w ρ' (live H) ∧ RepL (okc G ρ' (live H)) w ρ' (renL (renum base (newNames base s.M (refsL xs))) xs) vs := by
      intro G w ρ a hG hs
      obtain ⟨vs, g1, g2⟩ := h2 G w ρ a hs
      subst hG
      obtain ⟨g3, g4⟩ := hs.sim.renum hs.base hnd (fun n hn => newNames_ge n hn)
      have hl : look (renHeap G.base (newNames G.base s.M (refsL xs)) s.M) = live H := by rw [hM]; rfl
      rw [hl] at g3 g4
      have hlen : H.length = G.base + (newNames G.base s.M (refsL xs)).length := by
        rw [← renHeap_length (M := s.M) hs.base, hM]; simp
      refine ⟨vs, rhoRen G.base (newNames G.base s.M (refsL xs)) ρ, ?_, fun n q hn hq => by simp [rhoRen, hn, hq], fun n hn => ?_, g3, RepL.ren renum_sound (g2.mono g4)⟩
      · rw [Array.mapM_eq_mapM_toList]
        simp [g1]
      · unfold rhoRen
        rw [if_neg (by omega), List.getElem?_eq_none (by omega)]
    have hres : ∀ (tmps : Array Value) (w : World) (vs : Array Value), (fn.results.mapM (resRun tmps)).run P w = .ok vs w → (results fn tmps).run P w = .ok (if h : vs.size = 1 then vs[0] else .tuple vs) w := by
      intro tmps w vs hr
      have : results fn tmps = (fn.results.mapM (resRun tmps)) >>= fun vs => pure (if h : vs.size = 1 then vs[0] else .tuple vs) := rfl
      rw [this, Sem.run_bind, hr]
      rfl
    split at h3
    · rename_i v hv
      refine ⟨v, H, h3, fun G w ρ a hG hs => ?_⟩
      obtain ⟨vs, ρ', g1, g2, g3, g4, g5⟩ := hfin G w ρ a hG hs
      rw [hv] at g5
      have hl := g5.1
      match vs, hl with
      | [u], _ =>
        refine ⟨u, ρ', ?_, g2, g3, g4, g5.2 0 v u (by simp) (by simp)⟩
        rw [hres _ _ _ g1]; rfl
    · rename_i hne
      refine ⟨_, H, h3, fun G w ρ a hG hs => ?_⟩
      obtain ⟨vs, ρ', g1, g2, g3, g4, g5⟩ := hfin G w ρ a hG hs
      refine ⟨.tuple vs.toArray, ρ', ?_, g2, g3, g4, .tup _ _ g5.1 g5.2⟩
      rw [hres _ _ _ g1, dif_neg]
      intro h1
      have hl := g5.1
      have : vs.length = 1 := by simpa using h1
      rw [this] at hl
      obtain ⟨y, hy⟩ := List.length_eq_one_iff.1 hl
      exact hne y hy
  · cases h3

/-- the contract, as a call's law -/
def OkC (P : Program) (f : FuncId) (args : List V) (H : List Blk) (r : V) (H' : List Blk) : Prop :=
  ∀ (w : World) (ρ : Rho) (ok : Nat → Prop) (vs : List Value), SimW (gh w H.length ok) w ρ (live H) → (∀ n, H.length ≤ n → ρ n = none) → RepL (okc (gh w H.length ok) ρ (live H)) w ρ args vs →
    Calls P f vs.toArray w fun e' w' => ∃ v, e' = .returned v ∧ ∃ ρ', (∀ n, n < H.length → ρ' n = ρ n) ∧ (∀ n, H'.length ≤ n → ρ' n = none) ∧ SimW (gh w H.length ok) w' ρ' (live H') ∧ Rep (okc (gh w H.length ok) ρ' (live H')) w' ρ' r v

theorem bodyV_calls {cx : Cx} (hO : OSound cx.P cx.O) {an : Nat → Option Ann} {f : Nat} {args : List V} {H : List Blk} {k : V → List Blk → Bool} (hk : ∀ fn c, cx.P.funcs[f]? = some fn → fn.body = some c → HooksOk cx H.length an c 0) (h : bodyV cx an f args H k = true) :
    ∃ r H', (Ok cx.P f args H r H' ∧ OkC cx.P f args H r H') ∧ k r H' = true := by
  unfold bodyV at h
  split at h
  · rename_i fn hfn
    split at h
    · rename_i c hc
      simp only at h
      obtain ⟨hname, h'⟩ := and_true h
      have hname' : ¬ fn.name = "runtime.NumGoroutine" := by simpa using hname
      have hb0 : H.length ≤ (H.map some).length := by simp
      obtain ⟨e, s', h1, h2, h3⟩ := codeV_sound hO c 0 _ _ (hk fn c hfn hc) hb0 h'
      have hend : endV cx.P H.length fn.results.toList s' k = true ∧ (e = .normal ∨ e = .ret) := by
        cases e <;> simp [K.of] at h1
        · exact ⟨h1, .inl rfl⟩
        · exact ⟨h1, .inr rfl⟩
      obtain ⟨r, H', hk, hfin⟩ := endV_sound h2 hend.1
      refine ⟨r, H', ?_, hk⟩
      have hok : OkC cx.P f args H r H' := by
        intro w ρ ok vs hsim hdom hargs
        refine calls_of_wp hfn hc ?_
        have hS : Sim (gh w H.length ok) w ρ ⟨args ++ List.replicate (fn.ntmps - args.length) .any, H.map some⟩ { tmps := vs.toArray ++ Array.replicate (fn.ntmps - vs.toArray.size) undef, defers := [] } := by
          refine ⟨hsim, fun n hn => hdom n (by simpa using hn), rfl, fun t => ?_, by simp [hargs.1], by simp [gh]⟩
          show Rep _ w ρ ((args ++ List.replicate (fn.ntmps - args.length) V.any).getD t .any) _
          by_cases ht : t < args.length
          · have htv : t < vs.length := by rw [← hargs.1]; exact ht
            have e1 : (args ++ List.replicate (fn.ntmps - args.length) V.any).getD t .any = args[t] := by
              rw [List.getD, List.getElem?_append_left ht]; simp [ht]
            have e2 : (vs.toArray ++ Array.replicate (fn.ntmps - vs.toArray.size) undef).getD t undef = vs[t] := by
              rw [Array.getD_eq_getD_getElem?, Array.getElem?_append_left (by simpa using htv)]; simp [htv]
            rw [e1, e2]
            exact hargs.2 t _ _ (by simp [ht]) (by simp [htv])
          · have e1 : (args ++ List.replicate (fn.ntmps - args.length) V.any).getD t .any = .any := by
              rw [List.getD, List.getElem?_append_right (by omega), List.getElem?_replicate]
              split <;> rfl
            rw [e1]; exact .any _
        refine h3 (gh w H.length ok) w ρ _ rfl hS _ fun w' ρ' a' hs' hr => ?_
        obtain ⟨v, ρ'', g1, g2, g3, g4, g5⟩ := hfin (gh w H.length ok) w' ρ' a' rfl hs'
        have hpost : a'.defers = [] ∧ ∃ v, (results fn a'.tmps).run cx.P w' = .ok v w' ∧ ∃ v', Ending.returned v = .returned v' ∧ ∃ ρ', (∀ n, n < H.length → ρ' n = ρ n) ∧ (∀ n, H'.length ≤ n → ρ' n = none) ∧ SimW (gh w H.length ok) w' ρ' (live H') ∧ Rep (okc (gh w H.length ok) ρ' (live H')) w' ρ' r v' := by
          refine ⟨hs'.defers, v, g1, v, rfl, ρ'', fun n hn => ?_, g3, g4, g5⟩
          obtain ⟨q, hq, _⟩ := hsim.blks n H[n] (live_get.2 (by simp [hn]))
          rw [hq, g2 n q hn (hr n q hn hq)]
        rcases hend.2 with rfl | rfl
        · exact hpost
        · exact hpost
      refine ⟨?_, hok⟩
      intro w ρ ok vs hsim hdom hargs o a N Q hN
      have hrun : (callFunc f vs.toArray).run cx.P w = .ok (.enter f vs.toArray) w := by
        simp [callFunc, hfn, hname', hc]
      rw [hrun, Oper.upon_enter]
      have hcalls := hok w ρ ok vs hsim hdom hargs
      refine hcalls.mono fun e' w' he => ?_
      obtain ⟨v, rfl, hv⟩ := he
      exact hN v w' hv
    · cases h
  · cases h

theorem bodyV_sound {cx : Cx} (hO : OSound cx.P cx.O) {an : Nat → Option Ann} {f : Nat} {args : List V} {H : List Blk} {k : V → List Blk → Bool} (hk : ∀ fn c, cx.P.funcs[f]? = some fn → fn.body = some c → HooksOk cx H.length an c 0) (h : bodyV cx an f args H k = true) :
    ∃ r H', Ok cx.P f args H r H' ∧ k r H' = true := by
  obtain ⟨r, H', h1, h2⟩ := bodyV_calls hO hk h
  exact ⟨r, H', h1.1, h2⟩

end Go.Mach
