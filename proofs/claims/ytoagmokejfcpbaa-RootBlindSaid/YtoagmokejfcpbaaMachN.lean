/-
  THE MACHINE, fourteenth part: a call does as its contract says.
  Conditions: none.
-/
import Derived.Test.YtoagmokejfcpbaaMachM
namespace Go.Mach

theorem nodupB_sound : ∀ {L : List Nat}, nodupB L = true → ∀ (i j : Nat) n, L[i]? = some n → L[j]? = some n → i = j
  | [], _, i, j, n, hi, _ => by simp at hi
  | x :: r, h, i, j, n, hi, hj => by
    simp only [nodupB, Bool.and_eq_true, Bool.not_eq_true', List.contains_eq_mem, decide_eq_false_iff_not] at h
    cases i with
    | zero =>
      cases j with
      | zero => rfl
      | succ j =>
        simp at hi hj; subst hi
        exact absurd (List.mem_of_getElem? hj) h.1
    | succ i =>
      cases j with
      | zero =>
        simp at hi hj; subst hj
        exact absurd (List.mem_of_getElem? hi) h.1
      | succ j => simp at hi hj; rw [nodupB_sound h.2 i j n hi hj]

theorem idxIn_some {L : List Nat} {n i : Nat} (h : idxIn L n = some i) : L[i]? = some n := by
  unfold idxIn at h
  rw [List.idxOf?_eq_some_iff] at h
  obtain ⟨hi, h1, _⟩ := h
  simp [hi]; simpa using h1

theorem look_lt {M : Heap} {n : Nat} {b : Blk} (h : look M n = some b) : n < M.length := by
  unfold look at h
  split at h
  · rename_i e; exact (List.getElem?_eq_some_iff.1 e).1
  · cases h
theorem live_get {H : List Blk} {i : Nat} {b : Blk} : live H i = some b ↔ H[i]? = some b := by
  unfold live look
  simp only [List.getElem?_map]
  cases H[i]? <;> simp

theorem updU_old : ∀ (U : Upd) (L : LK) (n : Nat), n ∉ U.map (·.1) → updU L U n = L n
  | [], _, _, _ => rfl
  | (m, b) :: r, L, n, h => by
    simp only [List.map_cons, List.mem_cons, not_or] at h
    rw [updU, updU_old r _ n h.2]
    simp [updL, h.1]
theorem updU_app : ∀ (U U' : Upd) (L : LK), updU L (U ++ U') = updU (updU L U) U'
  | [], _, _ => rfl
  | (m, b) :: r, U', L => by rw [List.cons_append, updU, updU, updU_app r]

theorem zipOld_fst : ∀ (L : List Nat) (H : List Blk), L.length ≤ H.length → (zipOld L H).map (·.1) = L
  | [], _, _ => by simp [zipOld]
  | n :: r, [], h => by simp at h
  | n :: r, b :: H, h => by simp [zipOld, zipOld_fst r H (by simpa using h)]
theorem zipOld_get : ∀ (L : List Nat) (H : List Blk) (LK0 : LK), nodupB L = true → L.length ≤ H.length → ∀ (i : Nat) n, L[i]? = some n → updU LK0 (zipOld L H) n = H[i]?
  | [], _, _, _, _, i, n, h => by simp at h
  | x :: r, [], _, _, h, _, _, _ => by simp at h
  | x :: r, b :: H, LK0, hn, hl, i, n, h => by
    have hn' := hn
    simp only [nodupB, Bool.and_eq_true, Bool.not_eq_true', List.contains_eq_mem, decide_eq_false_iff_not] at hn
    simp only [zipOld, updU]
    cases i with
    | zero =>
      simp at h; subst h
      rw [updU_old _ _ _ (by rw [zipOld_fst r H (by simpa using hl)]; exact hn.1)]
      simp [updL]
    | succ i =>
      rw [zipOld_get r H _ hn.2 (by simpa using hl) i n (by simpa using h)]
      simp
theorem zipNew_fst : ∀ (nm : Nat) (H : List Blk) (n : Nat), n ∈ (zipNew nm H).map (·.1) ↔ nm ≤ n ∧ n < nm + H.length
  | nm, [], n => by simp only [zipNew, List.map_nil, List.not_mem_nil, List.length_nil, false_iff]; omega
  | nm, b :: H, n => by
    simp only [zipNew, List.map_cons, List.mem_cons, zipNew_fst (nm + 1) H n, List.length_cons]
    omega
theorem zipNew_get : ∀ (H : List Blk) (nm : Nat) (LK0 : LK) (j : Nat), j < H.length → updU LK0 (zipNew nm H) (nm + j) = H[j]?
  | [], nm, LK0, j, h => by simp at h
  | b :: H, nm, LK0, 0, _ => by
    simp only [zipNew, updU, Nat.add_zero]
    rw [updU_old _ _ _ (by rw [zipNew_fst]; omega)]
    simp [updL]
  | b :: H, nm, LK0, j + 1, h => by
    simp only [zipNew, updU]
    rw [show nm + (j + 1) = nm + 1 + j from by omega, zipNew_get H (nm + 1) _ j (by simpa using h)]
    simp

/-- the callee's names -/
def rhoIn (L : List Nat) (ρ : Rho) : Rho := fun i => match L[i]? with
  | some n => ρ n
  | none => none
/-- the caller's names behind the call -/
def rhoOut (nm cnt len : Nat) (ρ ρ' : Rho) : Rho := fun n => if nm ≤ n ∧ n < nm + cnt then ρ' (len + (n - nm)) else ρ n

theorem callV_sound {cx : Cx} (hO : OSound cx.P cx.O) {base : Nat} {M : Heap} {g : Nat} {vs : List V} {k : KOp} (h : callV cx M g vs k = true) :
    ∃ x U T, k x U T = true ∧ ∀ (G : Gh) (w : World) (ρ : Rho) (L : LK) (us : List Value), G.base = base → base ≤ M.length → SimW G w ρ L → RepL (okc G ρ L) w ρ vs us → (∀ n, n ∈ T → L n = look M n) → (∀ n b, (n, b) ∈ U → M.length ≤ n → ρ n = none ∧ base ≤ n) →
      InvP cx.P g us.toArray w fun v w' => ∃ ρ', SimW G w' ρ' (updU L U) ∧ Rep (okc G ρ' (updU L U)) w' ρ' x v ∧ Keeps (okc G ρ L) w ρ (okc G ρ' (updU L U)) w' ρ' ∧ (∀ n, ρ' n ≠ ρ n → n ∈ U.map (·.1)) := by
  unfold callV at h
  split at h
  · cases h
  · rename_i fn hfn
    split at h
    · cases h
    · rename_i vs1 hvs1
      simp only at h
      generalize hB : cond (cx.ref g) [] ((vs.map (lent M 4)).flatten) = B at h
      generalize hvs2 : nilArgs cx.P fn.params.toList vs1 = vs2 at h
      generalize hLL : reach M 3 (dedup (refsL vs2)) = LL at h
      split at h
      · cases h
      · rename_i bs hbs
        obtain ⟨hnd, h1⟩ := and_true h
        obtain ⟨hdis, h2⟩ := and_true h1
        obtain ⟨r, H, hok, h3⟩ := hO _ _ _ _ h2
        obtain ⟨h4, h5⟩ := and_true h3
        obtain ⟨h6, h7⟩ := and_true h5
        clear h h1 h2 h3 h5
        have hlen : LL.length ≤ H.length := of_decide_eq_true h4
        have hdis' : ∀ n, n ∈ B → n ∉ LL := by
          intro n hn
          have := List.all_eq_true.1 hdis n hn
          simpa using this
        obtain ⟨hbl, hbg⟩ := mapM_get hbs
        refine ⟨_, _, _, h7, ?_⟩
        intro G w ρ L us hbase hbM hsim hargs hagree hnew
        have hLL' : ∀ (i : Nat) n, LL[i]? = some n → ∃ b, bs[i]? = some b ∧ L n = some b ∧ look M n = some b := by
          intro i n hi
          have hlt : i < bs.length := by rw [← hbl]; exact (List.getElem?_eq_some_iff.1 hi).1
          obtain ⟨n', h1, h2⟩ := hbg i bs[i] (by simp [hlt])
          rw [hi] at h1; cases h1
          exact ⟨bs[i], by simp [hlt], by rw [hagree n (by simp [List.mem_of_getElem? hi]), h2], h2⟩
        -- what is lent
        have hvs2r : RepL (okL (okc G ρ L) ρ L B) w ρ vs2 us := by
          rw [← hvs2]
          refine nilArgs_rep _ _ _ ?_
          cases hr : cx.ref g with
          | true =>
            simp only [hr, cond_true, Option.some.injEq] at hvs1
            rw [← hvs1]; exact hargs.mono (keeps_okL B)
          | false =>
            simp only [hr, cond_false] at hvs1 hB
            obtain ⟨m1, m2⟩ := mapM_get hvs1
            refine ⟨by rw [← m1]; exact hargs.1, fun i c u hc hu => ?_⟩
            obtain ⟨a, ha, hla⟩ := m2 i c hc
            exact lend_sound hsim B (fun n hn => hagree n (by simp [hn])) 4 a c u hla (fun n hn => by rw [← hB]; exact mem_flatten_map (List.mem_of_getElem? ha) hn) (hargs.2 i a u ha hu)
        have hin : ∀ n m q, idxIn LL n = some m → ρ n = some q → rhoIn LL ρ m = some q := by
          intro n m q hm hq
          simp [rhoIn, idxIn_some hm, hq]
        -- the callee's blocks
        have hliveIn : ∀ i b, live (bs.map (Blk.ren (idxIn LL))) i = some b → ∃ n b0, LL[i]? = some n ∧ L n = some b0 ∧ bs[i]? = some b0 ∧ b = b0.ren (idxIn LL) := by
          intro i b hb
          rw [live_get, List.getElem?_map] at hb
          obtain ⟨b0, hb0, rfl⟩ := Option.map_eq_some_iff.1 hb
          have hi : i < LL.length := by rw [hbl]; exact (List.getElem?_eq_some_iff.1 hb0).1
          obtain ⟨b1, g1, g2, g3⟩ := hLL' i LL[i] (by simp [hi])
          rw [hb0] at g1; cases g1
          exact ⟨LL[i], b0, by simp [hi], g2, hb0, rfl⟩
        have hlenIn : (bs.map (Blk.ren (idxIn LL))).length = LL.length := by simp [hbl]
        have hplace : ∀ i n p, LL[i]? = some n → (rhoIn LL ρ i = some (some p) ↔ ρ n = some (some p)) := by
          intro i n p hi; simp [rhoIn, hi]
        -- what is read only for the caller, or lent, is read only for the callee
        have hokin : ∀ b, okL (okc G ρ L) ρ L B b → okc (gh w LL.length (okL (okc G ρ L) ρ L B)) (rhoIn LL ρ) (live (bs.map (Blk.ren (idxIn LL)))) b := by
          intro b hb
          refine ⟨.inl hb, fun i bl p hi hp => ?_⟩
          obtain ⟨n, b0, e1, e2, e3, _⟩ := hliveIn i bl hi
          have hp' := (hplace i n p e1).1 hp
          rcases hb with hb | ⟨m, q, bm, hm, hlm, hq, rfl⟩
          · exact hb.2 n b0 p e2 hp'
          · intro he
            have := hsim.inj n m b0 bm p q e2 hlm hp' hq he
            subst this
            exact hdis' n hm (List.mem_of_getElem? e1)
        have hkin : Keeps (okL (okc G ρ L) ρ L B) w ρ (okc (gh w LL.length (okL (okc G ρ L) ρ L B)) (rhoIn LL ρ) (live (bs.map (Blk.ren (idxIn LL))))) w ρ :=
          ⟨fun _ _ h => h, fun b _ hb => ⟨hokin b hb, rfl⟩, Nat.le_refl _⟩
        have hsimIn : SimW (gh w (bs.map (Blk.ren (idxIn LL))).length (okL (okc G ρ L) ρ L B)) w (rhoIn LL ρ) (live (bs.map (Blk.ren (idxIn LL)))) := by
          rw [hlenIn]
          refine ⟨?_, ?_, ?_, Nat.le_refl _, rfl, rfl, rfl, fun _ _ _ => rfl⟩
          · intro i bl hi
            obtain ⟨n, b0, e1, e2, e3, rfl⟩ := hliveIn i bl hi
            obtain ⟨q, hq, hb⟩ := hsim.blks n b0 e2
            refine ⟨q, by simp [rhoIn, e1, hq], ?_⟩
            cases q with
            | none => show (b0.c.ren _).size = 0; rw [Body.ren_size]; exact hb
            | some p =>
              obtain ⟨cur, c1, c2, c3, c4, c5, c6⟩ := hb
              exact ⟨cur, c1, c2, by show _ = (b0.c.ren _).size; rw [Body.ren_size]; exact c3, c4, c5, BodyRep.ren hin ((c6.mono (keeps_okL B)).mono hkin)⟩
          · intro i j bi bj p q hi hj hp hq e
            obtain ⟨n, b0, e1, e2, _, _⟩ := hliveIn i bi hi
            obtain ⟨m, b1, e3, e4, _, _⟩ := hliveIn j bj hj
            have := hsim.inj n m b0 b1 p q e2 e4 ((hplace i n p e1).1 hp) ((hplace j m q e3).1 hq) e
            subst this
            exact nodupB_sound hnd i j n e1 e3
          · intro i p hi hp
            have hi : LL.length ≤ i := hi
            simp [rhoIn, hi] at hp
        have hargsIn : RepL (okc (gh w (bs.map (Blk.ren (idxIn LL))).length (okL (okc G ρ L) ρ L B)) (rhoIn LL ρ) (live (bs.map (Blk.ren (idxIn LL))))) w (rhoIn LL ρ) (renL (idxIn LL) vs2) us := by
          rw [hlenIn]; exact (hvs2r.mono hkin).ren hin
        have hcall := hok w (rhoIn LL ρ) (okL (okc G ρ L) ρ L B) us hsimIn (fun n hn => by rw [hlenIn] at hn; simp [rhoIn, hn]) hargsIn
        intro o a N Q hN
        refine hcall o a N Q fun v w' hR => hN v w' ?_
        obtain ⟨ρ', hρ1, hρ2, hsim', hrep'⟩ := hR
        rw [hlenIn] at hρ1 hsim' hrep'
        -- back to the caller
        generalize hf2 : (fun i => cond (decide (i < LL.length)) (LL[i]?) (some (M.length + (i - LL.length)))) = f2 at h6 hnew ⊢
        have hf2lt : ∀ i, i < LL.length → f2 i = LL[i]? := fun i hi => by rw [← hf2]; simp [hi]
        have hf2ge : ∀ i, LL.length ≤ i → f2 i = some (M.length + (i - LL.length)) := fun i hi => by
          rw [← hf2]; simp [show ¬ i < LL.length by omega]
        generalize hU : zipOld LL ((H.map (Blk.ren f2)).take LL.length) ++ zipNew M.length ((H.map (Blk.ren f2)).drop LL.length) = U at hnew ⊢
        have htake : LL.length ≤ ((H.map (Blk.ren f2)).take LL.length).length := by simp; omega
        have hdl : ((H.map (Blk.ren f2)).drop LL.length).length = H.length - LL.length := by simp
        have hmemU : ∀ n, n ∈ U.map (·.1) ↔ n ∈ LL ∨ (M.length ≤ n ∧ n < M.length + (H.length - LL.length)) := by
          intro n
          rw [← hU, List.map_append, List.mem_append, zipOld_fst _ _ htake, zipNew_fst, hdl]
        have hLLlt : ∀ n, n ∈ LL → n < M.length := by
          intro n hn
          obtain ⟨i, hi, rfl⟩ := List.getElem_of_mem hn
          obtain ⟨b, _, _, hb⟩ := hLL' i LL[i] (by simp [hi])
          exact look_lt hb
        have hnone : ∀ n, M.length ≤ n → n < M.length + (H.length - LL.length) → ρ n = none := by
          intro n h1 h2
          have hm : n ∈ U.map (·.1) := (hmemU n).2 (.inr ⟨h1, h2⟩)
          obtain ⟨⟨m, b⟩, hmb, hme⟩ := List.mem_map.1 hm
          subst hme
          exact (hnew m b hmb h1).1
        have hout : ∀ n, ¬ (M.length ≤ n ∧ n < M.length + (H.length - LL.length)) → rhoOut M.length (H.length - LL.length) LL.length ρ ρ' n = ρ n := fun n hn => if_neg hn
        have houtN : ∀ j, j < H.length - LL.length → rhoOut M.length (H.length - LL.length) LL.length ρ ρ' (M.length + j) = ρ' (LL.length + j) := by
          intro j hj
          unfold rhoOut
          rw [if_pos (by omega), show M.length + j - M.length = j from by omega]
        have hρin : ∀ (i : Nat) n, LL[i]? = some n → ρ' i = ρ n := by
          intro i n hi
          have hlt := (List.getElem?_eq_some_iff.1 hi).1
          rw [hρ1 i hlt]
          simp [rhoIn, hi]
        have hff : ∀ i m q, f2 i = some m → ρ' i = some q → rhoOut M.length (H.length - LL.length) LL.length ρ ρ' m = some q := by
          intro i m q hm hq
          by_cases hi : i < LL.length
          · rw [hf2lt i hi] at hm
            rw [hout m (by have := hLLlt m (List.mem_of_getElem? hm); omega), ← hρin i m hm, hq]
          · rw [hf2ge i (by omega)] at hm
            cases hm
            have hiH : i < H.length := by
              rcases Nat.lt_or_ge i H.length with h | h
              · exact h
              · rw [hρ2 i h] at hq; cases hq
            rw [houtN _ (by omega), show LL.length + (i - LL.length) = i from by omega, hq]
        have hmono : ∀ n q, ρ n = some q → rhoOut M.length (H.length - LL.length) LL.length ρ ρ' n = some q := by
          intro n q hq
          rw [hout n (fun h => by rw [hnone n h.1 h.2] at hq; cases hq), hq]
        -- what is live behind the call
        have hcls : ∀ n bl, updU L U n = some bl → (∃ i b0, live H i = some b0 ∧ f2 i = some n ∧ bl = b0.ren f2 ∧ rhoOut M.length (H.length - LL.length) LL.length ρ ρ' n = ρ' i) ∨
            (n ∉ LL ∧ ¬ (M.length ≤ n ∧ n < M.length + (H.length - LL.length)) ∧ L n = some bl ∧ rhoOut M.length (H.length - LL.length) LL.length ρ ρ' n = ρ n) := by
          intro n bl hn
          by_cases h1 : M.length ≤ n ∧ n < M.length + (H.length - LL.length)
          · left
            obtain ⟨j, rfl⟩ : ∃ j, n = M.length + j := ⟨n - M.length, by omega⟩
            have hj : j < H.length - LL.length := by omega
            rw [← hU, updU_app, zipNew_get _ _ _ _ (by rw [hdl]; exact hj), List.getElem?_drop, List.getElem?_map] at hn
            obtain ⟨b0, hb0, rfl⟩ := Option.map_eq_some_iff.1 hn
            exact ⟨LL.length + j, b0, live_get.2 hb0, by rw [hf2ge _ (by omega)]; congr 1; omega, rfl, houtN j hj⟩
          · by_cases h2 : n ∈ LL
            · left
              obtain ⟨i, hi, rfl⟩ := List.getElem_of_mem h2
              have hii : LL[i]? = some LL[i] := by simp [hi]
              rw [← hU, updU_app, updU_old _ _ _ (by rw [zipNew_fst, hdl]; exact h1), zipOld_get _ _ _ hnd htake i _ hii, List.getElem?_take, if_pos hi, List.getElem?_map] at hn
              obtain ⟨b0, hb0, rfl⟩ := Option.map_eq_some_iff.1 hn
              exact ⟨i, b0, live_get.2 hb0, by rw [hf2lt i hi, hii], rfl, by rw [hout _ h1, hρin i _ hii]⟩
            · right
              rw [updU_old _ _ _ (fun hm => by rcases (hmemU n).1 hm with h | h; exact h2 h; exact h1 h)] at hn
              exact ⟨h2, h1, hn, hout n h1⟩
        have hplaceLL : ∀ (i : Nat) p, i < LL.length → ρ' i = some (some p) → ∃ b, L LL[i]! = some b ∧ ρ LL[i]! = some (some p) ∧ LL[i]? = some LL[i]! := by
          intro i p hi hp
          have hii : LL[i]? = some LL[i] := by simp [hi]
          obtain ⟨b, _, hb, _⟩ := hLL' i LL[i] hii
          have e : LL[i]! = LL[i] := by simp [hi]
          rw [e]
          exact ⟨b, hb, by rw [← hρin i _ hii]; exact hp, hii⟩
        have hnotlive : ∀ b, b < w.heap.size → okc G ρ L b → okc G (rhoOut M.length (H.length - LL.length) LL.length ρ ρ') (updU L U) b := by
          intro b hb ho
          refine ⟨ho.1, fun n bl p hn hp => ?_⟩
          rcases hcls n bl hn with ⟨i, b0, h1, h2, _, h4⟩ | ⟨h1, h2, h3, h4⟩
          · rw [h4] at hp
            by_cases hi : i < LL.length
            · obtain ⟨b', hb', hp', _⟩ := hplaceLL i p hi hp
              exact ho.2 _ b' p hb' hp'
            · have h5 := hsim'.own i p (show LL.length ≤ i by omega) hp
              have h5 : w.heap.size ≤ p.b := h5
              omega
          · rw [h4] at hp; exact ho.2 n bl p h3 hp
        have hheap : ∀ b, b < w.heap.size → (∀ (i : Nat) p, i < LL.length → ρ' i = some (some p) → p.b ≠ b) → w'.heap[b]? = w.heap[b]? := fun b hb hno => hsim'.old b hb hno
        have hkeep : Keeps (okc G ρ L) w ρ (okc G (rhoOut M.length (H.length - LL.length) LL.length ρ ρ') (updU L U)) w' (rhoOut M.length (H.length - LL.length) LL.length ρ ρ') := by
          refine ⟨hmono, fun b hb ho => ⟨hnotlive b hb ho, hheap b hb fun i p hi hp => ?_⟩, hsim'.size⟩
          obtain ⟨b', hb', hp', _⟩ := hplaceLL i p hi hp
          exact ho.2 _ b' p hb' hp'
        -- what was told read only is so for the caller, where nothing was lent
        have hback : B = [] → Keeps (okc (gh w LL.length (okL (okc G ρ L) ρ L B)) ρ' (live H)) w' ρ' (okc G (rhoOut M.length (H.length - LL.length) LL.length ρ ρ') (updU L U)) w' ρ' := by
          intro hBn
          refine ⟨fun _ _ h => h, fun b _ ho => ⟨?_, rfl⟩, Nat.le_refl _⟩
          have hC : okc G ρ L b ∨ w.heap.size ≤ b := by
            rcases ho.1 with h | h
            · rcases h with h | ⟨n, p, bl, hn, _⟩
              · exact .inl h
              · rw [hBn] at hn; cases hn
            · exact .inr h
          refine ⟨?_, fun n bl p hn hp => ?_⟩
          · rcases hC with h | h
            · exact h.1
            · exact .inr (Nat.le_trans hsim.size h)
          · rcases hcls n bl hn with ⟨i, b0, h1, h2, _, h4⟩ | ⟨h1, h2, h3, h4⟩
            · rw [h4] at hp; exact ho.2 i b0 p h1 hp
            · rw [h4] at hp
              rcases hC with h | h
              · exact h.2 n bl p h3 hp
              · have := hsim.lt h3 hp; omega
        have hbody : ∀ (i : Nat) (b0 : Blk) cur, H[i]? = some b0 → BodyRep (okc (gh w LL.length (okL (okc G ρ L) ρ L B)) ρ' (live H)) w' ρ' b0.c cur → BodyRep (okc G (rhoOut M.length (H.length - LL.length) LL.length ρ ρ') (updU L U)) w' (rhoOut M.length (H.length - LL.length) LL.length ρ ρ') (b0.c.ren f2) cur := by
          intro i b0 cur hi hb
          cases hBe : B.isEmpty with
          | true => exact BodyRep.ren hff (hb.mono (hback (List.isEmpty_iff.1 hBe)))
          | false =>
            rw [hBe, Bool.false_or] at h6
            have h7 := (and_true h6).2
            have h8 := List.all_eq_true.1 h7 (b0.ren f2) (List.mem_map.2 ⟨b0, List.mem_of_getElem? hi, rfl⟩)
            have h9 : BodyRep (okc (gh w LL.length (okL (okc G ρ L) ρ L B)) ρ' (live H)) w' (rhoOut M.length (H.length - LL.length) LL.length ρ ρ') (b0.c.ren f2) cur := BodyRep.ren hff hb
            exact h9.free h8
        refine ⟨rhoOut M.length (H.length - LL.length) LL.length ρ ρ', ⟨?_, ?_, ?_, Nat.le_trans hsim.size hsim'.size, hsim'.os.trans hsim.os, hsim'.tape.trans hsim.tape, hsim'.output.trans hsim.output, ?_⟩, ?_, hkeep, ?_⟩
        · intro n bl hn
          rcases hcls n bl hn with ⟨i, b0, g1, g2, rfl, g4⟩ | ⟨g1, g2, g3, g4⟩
          · obtain ⟨q, hq, hb⟩ := hsim'.blks i b0 g1
            refine ⟨q, by rw [g4]; exact hq, ?_⟩
            cases q with
            | none => show (b0.c.ren f2).size = 0; rw [Body.ren_size]; exact hb
            | some p =>
              obtain ⟨cur, c1, c2, c3, c4, c5, c6⟩ := hb
              exact ⟨cur, c1, c2, by show _ = (b0.c.ren f2).size; rw [Body.ren_size]; exact c3, c4, c5, hbody i b0 cur (live_get.1 g1) c6⟩
          · obtain ⟨q, hq, hb⟩ := hsim.blks n bl g3
            refine ⟨q, by rw [g4]; exact hq, ?_⟩
            cases q with
            | none => exact hb
            | some p =>
              obtain ⟨cur, c1, c2, c3, c4, c5, c6⟩ := hb
              refine ⟨cur, ?_, c2, c3, c4, c5, c6.mono hkeep⟩
              rw [hheap p.b (hsim.lt g3 hq) fun i p' hi hp' he => ?_]
              · exact c1
              · obtain ⟨b', hb', hp'', hii⟩ := hplaceLL i p' hi hp'
                have := hsim.inj _ n b' bl p' p hb' g3 hp'' hq he
                exact g1 (this ▸ List.mem_of_getElem? hii)
        · intro n m bn bm p q hn hm hp hq e
          have mixed : ∀ i (b0 : Blk) m bm p q, live H i = some b0 → ρ' i = some (some p) → m ∉ LL → L m = some bm → ρ m = some (some q) → p.b ≠ q.b := by
            intro i b0 m bm p q h1 h2 h3 h4 h5 he
            by_cases hi : i < LL.length
            · obtain ⟨b', hb', hp', hii⟩ := hplaceLL i p hi h2
              have := hsim.inj _ m b' bm p q hb' h4 hp' h5 he
              exact h3 (this ▸ List.mem_of_getElem? hii)
            · have h6 : w.heap.size ≤ p.b := hsim'.own i p (show LL.length ≤ i by omega) h2
              have := hsim.lt h4 h5; omega
          rcases hcls n bn hn with ⟨i, b0, g1, g2, _, g4⟩ | ⟨g1, g2, g3, g4⟩ <;> rcases hcls m bm hm with ⟨j, b1, k1, k2, _, k4⟩ | ⟨k1, k2, k3, k4⟩
          · rw [g4] at hp; rw [k4] at hq
            have := hsim'.inj i j b0 b1 p q g1 k1 hp hq e
            subst this
            rw [g2] at k2; exact Option.some.inj k2
          · rw [g4] at hp; rw [k4] at hq
            exact absurd e (mixed i b0 m bm p q g1 hp k1 k3 hq)
          · rw [g4] at hp; rw [k4] at hq
            exact absurd e.symm (mixed j b1 n bn q p k1 hq g1 g3 hp)
          · rw [g4] at hp; rw [k4] at hq
            exact hsim.inj n m bn bm p q g3 k3 hp hq e
        · intro n p hn hp
          by_cases h1 : M.length ≤ n ∧ n < M.length + (H.length - LL.length)
          · obtain ⟨j, rfl⟩ : ∃ j, n = M.length + j := ⟨n - M.length, by omega⟩
            rw [houtN j (by omega)] at hp
            have h5 : w.heap.size ≤ p.b := hsim'.own _ p (show LL.length ≤ LL.length + j by omega) hp
            exact Nat.le_trans hsim.size h5
          · rw [hout n h1] at hp; exact hsim.own n p hn hp
        · intro b hb hno
          rw [hheap b (Nat.lt_of_lt_of_le hb hsim.size) fun i p hi hp => ?_]
          · exact hsim.old b hb fun n p hn hp => hno n p hn (hmono n _ hp)
          · obtain ⟨b', hb', hp', hii⟩ := hplaceLL i p hi hp
            by_cases hlt : LL[i]! < G.base
            · exact hno _ p hlt (hmono _ _ hp')
            · have := hsim.own _ p (by omega) hp'; omega
        · cases hBe : B.isEmpty with
          | true => exact ren_sound hff (hrep'.mono (hback (List.isEmpty_iff.1 hBe)))
          | false =>
            rw [hBe, Bool.false_or] at h6
            exact free_rep (ren_sound hff hrep') (and_true h6).1
        · intro n hne
          rw [hmemU]
          by_cases h1 : M.length ≤ n ∧ n < M.length + (H.length - LL.length)
          · exact .inr h1
          · exact absurd (hout n h1) hne
end Go.Mach
