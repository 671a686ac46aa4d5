/-
  THE MACHINE, sixteenth part: a region that draws its order does as the machine says, in whatever order.
  Conditions: none.
-/
import Derived.Test.YtoagmokejfcpbaaMachO
import Derived.Orders
namespace Go.Mach

/-- one operation of the walk in the text's order -/
structure Tr where
  o : Oper
  F : List V
  M : Heap
  x : V
  U : Upd
  T : List Nat
def Tr.did (all : Array Oper) (t : Tr) : Did := ⟨t.o.dst, Oper.reads all t.o, t.U.map (·.1), t.T⟩
def Tr.ok (P : Program) (base : Nat) (all : Array Oper) (t : Tr) : Prop :=
  ((t.o.guard = none ∨ ∃ j want g, t.o.guard = some (j, want) ∧ guardTmp all j = some g ∧ t.F.getD g .any = .bool want) ∧ OpGood P base t.F t.M t.o.op t.x t.U t.T) ∨
  (∃ j want g b, t.o.guard = some (j, want) ∧ guardTmp all j = some g ∧ t.F.getD g .any = .bool b ∧ b ≠ want ∧ t.x = .any ∧ t.U = [] ∧ t.T = [])
def Chain (P : Program) (base : Nat) (all : Array Oper) : List Oper → St → List Tr → St → Prop
  | [], s, [], s' => s = s'
  | o :: r, s, t :: ts, s' => t.o = o ∧ t.F = s.F ∧ t.M = s.M ∧ base ≤ s.M.length ∧ t.ok P base all ∧ Chain P base all r ⟨setF s.F o.dst t.x, appU s.M t.U⟩ ts s'
  | _, _, _, _ => False

theorem drawV_chain {cx : Cx} (hO : OSound cx.P cx.O) {base : Nat} {all : Array Oper} : ∀ (l : List Oper) (s : St) (tr : List Did) (k : St → Bool), base ≤ s.M.length → drawV cx base all l s tr k = true →
    ∃ ts s', Chain cx.P base all l s ts s' ∧ orderly (closures all.toList []) 0 [] 0 (tr ++ ts.map (Tr.did all)) = true ∧ edgesOk 0 all.toList = true ∧ k s' = true
  | [], s, tr, k, hb, h => by
    simp only [drawV] at h
    obtain ⟨h1, h2⟩ := and_true h
    obtain ⟨h3, h4⟩ := and_true h1
    exact ⟨[], s, rfl, by simpa using h3, h4, h2⟩
  | o :: r, s, tr, k, hb, h => by
    have step : ∀ (x : V) (U : Upd) (T : List Nat), Tr.ok cx.P base all ⟨o, s.F, s.M, x, U, T⟩ → drawV cx base all r ⟨setF s.F o.dst x, appU s.M U⟩ (tr ++ [⟨o.dst, Oper.reads all o, U.map (·.1), T⟩]) k = true →
        ∃ ts s', Chain cx.P base all (o :: r) s ts s' ∧ orderly (closures all.toList []) 0 [] 0 (tr ++ ts.map (Tr.did all)) = true ∧ edgesOk 0 all.toList = true ∧ k s' = true := by
      intro x U T hok hr
      obtain ⟨_, u2, _⟩ := appU_spec U s.M
      obtain ⟨ts, s', h1, h2, h3, h4⟩ := drawV_chain hO r _ _ k (Nat.le_trans hb u2) hr
      refine ⟨⟨o, s.F, s.M, x, U, T⟩ :: ts, s', ⟨rfl, rfl, rfl, hb, hok, h1⟩, ?_, h3, h4⟩
      rw [List.append_assoc] at h2
      exact h2
    simp only [drawV] at h
    split at h
    · rename_i hg
      obtain ⟨x, U, T, hgood, hr⟩ := opV_sound hO hb h
      exact step x U T (.inl ⟨.inl hg, hgood⟩) hr
    · rename_i j want hg
      split at h
      · rename_i t ht
        split at h
        · rename_i b hb0
          cases e : (b == want) with
          | true =>
            obtain rfl : b = want := by simpa using e
            rw [e, cond_true, set_same hb0] at h
            obtain ⟨x, U, T, hgood, hr⟩ := opV_sound hO hb h
            exact step x U T (.inl ⟨.inr ⟨j, b, t, hg, ht, hb0⟩, hgood⟩) hr
          | false =>
            have hbw : b = !want := by cases b <;> cases want <;> simp at e ⊢
            rw [e, cond_false, ← hbw, set_same hb0] at h
            refine step .any [] [] (.inr ⟨j, want, t, b, hg, ht, hb0, ?_, rfl, rfl, rfl⟩) h
            intro e'; rw [e'] at e; simp at e
        · cases h
      · cases h

/-! ### what has been done so far -/
def accF (S : Nat → Bool) : Nat → List Tr → (Nat → V) → Nat → V
  | _, [], f => f
  | i, t :: ts, f => accF S (i + 1) ts (if S i = true then fun u => if t.o.dst = some u ∧ u < t.F.length then t.x else f u else f)
def accL (S : Nat → Bool) : Nat → List Tr → LK → LK
  | _, [], L => L
  | i, t :: ts, L => accL S (i + 1) ts (if S i = true then updU L t.U else L)

theorem updU_key : ∀ (U : Upd) (L L' : LK) (m : Nat), m ∈ U.map (·.1) → updU L U m = updU L' U m
  | [], _, _, _, h => by simp at h
  | (n, b) :: r, L, L', m, h => by
    by_cases h1 : m ∈ r.map (·.1)
    · exact updU_key r _ _ m h1
    · simp only [List.map_cons, List.mem_cons] at h
      have e : m = n := h.resolve_right h1
      subst e
      simp only [updU, updU_old r _ _ h1]
      simp [updL]

theorem accF_agree {S S' : Nat → Bool} {u : Nat} : ∀ (ts : List Tr) (i : Nat) (f f' : Nat → V), (∀ (j : Nat) t, ts[j]? = some t → t.o.dst = some u → S (i + j) = S' (i + j)) → f u = f' u → accF S i ts f u = accF S' i ts f' u
  | [], i, f, f', _, h => h
  | t :: ts, i, f, f', hag, h => by
    simp only [accF]
    refine accF_agree ts (i + 1) _ _ (fun j t' hj hd => by have := hag (j + 1) t' (by simpa using hj) hd; rwa [show i + (j + 1) = i + 1 + j from by omega] at this) ?_
    by_cases hd : t.o.dst = some u
    · have := hag 0 t (by simp) hd
      rw [Nat.add_zero] at this
      rw [this]
      cases S' i <;> simp [h]
    · cases S i <;> cases S' i <;> simp [hd, h]
theorem accL_agree {S S' : Nat → Bool} {m : Nat} : ∀ (ts : List Tr) (i : Nat) (L L' : LK), (∀ (j : Nat) t, ts[j]? = some t → m ∈ t.U.map (·.1) → S (i + j) = S' (i + j)) → L m = L' m → accL S i ts L m = accL S' i ts L' m
  | [], i, f, f', _, h => h
  | t :: ts, i, L, L', hag, h => by
    simp only [accL]
    refine accL_agree ts (i + 1) _ _ (fun j t' hj hd => by have := hag (j + 1) t' (by simpa using hj) hd; rwa [show i + (j + 1) = i + 1 + j from by omega] at this) ?_
    by_cases hd : m ∈ t.U.map (·.1)
    · have := hag 0 t (by simp) hd
      rw [Nat.add_zero] at this
      rw [this]
      cases S' i
      · simpa using h
      · simpa using updU_key t.U L L' m hd
    · cases S i <;> cases S' i <;> simp [updU_old _ _ _ hd, h]
theorem accF_none {S : Nat → Bool} : ∀ (ts : List Tr) (i : Nat) (f : Nat → V), (∀ j, i ≤ j → S j = false) → accF S i ts f = f
  | [], i, f, _ => rfl
  | t :: ts, i, f, h => by
    simp only [accF, h i (Nat.le_refl _), Bool.false_eq_true, if_false]
    exact accF_none ts (i + 1) f fun j hj => h j (by omega)
theorem accL_none {S : Nat → Bool} : ∀ (ts : List Tr) (i : Nat) (L : LK), (∀ j, i ≤ j → S j = false) → accL S i ts L = L
  | [], i, f, _ => rfl
  | t :: ts, i, f, h => by
    simp only [accL, h i (Nat.le_refl _), Bool.false_eq_true, if_false]
    exact accL_none ts (i + 1) f fun j hj => h j (by omega)

/-- the walk in the text's order has the states that it says -/
structure LexAt (P : Program) (base : Nat) (all : Array Oper) (l : List Oper) (s : St) (ts : List Tr) (i0 i : Nat) (t : Tr) : Prop where
  op : l[i]? = some t.o
  len : t.F.length = s.F.length
  ok : t.ok P base all
  base : base ≤ t.M.length
  mono : s.M.length ≤ t.M.length
  keys : ∀ (j : Nat) t', j < i → ts[j]? = some t' → ∀ m, m ∈ t'.U.map (·.1) → m < t.M.length
  fr : ∀ u, t.F.getD u .any = accF (fun j => decide (j < i0 + i)) i0 ts (fun u => s.F.getD u .any) u
  fr' : ∀ u, (setF t.F t.o.dst t.x).getD u .any = accF (fun j => decide (j < i0 + i + 1)) i0 ts (fun u => s.F.getD u .any) u
  lk : look t.M = accL (fun j => decide (j < i0 + i)) i0 ts (look s.M)
  lk' : updU (look t.M) t.U = accL (fun j => decide (j < i0 + i + 1)) i0 ts (look s.M)
structure Lex (P : Program) (base : Nat) (all : Array Oper) (l : List Oper) (s : St) (ts : List Tr) (s' : St) (i0 : Nat) : Prop where
  len : l.length = ts.length
  each : ∀ (i : Nat) t, ts[i]? = some t → LexAt P base all l s ts i0 i t
  flen : s'.F.length = s.F.length
  mono : s.M.length ≤ s'.M.length
  keys : ∀ (j : Nat) t', ts[j]? = some t' → ∀ m, m ∈ t'.U.map (·.1) → m < s'.M.length
  fr : ∀ u, s'.F.getD u .any = accF (fun _ => true) i0 ts (fun u => s.F.getD u .any) u
  lk : look s'.M = accL (fun _ => true) i0 ts (look s.M)

theorem chain_lex {P : Program} {base : Nat} {all : Array Oper} : ∀ (l : List Oper) (s : St) (ts : List Tr) (s' : St), Chain P base all l s ts s' → ∀ i0, Lex P base all l s ts s' i0
  | [], s, [], s', h, i0 => by
    obtain rfl : s = s' := h
    exact ⟨rfl, by simp, rfl, Nat.le_refl _, by simp, fun u => rfl, rfl⟩
  | [], s, t :: ts, s', h, i0 => h.elim
  | o :: r, s, [], s', h, i0 => h.elim
  | o :: r, s, t :: ts, s', h, i0 => by
    obtain ⟨h1, h2, h3, h4, h5, h6⟩ := h
    subst h1
    obtain ⟨e1, e2, e3, e4, e5, e6, e7⟩ := chain_lex r _ ts s' h6 (i0 + 1)
    obtain ⟨u1, u2, u3⟩ := appU_spec t.U s.M
    have hf : (fun u => (setF s.F t.o.dst t.x).getD u .any) = fun u => if t.o.dst = some u ∧ u < t.F.length then t.x else s.F.getD u .any := by
      funext u; rw [setF_getD, h2]
    have hl : look (appU s.M t.U) = updU (look s.M) t.U := u1
    have hlen1 : (setF s.F t.o.dst t.x).length = s.F.length := setF_length _ _ _
    refine ⟨by simp [e1], ?_, e3.trans hlen1, Nat.le_trans u2 e4, ?_, ?_, ?_⟩
    · intro i t' ht'
      cases i with
      | zero =>
        simp only [List.getElem?_cons_zero, Option.some.injEq] at ht'
        subst ht'
        have hn : ∀ j, i0 + 1 ≤ j → (fun j => decide (j < i0 + 0 + 1)) j = false := by intro j hj; simp; omega
        refine ⟨by simp, by rw [h2], h5, by rw [h3]; exact h4, by rw [h3]; exact Nat.le_refl _, by intro j t' hj; omega, ?_, ?_, ?_, ?_⟩
        · intro u; rw [accF_none _ _ _ (fun j hj => by simp; omega), h2]
        · intro u
          rw [accF, accF_none _ _ _ hn, if_pos (by simp), setF_getD, h2]
        · rw [accL_none _ _ _ (fun j hj => by simp; omega), h3]
        · rw [accL, accL_none _ _ _ hn, if_pos (by simp), h3]
      | succ i =>
        have hti : ts[i]? = some t' := by simpa using ht'
        obtain ⟨a1, a2, a3, a4, a5, a6, a7, a8, a9, a10⟩ := e2 i t' hti
        have eN : ∀ k, i0 + 1 + i + k = i0 + (i + 1) + k := by intro k; omega
        have eN0 : i0 + 1 + i = i0 + (i + 1) := by omega
        refine ⟨by simpa using a1, a2.trans hlen1, a3, a4, Nat.le_trans u2 a5, ?_, ?_, ?_, ?_, ?_⟩
        · intro j tj hj htj m hm
          cases j with
          | zero =>
            simp only [List.getElem?_cons_zero, Option.some.injEq] at htj
            subst htj
            exact Nat.lt_of_lt_of_le (u3 m hm) a5
          | succ j => exact a6 j tj (by omega) (by simpa using htj) m hm
        · intro u
          rw [accF, if_pos (by simp), ← hf, ← eN0]
          exact a7 u
        · intro u
          rw [accF, if_pos (by simp; omega), ← hf, ← eN0]
          exact a8 u
        · rw [accL, if_pos (by simp), ← hl, ← eN0]
          exact a9
        · rw [accL, if_pos (by simp; omega), ← hl, ← eN0]
          exact a10
    · intro j tj htj m hm
      cases j with
      | zero =>
        simp only [List.getElem?_cons_zero, Option.some.injEq] at htj
        subst htj
        exact Nat.lt_of_lt_of_le (u3 m hm) e4
      | succ j => exact e5 j tj (by simpa using htj) m hm
    · intro u
      rw [accF, if_pos rfl, ← hf]
      exact e6 u
    · rw [accL, if_pos rfl, ← hl]
      exact e7

/-! ### the order -/
theorem orderly_sound {clo : List (List Nat)} : ∀ (rest pre : List Did) (i0 : Nat), orderly clo i0 pre pre.length rest = true → ∀ (i j : Nat) x y, i < j → pre.length ≤ j → (pre ++ rest)[i]? = some x → (pre ++ rest)[j]? = some y → i ∈ clo.getD j [] ∨ apart x y = true
  | [], pre, i0, _, i, j, x, y, _, hj, _, h2 => by
    rw [List.append_nil] at h2
    have := (List.getElem?_eq_some_iff.1 h2).1; omega
  | d :: r, pre, i0, h, i, j, x, y, hij, hj, h1, h2 => by
    simp only [orderly] at h
    obtain ⟨g1, g2⟩ := and_true h
    by_cases e : j = pre.length
    · subst e
      rw [List.getElem?_append_right (Nat.le_refl _)] at h2
      simp at h2; subst h2
      rw [List.getElem?_append_left hij] at h1
      have hmem : (x, i) ∈ pre.zipIdx := by
        rw [List.mem_zipIdx_iff_getElem?]; exact h1
      have := List.all_eq_true.1 g1 _ hmem
      simpa using this
    · have hlen : (pre ++ [d]).length = pre.length + 1 := by simp
      have h' : orderly clo i0 (pre ++ [d]) (pre ++ [d]).length r = true := by rw [hlen]; exact g2
      refine orderly_sound r (pre ++ [d]) i0 h' i j x y hij (by rw [hlen]; omega) ?_ ?_
      · rw [List.append_assoc]; exact h1
      · rw [List.append_assoc]; exact h2

theorem closures_sound {S : Nat → Bool} : ∀ (rest done : List Oper) (acc : List (List Nat)), acc.length = done.length →
    (∀ i o, (done ++ rest)[i]? = some o → S i = true → ∀ e, e ∈ o.after → Region.binds .any e = true → S e.on = true) →
    (∀ (i : Nat) o, done[i]? = some o → (∀ e, e ∈ o.after → Region.binds .any e = true → S e.on = true) → ∀ j, j ∈ acc.getD i [] → S j = true) →
    ∀ (i : Nat) o, (done ++ rest)[i]? = some o → (∀ e, e ∈ o.after → Region.binds .any e = true → S e.on = true) → ∀ j, j ∈ (closures rest acc).getD i [] → S j = true
  | [], done, acc, _, _, h, i, o, ho, he, j, hj => h i o (by simpa using ho) he j hj
  | o :: r, done, acc, hlen, hcl, h, i, o', ho, he, j, hj => by
    simp only [closures] at hj
    refine closures_sound r (done ++ [o]) _ (by simp [hlen]) (by rw [List.append_assoc]; exact hcl) ?_ i o' (by rw [List.append_assoc]; exact ho) he j hj
    intro i o'' ho'' he'' j hj
    by_cases hi : i < done.length
    · rw [List.getElem?_append_left hi] at ho''
      rw [List.getD, List.getElem?_append_left (by omega)] at hj
      exact h i o'' ho'' he'' j hj
    · rw [List.getElem?_append_right (by omega)] at ho''
      have hi0 : i = done.length := by
        have := (List.getElem?_eq_some_iff.1 ho'').1; simp at this; omega
      subst hi0
      simp at ho''; subst ho''
      rw [List.getD, List.getElem?_append_right (by omega)] at hj
      simp only [hlen, Nat.sub_self, List.getElem?_cons_zero, Option.getD_some] at hj
      obtain ⟨lst, hl, hj⟩ := List.mem_flatten.1 hj
      obtain ⟨e, heo, rfl⟩ := List.mem_map.1 hl
      have heo' : e ∈ o.after := Array.mem_def.2 heo
      cases hb : Region.binds .any e with
      | false => simp [hb] at hj
      | true =>
        simp only [hb, cond_true, List.mem_cons] at hj
        have hon := he'' e heo' hb
        rcases hj with rfl | hj
        · exact hon
        · -- what stands ahead of an operation that is done
          by_cases hlt : e.on < done.length
          · have hd : done[e.on]? = some done[e.on] := by simp [hlt]
            exact h e.on _ hd (hcl e.on _ (by rw [List.getElem?_append_left hlt]; exact hd) hon) j hj
          · rw [List.getD, List.getElem?_eq_none (by omega)] at hj
            simp at hj

theorem edgesOk_sound : ∀ (l : List Oper) (i0 : Nat), edgesOk i0 l = true → ∀ (i : Nat) o, l[i]? = some o → ∀ e, e ∈ o.after → Region.binds .any e = true → e.on < i0 + i
  | [], i0, _, i, o, h, _, _, _ => by simp at h
  | o :: r, i0, h, i, o', ho, e, he, hb => by
    simp only [edgesOk] at h
    obtain ⟨g1, g2⟩ := and_true h
    cases i with
    | zero =>
      simp at ho; subst ho
      have := List.all_eq_true.1 g1 e (Array.mem_def.1 he)
      simp [hb] at this
      omega
    | succ i =>
      have := edgesOk_sound r (i0 + 1) g2 i o' (by simpa using ho) e he hb
      omega

theorem apart_sound {x y : Did} (h : apart x y = true) : (∀ t, x.dst = some t → t ∉ y.reads ∧ y.dst ≠ some t) ∧ (∀ t, y.dst = some t → t ∉ x.reads) ∧ (∀ m, m ∈ x.writes → m ∉ y.touch ∧ m ∉ y.writes) ∧ (∀ m, m ∈ y.writes → m ∉ x.touch) := by
  unfold apart at h
  obtain ⟨h1, h2⟩ := and_true h
  obtain ⟨h3, h4⟩ := and_true h2
  simp only [Bool.not_eq_true', Bool.or_eq_false_iff] at h4
  obtain ⟨h5, h6, h7⟩ := h4
  have meet : ∀ {a b : List Nat}, meets a b = false → ∀ m, m ∈ a → m ∉ b := by
    intro a b hm m ha hb
    unfold meets at hm
    have := List.any_eq_false.1 hm m ha
    simp [hb] at this
  refine ⟨fun t ht => ?_, fun t ht => ?_, fun m hm => ⟨meet h5 m hm, meet h6 m hm⟩, fun m hm hx => meet h7 m hx hm⟩
  · rw [ht] at h1
    simp at h1
    exact ⟨h1.1, h1.2⟩
  · rw [ht] at h3
    simpa using h3

/-- how many are not done -/
def cnt (S : Nat → Bool) : Nat → Nat
  | 0 => 0
  | n + 1 => cnt S n + (if S n = true then 0 else 1)
theorem cnt_zero {S : Nat → Bool} : ∀ n, cnt S n = 0 → ∀ i, i < n → S i = true
  | 0, _, i, h => by omega
  | n + 1, h, i, hi => by
    simp only [cnt] at h
    by_cases e : i = n
    · subst e
      by_cases hs : S i = true
      · exact hs
      · simp [hs] at h
    · exact cnt_zero n (by omega) i (by omega)
theorem cnt_congr {S S' : Nat → Bool} : ∀ n, (∀ i, i < n → S i = S' i) → cnt S n = cnt S' n
  | 0, _ => rfl
  | n + 1, h => by simp only [cnt, cnt_congr n (fun i hi => h i (by omega)), h n (by omega)]
theorem cnt_set {S S' : Nat → Bool} {i : Nat} (hi : S i = false) (hi' : S' i = true) (ho : ∀ j, j ≠ i → S' j = S j) : ∀ n, i < n → cnt S' n + 1 = cnt S n
  | 0, h => by omega
  | n + 1, h => by
    simp only [cnt]
    by_cases e : i = n
    · subst e
      rw [cnt_congr i (S := S') (S' := S) (fun j hj => ho j (by omega))]
      simp [hi, hi']
    · have := cnt_set hi hi' ho n (by omega)
      rw [ho n (fun h => e h.symm)]
      omega
end Go.Mach
