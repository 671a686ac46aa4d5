/-
  THE MACHINE, sixteenth part: a region that draws its order does as the machine says, in whatever order.
  Conditions: none.
-/
import Derived.Test.YtgngdkjghdohiaaGreatMachI
import Derived.Orders
import Derived.LoopN
import Derived.Laws.Externs
import Derived.WalkKit
import Derived.ProofKit
import Derived.OpenShut
import Derived.Below
import Derived.Carry
import Derived.SizedLaws
section
namespace Go.Mach

structure Tr where
  o : Oper
  F : List V
  M : Heap
  x : V
  U : Upd
  T : List Nat
def Tr.did (all : Array Oper) (t : Tr) : Did := ⟨t.o.dst, Oper.reads all t.o, t.U.map (·.1), t.T⟩
def Tr.ok (P : Program) (base : Nat) (all : Array Oper) (t : Tr) : Prop :=
  ((t.o.guard = none \/ ∃ j want g, t.o.guard = some (j, want) /\ guardTmp all j = some g /\ t.F.getD g .any = .bool want) /\ OpGood P base t.F t.M t.o.op t.x t.U t.T) \/
  (∃ j want g b, t.o.guard = some (j, want) /\ guardTmp all j = some g /\ t.F.getD g .any = .bool b /\ b ≠ want /\ t.x = .any /\ t.U = [] /\ t.T = [])
def Chain (P : Program) (base : Nat) (all : Array Oper) : List Oper -> St -> List Tr -> St -> Prop
  | [], s, [], s' => s = s'
  | o :: r, s, t :: ts, s' => t.o = o /\ t.F = s.F /\ t.M = s.M /\ base <= s.M.length /\ t.ok P base all /\ Chain P base all r ⟨setF s.F o.dst t.x, appU s.M t.U⟩ ts s'
  | _, _, _, _ => False

def MaskOf (m : Nat) (l : List Nat) : Prop := ∀ i, m.testBit i = true -> i ∈ l
theorem mask_fold (accM : List Nat) (acc : List (List Nat)) (hacc : ∀ j, MaskOf (accM.getD j 0) (acc.getD j [])) : ∀ (es : List Edge) (m : Nat) (l : List Nat), MaskOf m l ->
    MaskOf (es.foldl (fun m e => cond (Region.binds .any e) (m ||| (1 <<< e.on ||| accM.getD e.on 0)) m) m) (l ++ (es.map fun e => cond (Region.binds .any e) (e.on :: acc.getD e.on []) []).flatten)
  | [], m, l, h => by simpa using h
  | e :: es, m, l, h => by
    rw [List.foldl_cons, List.map_cons, List.flatten_cons, <- List.append_assoc]
    refine mask_fold accM acc hacc es _ _ ?_
    intro i hi
    cases hb : Region.binds .any e with
    | false =>
      rw [hb, cond_false] at hi
      exact List.mem_append_left _ (h i hi)
    | true =>
      rw [hb, cond_true, Nat.testBit_or, Nat.testBit_or] at hi
      simp only [Bool.or_eq_true] at hi
      rcases hi with hi | hi | hi
      · exact List.mem_append_left _ (h i hi)
      · refine List.mem_append_right _ ?_
        rw [cond_true]
        have : i = e.on := by
          rw [Nat.one_shiftLeft, Nat.testBit_two_pow] at hi
          have := of_decide_eq_true hi
          exact this.symm
        subst this
        exact List.mem_cons_self
      · refine List.mem_append_right _ ?_
        rw [cond_true]
        exact List.mem_cons_of_mem _ (hacc e.on i hi)
theorem masks_sound : ∀ (ops : List Oper) (accM : List Nat) (acc : List (List Nat)), accM.length = acc.length -> (∀ j, MaskOf (accM.getD j 0) (acc.getD j [])) -> ∀ j, MaskOf ((masks ops accM).getD j 0) ((closures ops acc).getD j [])
  | [], accM, acc, _, h => h
  | o :: r, accM, acc, hl, h => by
    simp only [masks, closures]
    refine masks_sound r _ _ (by simp [hl]) fun j => ?_
    have hnew := mask_fold accM acc h o.after.toList 0 [] (fun i hi => by simp at hi)
    rw [List.nil_append] at hnew
    rw [List.getD_eq_getElem?_getD, List.getD_eq_getElem?_getD]
    by_cases hj : j < accM.length
    · rw [List.getElem?_append_left hj, List.getElem?_append_left (by omega), <- List.getD_eq_getElem?_getD, <- List.getD_eq_getElem?_getD]
      exact h j
    · by_cases hj' : j = accM.length
      · subst hj'
        rw [List.getElem?_append_right (Nat.le_refl _), Nat.sub_self, hl, List.getElem?_append_right (Nat.le_refl _), Nat.sub_self]
        exact hnew
      · rw [List.getElem?_append_right (by omega), List.getElem?_append_right (by omega), List.getElem?_eq_none (by simp; omega), List.getElem?_eq_none (by simp; omega)]
        intro i hi
        simp at hi
theorem orderlyM_sound {cloM : List Nat} {clo : List (List Nat)} (hc : ∀ j, MaskOf (cloM.getD j 0) (clo.getD j [])) : ∀ (rest : List Did) (i : Nat) (pre : List Did) (j : Nat), orderlyM cloM i pre j rest = true -> orderly clo i pre j rest = true
  | [], _, _, _, _ => rfl
  | y :: r, i, pre, j, h => by
    simp only [orderlyM] at h
    obtain ⟨h1, h2⟩ := and_true h
    simp only [orderly]
    rw [orderlyM_sound hc r i _ _ h2, Bool.and_true]
    refine List.all_eq_true.2 fun p hp => ?_
    have := List.all_eq_true.1 h1 p hp
    simp only [Bool.or_eq_true] at this ⊢
    rcases this with h3 | h3
    · exact .inl (List.contains_iff_mem.2 (hc j p.2 h3))
    · exact .inr h3
theorem drawV_chain {cx : Cx} (hO : OSound cx.P cx.O) {base : Nat} {all : Array Oper} : ∀ (l : List Oper) (s : St) (tr : List Did) (k : St -> Bool), base <= s.M.length -> drawV cx base all l s tr k = true ->
    ∃ ts s', Chain cx.P base all l s ts s' /\ orderly (closures all.toList []) 0 [] 0 (tr ++ ts.map (Tr.did all)) = true /\ edgesOk 0 all.toList = true /\ k s' = true
  | [], s, tr, k, hb, h => by
    simp only [drawV] at h
    obtain ⟨h1, h2⟩ := and_true h
    obtain ⟨h3, h4⟩ := and_true h1
    have h3 := orderlyM_sound (masks_sound all.toList [] [] rfl (fun j i hi => by simp at hi)) _ _ _ _ h3
    exact ⟨[], s, rfl, by simpa using h3, h4, h2⟩
  | o :: r, s, tr, k, hb, h => by
    have step : ∀ (x : V) (U : Upd) (T : List Nat), Tr.ok cx.P base all ⟨o, s.F, s.M, x, U, T⟩ -> drawV cx base all r ⟨setF s.F o.dst x, appU s.M U⟩ (tr ++ [⟨o.dst, Oper.reads all o, U.map (·.1), T⟩]) k = true ->
        ∃ ts s', Chain cx.P base all (o :: r) s ts s' /\ orderly (closures all.toList []) 0 [] 0 (tr ++ ts.map (Tr.did all)) = true /\ edgesOk 0 all.toList = true /\ k s' = true := by
      intro x U T hok hr
      obtain ⟨_, u2, _⟩ := appU_spec U s.M
      obtain ⟨ts, s', h1, h2, h3, h4⟩ := drawV_chain hO r _ _ k (Nat.le_trans hb u2) hr
      refine ⟨⟨o, s.F, s.M, x, U, T⟩ :: ts, s', ⟨rfl, rfl, rfl, hb, hok, h1⟩, ?_, h3, h4⟩
      rw [List.append_assoc] at h2
      exact h2
    simp only [drawV] at h
    split at h
    · rename_i hg
      obtain ⟨x, U, T, hgood, hr⟩ := opV_sound hO hb h
      exact step x U T (.inl ⟨.inl hg, hgood⟩) hr
    · rename_i j want hg
      split at h
      · rename_i t ht
        split at h
        · rename_i b hb0
          cases e : (b == want) with
          | true =>
            obtain rfl : b = want := by simpa using e
            rw [e, cond_true, set_same hb0] at h
            obtain ⟨x, U, T, hgood, hr⟩ := opV_sound hO hb h
            exact step x U T (.inl ⟨.inr ⟨j, b, t, hg, ht, hb0⟩, hgood⟩) hr
          | false =>
            have hbw : b = !want := by cases b <;> cases want <;> simp at e ⊢
            rw [e, cond_false, <- hbw, set_same hb0] at h
            refine step .any [] [] (.inr ⟨j, want, t, b, hg, ht, hb0, ?_, rfl, rfl, rfl⟩) h
            intro e'; rw [e'] at e; simp at e
        · cases h
      · cases h

def accF (S : Nat -> Bool) : Nat -> List Tr -> (Nat -> V) -> Nat -> V
  | _, [], f => f
  | i, t :: ts, f => accF S (i + 1) ts (if S i = true then fun u => if t.o.dst = some u /\ u < t.F.length then t.x else f u else f)
def accL (S : Nat -> Bool) : Nat -> List Tr -> LK -> LK
  | _, [], L => L
  | i, t :: ts, L => accL S (i + 1) ts (if S i = true then updU L t.U else L)

theorem updU_key : ∀ (U : Upd) (L L' : LK) (m : Nat), m ∈ U.map (·.1) -> updU L U m = updU L' U m
  | [], _, _, _, h => by simp at h
  | (n, b) :: r, L, L', m, h => by
    by_cases h1 : m ∈ r.map (·.1)
    · exact updU_key r _ _ m h1
    · simp only [List.map_cons, List.mem_cons] at h
      have e : m = n := h.resolve_right h1
      subst e
      simp only [updU, updU_old r _ _ h1]
      simp [updL]

theorem accF_agree {S S' : Nat -> Bool} {u : Nat} : ∀ (ts : List Tr) (i : Nat) (f f' : Nat -> V), (∀ (j : Nat) t, ts[j]? = some t -> t.o.dst = some u -> S (i + j) = S' (i + j)) -> f u = f' u -> accF S i ts f u = accF S' i ts f' u
  | [], i, f, f', _, h => h
  | t :: ts, i, f, f', hag, h => by
    simp only [accF]
    refine accF_agree ts (i + 1) _ _ (fun j t' hj hd => by have := hag (j + 1) t' (by simpa using hj) hd; rwa [show i + (j + 1) = i + 1 + j from by omega] at this) ?_
    by_cases hd : t.o.dst = some u
    · have := hag 0 t (by simp) hd
      rw [Nat.add_zero] at this
      rw [this]
      cases S' i <;> simp [h]
    · cases S i <;> cases S' i <;> simp [hd, h]
theorem accL_agree {S S' : Nat -> Bool} {m : Nat} : ∀ (ts : List Tr) (i : Nat) (L L' : LK), (∀ (j : Nat) t, ts[j]? = some t -> m ∈ t.U.map (·.1) -> S (i + j) = S' (i + j)) -> L m = L' m -> accL S i ts L m = accL S' i ts L' m
  | [], i, f, f', _, h => h
  | t :: ts, i, L, L', hag, h => by
    simp only [accL]
    refine accL_agree ts (i + 1) _ _ (fun j t' hj hd => by have := hag (j + 1) t' (by simpa using hj) hd; rwa [show i + (j + 1) = i + 1 + j from by omega] at this) ?_
    by_cases hd : m ∈ t.U.map (·.1)
    · have := hag 0 t (by simp) hd
      rw [Nat.add_zero] at this
      rw [this]
      cases S' i
      · simpa using h
      · simpa using updU_key t.U L L' m hd
    · cases S i <;> cases S' i <;> simp [updU_old _ _ _ hd, h]
theorem accF_none {S : Nat -> Bool} : ∀ (ts : List Tr) (i : Nat) (f : Nat -> V), (∀ j, i <= j -> S j = false) -> accF S i ts f = f
  | [], i, f, _ => rfl
  | t :: ts, i, f, h => by
    simp only [accF, h i (Nat.le_refl _), Bool.false_eq_true, if_false]
    exact accF_none ts (i + 1) f fun j hj => h j (by omega)
theorem accL_none {S : Nat -> Bool} : ∀ (ts : List Tr) (i : Nat) (L : LK), (∀ j, i <= j -> S j = false) -> accL S i ts L = L
  | [], i, f, _ => rfl
  | t :: ts, i, f, h => by
    simp only [accL, h i (Nat.le_refl _), Bool.false_eq_true, if_false]
    exact accL_none ts (i + 1) f fun j hj => h j (by omega)

structure LexAt (P : Program) (base : Nat) (all : Array Oper) (l : List Oper) (s : St) (ts : List Tr) (i0 i : Nat) (t : Tr) : Prop where
  op : l[i]? = some t.o
  len : t.F.length = s.F.length
  ok : t.ok P base all
  base : base <= t.M.length
  mono : s.M.length <= t.M.length
  keys : ∀ (j : Nat) t', j < i -> ts[j]? = some t' -> ∀ m, m ∈ t'.U.map (·.1) -> m < t.M.length
  fr : ∀ u, t.F.getD u .any = accF (fun j => decide (j < i0 + i)) i0 ts (fun u => s.F.getD u .any) u
  fr' : ∀ u, (setF t.F t.o.dst t.x).getD u .any = accF (fun j => decide (j < i0 + i + 1)) i0 ts (fun u => s.F.getD u .any) u
  lk : look t.M = accL (fun j => decide (j < i0 + i)) i0 ts (look s.M)
  lk' : updU (look t.M) t.U = accL (fun j => decide (j < i0 + i + 1)) i0 ts (look s.M)
structure Lex (P : Program) (base : Nat) (all : Array Oper) (l : List Oper) (s : St) (ts : List Tr) (s' : St) (i0 : Nat) : Prop where
  len : l.length = ts.length
  each : ∀ (i : Nat) t, ts[i]? = some t -> LexAt P base all l s ts i0 i t
  flen : s'.F.length = s.F.length
  mono : s.M.length <= s'.M.length
  keys : ∀ (j : Nat) t', ts[j]? = some t' -> ∀ m, m ∈ t'.U.map (·.1) -> m < s'.M.length
  fr : ∀ u, s'.F.getD u .any = accF (fun _ => true) i0 ts (fun u => s.F.getD u .any) u
  lk : look s'.M = accL (fun _ => true) i0 ts (look s.M)

theorem chain_lex {P : Program} {base : Nat} {all : Array Oper} : ∀ (l : List Oper) (s : St) (ts : List Tr) (s' : St), Chain P base all l s ts s' -> ∀ i0, Lex P base all l s ts s' i0
  | [], s, [], s', h, i0 => by
    obtain rfl : s = s' := h
    exact ⟨rfl, by simp, rfl, Nat.le_refl _, by simp, fun u => rfl, rfl⟩
  | [], s, t :: ts, s', h, i0 => h.elim
  | o :: r, s, [], s', h, i0 => h.elim
  | o :: r, s, t :: ts, s', h, i0 => by
    obtain ⟨h1, h2, h3, h4, h5, h6⟩ := h
    subst h1
    obtain ⟨e1, e2, e3, e4, e5, e6, e7⟩ := chain_lex r _ ts s' h6 (i0 + 1)
    obtain ⟨u1, u2, u3⟩ := appU_spec t.U s.M
    have hf : (fun u => (setF s.F t.o.dst t.x).getD u .any) = fun u => if t.o.dst = some u /\ u < t.F.length then t.x else s.F.getD u .any := by
      funext u; rw [setF_getD, h2]
    have hl : look (appU s.M t.U) = updU (look s.M) t.U := u1
    have hlen1 : (setF s.F t.o.dst t.x).length = s.F.length := setF_length _ _ _
    refine ⟨by simp [e1], ?_, e3.trans hlen1, Nat.le_trans u2 e4, ?_, ?_, ?_⟩
    · intro i t' ht'
      cases i with
      | zero =>
        simp only [List.getElem?_cons_zero, Option.some.injEq] at ht'
        subst ht'
        have hn : ∀ j, i0 + 1 <= j -> (fun j => decide (j < i0 + 0 + 1)) j = false := by intro j hj; simp; omega
        refine ⟨by simp, by rw [h2], h5, by rw [h3]; exact h4, by rw [h3]; exact Nat.le_refl _, by intro j t' hj; omega, ?_, ?_, ?_, ?_⟩
        · intro u; rw [accF_none _ _ _ (fun j hj => by simp; omega), h2]
        · intro u
          rw [accF, accF_none _ _ _ hn, if_pos (by simp), setF_getD, h2]
        · rw [accL_none _ _ _ (fun j hj => by simp; omega), h3]
        · rw [accL, accL_none _ _ _ hn, if_pos (by simp), h3]
      | succ i =>
        have hti : ts[i]? = some t' := by simpa using ht'
        obtain ⟨a1, a2, a3, a4, a5, a6, a7, a8, a9, a10⟩ := e2 i t' hti
        have eN : ∀ k, i0 + 1 + i + k = i0 + (i + 1) + k := by intro k; omega
        have eN0 : i0 + 1 + i = i0 + (i + 1) := by omega
        refine ⟨by simpa using a1, a2.trans hlen1, a3, a4, Nat.le_trans u2 a5, ?_, ?_, ?_, ?_, ?_⟩
        · intro j tj hj htj m hm
          cases j with
          | zero =>
            simp only [List.getElem?_cons_zero, Option.some.injEq] at htj
            subst htj
            exact Nat.lt_of_lt_of_le (u3 m hm) a5
          | succ j => exact a6 j tj (by omega) (by simpa using htj) m hm
        · intro u
          rw [accF, if_pos (by simp), <- hf, <- eN0]
          exact a7 u
        · intro u
          rw [accF, if_pos (by simp; omega), <- hf, <- eN0]
          exact a8 u
        · rw [accL, if_pos (by simp), <- hl, <- eN0]
          exact a9
        · rw [accL, if_pos (by simp; omega), <- hl, <- eN0]
          exact a10
    · intro j tj htj m hm
      cases j with
      | zero =>
        simp only [List.getElem?_cons_zero, Option.some.injEq] at htj
        subst htj
        exact Nat.lt_of_lt_of_le (u3 m hm) e4
      | succ j => exact e5 j tj (by simpa using htj) m hm
    · intro u
      rw [accF, if_pos rfl, <- hf]
      exact e6 u
    · rw [accL, if_pos rfl, <- hl]
      exact e7

theorem orderly_sound {clo : List (List Nat)} : ∀ (rest pre : List Did) (i0 : Nat), orderly clo i0 pre pre.length rest = true -> ∀ (i j : Nat) x y, i < j -> pre.length <= j -> (pre ++ rest)[i]? = some x -> (pre ++ rest)[j]? = some y -> i ∈ clo.getD j [] \/ apart x y = true
  | [], pre, i0, _, i, j, x, y, _, hj, _, h2 => by
    rw [List.append_nil] at h2
    have := (List.getElem?_eq_some_iff.1 h2).1; omega
  | d :: r, pre, i0, h, i, j, x, y, hij, hj, h1, h2 => by
    simp only [orderly] at h
    obtain ⟨g1, g2⟩ := and_true h
    by_cases e : j = pre.length
    · subst e
      rw [List.getElem?_append_right (Nat.le_refl _)] at h2
      simp at h2; subst h2
      rw [List.getElem?_append_left hij] at h1
      have hmem : (x, i) ∈ pre.zipIdx := by
        rw [List.mem_zipIdx_iff_getElem?]; exact h1
      have := List.all_eq_true.1 g1 _ hmem
      simpa using this
    · have hlen : (pre ++ [d]).length = pre.length + 1 := by simp
      have h' : orderly clo i0 (pre ++ [d]) (pre ++ [d]).length r = true := by rw [hlen]; exact g2
      refine orderly_sound r (pre ++ [d]) i0 h' i j x y hij (by rw [hlen]; omega) ?_ ?_
      · rw [List.append_assoc]; exact h1
      · rw [List.append_assoc]; exact h2

theorem closures_sound {S : Nat -> Bool} : ∀ (rest done : List Oper) (acc : List (List Nat)), acc.length = done.length ->
    (∀ i o, (done ++ rest)[i]? = some o -> S i = true -> ∀ e, e ∈ o.after -> Region.binds .any e = true -> S e.on = true) ->
    (∀ (i : Nat) o, done[i]? = some o -> (∀ e, e ∈ o.after -> Region.binds .any e = true -> S e.on = true) -> ∀ j, j ∈ acc.getD i [] -> S j = true) ->
    ∀ (i : Nat) o, (done ++ rest)[i]? = some o -> (∀ e, e ∈ o.after -> Region.binds .any e = true -> S e.on = true) -> ∀ j, j ∈ (closures rest acc).getD i [] -> S j = true
  | [], done, acc, _, _, h, i, o, ho, he, j, hj => h i o (by simpa using ho) he j hj
  | o :: r, done, acc, hlen, hcl, h, i, o', ho, he, j, hj => by
    simp only [closures] at hj
    refine closures_sound r (done ++ [o]) _ (by simp [hlen]) (by rw [List.append_assoc]; exact hcl) ?_ i o' (by rw [List.append_assoc]; exact ho) he j hj
    intro i o'' ho'' he'' j hj
    by_cases hi : i < done.length
    · rw [List.getElem?_append_left hi] at ho''
      rw [List.getD, List.getElem?_append_left (by omega)] at hj
      exact h i o'' ho'' he'' j hj
    · rw [List.getElem?_append_right (by omega)] at ho''
      have hi0 : i = done.length := by
        have := (List.getElem?_eq_some_iff.1 ho'').1; simp at this; omega
      subst hi0
      simp at ho''; subst ho''
      rw [List.getD, List.getElem?_append_right (by omega)] at hj
      simp only [hlen, Nat.sub_self, List.getElem?_cons_zero, Option.getD_some] at hj
      obtain ⟨lst, hl, hj⟩ := List.mem_flatten.1 hj
      obtain ⟨e, heo, rfl⟩ := List.mem_map.1 hl
      have heo' : e ∈ o.after := Array.mem_def.2 heo
      cases hb : Region.binds .any e with
      | false => simp [hb] at hj
      | true =>
        simp only [hb, cond_true, List.mem_cons] at hj
        have hon := he'' e heo' hb
        rcases hj with rfl | hj
        · exact hon
        · -- what stands ahead of an operation that is done
          by_cases hlt : e.on < done.length
          · have hd : done[e.on]? = some done[e.on] := by simp [hlt]
            exact h e.on _ hd (hcl e.on _ (by rw [List.getElem?_append_left hlt]; exact hd) hon) j hj
          · rw [List.getD, List.getElem?_eq_none (by omega)] at hj
            simp at hj

theorem edgesOk_sound : ∀ (l : List Oper) (i0 : Nat), edgesOk i0 l = true -> ∀ (i : Nat) o, l[i]? = some o -> ∀ e, e ∈ o.after -> Region.binds .any e = true -> e.on < i0 + i
  | [], i0, _, i, o, h, _, _, _ => by simp at h
  | o :: r, i0, h, i, o', ho, e, he, hb => by
    simp only [edgesOk] at h
    obtain ⟨g1, g2⟩ := and_true h
    cases i with
    | zero =>
      simp at ho; subst ho
      have := List.all_eq_true.1 g1 e (Array.mem_def.1 he)
      simp [hb] at this
      omega
    | succ i =>
      have := edgesOk_sound r (i0 + 1) g2 i o' (by simpa using ho) e he hb
      omega

theorem apart_sound {x y : Did} (h : apart x y = true) : (∀ t, x.dst = some t -> t ∉ y.reads /\ y.dst ≠ some t) /\ (∀ t, y.dst = some t -> t ∉ x.reads) /\ (∀ m, m ∈ x.writes -> m ∉ y.touch /\ m ∉ y.writes) /\ (∀ m, m ∈ y.writes -> m ∉ x.touch) := by
  unfold apart at h
  obtain ⟨h1, h2⟩ := and_true h
  obtain ⟨h3, h4⟩ := and_true h2
  simp only [Bool.not_eq_true', Bool.or_eq_false_iff] at h4
  obtain ⟨h5, h6, h7⟩ := h4
  have meet : ∀ {a b : List Nat}, meets a b = false -> ∀ m, m ∈ a -> m ∉ b := by
    intro a b hm m ha hb
    unfold meets at hm
    have := List.any_eq_false.1 hm m ha
    simp [hb] at this
  refine ⟨fun t ht => ?_, fun t ht => ?_, fun m hm => ⟨meet h5 m hm, meet h6 m hm⟩, fun m hm hx => meet h7 m hx hm⟩
  · rw [ht] at h1
    simp at h1
    exact ⟨h1.1, h1.2⟩
  · rw [ht] at h3
    simpa using h3

def cnt (S : Nat -> Bool) : Nat -> Nat
  | 0 => 0
  | n + 1 => cnt S n + (if S n = true then 0 else 1)
theorem cnt_zero {S : Nat -> Bool} : ∀ n, cnt S n = 0 -> ∀ i, i < n -> S i = true
  | 0, _, i, h => by omega
  | n + 1, h, i, hi => by
    simp only [cnt] at h
    by_cases e : i = n
    · subst e
      by_cases hs : S i = true
      · exact hs
      · simp [hs] at h
    · exact cnt_zero n (by omega) i (by omega)
theorem cnt_congr {S S' : Nat -> Bool} : ∀ n, (∀ i, i < n -> S i = S' i) -> cnt S n = cnt S' n
  | 0, _ => rfl
  | n + 1, h => by simp only [cnt, cnt_congr n (fun i hi => h i (by omega)), h n (by omega)]
theorem cnt_set {S S' : Nat -> Bool} {i : Nat} (hi : S i = false) (hi' : S' i = true) (ho : ∀ j, j ≠ i -> S' j = S j) : ∀ n, i < n -> cnt S' n + 1 = cnt S n
  | 0, h => by omega
  | n + 1, h => by
    simp only [cnt]
    by_cases e : i = n
    · subst e
      rw [cnt_congr i (S := S') (S' := S) (fun j hj => ho j (by omega))]
      simp [hi, hi']
    · have := cnt_set hi hi' ho n (by omega)
      rw [ho n (fun h => e h.symm)]
      omega
end Go.Mach
end
section
namespace Go.Mach

theorem yielded_at {all : Array Oper} {tmps : Array Value} {j g : Nat} {b : Bool} (hg : guardTmp all j = some g) (h : tmps.getD g undef = .bool b) : yielded all tmps j = some b := by
  unfold guardTmp at hg
  unfold yielded
  rw [hg, Option.bind_some]
  rw [Array.getD_eq_getD_getElem?] at h
  cases e : tmps[g]? with
  | none => rw [e] at h; simp [undef] at h
  | some v => rw [e] at h; simp at h; rw [h]

theorem reads_ops {all : Array Oper} {o : Oper} {t : Nat} (h : Operand.tmp t ∈ o.op.operands) : t ∈ Oper.reads all o := by
  unfold Oper.reads tmpsOf
  refine List.mem_append_left _ (List.mem_filterMap.2 ⟨.tmp t, Array.mem_def.1 h, rfl⟩)
theorem reads_guard {all : Array Oper} {o : Oper} {j g : Nat} {want : Bool} (h : o.guard = some (j, want)) (hg : guardTmp all j = some g) : g ∈ Oper.reads all o := by
  unfold Oper.reads
  refine List.mem_append_right _ ?_
  rw [h]; simp [hg]

structure Inv (G : Gh) (s : St) (ts : List Tr) (ρ0 : Rho) (S : Nat -> Bool) (a : Act) (w : World) (ρ : Rho) : Prop where
  sim : SimW G w ρ (accL S 0 ts (look s.M))
  fr : ∀ u, Rep (okc G ρ (accL S 0 ts (look s.M))) w ρ (accF S 0 ts (fun u => s.F.getD u .any) u) (a.tmps.getD u undef)
  defers : a.defers = []
  size : a.tmps.size = s.F.length
  dom : ∀ m, s.M.length <= m -> (∀ (j : Nat) t, ts[j]? = some t -> S j = true -> m ∉ t.U.map (·.1)) -> ρ m = none
  rho : ∀ m q, ρ0 m = some q -> ρ m = some q

theorem draw_any {P : Program} {base : Nat} {all : Array Oper} {s s' : St} {ts : List Tr} (hlex : Lex P base all all.toList s ts s' 0) (hord : orderly (closures all.toList []) 0 [] 0 (ts.map (Tr.did all)) = true) (hedge : edgesOk 0 all.toList = true) (hb' : base <= s'.M.length)
    {G : Gh} (hG : G.base = base) {ρ0 : Rho} {Q : Exit -> Act -> World -> Prop} (hQ : ∀ w' ρ' a', Sim G w' ρ' s' a' -> (∀ n q, n < base -> ρ0 n = some q -> ρ' n = some q) -> Q .normal a' w') :
    ∀ (fuel : Nat) (listed : Array Bool) (a : Act) (w : World) (ρ : Rho), listed.size = all.size -> (∀ (i : Nat) o, all[i]? = some o -> listed.getD i false = true -> ∀ e, e ∈ o.after -> Region.binds .any e = true -> listed.getD e.on false = true) ->
      Inv G s ts ρ0 (fun i => listed.getD i false) a w ρ -> cnt (fun i => listed.getD i false) all.size <= fuel -> wpAny P .any all Q fuel listed a w := by
  have hlen : all.size = ts.length := by rw [<- hlex.len]; simp
  have hget : ∀ (i : Nat) o, all[i]? = some o ↔ all.toList[i]? = some o := by intro i o; simp
  have fin : ∀ (listed : Array Bool) (a : Act) (w : World) (ρ : Rho), listed.size = all.size -> Inv G s ts ρ0 (fun i => listed.getD i false) a w ρ -> Region.ready .any all listed = [] -> Q .normal a w := by
    intro listed a w ρ hls hinv hready
    have hall : ∀ i, i < all.size -> listed.getD i false = true := by
      intro i
      induction i using Nat.strongRecOn with
      | _ i ih =>
        intro hi
        by_cases hs : listed.getD i false = true
        · exact hs
        · exfalso
          have hmem : i ∈ Region.ready .any all listed := by
            unfold Region.ready
            refine List.mem_filter.2 ⟨List.mem_range.2 hi, ?_⟩
            have h1 : listed.getD i true = false := by
              rw [Array.getD_eq_getD_getElem?, Array.getElem?_eq_getElem (by omega)] at hs ⊢
              simp at hs ⊢; exact hs
            rw [h1]
            simp only [Bool.not_false, Bool.true_and]
            rw [Array.getElem?_eq_getElem hi]
            simp only [Option.map_some, Option.getD_some]
            rw [Array.all_eq_true']
            intro e he
            cases hbn : Region.binds .any e with
            | false => rfl
            | true =>
              have := edgesOk_sound _ 0 hedge i all[i] (by simp [hi]) e he hbn
              simp only [Bool.not_true, Bool.false_or]
              exact ih e.on (by omega) (by omega)
          rw [hready] at hmem; cases hmem
    have hS : ∀ (j : Nat) t, ts[j]? = some t -> (fun i => listed.getD i false) (0 + j) = (fun _ => true) (0 + j) := by
      intro j t hj
      have := (List.getElem?_eq_some_iff.1 hj).1
      simp only [Nat.zero_add]
      exact hall j (by omega)
    have hL : accL (fun i => listed.getD i false) 0 ts (look s.M) = look s'.M := by
      rw [hlex.lk]; funext m
      exact accL_agree ts 0 _ _ (fun j t hj _ => hS j t hj) rfl
    refine hQ w ρ a ⟨by rw [<- hL]; exact hinv.sim, fun n hn => ?_, hinv.defers, fun u => ?_, by rw [hinv.size, hlex.flen], by rw [hG]; exact hb'⟩ fun n q _ h => hinv.rho n q h
    · refine hinv.dom n (Nat.le_trans hlex.mono hn) fun j t hj _ hm => ?_
      have := hlex.keys j t hj n hm; omega
    · have he := accF_agree (S := fun i => listed.getD i false) (S' := fun _ => true) (u := u) ts 0 (fun u => s.F.getD u .any) (fun u => s.F.getD u .any) (fun j t hj _ => hS j t hj) rfl
      rw [<- hL, hlex.fr u, <- he]
      exact hinv.fr u
  intro fuel
  induction fuel with
  | zero =>
    intro listed a w ρ hls hcl hinv hcnt
    have hall := cnt_zero all.size (by omega) (S := fun i => listed.getD i false)
    have hr : Region.ready .any all listed = [] := by
      unfold Region.ready
      rw [List.filter_eq_nil_iff]
      intro i hi
      have hi := List.mem_range.1 hi
      have h1 : listed.getD i false = true := hall i hi
      have h2 : listed.getD i true = true := by
        rw [Array.getD_eq_getD_getElem?, Array.getElem?_eq_getElem (by omega)] at h1 ⊢
        simpa using h1
      simp [h2]
    exact ⟨hr, fin listed a w ρ hls hinv hr⟩
  | succ fuel ih =>
    intro listed a w ρ hls hcl hinv hcnt
    refine ⟨fin listed a w ρ hls hinv, fun i hi => ?_⟩
    unfold Region.ready at hi
    obtain ⟨hi1, hi2⟩ := List.mem_filter.1 hi
    have hin := List.mem_range.1 hi1
    obtain ⟨hi3, hi4⟩ := and_true hi2
    have hSi : listed.getD i false = false := by
      rw [Array.getD_eq_getD_getElem?, Array.getElem?_eq_getElem (by omega)] at hi3 ⊢
      simpa using hi3
    have hti : ts[i]? = some ts[i] := by simp [show i < ts.length by omega]
    generalize ts[i] = t at hti
    obtain ⟨x1, x2, x3, x4, x5, x6, x7, x8, x9, x10⟩ := hlex.each i t hti
    simp only [Nat.zero_add] at x7 x8 x9 x10
    have hoi : all[i]? = some t.o := (hget i t.o).2 x1
    rw [hoi] at hi4
    simp only [Option.map_some, Option.getD_some, Array.all_eq_true'] at hi4
    have hedges : ∀ e, e ∈ t.o.after -> Region.binds .any e = true -> listed.getD e.on false = true := by
      intro e he hbn
      have := hi4 e he
      simpa [hbn] using this
    have hclo : ∀ (i : Nat) o, all.toList[i]? = some o -> (∀ e, e ∈ o.after -> Region.binds .any e = true -> listed.getD e.on false = true) -> ∀ j, j ∈ (closures all.toList []).getD i [] -> listed.getD j false = true :=
      fun i o ho he j hj => closures_sound (S := fun i => listed.getD i false) all.toList [] [] rfl (fun i o ho => hcl i o ((hget i o).2 (by simpa using ho))) (by intro i o h; simp at h) i o (by simpa using ho) he j hj
    have meetS : ∀ (j : Nat) tj, ts[j]? = some tj -> j ≠ i -> (¬ (j < i -> apart (tj.did all) (t.did all) = true) \/ ¬ (i < j -> apart (t.did all) (tj.did all) = true)) -> listed.getD j false = decide (j < i) := by
      intro j tj hj hne hno
      obtain ⟨y1, _⟩ := hlex.each j tj hj
      rcases Nat.lt_or_gt_of_ne hne with hlt | hgt
      · have hna : ¬ apart (tj.did all) (t.did all) = true := by
          rcases hno with h | h
          · exact fun h' => h fun _ => h'
          · exact absurd (fun h2 : i < j => by omega) h
        have := (orderly_sound _ [] 0 hord j i _ _ hlt (Nat.zero_le _) (by simp [hj]) (by simp [hti])).resolve_right hna
        rw [hclo i t.o x1 hedges j this]; simp [hlt]
      · have hna : ¬ apart (t.did all) (tj.did all) = true := by
          rcases hno with h | h
          · exact absurd (fun h2 : j < i => by omega) h
          · exact fun h' => h fun _ => h'
        have hcj := (orderly_sound _ [] 0 hord i j _ _ hgt (Nat.zero_le _) (by simp [hti]) (by simp [hj])).resolve_right hna
        cases hs : listed.getD j false with
        | false => simp; omega
        | true =>
          have := hclo j tj.o y1 (hcl j tj.o ((hget j tj.o).2 y1) hs) i hcj
          rw [hSi] at this; cases this
    have meetF : ∀ (j : Nat) tj u, ts[j]? = some tj -> j ≠ i -> tj.o.dst = some u -> (u ∈ Oper.reads all t.o \/ t.o.dst = some u) -> listed.getD j false = decide (j < i) := by
      intro j tj u hj hne hd hu
      refine meetS j tj hj hne ?_
      rcases Nat.lt_or_gt_of_ne hne with hlt | hgt
      · left; intro h
        have := (apart_sound (h hlt)).1 u hd
        rcases hu with hu | hu
        · exact this.1 hu
        · exact this.2 hu
      · right; intro h
        have hap := apart_sound (h hgt)
        rcases hu with hu | hu
        · exact hap.2.1 u hd hu
        · exact (hap.1 u hu).2 hd
    have meetL : ∀ (j : Nat) tj m, ts[j]? = some tj -> j ≠ i -> m ∈ tj.U.map (·.1) -> (m ∈ t.T \/ m ∈ t.U.map (·.1)) -> listed.getD j false = decide (j < i) := by
      intro j tj m hj hne hd hu
      refine meetS j tj hj hne ?_
      rcases Nat.lt_or_gt_of_ne hne with hlt | hgt
      · left; intro h
        have := (apart_sound (h hlt)).2.2.1 m hd
        rcases hu with hu | hu
        · exact this.1 hu
        · exact this.2 hu
      · right; intro h
        have hap := apart_sound (h hgt)
        rcases hu with hu | hu
        · exact hap.2.2.2 m hd hu
        · exact (hap.2.2.1 m hu).2 hd
    have hreads : ∀ u, u ∈ Oper.reads all t.o -> accF (fun i => listed.getD i false) 0 ts (fun u => s.F.getD u .any) u = t.F.getD u .any := by
      intro u hu
      rw [x7 u]
      refine accF_agree ts 0 _ _ (fun j tj hj hd => ?_) rfl
      simp only [Nat.zero_add]
      by_cases e : j = i
      · subst e; rw [hSi]; simp
      · exact meetF j tj u hj e hd (.inl hu)
    have htouch : ∀ m, m ∈ t.T -> accL (fun i => listed.getD i false) 0 ts (look s.M) m = look t.M m := by
      intro m hm
      rw [x9]
      refine accL_agree ts 0 _ _ (fun j tj hj hd => ?_) rfl
      simp only [Nat.zero_add]
      by_cases e : j = i
      · subst e; rw [hSi]; simp
      · exact meetL j tj m hj e hd (.inl hm)
    have hsz : i < listed.size := by omega
    have hS' : ∀ j, (listed.setIfInBounds i true).getD j false = if j = i then true else listed.getD j false := by
      intro j
      simp only [Array.getD_eq_getD_getElem?, Array.getElem?_setIfInBounds]
      by_cases e : i = j
      · subst e; simp [hsz]
      · simp [e, show ¬ j = i from fun h => e h.symm]
    have hLs : accL (fun j => (listed.setIfInBounds i true).getD j false) 0 ts (look s.M) = updU (accL (fun i => listed.getD i false) 0 ts (look s.M)) t.U := by
      funext m
      by_cases hm : m ∈ t.U.map (·.1)
      · rw [updU_key t.U _ (look t.M) m hm, x10]
        refine accL_agree ts 0 _ _ (fun j tj hj hd => ?_) rfl
        simp only [Nat.zero_add, hS']
        by_cases e : j = i
        · subst e; simp
        · rw [if_neg e, meetL j tj m hj e hd (.inr hm)]
          simp; omega
      · rw [updU_old _ _ _ hm]
        refine accL_agree ts 0 _ _ (fun j tj hj hd => ?_) rfl
        simp only [Nat.zero_add, hS']
        by_cases e : j = i
        · subst e; rw [hti] at hj; cases hj; exact absurd hd hm
        · rw [if_neg e]
    have hFs : ∀ u, accF (fun j => (listed.setIfInBounds i true).getD j false) 0 ts (fun u => s.F.getD u .any) u = if t.o.dst = some u /\ u < s.F.length then t.x else accF (fun i => listed.getD i false) 0 ts (fun u => s.F.getD u .any) u := by
      intro u
      by_cases hu : t.o.dst = some u
      · have h1 : accF (fun j => (listed.setIfInBounds i true).getD j false) 0 ts (fun u => s.F.getD u .any) u = (setF t.F t.o.dst t.x).getD u .any := by
          rw [x8 u]
          refine accF_agree ts 0 _ _ (fun j tj hj hd => ?_) rfl
          simp only [Nat.zero_add, hS']
          by_cases e : j = i
          · subst e; simp
          · rw [if_neg e, meetF j tj u hj e hd (.inr hu)]
            simp; omega
        rw [h1, setF_getD, x2]
        by_cases hlt : u < s.F.length
        · rw [if_pos ⟨hu, hlt⟩, if_pos ⟨hu, hlt⟩]
        · rw [if_neg (fun h => hlt h.2), if_neg (fun h => hlt h.2)]
          rw [x7 u]
          refine accF_agree ts 0 _ _ (fun j tj hj hd => ?_) rfl
          simp only [Nat.zero_add]
          by_cases e : j = i
          · subst e; rw [hSi]; simp
          · exact (meetF j tj u hj e hd (.inr hu)).symm
      · rw [if_neg (fun h => hu h.1)]
        refine accF_agree ts 0 _ _ (fun j tj hj hd => ?_) rfl
        simp only [Nat.zero_add, hS']
        by_cases e : j = i
        · subst e; rw [hti] at hj; cases hj; exact absurd hd hu
        · rw [if_neg e]
    have hcl' : ∀ (j : Nat) o, all[j]? = some o -> (listed.setIfInBounds i true).getD j false = true -> ∀ e, e ∈ o.after -> Region.binds .any e = true -> (listed.setIfInBounds i true).getD e.on false = true := by
      intro j o ho hj e he hbn
      rw [hS'] at hj ⊢
      split
      · rfl
      · by_cases e1 : j = i
        · subst e1; rw [hoi] at ho; cases ho; exact hedges e he hbn
        · rw [if_neg e1] at hj; exact hcl j o ho hj e he hbn
    have hcnt' : cnt (fun j => (listed.setIfInBounds i true).getD j false) all.size <= fuel := by
      have := cnt_set (S := fun j => listed.getD j false) (S' := fun j => (listed.setIfInBounds i true).getD j false) (i := i) hSi (by simp only [hS']; simp) (fun j hj => by simp only [hS', if_neg hj]) all.size hin
      omega
    have next : ∀ v w' ρ', SimW G w' ρ' (updU (accL (fun i => listed.getD i false) 0 ts (look s.M)) t.U) -> Rep (okc G ρ' (updU (accL (fun i => listed.getD i false) 0 ts (look s.M)) t.U)) w' ρ' t.x v ->
        Keeps (okc G ρ (accL (fun i => listed.getD i false) 0 ts (look s.M))) w ρ (okc G ρ' (updU (accL (fun i => listed.getD i false) 0 ts (look s.M)) t.U)) w' ρ' -> (∀ n, ρ' n ≠ ρ n -> n ∈ t.U.map (·.1)) ->
        wpAny P .any all Q fuel (listed.setIfInBounds i true) (a.put t.o.dst v) w' := by
      intro v w' ρ' h1 h2 h3 h4
      refine ih _ _ w' ρ' (by simpa using hls) hcl' ⟨by rw [hLs]; exact h1, fun u => ?_, by rw [put_defers]; exact hinv.defers, by rw [put_size]; exact hinv.size, fun m hm hno => ?_, fun m q hq => h3.rho m q (hinv.rho m q hq)⟩ hcnt'
      · rw [hLs, hFs u, put_getD, hinv.size]
        split
        · exact h2
        · exact (hinv.fr u).mono h3
      · by_cases e : ρ' m = ρ m
        · rw [e]
          refine hinv.dom m hm fun j tj hj hs => hno j tj hj ?_
          rw [hS']; split
          · rfl
          · exact hs
        · exact absurd (h4 m e) (hno i t hti (by rw [hS']; simp))
    unfold wpOp
    rw [hoi]
    simp only
    rcases x3 with ⟨hgd, hgood⟩ | ⟨j, want, g, b, g1, g2, g3, g4, g5, g6, g7⟩
    · have hw : Region.wanted t.o (yielded all a.tmps) = true := by
        rcases hgd with hg | ⟨j, want, g, g1, g2, g3⟩
        · simp [Region.wanted, hg]
        · have hr := hinv.fr g
          rw [hreads g (reads_guard g1 g2), g3] at hr
          simp [Region.wanted, g1, yielded_at g2 hr.bool_inv]
      rw [if_pos hw]
      refine .inl (hgood G w ρ _ a t.o rfl hG hinv.sim (fun y hy => ?_) htouch (fun n b hn hM => ?_) _ _ fun v w' ρ' h1 h2 h3 h4 => next v w' ρ' h1 h2 h3 h4)
      · cases y with
        | tmp u =>
          have hr := hinv.fr u
          rw [hreads u (reads_ops hy)] at hr
          exact hr
        | const v => exact rep_ofVal1 v
        | global g => exact .val _
        | func f => exact .fn f [] [] rfl (by simp)
      · have hnk : n ∈ t.U.map (·.1) := List.mem_map.2 ⟨(n, b), hn, rfl⟩
        refine ⟨hinv.dom n (by omega) fun j tj hj hs hm => ?_, by omega⟩
        by_cases e : j = i
        · subst e; rw [hSi] at hs; cases hs
        · have h1 := meetL j tj n hj e hm (.inr hnk)
          rw [hs] at h1
          have hlt : j < i := by simpa using h1.symm
          have := x6 j tj hlt hj n hm
          omega
    · have hr := hinv.fr g
      rw [hreads g (reads_guard g1 g2), g3] at hr
      have hw : ¬ Region.wanted t.o (yielded all a.tmps) = true := by
        simp [Region.wanted, g1, yielded_at g2 hr.bool_inv, g4]
      rw [if_neg hw]
      have h0 := next undef w ρ (by rw [g6]; exact hinv.sim) (by rw [g5]; exact .any _) (by rw [g6]; exact Keeps.refl _ _ _) (fun n hn => absurd rfl hn)
      exact h0

theorem drawV_sound {cx : Cx} (hO : OSound cx.P cx.O) {base id : Nat} {all : Array Oper} {s : St} {k : St -> Bool} (hb : base <= s.M.length) (hmix : cx.P.follows .mixedOrders = true) (h : drawV cx base all all.toList s [] k = true) :
    ∃ s', k s' = true /\ base <= s'.M.length /\ ∀ (G : Gh) (w : World) (ρ : Rho) (a : Act), G.base = base -> Sim G w ρ s a -> ∀ (Q : Exit -> Act -> World -> Prop),
      (∀ w' ρ' a', Sim G w' ρ' s' a' -> (∀ n q, n < base -> ρ n = some q -> ρ' n = some q) -> Q .normal a' w') -> (Code.region id all true).wp cx.P Q a w := by
  obtain ⟨ts, s', h1, h2, h3, h4⟩ := drawV_chain hO all.toList s [] k hb h
  have hlex := chain_lex _ _ _ _ h1 0
  have hb' : base <= s'.M.length := Nat.le_trans hb hlex.mono
  refine ⟨s', h4, hb', fun G w ρ a hG hs Q hQ => wp_region_any hmix ?_⟩
  obtain ⟨d1, d2⟩ := hs.sim.drew
  have hz : ∀ i, (Array.replicate all.size false).getD i false = false := by
    intro i
    simp only [Array.getD_eq_getD_getElem?, Array.getElem?_replicate]
    split <;> rfl
  have hL0 : accL (fun i => (Array.replicate all.size false).getD i false) 0 ts (look s.M) = look s.M := accL_none _ _ _ fun j _ => hz j
  have hF0 : accF (fun i => (Array.replicate all.size false).getD i false) 0 ts (fun u => s.F.getD u .any) = fun u => s.F.getD u .any := accF_none _ _ _ fun j _ => hz j
  refine draw_any hlex (by simpa using h2) h3 hb' hG hQ all.size _ a w.drew ρ (by simp) ?_ ⟨by rw [hL0]; exact d1, fun u => ?_, hs.defers, hs.size, fun m hm _ => hs.dom m hm, fun _ _ h => h⟩ ?_
  · intro i o _ hi; rw [hz] at hi; cases hi
  · rw [hL0, hF0]; exact (hs.fr u).mono d2
  · have : ∀ n S, cnt S n <= n := by
      intro n S
      induction n with
      | zero => exact Nat.le_refl _
      | succ n ih => simp only [cnt]; split <;> omega
    exact this _ _
end Go.Mach
end
section
namespace Go.Mach

def rhoRen (base : Nat) (L : List Nat) (ρ : Rho) : Rho := fun n => if n < base then ρ n else match L[n - base]? with
  | some m => ρ m
  | none => none

theorem renum_sound {base : Nat} {L : List Nat} {ρ : Rho} : ∀ n m q, renum base L n = some m -> ρ n = some q -> rhoRen base L ρ m = some q := by
  intro n m q hm hq
  unfold renum at hm
  by_cases h : n < base
  · simp [h] at hm; subst hm; simp [rhoRen, h, hq]
  · simp only [h, decide_false, cond_false] at hm
    obtain ⟨i, hi, rfl⟩ := Option.map_eq_some_iff.1 hm
    have := idxIn_some hi
    simp [rhoRen, show ¬ base + i < base by omega, this, hq]

theorem look_renHeap {base : Nat} {L : List Nat} {M : Heap} (hb : base <= M.length) (n : Nat) :
    look (renHeap base L M) n = if n < base then (look M n).map (Blk.ren (renum base L)) else match L[n - base]? with
      | some m => (look M m).map (Blk.ren (renum base L))
      | none => none := by
  have hl : ((M.take base).map (·.map (Blk.ren (renum base L)))).length = base := by simp; omega
  unfold renHeap
  by_cases h : n < base
  · rw [if_pos h]
    unfold look
    rw [List.getElem?_append_left (by rw [hl]; exact h), List.getElem?_map, List.getElem?_take, if_pos h]
    cases M[n]? with
    | none => rfl
    | some b => cases b <;> rfl
  · rw [if_neg h]
    unfold look
    rw [List.getElem?_append_right (by rw [hl]; omega), hl, List.getElem?_map]
    cases L[n - base]? with
    | none => rfl
    | some m =>
      have key : ∀ (x : Option Blk), (match (some x : Option (Option Blk)) with | some (some b) => some b | _ => none) = x := by intro x; cases x <;> rfl
      exact key _

theorem renHeap_length {base : Nat} {L : List Nat} {M : Heap} (hb : base <= M.length) : (renHeap base L M).length = base + L.length := by
  unfold renHeap; simp; omega

theorem SimW.renum {G : Gh} {w : World} {ρ : Rho} {M : Heap} (h : SimW G w ρ (look M)) (hb : G.base <= M.length) {L : List Nat} (hn : nodupB L = true) (hL : ∀ n, n ∈ L -> G.base <= n) :
    SimW G w (rhoRen G.base L ρ) (look (renHeap G.base L M)) /\ Keeps (okc G ρ (look M)) w ρ (okc G (rhoRen G.base L ρ) (look (renHeap G.base L M))) w ρ := by
  have hold : ∀ n bl, look (renHeap G.base L M) n = some bl -> ∃ m b0, look M m = some b0 /\ bl = b0.ren (Go.Mach.renum G.base L) /\ rhoRen G.base L ρ n = ρ m /\ ((n < G.base /\ m = n) \/ (G.base <= n /\ L[n - G.base]? = some m)) := by
    intro n bl hnb
    rw [look_renHeap hb] at hnb
    by_cases h1 : n < G.base
    · rw [if_pos h1] at hnb
      obtain ⟨b0, hb0, rfl⟩ := Option.map_eq_some_iff.1 hnb
      exact ⟨n, b0, hb0, rfl, by simp [rhoRen, h1], .inl ⟨h1, rfl⟩⟩
    · rw [if_neg h1] at hnb
      split at hnb
      · rename_i m hm
        obtain ⟨b0, hb0, rfl⟩ := Option.map_eq_some_iff.1 hnb
        exact ⟨m, b0, hb0, rfl, by simp [rhoRen, h1, hm], .inr ⟨by omega, hm⟩⟩
      · cases hnb
  have hk : Keeps (okc G ρ (look M)) w ρ (okc G (rhoRen G.base L ρ) (look (renHeap G.base L M))) w ρ := by
    refine ⟨fun _ _ h => h, fun b _ ho => ⟨⟨ho.1, fun n bl p hnb hp => ?_⟩, rfl⟩, Nat.le_refl _⟩
    obtain ⟨m, b0, h1, _, h3, _⟩ := hold n bl hnb
    rw [h3] at hp
    exact ho.2 m b0 p h1 hp
  refine ⟨⟨?_, ?_, ?_, h.size, h.os, h.tape, h.output, ?_, h.tab, ?_⟩, hk⟩
  · intro n bl hnb
    obtain ⟨m, b0, h1, rfl, h3, _⟩ := hold n bl hnb
    obtain ⟨q, hq, hbb⟩ := h.blks m b0 h1
    refine ⟨q, by rw [h3]; exact hq, ?_⟩
    cases q with
    | none => show (b0.c.ren _).size = 0; rw [Body.ren_size]; exact hbb
    | some p =>
      obtain ⟨cur, c1, c2, c3, c4, c5, c6⟩ := hbb
      exact ⟨cur, c1, c2, by show _ = (b0.c.ren _).size; rw [Body.ren_size]; exact c3, c4, c5, BodyRep.ren renum_sound (c6.mono hk)⟩
  · intro n n' bn bn' p q hn1 hn2 hp hq e
    obtain ⟨m, b0, h1, _, h3, h4⟩ := hold n bn hn1
    obtain ⟨m', b1, k1, _, k3, k4⟩ := hold n' bn' hn2
    rw [h3] at hp; rw [k3] at hq
    have := h.inj m m' b0 b1 p q h1 k1 hp hq e
    subst this
    rcases h4 with ⟨a1, a2⟩ | ⟨a1, a2⟩ <;> rcases k4 with ⟨c1, c2⟩ | ⟨c1, c2⟩
    · omega
    · have := hL m (List.mem_of_getElem? c2); omega
    · have := hL m (List.mem_of_getElem? a2); omega
    · have := nodupB_sound hn _ _ m a2 c2; omega
  · intro n p hn' hp
    unfold rhoRen at hp
    rw [if_neg (by omega)] at hp
    split at hp
    · rename_i m hm
      exact h.own m p (hL m (List.mem_of_getElem? hm)) hp
    · cases hp
  · intro b hb' hno
    refine h.old b hb' fun n p hn' hp => hno n p hn' ?_
    simp [rhoRen, hn', hp]
  · intro n p hp
    unfold rhoRen at hp
    split at hp
    · exact h.high n p hp
    · split at hp
      · rename_i m hm
        exact h.high m p hp
      · cases hp

theorem newNames_ge {base : Nat} {M : Heap} {r : List Nat} : ∀ n, n ∈ newNames base M r -> base <= n := by
  intro n hn
  unfold newNames at hn
  simpa using (List.mem_filter.1 hn).2

theorem keepF_getD (keep : List Nat) (f : Nat -> Option Nat) : ∀ (F : List V) (i t : Nat), (keepF keep f i F).getD t .any = cond (keep.contains (i + t)) ((F.getD t .any).ren f) .any
  | [], i, t => by simp [keepF]; cases keep.contains (i + t) <;> simp [V.ren]
  | v :: r, i, 0 => by simp [keepF]
  | v :: r, i, t + 1 => by
    have := keepF_getD keep f r (i + 1) t
    simp only [keepF, List.getD_cons_succ]
    rw [this, show i + 1 + t = i + (t + 1) from by omega]
theorem keepF_length (keep : List Nat) (f : Nat -> Option Nat) : ∀ (F : List V) (i : Nat), (keepF keep f i F).length = F.length
  | [], _ => rfl
  | v :: r, i => by simp [keepF, keepF_length keep f r]

theorem SimW.rebody {G : Gh} {w : World} {ρ : Rho} {L : LK} (h : SimW G w ρ L) (n : Nat) (blk : Blk) (hn : L n = some blk) (c' : Body) (hcs : c'.size = blk.c.size)
    (hr : ∀ cur, BodyRep (okc G ρ L) w ρ blk.c cur -> BodyRep (okc G ρ L) w ρ c' cur) :
    SimW G w ρ (updL L n (some { blk with c := c' })) /\ Keeps (okc G ρ L) w ρ (okc G ρ (updL L n (some { blk with c := c' }))) w ρ := by
  have hlive : ∀ m, (updL L n (some { blk with c := c' }) m).isSome = true -> (L m).isSome = true := by
    intro m; unfold updL; by_cases e : m = n
    · subst e; simp [hn]
    · simp [e]
  have hk : Keeps (okc G ρ L) w ρ (okc G ρ (updL L n (some { blk with c := c' }))) w ρ := by
    refine ⟨fun _ _ h => h, fun b _ ho => ⟨⟨ho.1, fun m bl q hm hq => ?_⟩, rfl⟩, Nat.le_refl _⟩
    obtain ⟨bl', hb'⟩ := Option.isSome_iff_exists.1 (hlive m (by simp [hm]))
    exact ho.2 m bl' q hb' hq
  refine ⟨⟨?_, ?_, h.own, h.size, h.os, h.tape, h.output, h.old, h.tab, h.high⟩, hk⟩
  · intro m bl hm
    unfold updL at hm
    by_cases e : m = n
    · subst e
      simp only [if_true, Option.some.injEq] at hm
      subst hm
      obtain ⟨q, hq, hb⟩ := h.blks m blk hn
      refine ⟨q, hq, ?_⟩
      cases q with
      | none => exact hcs.trans hb
      | some p => obtain ⟨c2, g1, g2, g3, g4, g5, g6⟩ := hb; exact ⟨c2, g1, g2, g3.trans hcs.symm, g4, g5, (hr _ g6).mono hk⟩
    · simp only [e, if_false] at hm
      obtain ⟨q, hq, hb⟩ := h.blks m bl hm
      refine ⟨q, hq, ?_⟩
      cases q with
      | none => exact hb
      | some p => obtain ⟨c2, g1, g2, g3, g4, g5, g6⟩ := hb; exact ⟨c2, g1, g2, g3, g4, g5, g6.mono hk⟩
  · intro m m' bn bm q q' hm hm' hq hq' e
    obtain ⟨b1, hb1⟩ := Option.isSome_iff_exists.1 (hlive m (by simp [hm]))
    obtain ⟨b2, hb2⟩ := Option.isSome_iff_exists.1 (hlive m' (by simp [hm']))
    exact h.inj m m' b1 b2 q q' hb1 hb2 hq hq' e

theorem look_push {M : Heap} {b : Option Blk} : look (M ++ [b]) = updL (look M) M.length b := by
  have := look_putAt M M.length b
  unfold putAt at this
  simpa using this
theorem look_setM {M : Heap} {n : Nat} {b : Option Blk} (hn : n < M.length) : look (M.set n b) = updL (look M) n b := by
  have := look_putAt M n b
  unfold putAt at this
  simpa [hn] using this

theorem Sim.push {G : Gh} {w : World} {ρ : Rho} {s : St} {a : Act} (h : Sim G w ρ s a) (blk : Blk) (h0 : blk.c.size = 0) :
    Sim G w (updR ρ s.M.length none) ⟨s.F, s.M ++ [some blk]⟩ a /\ Keeps (okc G ρ (look s.M)) w ρ (okc G (updR ρ s.M.length none) (look (s.M ++ [some blk]))) w (updR ρ s.M.length none) := by
  obtain ⟨h1, h2⟩ := h.sim.virt s.M.length (h.dom _ (Nat.le_refl _)) blk h0
  rw [look_push]
  refine ⟨⟨by rw [look_push]; exact h1, fun n hn => ?_, h.defers, fun u => ?_, h.size, ?_⟩, h2⟩
  · simp at hn
    have : n ≠ s.M.length := by omega
    simp [updR, this, h.dom n (by omega)]
  · show Rep (okc G _ (look (s.M ++ [some blk]))) w _ _ _
    rw [look_push]; exact (h.fr u).mono h2
  · have := h.base; show _ <= (s.M ++ [some blk]).length; simp; omega

theorem virtS_sound {P : Program} : ∀ (vs : List (Nat × Option Nat × Nat)) (s : St) (G : Gh) (w : World) (ρ : Rho) (a : Act), Sim G w ρ s a -> s.M.length <= (virtS P vs s).M.length /\ ∃ ρ', Sim G w ρ' (virtS P vs s) a /\ ∀ n q, ρ n = some q -> ρ' n = some q
  | [], s, G, w, ρ, a, h => ⟨Nat.le_refl _, ρ, h, fun _ _ h => h⟩
  | (t, none, e) :: r, s, G, w, ρ, a, h => by
    simp only [virtS]
    split
    · rename_i sz b hF hsz hz
      have hb0 : b.size = 0 := by
        cases hzc : zeroCellsOf P e with
        | none => simp only [zeroBody, hzc] at hz; split at hz <;> simp_all
        | some z => exact zeroBody_zero hzc hz
      obtain ⟨h1, h2⟩ := h.push ⟨e, sz, b⟩ hb0
      have hsim : Sim G w (updR ρ s.M.length none) ⟨s.F.set t (.slw s.M.length), s.M ++ [some ⟨e, sz, b⟩]⟩ a := by
        refine ⟨h1.sim, h1.dom, h.defers, fun u => ?_, by simp [h.size], h1.base⟩
        show Rep (okc G _ (look (s.M ++ [some ⟨e, sz, b⟩]))) w _ ((s.F.set t (.slw s.M.length)).getD u .any) _
        have hs := setF_getD s.F (some t) (.slw s.M.length) u
        simp only [setF] at hs
        rw [hs]
        split
        · rename_i hu
          obtain ⟨hu1, hu2⟩ := hu
          cases hu1
          have hr := h.fr t
          rw [hF] at hr
          rw [hr.nil_inv]
          exact .slv _ (by simp [updR])
        · exact (h.fr u).mono h2
      obtain ⟨g1, ρ', g2, g3⟩ := virtS_sound r _ G w _ a hsim
      refine ⟨Nat.le_trans (by simp) g1, ρ', g2, fun n q hq => g3 n q (h2.rho n q hq)⟩
    · exact virtS_sound r s G w ρ a h
  | (t, some i, e) :: r, s, G, w, ρ, a, h => by
    simp only [virtS]
    split
    · rename_i n o sz z hF hsz hz
      split
      · rename_i e0 s0 cs hlk
        split
        · rename_i hcell
          have hb0 : z.size = 0 := by
            cases hzc : zeroCellsOf P e with
            | none => simp only [zeroBody, hzc] at hz; split at hz <;> simp_all
            | some z => exact zeroBody_zero hzc hz
          obtain ⟨h1, h2⟩ := h.push ⟨e, sz, z⟩ hb0
          have hn : n < s.M.length := look_lt hlk
          have hlk' : look (s.M ++ [some ⟨e, sz, z⟩]) n = some ⟨e0, s0, .cells cs⟩ := by
            rw [look_push]; unfold updL; rw [if_neg (by omega)]; exact hlk
          obtain ⟨k1, k2⟩ := h1.sim.rebody n _ hlk' (.cells (cs.set (o + i) (.slw s.M.length))) (by simp [Body.size]) (by
            intro cur hb j x hx
            have hx : (cs.set (o + i) (.slw s.M.length))[j]? = some x := hx
            by_cases e : j = o + i
            · subst e
              have hlt : o + i < cs.length := by
                rcases Nat.lt_or_ge (o + i) cs.length with h | h
                · exact h
                · rw [List.getElem?_eq_none h] at hcell; cases hcell
              rw [List.getElem?_set_self hlt] at hx
              cases hx
              obtain ⟨v, g1, g2, g3⟩ := hb (o + i) .nil hcell
              refine ⟨v, g1, g2, ?_⟩
              rw [g3.nil_inv]
              exact .slv _ (by simp [updR])
            · rw [List.getElem?_set_ne (Ne.symm e)] at hx
              exact hb j x hx)
          have hM : s.M.set n (some ⟨e0, s0, .cells (cs.set (o + i) (.slw s.M.length))⟩) ++ [(some ⟨e, sz, z⟩ : Option Blk)] = (s.M ++ [(some ⟨e, sz, z⟩ : Option Blk)]).set n (some ⟨e0, s0, .cells (cs.set (o + i) (.slw s.M.length))⟩) := by
            rw [List.set_append_left _ _ hn]
          have hlM : look (s.M.set n (some ⟨e0, s0, .cells (cs.set (o + i) (.slw s.M.length))⟩) ++ [(some ⟨e, sz, z⟩ : Option Blk)]) = updL (look (s.M ++ [(some ⟨e, sz, z⟩ : Option Blk)])) n (some ⟨e0, s0, .cells (cs.set (o + i) (.slw s.M.length))⟩) := by
            rw [hM, look_setM (by simp; omega)]
          have hsim : Sim G w (updR ρ s.M.length none) ⟨s.F, s.M.set n (some ⟨e0, s0, .cells (cs.set (o + i) (.slw s.M.length))⟩) ++ [some ⟨e, sz, z⟩]⟩ a := by
            refine ⟨by rw [hlM]; exact k1, fun m hm => h1.dom m (by simpa using hm), h.defers, fun u => ?_, h.size, by have := h1.base; simpa using this⟩
            show Rep (okc G _ (look (s.M.set n _ ++ [some ⟨e, sz, z⟩]))) w _ _ _
            rw [hlM]
            exact (h1.fr u).mono k2
          obtain ⟨g1, ρ', g2, g3⟩ := virtS_sound r _ G w _ a hsim
          refine ⟨Nat.le_trans (by simp) g1, ρ', g2, fun n q hq => g3 n q (h2.rho n q hq)⟩
        · exact virtS_sound r s G w ρ a h
      · exact virtS_sound r s G w ρ a h
    · rename_i n hF
      split
      · rename_i b hlk
        cases hz1 : b.sz == 1 with
        | false => rw [cond_false]; exact virtS_sound r s G w ρ a h
        | true =>
          rw [cond_true]
          have hz1 : b.sz = 1 := by simpa using hz1
          have hsim : Sim G w ρ ⟨s.F.set t (.sl n 0 b.c.size), s.M⟩ a := by
            refine ⟨h.sim, h.dom, h.defers, fun u => ?_, by simp [h.size], h.base⟩
            have hs := setF_getD s.F (some t) (.sl n 0 b.c.size) u
            simp only [setF] at hs
            rw [hs]
            split
            · rename_i hu
              obtain ⟨hu1, hu2⟩ := hu
              cases hu1
              have hr := h.fr t
              rw [hF] at hr
              obtain ⟨q, hq, hb⟩ := h.sim.blks n b hlk
              generalize a.tmps.getD t undef = v at hr
              cases hr with
              | slw _ p hp =>
                rw [hq] at hp; cases hp
                obtain ⟨cur, c1, c2, c3, c4, c5, c6⟩ := hb
                rw [hz1, Nat.mul_one] at c3
                rw [<- c3]
                exact .sl n 0 p.len p.cap 0 p hq c4 (.inl rfl)
              | slv _ hp =>
                rw [hq] at hp; cases hp
                have hb : b.c.size = 0 := hb
                rw [hb]
                exact .slvp n 0 hq
            · exact h.fr u
          exact virtS_sound r _ G w ρ a hsim
      · exact virtS_sound r s G w ρ a h
    · exact virtS_sound r s G w ρ a h

theorem denS_length : ∀ (ds : List (Nat × Nat × Option IntKind)) (M : Heap), (denS ds M).length = M.length
  | [], _ => rfl
  | (n, i, k) :: r, M => by
    simp only [denS]
    split
    · split
      · rw [denS_length r]; simp
      · exact denS_length r M
    · exact denS_length r M
theorem denS_sound {G : Gh} {w : World} {ρ : Rho} {a : Act} : ∀ (ds : List (Nat × Nat × Option IntKind)) (s : St), Sim G w ρ s a -> Sim G w ρ ⟨s.F, denS ds s.M⟩ a
  | [], s, h => h
  | (n, i, k) :: r, s, h => by
    simp only [denS]
    split
    · rename_i e0 s0 cs hlk
      split
      · rename_i hcell
        have hzr : ∀ ok, Rep ok w ρ (nilRow k) (.slice none 0 0) := by
          intro ok
          cases k with
          | none => exact .rofn
          | some k => exact .roin k
        generalize nilRow k = z at hzr ⊢
        have hn : n < s.M.length := look_lt hlk
        obtain ⟨k1, k2⟩ := h.sim.rebody n _ hlk (.cells (cs.set i z)) (by simp [Body.size]) (by
          intro cur hb j x hx
          have hx : (cs.set i z)[j]? = some x := hx
          by_cases e : j = i
          · subst e
            have hlt : j < cs.length := by
              rcases Nat.lt_or_ge j cs.length with h | h
              · exact h
              · rw [List.getElem?_eq_none h] at hcell; cases hcell
            rw [List.getElem?_set_self hlt] at hx
            cases hx
            obtain ⟨v, g1, g2, g3⟩ := hb j .nil hcell
            refine ⟨v, g1, g2, ?_⟩
            rw [g3.nil_inv]
            exact hzr _
          · rw [List.getElem?_set_ne (Ne.symm e)] at hx
            exact hb j x hx)
        have hlM : look (s.M.set n (some ⟨e0, s0, .cells (cs.set i z)⟩)) = updL (look s.M) n (some ⟨e0, s0, .cells (cs.set i z)⟩) := by
          rw [look_setM hn]
        have hsim : Sim G w ρ ⟨s.F, s.M.set n (some ⟨e0, s0, .cells (cs.set i z)⟩)⟩ a := by
          refine ⟨by rw [hlM]; exact k1, fun m hm => h.dom m (by simpa using hm), h.defers, fun u => ?_, h.size, by have := h.base; simpa using this⟩
          show Rep (okc G _ (look (s.M.set n _))) w _ _ _
          rw [hlM]
          exact (h.fr u).mono k2
        exact denS_sound r _ hsim
      · exact denS_sound r s h
    · exact denS_sound r s h
theorem normS_sound {P : Program} (an : Option Nrm) (s : St) (base : Nat) (hb : base <= s.M.length) : base <= (normS P base an s).M.length /\ ∀ (G : Gh) (w : World) (ρ : Rho) (a : Act), G.base = base -> Sim G w ρ s a -> ∃ ρ', Sim G w ρ' (normS P base an s) a /\ ∀ n q, n < base -> ρ n = some q -> ρ' n = some q := by
  cases an with
  | none => exact ⟨hb, fun G w ρ a _ h => ⟨ρ, h, fun _ _ _ h => h⟩⟩
  | some an =>
    have hvl : s.M.length <= (virtS P an.virt s).M.length := by
      have : ∀ (vs : List (Nat × Option Nat × Nat)) (s : St), s.M.length <= (virtS P vs s).M.length := by
        intro vs
        induction vs with
        | nil => intro s; exact Nat.le_refl _
        | cons x r ih =>
          intro s
          obtain ⟨t, x, e⟩ := x
          cases x with
          | none =>
            simp only [virtS]
            split
            · exact Nat.le_trans (by simp) (ih _)
            · exact ih s
          | some i =>
            simp only [virtS]
            split
            · split
              · split
                · exact Nat.le_trans (by simp) (ih _)
                · exact ih s
              · exact ih s
            · split
              · rename_i b _
                cases b.sz == 1
                · exact ih s
                · exact ih ⟨s.F.set t (.sl _ 0 b.c.size), s.M⟩
              · exact ih s
            · exact ih s
      exact this _ _
    simp only [normS]
    generalize hL : newNames base (virtS P an.virt s).M (keepRefs an.keep 0 (virtS P an.virt s).F) = L
    have hLge : ∀ n, n ∈ L -> base <= n := fun n hn => newNames_ge n (by rw [hL]; exact hn)
    cases hnd : nodupB L with
    | false =>
      simp only [cond_false]
      refine ⟨Nat.le_trans hb hvl, fun G w ρ a _ h => ?_⟩
      obtain ⟨_, ρ', h1, h2⟩ := virtS_sound an.virt s G w ρ a h
      exact ⟨ρ', h1, fun n q _ hq => h2 n q hq⟩
    | true =>
      simp only [cond_true]
      refine ⟨by show base <= (denS an.den _).length; rw [denS_length, renHeap_length (Nat.le_trans hb hvl)]; omega, fun G w ρ a hG h => ?_⟩
      obtain ⟨_, ρ', h1, h2⟩ := virtS_sound an.virt s G w ρ a h
      subst hG
      obtain ⟨h3, h4⟩ := h1.sim.renum h1.base hnd hLge
      refine ⟨rhoRen G.base L ρ', denS_sound an.den ⟨keepF an.keep (renum G.base L) 0 (virtS P an.virt s).F, renHeap G.base L (virtS P an.virt s).M⟩ ⟨h3, fun n hn => ?_, h1.defers, fun t => ?_, by rw [keepF_length]; exact h1.size, by show G.base <= (renHeap G.base L _).length; rw [renHeap_length h1.base]; omega⟩, fun n q hn hq => by simp [rhoRen, hn, h2 n q hq]⟩
      · have hn : (renHeap G.base L (virtS P an.virt s).M).length <= n := hn
        rw [renHeap_length h1.base] at hn
        unfold rhoRen
        rw [if_neg (by omega), List.getElem?_eq_none (by omega)]
      · show Rep _ w _ ((keepF an.keep (renum G.base L) 0 (virtS P an.virt s).F).getD t .any) _
        rw [keepF_getD]
        cases an.keep.contains (0 + t) with
        | false => exact .any _
        | true => exact ren_sound renum_sound ((h1.fr t).mono h4)

def K.of (κ : K) : Exit -> St -> Bool
  | .normal, s => κ.nrm s
  | .exit i, s => κ.ext i s
  | .ret, s => κ.ret s
  | _, _ => false

def Leads (cx : Cx) (base : Nat) (c : Code) (s : St) (e : Exit) (s' : St) : Prop :=
  ∀ (G : Gh) (w : World) (ρ : Rho) (a : Act), G.base = base -> Sim G w ρ s a -> ∀ (Q : Exit -> Act -> World -> Prop),
    (∀ w' ρ' a', Sim G w' ρ' s' a' -> (∀ n q, n < base -> ρ n = some q -> ρ' n = some q) -> Q e a' w') -> c.wp cx.P Q a w

theorem codeV_sound {cx : Cx} (hO : OSound cx.P cx.O) {base : Nat} {an : Nat -> Option Ann} : ∀ (c : Code) (bid : Nat) (s : St) (κ : K), HooksOk cx base an c bid -> base <= s.M.length -> codeV cx base an c bid s κ = true ->
    ∃ e s', κ.of e s' = true /\ base <= s'.M.length /\ Leads cx base c s e s'
  | .skip, bid, s, κ, hk, hb, h => ⟨.normal, s, h, hb, fun G w ρ a _ hs Q hQ => wp_skip (hQ w ρ a hs fun _ _ _ h => h)⟩
  | .region id ops false, bid, s, κ, hk, hb, h => by
    simp only [codeV] at h
    obtain ⟨s', h1, h2, h3⟩ := opsV_sound hO ops.toList s κ.nrm hb h
    exact ⟨.normal, s', h1, h2, fun G w ρ a hG hs Q hQ => wp_region_list (h3 G w ρ a hG hs Q hQ)⟩
  | .region id ops true, bid, s, κ, hk, hb, h => by
    simp only [codeV] at h
    obtain ⟨g1, g2⟩ := and_true h
    obtain ⟨s', h1, h2, h3⟩ := drawV_sound (id := id) hO hb g1 g2
    exact ⟨.normal, s', h1, h2, h3⟩
  | .seq c d, bid, s, κ, hk, hb, h => by
    simp only [codeV] at h
    obtain ⟨e, s1, h1, h2, h3⟩ := codeV_sound hO c bid s _ hk.1 hb h
    cases e with
    | normal =>
      obtain ⟨e2, s2, k1, k2, k3⟩ := codeV_sound hO d bid s1 κ hk.2 h2 h1
      exact ⟨e2, s2, k1, k2, fun G w ρ a hG hs Q hQ => wp_seq (h3 G w ρ a hG hs _ fun w' ρ' a' hs' hr => k3 G w' ρ' a' hG hs' Q fun w'' ρ'' a'' hs'' hr' => hQ w'' ρ'' a'' hs'' fun n q hn hq => hr' n q hn (hr n q hn hq))⟩
    | exit i => exact ⟨.exit i, s1, h1, h2, fun G w ρ a hG hs Q hQ => wp_seq (h3 G w ρ a hG hs _ fun w' ρ' a' hs' hr => hQ w' ρ' a' hs' hr)⟩
    | ret => exact ⟨.ret, s1, h1, h2, fun G w ρ a hG hs Q hQ => wp_seq (h3 G w ρ a hG hs _ fun w' ρ' a' hs' hr => hQ w' ρ' a' hs' hr)⟩
    | goto l => simp [K.of] at h1
    | panic p => simp [K.of] at h1
    | outgrown => simp [K.of] at h1
  | .cond (.tmp t) c d, bid, s, κ, hk, hb, h => by
    simp only [codeV] at h
    split at h
    · rename_i b hF
      have hev : ∀ {G : Gh} {w : World} {ρ : Rho} {a : Act}, Sim G w ρ s a -> a.eval (.tmp t) = .bool b := by
        intro G w ρ a hs
        have hr := hs.fr t
        rw [hF] at hr
        exact hr.bool_inv
      cases b with
      | true =>
        rw [cond_true, set_same hF] at h
        obtain ⟨e, s1, h1, h2, h3⟩ := codeV_sound hO c bid s κ hk.1 hb h
        exact ⟨e, s1, h1, h2, fun G w ρ a hG hs Q hQ => wp_cond_true (hev hs) (h3 G w ρ a hG hs Q hQ)⟩
      | false =>
        rw [cond_false, set_same hF] at h
        obtain ⟨e, s1, h1, h2, h3⟩ := codeV_sound hO d bid s κ hk.2 hb h
        exact ⟨e, s1, h1, h2, fun G w ρ a hG hs Q hQ => wp_cond_false (hev hs) (h3 G w ρ a hG hs Q hQ)⟩
    · cases h
  | .block id c, bid, s, κ, hk, hb, h => by
    simp only [codeV] at h
    obtain ⟨e, s1, h1, h2, h3⟩ := codeV_sound hO c id s _ hk hb h
    cases e with
    | normal => exact ⟨.normal, s1, h1, h2, fun G w ρ a hG hs Q hQ => wp_block (h3 G w ρ a hG hs _ fun w' ρ' a' hs' hr => hQ w' ρ' a' hs' hr)⟩
    | exit i =>
      simp only [K.of] at h1
      cases e : (i == id) with
      | true =>
        rw [e, cond_true] at h1
        obtain rfl : i = id := by simpa using e
        exact ⟨.normal, s1, h1, h2, fun G w ρ a hG hs Q hQ => wp_block (h3 G w ρ a hG hs _ fun w' ρ' a' hs' hr => by simp only [Exit.inBlock, if_true]; exact hQ w' ρ' a' hs' hr)⟩
      | false =>
        rw [e, cond_false] at h1
        have hne : ¬ i = id := by simpa using e
        exact ⟨.exit i, s1, h1, h2, fun G w ρ a hG hs Q hQ => wp_block (h3 G w ρ a hG hs _ fun w' ρ' a' hs' hr => by simp only [Exit.inBlock, hne, if_false]; exact hQ w' ρ' a' hs' hr)⟩
    | ret => exact ⟨.ret, s1, h1, h2, fun G w ρ a hG hs Q hQ => wp_block (h3 G w ρ a hG hs _ fun w' ρ' a' hs' hr => hQ w' ρ' a' hs' hr)⟩
    | goto l => simp [K.of] at h1
    | panic p => simp [K.of] at h1
    | outgrown => simp [K.of] at h1
  | .loop c, bid, s, κ, hk, hb, h => by
    obtain ⟨n1, n2⟩ := normS_sound (P := cx.P) (headOf (an bid)) s base hb
    have h : iter cx.N (fun s k => codeV cx base an c bid s (roundK cx.P base (an bid) κ k)) (normS cx.P base (headOf (an bid)) s) = true := by
      simp only [codeV] at h
      split at h
      · rename_i hk' hkk
        exact hk.2 hk' hkk _ κ h
      · exact h
    have main : ∀ (N : Nat) (s : St), base <= s.M.length -> iter N (fun s k => codeV cx base an c bid s (roundK cx.P base (an bid) κ k)) s = true ->
        ∃ e s', κ.of e s' = true /\ base <= s'.M.length /\ ∀ (G : Gh) (w : World) (ρ : Rho) (a : Act), G.base = base -> Sim G w ρ s a -> ∀ (Q : Exit -> Act -> World -> Prop),
          (∀ w' ρ' a', Sim G w' ρ' s' a' -> (∀ n q, n < base -> ρ n = some q -> ρ' n = some q) -> Q e a' w') -> Code.rounds cx.P c Q N a w := by
      intro N
      induction N with
      | zero => intro s _ h; simp [iter] at h
      | succ N ih =>
        intro s hb h
        simp only [iter] at h
        obtain ⟨e, s1, h1, h2, h3⟩ := codeV_sound hO c bid _ _ hk.1 hb h
        have go : ∀ (e' : Exit) (s' : St), (∀ (G : Gh) (w : World) (ρ : Rho) (a : Act), G.base = base -> Sim G w ρ s1 a -> ∀ (Q : Exit -> Act -> World -> Prop),
            (∀ w' ρ' a', Sim G w' ρ' s' a' -> (∀ n q, n < base -> ρ n = some q -> ρ' n = some q) -> Q e' a' w') -> Exit.then (Code.rounds cx.P c Q N) Q e a w) ->
            ∀ (G : Gh) (w : World) (ρ : Rho) (a : Act), G.base = base -> Sim G w ρ s a -> ∀ (Q : Exit -> Act -> World -> Prop),
          (∀ w' ρ' a', Sim G w' ρ' s' a' -> (∀ n q, n < base -> ρ n = some q -> ρ' n = some q) -> Q e' a' w') -> Code.rounds cx.P c Q (N + 1) a w := by
          intro e' s' hgo G w ρ a hG hs Q hQ
          rw [rounds_succ]
          exact h3 G w ρ a hG hs _ fun w' ρ' a' hs' hr => hgo G w' ρ' a' hG hs' Q fun w'' ρ'' a'' hs'' hr' => hQ w'' ρ'' a'' hs'' fun n q hn hq => hr' n q hn (hr n q hn hq)
        cases e with
        | normal =>
          have h1 : iter N _ (normS cx.P base (headOf (an bid)) s1) = true := h1
          obtain ⟨m1, m2⟩ := normS_sound (P := cx.P) (headOf (an bid)) s1 base h2
          obtain ⟨e2, s2, k1, k2, k3⟩ := ih _ m1 h1
          refine ⟨e2, s2, k1, k2, go e2 s2 fun G w ρ a hG hs Q hQ => ?_⟩
          obtain ⟨ρ1, hs1, hr1⟩ := m2 G w ρ a hG hs
          exact k3 G w ρ1 a hG hs1 Q fun w' ρ' a' hs' hr => hQ w' ρ' a' hs' fun n q hn hq => hr n q hn (hr1 n q hn hq)
        | exit i =>
          obtain ⟨m1, m2⟩ := normS_sound (P := cx.P) (exitOf (an bid) i) s1 base h2
          refine ⟨.exit i, _, h1, m1, go (.exit i) _ fun G w ρ a hG hs Q hQ => ?_⟩
          obtain ⟨ρ1, hs1, hr1⟩ := m2 G w ρ a hG hs
          exact hQ w ρ1 a hs1 hr1
        | ret =>
          obtain ⟨m1, m2⟩ := normS_sound (P := cx.P) (retOf (an bid)) s1 base h2
          refine ⟨.ret, _, h1, m1, go .ret _ fun G w ρ a hG hs Q hQ => ?_⟩
          obtain ⟨ρ1, hs1, hr1⟩ := m2 G w ρ a hG hs
          exact hQ w ρ1 a hs1 hr1
        | goto l => simp [K.of] at h1
        | panic p => simp [K.of] at h1
        | outgrown => simp [K.of] at h1
    obtain ⟨e, s', h1, h2, h3⟩ := main cx.N _ n1 h
    refine ⟨e, s', h1, h2, fun G w ρ a hG hs Q hQ => wp_loop_rounds cx.N ?_⟩
    obtain ⟨ρ1, hs1, hr1⟩ := n2 G w ρ a hG hs
    exact h3 G w ρ1 a hG hs1 Q fun w' ρ' a' hs' hr => hQ w' ρ' a' hs' fun n q hn hq => hr n q hn (hr1 n q hn hq)
  | .exit id, bid, s, κ, hk, hb, h => ⟨.exit id, s, h, hb, fun G w ρ a _ hs Q hQ => wp_exit (hQ w ρ a hs fun _ _ _ h => h)⟩
  | .ret, bid, s, κ, hk, hb, h => ⟨.ret, s, h, hb, fun G w ρ a _ hs Q hQ => wp_ret (hQ w ρ a hs fun _ _ _ h => h)⟩
  | .cond (.const v) c d, bid, s, κ, hk, hb, h => by
    cases v with
    | bool b =>
      simp only [codeV] at h
      cases b with
      | true =>
        rw [cond_true] at h
        obtain ⟨e, s1, h1, h2, h3⟩ := codeV_sound hO c bid s κ hk.1 hb h
        exact ⟨e, s1, h1, h2, fun G w ρ a hG hs Q hQ => wp_cond_true rfl (h3 G w ρ a hG hs Q hQ)⟩
      | false =>
        rw [cond_false] at h
        obtain ⟨e, s1, h1, h2, h3⟩ := codeV_sound hO d bid s κ hk.2 hb h
        exact ⟨e, s1, h1, h2, fun G w ρ a hG hs Q hQ => wp_cond_false rfl (h3 G w ρ a hG hs Q hQ)⟩
    | _ => simp [codeV] at h
  | .cond (.global _) _ _, _, _, _, _, _, h => by simp [codeV] at h
  | .cond (.func _) _ _, _, _, _, _, _, h => by simp [codeV] at h
  | .rangeFunc .., _, _, _, _, _, h => by simp [codeV] at h
  | .scope _, _, _, _, _, _, h => by simp [codeV] at h
  | .label _, _, _, _, _, _, h => by simp [codeV] at h
  | .goto _, _, _, _, _, _, h => by simp [codeV] at h
  | .refuse _, _, _, _, _, _, h => by simp [codeV] at h

def resRun (tmps : Array Value) (r : ResultVar) : Sem Value := match r with
  | .tmp t => pure (tmps.getD t undef)
  | .cell a t => do loadVar t (<- asAddr (tmps.getD a undef))

theorem resV_sound {P : Program} {s : St} {r : ResultVar} {k : V -> Bool} (h : resV P s r k = true) :
    ∃ x, k x = true /\ ∀ (G : Gh) (w : World) (ρ : Rho) (a : Act), Sim G w ρ s a -> ∃ v, (resRun a.tmps r).run P w = .ok v w /\ Rep (okc G ρ (look s.M)) w ρ x v := by
  cases r with
  | tmp t => exact ⟨_, h, fun G w ρ a hs => ⟨_, rfl, hs.fr t⟩⟩
  | cell t ty =>
    simp only [resV] at h
    split at h
    · rename_i ag z n p hag hz hF
      split at h
      · rename_i b hM
        have main : ∀ y, ((ag = true /\ ∃ zs, y = .agg zs /\ zs.length = z /\ ∀ (i : Nat) c, zs[i]? = some c -> b.c.at (p + i) = some c) \/ (ag = false /\ b.c.at p = some y)) -> ∀ (G : Gh) (w : World) (ρ : Rho) (a : Act), Sim G w ρ s a ->
            ∃ v, (resRun a.tmps (.cell t ty)).run P w = .ok v w /\ Rep (okc G ρ (look s.M)) w ρ y v := by
          intro y hy G w ρ a hs
          have hx := hs.fr t; rw [hF] at hx
          obtain ⟨pl, hp, hv⟩ := hx.ptr_inv
          obtain ⟨cur, c1, c2, c3, c4, c5, c6⟩ := hs.sim.place hM hp
          have key : ∃ v, (Instr.loadAt ty (.pointer (some ⟨pl.b, p, none⟩))).run P w = .ok v w /\ Rep (okc G ρ (look s.M)) w ρ y v := by
            refine load_run hag hz ?_
            rcases hy with ⟨h1, zs, h2, h3, h4⟩ | ⟨h1, h2⟩
            · refine .inl ⟨h1, zs, h2, h3, fun i c hc => ?_⟩
              obtain ⟨v, g1, g2, g3⟩ := c6 _ _ (h4 i c hc)
              exact ⟨v, cell_of_heap c1 g1, g2, g3⟩
            · obtain ⟨v, g1, g2, g3⟩ := c6 _ _ h2
              exact .inr ⟨h1, v, cell_of_heap c1 g1, g3⟩
          obtain ⟨v, h1, h2⟩ := key
          refine ⟨v, ?_, h2⟩
          simp only [Instr.loadAt, Instr.sureAddr, Sem.run_bind, Sem.run_pure, Result.andThen_ok] at h1
          simp only [resRun, hv, asAddr, Sem.run_bind, Sem.run_pure, Result.andThen_ok, h1]
        cases ag
        · simp only [cond_false] at h
          obtain ⟨y, hy, hk⟩ := Body.get_sound h
          exact ⟨y, hk, main y (.inr ⟨rfl, hy⟩)⟩
        · simp only [cond_true] at h
          obtain ⟨zs, hl, hy, hk⟩ := Body.part_sound h
          exact ⟨_, hk, main _ (.inl ⟨rfl, zs, rfl, hl, hy⟩)⟩
      · cases h
    · cases h

theorem ressV_sound {P : Program} {s : St} : ∀ (rs : List ResultVar) (k : List V -> Bool), ressV P s rs k = true ->
    ∃ xs, k xs = true /\ ∀ (G : Gh) (w : World) (ρ : Rho) (a : Act), Sim G w ρ s a -> ∃ vs, (rs.mapM (resRun a.tmps)).run P w = .ok vs w /\ RepL (okc G ρ (look s.M)) w ρ xs vs
  | [], k, h => ⟨[], h, fun G w ρ a _ => ⟨[], by simp, rfl, by simp⟩⟩
  | r :: rs, k, h => by
    simp only [ressV] at h
    obtain ⟨x, h1, h2⟩ := resV_sound h
    obtain ⟨xs, h3, h4⟩ := ressV_sound rs _ h1
    refine ⟨x :: xs, h3, fun G w ρ a hs => ?_⟩
    obtain ⟨v, g1, g2⟩ := h2 G w ρ a hs
    obtain ⟨vs, g3, g4⟩ := h4 G w ρ a hs
    refine ⟨v :: vs, by simp [List.mapM_cons, g1, g3], by simp [g4.1], fun i c u hc hu => ?_⟩
    cases i with
    | zero => simp at hc hu; subst hc; subst hu; exact g2
    | succ i => exact g4.2 i c u (by simpa using hc) (by simpa using hu)

theorem allLive_map : ∀ {M : Heap} {H : List Blk}, allLive M = some H -> M = H.map some
  | [], H, h => by simp [allLive] at h; subst h; rfl
  | some b :: r, H, h => by
    simp only [allLive, Option.map_eq_some_iff] at h
    obtain ⟨H', h1, rfl⟩ := h
    simp [allLive_map h1]
  | none :: _, _, h => by simp [allLive] at h

theorem endV_sound {P : Program} {base : Nat} {fn : Func} {s : St} {k : V -> List Blk -> Bool} (hb : base <= s.M.length) (h : endV P base fn.results.toList s k = true) :
    ∃ r H', k r H' = true /\ ∀ (G : Gh) (w : World) (ρ : Rho) (a : Act), G.base = base -> Sim G w ρ s a -> ∃ v ρ', (results fn a.tmps).run P w = .ok v w /\ (∀ n q, n < base -> ρ n = some q -> ρ' n = some q) /\ (∀ n, H'.length <= n -> ρ' n = none) /\
      SimW G w ρ' (live H') /\ Rep (okc G ρ' (live H')) w ρ' r v := by
  unfold endV at h
  obtain ⟨xs, h1, h2⟩ := ressV_sound _ _ h
  obtain ⟨hnd, h3⟩ := and_true h1
  split at h3
  · rename_i H hH
    have hM := allLive_map hH
    have hfin : ∀ (G : Gh) (w : World) (ρ : Rho) (a : Act), G.base = base -> Sim G w ρ s a -> ∃ vs ρ', (fn.results.mapM (resRun a.tmps)).run P w = .ok vs.toArray w /\ (∀ n q, n < base -> ρ n = some q -> ρ' n = some q) /\ (∀ n, H.length <= n -> ρ' n = none) /\
        SimW G w ρ' (live H) /\ RepL (okc G ρ' (live H)) w ρ' (renL (renum base (newNames base s.M (refsL xs))) xs) vs := by
      intro G w ρ a hG hs
      obtain ⟨vs, g1, g2⟩ := h2 G w ρ a hs
      subst hG
      obtain ⟨g3, g4⟩ := hs.sim.renum hs.base hnd (fun n hn => newNames_ge n hn)
      have hl : look (renHeap G.base (newNames G.base s.M (refsL xs)) s.M) = live H := by rw [hM]; rfl
      rw [hl] at g3 g4
      have hlen : H.length = G.base + (newNames G.base s.M (refsL xs)).length := by
        rw [<- renHeap_length (M := s.M) hs.base, hM]; simp
      refine ⟨vs, rhoRen G.base (newNames G.base s.M (refsL xs)) ρ, ?_, fun n q hn hq => by simp [rhoRen, hn, hq], fun n hn => ?_, g3, RepL.ren renum_sound (g2.mono g4)⟩
      · rw [Array.mapM_eq_mapM_toList]
        simp [g1]
      · unfold rhoRen
        rw [if_neg (by omega), List.getElem?_eq_none (by omega)]
    have hres : ∀ (tmps : Array Value) (w : World) (vs : Array Value), (fn.results.mapM (resRun tmps)).run P w = .ok vs w -> (results fn tmps).run P w = .ok (if h : vs.size = 1 then vs[0] else .tuple vs) w := by
      intro tmps w vs hr
      have : results fn tmps = (fn.results.mapM (resRun tmps)) >>= fun vs => pure (if h : vs.size = 1 then vs[0] else .tuple vs) := rfl
      rw [this, Sem.run_bind, hr]
      rfl
    split at h3
    · rename_i v hv
      refine ⟨v, H, h3, fun G w ρ a hG hs => ?_⟩
      obtain ⟨vs, ρ', g1, g2, g3, g4, g5⟩ := hfin G w ρ a hG hs
      rw [hv] at g5
      have hl := g5.1
      match vs, hl with
      | [u], _ =>
        refine ⟨u, ρ', ?_, g2, g3, g4, g5.2 0 v u (by simp) (by simp)⟩
        rw [hres _ _ _ g1]; rfl
    · rename_i hne
      refine ⟨_, H, h3, fun G w ρ a hG hs => ?_⟩
      obtain ⟨vs, ρ', g1, g2, g3, g4, g5⟩ := hfin G w ρ a hG hs
      refine ⟨.tuple vs.toArray, ρ', ?_, g2, g3, g4, .tup _ _ g5.1 g5.2⟩
      rw [hres _ _ _ g1, dif_neg]
      intro h1
      have hl := g5.1
      have : vs.length = 1 := by simpa using h1
      rw [this] at hl
      obtain ⟨y, hy⟩ := List.length_eq_one_iff.1 hl
      exact hne y hy
  · cases h3

def OkC (P : Program) (f : FuncId) (args : List V) (H : List Blk) (r : V) (H' : List Blk) : Prop :=
  ∀ (w : World) (ρ : Rho) (ok : Nat -> Prop) (vs : List Value), SimW (gh w H.length ok) w ρ (live H) -> (∀ n, H.length <= n -> ρ n = none) -> RepL (okc (gh w H.length ok) ρ (live H)) w ρ args vs ->
    Calls P f vs.toArray w fun e' w' => ∃ v, e' = .returned v /\ ∃ ρ', (∀ n, n < H.length -> ρ' n = ρ n) /\ (∀ n, H'.length <= n -> ρ' n = none) /\ SimW (gh w H.length ok) w' ρ' (live H') /\ Rep (okc (gh w H.length ok) ρ' (live H')) w' ρ' r v

theorem bodyV_calls {cx : Cx} (hO : OSound cx.P cx.O) {an : Nat -> Option Ann} {f : Nat} {args : List V} {H : List Blk} {k : V -> List Blk -> Bool} (hk : ∀ fn c, cx.P.funcs[f]? = some fn -> fn.body = some c -> HooksOk cx H.length an c 0) (h : bodyV cx an f args H k = true) :
    ∃ r H', (Ok cx.P f args H r H' /\ OkC cx.P f args H r H') /\ k r H' = true := by
  unfold bodyV at h
  split at h
  · rename_i fn hfn
    split at h
    · rename_i c hc
      simp only at h
      obtain ⟨hname, h'⟩ := and_true h
      have hname' : ¬ fn.name = "runtime.NumGoroutine" := by simpa using hname
      have hb0 : H.length <= (H.map some).length := by simp
      obtain ⟨e, s', h1, h2, h3⟩ := codeV_sound hO c 0 _ _ (hk fn c hfn hc) hb0 h'
      have hend : endV cx.P H.length fn.results.toList s' k = true /\ (e = .normal \/ e = .ret) := by
        cases e <;> simp [K.of] at h1
        · exact ⟨h1, .inl rfl⟩
        · exact ⟨h1, .inr rfl⟩
      obtain ⟨r, H', hk, hfin⟩ := endV_sound h2 hend.1
      refine ⟨r, H', ?_, hk⟩
      have hok : OkC cx.P f args H r H' := by
        intro w ρ ok vs hsim hdom hargs
        refine calls_of_wp hfn hc ?_
        have hS : Sim (gh w H.length ok) w ρ ⟨args ++ List.replicate (fn.ntmps - args.length) .any, H.map some⟩ { tmps := vs.toArray ++ Array.replicate (fn.ntmps - vs.toArray.size) undef, defers := [] } := by
          refine ⟨hsim, fun n hn => hdom n (by simpa using hn), rfl, fun t => ?_, by simp [hargs.1], by simp [gh]⟩
          show Rep _ w ρ ((args ++ List.replicate (fn.ntmps - args.length) V.any).getD t .any) _
          by_cases ht : t < args.length
          · have htv : t < vs.length := by rw [<- hargs.1]; exact ht
            have e1 : (args ++ List.replicate (fn.ntmps - args.length) V.any).getD t .any = args[t] := by
              rw [List.getD, List.getElem?_append_left ht]; simp [ht]
            have e2 : (vs.toArray ++ Array.replicate (fn.ntmps - vs.toArray.size) undef).getD t undef = vs[t] := by
              rw [Array.getD_eq_getD_getElem?, Array.getElem?_append_left (by simpa using htv)]; simp [htv]
            rw [e1, e2]
            exact hargs.2 t _ _ (by simp [ht]) (by simp [htv])
          · have e1 : (args ++ List.replicate (fn.ntmps - args.length) V.any).getD t .any = .any := by
              rw [List.getD, List.getElem?_append_right (by omega), List.getElem?_replicate]
              split <;> rfl
            rw [e1]; exact .any _
        refine h3 (gh w H.length ok) w ρ _ rfl hS _ fun w' ρ' a' hs' hr => ?_
        obtain ⟨v, ρ'', g1, g2, g3, g4, g5⟩ := hfin (gh w H.length ok) w' ρ' a' rfl hs'
        have hpost : a'.defers = [] /\ ∃ v, (results fn a'.tmps).run cx.P w' = .ok v w' /\ ∃ v', Ending.returned v = .returned v' /\ ∃ ρ', (∀ n, n < H.length -> ρ' n = ρ n) /\ (∀ n, H'.length <= n -> ρ' n = none) /\ SimW (gh w H.length ok) w' ρ' (live H') /\ Rep (okc (gh w H.length ok) ρ' (live H')) w' ρ' r v' := by
          refine ⟨hs'.defers, v, g1, v, rfl, ρ'', fun n hn => ?_, g3, g4, g5⟩
          obtain ⟨q, hq, _⟩ := hsim.blks n H[n] (live_get.2 (by simp [hn]))
          rw [hq, g2 n q hn (hr n q hn hq)]
        rcases hend.2 with rfl | rfl
        · exact hpost
        · exact hpost
      refine ⟨?_, hok⟩
      intro w ρ ok vs hsim hdom hargs o a N Q hN
      have hrun : (callFunc f vs.toArray).run cx.P w = .ok (.enter f vs.toArray) w := by
        simp [callFunc, hfn, hname', hc]
      rw [hrun, Oper.upon_enter]
      have hcalls := hok w ρ ok vs hsim hdom hargs
      refine hcalls.mono fun e' w' he => ?_
      obtain ⟨v, rfl, hv⟩ := he
      exact hN v w' hv
    · cases h
  · cases h

theorem bodyV_sound {cx : Cx} (hO : OSound cx.P cx.O) {an : Nat -> Option Ann} {f : Nat} {args : List V} {H : List Blk} {k : V -> List Blk -> Bool} (hk : ∀ fn c, cx.P.funcs[f]? = some fn -> fn.body = some c -> HooksOk cx H.length an c 0) (h : bodyV cx an f args H k = true) :
    ∃ r H', Ok cx.P f args H r H' /\ k r H' = true := by
  obtain ⟨r, H', h1, h2⟩ := bodyV_calls hO hk h
  exact ⟨r, H', h1.1, h2⟩

end Go.Mach
end
section
namespace Go.Mach

abbrev Fs := List V -> List Blk -> (V -> List Blk -> Bool) -> Bool
def GoodF (P : Program) (f : Nat) (S : Fs) : Prop := ∀ args H k, S args H k = true -> ∃ r H', Ok P f args H r H' /\ k r H' = true

def ofList : List (Nat × Fs) -> Oracle
  | [] => fun _ _ _ _ => false
  | (g, S) :: r => fun f => cond (f == g) S (ofList r f)

theorem ofList_nil (P : Program) : OSound P (ofList []) := fun f args H k h => by simp [ofList] at h
theorem ofList_cons {P : Program} {g : Nat} {S : Fs} {r : List (Nat × Fs)} (h : GoodF P g S) (hr : OSound P (ofList r)) : OSound P (ofList ((g, S) :: r)) := by
  intro f args H k hk
  simp only [ofList] at hk
  cases e : (f == g) with
  | true =>
    obtain rfl : f = g := by simpa using e
    rw [e, cond_true] at hk
    exact h args H k hk
  | false =>
    rw [e, cond_false] at hk
    exact hr f args H k hk

def loops : Code -> Nat -> List (Nat × Code)
  | .seq a b, bid => loops a bid ++ loops b bid
  | .cond _ a b, bid => loops a bid ++ loops b bid
  | .block id b, _ => loops b id
  | .loop b, bid => (bid, b) :: loops b bid
  | _, _ => []
def lps (P : Program) (f : Nat) : List (Nat × Code) :=
  match P.funcs[f]? with
  | some fn => match fn.body with
    | some c => loops c 0
    | none => []
  | none => []
def lp (P : Program) (f i : Nat) : Nat × Code := (lps P f).getD i (0, .skip)

def HookOk (cx : Cx) (base : Nat) (an : Nat -> Option Ann) (p : Nat × Code) : Prop :=
  ∀ hk, hookOf (an p.1) = some hk -> ∀ s κ, hk s κ = true -> iter cx.N (fun s k => codeV cx base an p.2 p.1 s (roundK cx.P base (an p.1) κ k)) s = true

theorem hooksOk_of {cx : Cx} {base : Nat} {an : Nat -> Option Ann} : ∀ (c : Code) (bid : Nat), (∀ p, p ∈ loops c bid -> HookOk cx base an p) -> HooksOk cx base an c bid
  | .seq a b, bid, h => ⟨hooksOk_of a bid fun p hp => h p (by simp [loops, hp]), hooksOk_of b bid fun p hp => h p (by simp [loops, hp])⟩
  | .cond _ a b, bid, h => ⟨hooksOk_of a bid fun p hp => h p (by simp [loops, hp]), hooksOk_of b bid fun p hp => h p (by simp [loops, hp])⟩
  | .block id b, _, h => hooksOk_of b id h
  | .loop b, bid, h => ⟨hooksOk_of b bid fun p hp => h p (by simp [loops, hp]), h (bid, b) (by simp [loops])⟩
  | .skip, _, _ => trivial
  | .region .., _, _ => trivial
  | .exit _, _, _ => trivial
  | .ret, _, _ => trivial
  | .rangeFunc .., _, _ => trivial
  | .scope _, _, _ => trivial
  | .label _, _, _ => trivial
  | .goto _, _, _ => trivial
  | .refuse _, _, _ => trivial

theorem good_body {cx : Cx} (hO : OSound cx.P cx.O) {f : Nat} {S : Fs} (n : Nat) (hn : (lps cx.P f).length = n) (h : ∀ args H k, S args H k = true -> ∃ an, (∀ i, i < n -> HookOk cx H.length an (lp cx.P f i)) /\ bodyV cx an f args H k = true) : GoodF cx.P f S :=
  fun args H k hs => by
    obtain ⟨an, hk, hb⟩ := h args H k hs
    refine bodyV_sound hO (fun fn c hfn hc => hooksOk_of c 0 fun p hp => ?_) hb
    have e : lps cx.P f = loops c 0 := by simp [lps, hfn, hc]
    rw [<- e] at hp
    obtain ⟨i, hi, rfl⟩ := List.getElem_of_mem hp
    have := hk i (by omega)
    unfold lp at this
    rwa [List.getD_eq_getElem?_getD, List.getElem?_eq_getElem hi] at this

theorem inv_value {P : Program} {f : FuncId} {args : Array Value} {w w' : World} {v : Value} {R : Value -> World -> Prop} (h : (callFunc f args).run P w = .ok (.value v) w') (hR : R v w') : InvP P f args w R := by
  intro o a N Q hN
  rw [h]; exact hN v w' hR

theorem good_extern {P : Program} {f : Nat} {S : Fs} (h : ∀ args H k, S args H k = true -> ∃ r, k r H = true /\ ∀ (ok : Nat -> Prop) (w : World) (ρ : Rho) (vs : List Value), RepL ok w ρ args vs -> ∃ v w', (callFunc f vs.toArray).run P w = .ok (.value v) w' /\ (w' = w \/ w' = w.drew) /\ Rep ok w ρ r v) : GoodF P f S := by
  intro args H k hk
  obtain ⟨r, h1, h2⟩ := h args H k hk
  refine ⟨r, H, fun w ρ ok vs hsim hdom hargs => ?_, h1⟩
  obtain ⟨v, w', g1, g2, g3⟩ := h2 _ w ρ vs hargs
  refine inv_value g1 ⟨ρ, fun _ _ => rfl, hdom, ?_⟩
  rcases g2 with rfl | rfl
  · exact ⟨hsim, g3⟩
  · obtain ⟨k1, k2⟩ := hsim.drew
    exact ⟨k1, g3.mono k2⟩

end Go.Mach
end
section
namespace Go.Mach

inductive Atom where
  | fl (x : Fl)
  | int (n : Int)
  | bool (b : Bool)
  | fls (xs : List Fl)
  | ints (xs : List Int)
  | nat (n : Nat)
  | val (v : Value)
  | vs (cs : List V)
  deriving Inhabited

inductive Sh where
  | any
  | nil
  | flt
  | int (k : IntKind)
  | bool
  | val
  | ptr (n o : Nat)
  | slw (n : Nat)
  | sl (n : Nat)
  | rof
  | roi (k : IntKind)
  | fn (g : Nat) (caps : List Sh)
  | agg (cs : List Sh)
  | ro (sz : Nat) (cs : List Sh)
  | rov (sz : Nat)
  | litI (k : IntKind) (n : Int)
  | litB (b : Bool)
  | fb
  deriving Inhabited

mutual
def Sh.ext : Sh -> V -> Option (List Atom)
  | .any, .any => some []
  | .nil, .nil => some []
  | .flt, .flt x => some [.fl x]
  | .int k, .int k' n => cond (decide (k = k')) (some [.int n]) none
  | .bool, .bool b => some [.bool b]
  | .val, .val v => some [.val v]
  | .ptr n o, .ptr n' o' => cond (n == n' && o == o') (some []) none
  | .slw n, .slw n' => cond (n == n') (some []) none
  | .sl n, .sl n' o l => cond (n == n') (some [.nat o, .nat l]) none
  | .rof, .rof xs => some [.fls xs]
  | .roi k, .roi k' xs => cond (decide (k = k')) (some [.ints xs]) none
  | .fn g caps, .fn g' caps' => cond (g == g') (extL caps caps') none
  | .agg cs, .agg cs' => extL cs cs'
  | .ro sz cs, .ro sz' cs' => cond (sz == sz') (extL cs cs') none
  | .rov sz, .ro sz' cs => cond (sz == sz') (some [.vs cs]) none
  | .litI k n, .int k' n' => cond (decide (k = k') && decide (n = n')) (some []) none
  | .litB b, .bool b' => cond (b == b') (some []) none
  | .fb, .val (.float .f64 b) => some [.nat b]
  | _, _ => none
def extL : List Sh -> List V -> Option (List Atom)
  | [], [] => some []
  | s :: ss, v :: vs => match Sh.ext s v, extL ss vs with
    | some a, some b => some (a ++ b)
    | _, _ => none
  | _, _ => none
end

mutual
def Sh.build : Sh -> List Atom -> V × List Atom
  | .any, r => (.any, r)
  | .nil, r => (.nil, r)
  | .flt, .fl x :: r => (.flt x, r)
  | .int k, .int n :: r => (.int k n, r)
  | .bool, .bool b :: r => (.bool b, r)
  | .val, .val v :: r => (.val v, r)
  | .ptr n o, r => (.ptr n o, r)
  | .slw n, r => (.slw n, r)
  | .sl n, .nat o :: .nat l :: r => (.sl n o l, r)
  | .rof, .fls xs :: r => (.rof xs, r)
  | .roi k, .ints xs :: r => (.roi k xs, r)
  | .fn g caps, r => match buildL caps r with
    | (vs, r) => (.fn g vs, r)
  | .agg cs, r => match buildL cs r with
    | (vs, r) => (.agg vs, r)
  | .ro sz cs, r => match buildL cs r with
    | (vs, r) => (.ro sz vs, r)
  | .rov sz, .vs cs :: r => (.ro sz cs, r)
  | .litI k n, r => (.int k n, r)
  | .litB b, r => (.bool b, r)
  | .fb, .nat b :: r => (.val (.float .f64 b), r)
  | _, r => (.any, r)
def buildL : List Sh -> List Atom -> List V × List Atom
  | [], r => ([], r)
  | s :: ss, r => match Sh.build s r with
    | (v, r) => match buildL ss r with
      | (vs, r) => (v :: vs, r)
end

mutual
theorem Sh.ext_build : ∀ (s : Sh) (v : V) (a : List Atom), s.ext v = some a -> ∀ r, s.build (a ++ r) = (v, r)
  | .any, v, a, h, r => by cases v <;> simp [Sh.ext] at h; subst h; rfl
  | .nil, v, a, h, r => by cases v <;> simp [Sh.ext] at h; subst h; rfl
  | .flt, v, a, h, r => by cases v <;> simp [Sh.ext] at h; subst h; rfl
  | .int k, v, a, h, r => by
    cases v <;> simp [Sh.ext] at h
    rename_i k' n
    by_cases e : k = k'
    · subst e; simp at h; subst h; rfl
    · simp [e] at h
  | .bool, v, a, h, r => by cases v <;> simp [Sh.ext] at h; subst h; rfl
  | .val, v, a, h, r => by cases v <;> simp [Sh.ext] at h; subst h; rfl
  | .ptr n o, v, a, h, r => by
    cases v <;> simp [Sh.ext] at h
    rename_i n' o'
    by_cases e : n = n' /\ o = o'
    · obtain ⟨rfl, rfl⟩ := e; simp at h; subst h; rfl
    · have : (n == n' && o == o') = false := by simpa using e
      rw [this] at h; cases h
  | .slw n, v, a, h, r => by
    cases v <;> simp [Sh.ext] at h
    rename_i n'
    by_cases e : n = n'
    · subst e; simp at h; subst h; rfl
    · have : (n == n') = false := by simpa using e
      rw [this] at h; cases h
  | .sl n, v, a, h, r => by
    cases v <;> simp [Sh.ext] at h
    rename_i n' o l
    by_cases e : n = n'
    · subst e; simp at h; subst h; rfl
    · have : (n == n') = false := by simpa using e
      rw [this] at h; cases h
  | .rof, v, a, h, r => by cases v <;> simp [Sh.ext] at h; subst h; rfl
  | .roi k, v, a, h, r => by
    cases v <;> simp [Sh.ext] at h
    rename_i k' n
    by_cases e : k = k'
    · subst e; simp at h; subst h; rfl
    · simp [e] at h
  | .fn g caps, v, a, h, r => by
    cases v <;> simp only [Sh.ext, reduceCtorEq] at h
    rename_i g' caps'
    by_cases e : g = g'
    · subst e
      simp only [beq_self_eq_true, cond_true] at h
      simp only [Sh.build, extL_build caps caps' a h r]
    · have : (g == g') = false := by simpa using e
      rw [this] at h; cases h
  | .agg cs, v, a, h, r => by
    cases v <;> simp only [Sh.ext, reduceCtorEq] at h
    rename_i cs'
    simp only [Sh.build, extL_build cs cs' a h r]
  | .ro sz cs, v, a, h, r => by
    cases v <;> simp only [Sh.ext, reduceCtorEq] at h
    rename_i sz' cs'
    by_cases e : sz = sz'
    · subst e
      simp only [beq_self_eq_true, cond_true] at h
      simp only [Sh.build, extL_build cs cs' a h r]
    · have : (sz == sz') = false := by simpa using e
      rw [this] at h; cases h
  | .rov sz, v, a, h, r => by
    cases v <;> simp only [Sh.ext, reduceCtorEq] at h
    rename_i sz' cs'
    by_cases e : sz = sz'
    · subst e
      simp only [beq_self_eq_true, cond_true] at h
      cases h; rfl
    · have : (sz == sz') = false := by simpa using e
      rw [this] at h; cases h
  | .litI k n, v, a, h, r => by
    cases v <;> simp only [Sh.ext, reduceCtorEq] at h
    rename_i k' n'
    by_cases e : k = k' /\ n = n'
    · obtain ⟨rfl, rfl⟩ := e; simp at h; subst h; rfl
    · have : (decide (k = k') && decide (n = n')) = false := by simpa using e
      rw [this] at h; cases h
  | .litB b, v, a, h, r => by
    cases v <;> simp only [Sh.ext, reduceCtorEq] at h
    rename_i b'
    by_cases e : b = b'
    · subst e; simp at h; subst h; rfl
    · have : (b == b') = false := by simpa using e
      rw [this] at h; cases h
  | .fb, v, a, h, r => by
    cases v with
    | val u =>
      cases u with
      | float k b => cases k <;> simp [Sh.ext] at h; subst h; rfl
      | _ => simp [Sh.ext] at h
    | _ => simp [Sh.ext] at h
theorem extL_build : ∀ (s : List Sh) (v : List V) (a : List Atom), extL s v = some a -> ∀ r, buildL s (a ++ r) = (v, r)
  | [], v, a, h, r => by cases v <;> simp [extL] at h; subst h; rfl
  | s :: ss, v, a, h, r => by
    cases v with
    | nil => simp [extL] at h
    | cons v vs =>
      simp only [extL] at h
      split at h
      · rename_i a1 a2 h1 h2
        cases h
        simp only [buildL, List.append_assoc, Sh.ext_build s v a1 h1, extL_build ss vs a2 h2]
      · cases h
end

inductive BSh where
  | flts
  | ints (k : IntKind)
  | cells (cs : List Sh)
  | cvs
def BSh.ext : BSh -> Body -> Option (List Atom)
  | .flts, .flts xs => some [.fls xs]
  | .ints k, .ints k' xs => cond (decide (k = k')) (some [.ints xs]) none
  | .cells cs, .cells cs' => extL cs cs'
  | .cvs, .cells cs => some [.vs cs]
  | _, _ => none
def BSh.build : BSh -> List Atom -> Body × List Atom
  | .flts, .fls xs :: r => (.flts xs, r)
  | .ints k, .ints xs :: r => (.ints k xs, r)
  | .cells cs, r => match buildL cs r with
    | (vs, r) => (.cells vs, r)
  | .cvs, .vs cs :: r => (.cells cs, r)
  | _, r => (.cells [], r)
theorem BSh.ext_build (s : BSh) (v : Body) (a : List Atom) (h : s.ext v = some a) (r : List Atom) : s.build (a ++ r) = (v, r) := by
  cases s with
  | flts => cases v <;> simp [BSh.ext] at h; subst h; rfl
  | ints k =>
    cases v <;> simp [BSh.ext] at h
    rename_i k' n
    by_cases e : k = k'
    · subst e; simp at h; subst h; rfl
    · simp [e] at h
  | cells cs =>
    cases v <;> simp only [BSh.ext, reduceCtorEq] at h
    rename_i cs'
    simp only [BSh.build, extL_build cs cs' a h r]
  | cvs => cases v <;> simp [BSh.ext] at h; subst h; rfl

abbrev BkSh := Option (Nat × Nat × BSh)
def extM : List BkSh -> Heap -> Option (List Atom)
  | [], [] => some []
  | none :: ss, none :: bs => extM ss bs
  | some (e, sz, c) :: ss, some b :: bs => cond (e == b.e && sz == b.sz) (match c.ext b.c, extM ss bs with
    | some a, some r => some (a ++ r)
    | _, _ => none) none
  | _, _ => none
def buildM : List BkSh -> List Atom -> Heap
  | [], _ => []
  | none :: ss, r => none :: buildM ss r
  | some (e, sz, c) :: ss, r => match c.build r with
    | (c, r) => some ⟨e, sz, c⟩ :: buildM ss r
theorem extM_build : ∀ (s : List BkSh) (M : Heap) (a : List Atom), extM s M = some a -> buildM s a = M
  | [], M, a, h => by cases M <;> simp [extM] at h; rfl
  | none :: ss, M, a, h => by
    cases M with
    | nil => simp [extM] at h
    | cons b bs =>
      cases b with
      | none => simp only [extM] at h; simp only [buildM, extM_build ss bs a h]
      | some b => simp [extM] at h
  | some (e, sz, c) :: ss, M, a, h => by
    cases M with
    | nil => simp [extM] at h
    | cons b bs =>
      cases b with
      | none => simp [extM] at h
      | some b =>
        simp only [extM] at h
        by_cases e' : e = b.e /\ sz = b.sz
        · obtain ⟨rfl, rfl⟩ := e'
          simp only [beq_self_eq_true, Bool.and_self, cond_true] at h
          split at h
          · rename_i a1 a2 h1 h2
            cases h
            simp only [buildM, BSh.ext_build c b.c a1 h1, extM_build ss bs a2 h2]
          · cases h
        · have : (e == b.e && sz == b.sz) = false := by simpa using e'
          rw [this] at h; cases h

structure StSh where
  F : List Sh
  M : List BkSh
def StSh.ext (s : StSh) (t : St) : Option (List Atom) :=
  match extL s.F t.F, extM s.M t.M with
  | some a, some b => some (a ++ b)
  | _, _ => none
def StSh.build (s : StSh) (a : List Atom) : St :=
  match buildL s.F a with
  | (F, r) => ⟨F, buildM s.M r⟩
theorem StSh.ext_build {s : StSh} {t : St} {a : List Atom} (h : s.ext t = some a) : t = s.build a := by
  unfold StSh.ext at h
  split at h
  · rename_i a1 a2 h1 h2
    cases h
    simp only [StSh.build, extL_build s.F t.F a1 h1, extM_build s.M t.M a2 h2]
  · cases h

structure FnSh where
  A : List Sh
  H : List BkSh
def FnSh.ext (s : FnSh) (args : List V) (H : List Blk) : Option (List Atom) :=
  match extL s.A args, extM s.H (H.map some) with
  | some a, some b => some (a ++ b)
  | _, _ => none
def FnSh.args (s : FnSh) (a : List Atom) : List V := (buildL s.A a).1
def FnSh.heap (s : FnSh) (a : List Atom) : Heap := buildM s.H (buildL s.A a).2
theorem FnSh.ext_build {s : FnSh} {args : List V} {H : List Blk} {a : List Atom} (h : s.ext args H = some a) : args = s.args a /\ H.map some = s.heap a := by
  unfold FnSh.ext at h
  split at h
  · rename_i a1 a2 h1 h2
    cases h
    simp only [FnSh.args, FnSh.heap, extL_build s.A args a1 h1, extM_build s.H _ a2 h2, and_self]
  · cases h
def mkFs (sh : FnSh) (S : List Atom -> (V -> List Blk -> Bool) -> Bool) : Fs := fun args H k => match sh.ext args H with
  | some a => S a k
  | none => false
def orFs (F G : Fs) (sh : FnSh) : Fs := fun args H k => match sh.ext args H with
  | some _ => F args H k
  | none => G args H k
theorem good_or {P : Program} {f : Nat} {F G : Fs} {sh : FnSh} (h1 : GoodF P f F) (h2 : GoodF P f G) : GoodF P f (orFs F G sh) := by
  intro args H k h
  unfold orFs at h
  split at h
  · exact h1 args H k h
  · exact h2 args H k h
theorem map_some_inj {H : List Blk} {H' : List Blk} (h : H.map some = H'.map some) : H = H' := by
  have := congrArg (List.filterMap id) h
  simpa using this
theorem good_fs {cx : Cx} (hO : OSound cx.P cx.O) {f : Nat} (sh : FnSh) (S : List Atom -> (V -> List Blk -> Bool) -> Bool) (an : Nat -> Option Ann) (n base : Nat) (hn : (lps cx.P f).length = n) (hk : ∀ i, i < n -> HookOk cx base an (lp cx.P f i))
    (h : ∀ a k, S a k = true -> ∃ H, sh.heap a = H.map some /\ H.length = base /\ bodyV cx an f (sh.args a) H k = true) : GoodF cx.P f (mkFs sh S) := by
  refine good_body hO n hn fun args H k hs => ?_
  unfold mkFs at hs
  split at hs
  · rename_i a ha
    obtain ⟨rfl, e2⟩ := FnSh.ext_build ha
    obtain ⟨H', g1, g2, g3⟩ := h a k hs
    rw [g1] at e2
    obtain rfl := map_some_inj e2
    exact ⟨an, fun i hi => by rw [g2]; exact hk i hi, g3⟩
  · cases hs
theorem top_fs {cx : Cx} (hO : OSound cx.P cx.O) {f : Nat} (an : Nat -> Option Ann) (n : Nat) (hn : (lps cx.P f).length = n) (hk : ∀ i, i < n -> HookOk cx 0 an (lp cx.P f i)) {args : List V}
    (h : bodyV cx an f args [] (fun r H => match r, H with | .bool b, [] => b | _, _ => false) = true) : OkC cx.P f args [] (.bool true) [] := by
  obtain ⟨r, H', ⟨_, h1⟩, h2⟩ := bodyV_calls hO (fun fn c hfn hc => hooksOk_of c 0 fun p hp => by
    have e : lps cx.P f = loops c 0 := by simp [lps, hfn, hc]
    rw [<- e] at hp
    obtain ⟨i, hi, rfl⟩ := List.getElem_of_mem hp
    have := hk i (by omega)
    unfold lp at this
    rwa [List.getD_eq_getElem?_getD, List.getElem?_eq_getElem hi] at this) h
  split at h2
  · subst h2; exact h1
  · cases h2
theorem good_mono {P : Program} {f : Nat} {sh : FnSh} {S S' : List Atom -> (V -> List Blk -> Bool) -> Bool} (h : GoodF P f (mkFs sh S)) (hs : ∀ a k, S' a k = true -> S a k = true) : GoodF P f (mkFs sh S') := by
  intro args H k hk
  refine h args H k ?_
  unfold mkFs at hk ⊢
  split at hk
  · exact hs _ _ hk
  · cases hk

def mkOk (by' : Nat) (l c : Int) : Bool := decide (0 <= l /\ l <= c /\ c <= 9223372036854775807 /\ (by' : Int) * c <= 140737488355328)
def bitsN (op : BinOp) (q : IntKind) (a b : Int) : Int := (bitsI op q a b).getD 0

def mkHooks : List (StSh × (List Atom -> K -> Bool)) -> St -> K -> Bool
  | [], _, _ => false
  | (sh, S) :: r, s, κ => match sh.ext s with
    | some a => S a κ
    | none => mkHooks r s κ
def HookFor (cx : Cx) (base : Nat) (an : Nat -> Option Ann) (p : Nat × Code) (x : StSh × (List Atom -> K -> Bool)) : Prop :=
  ∀ a κ, x.2 a κ = true -> iter cx.N (fun s k => codeV cx base an p.2 p.1 s (roundK cx.P base (an p.1) κ k)) (x.1.build a) = true
def HooksFor (cx : Cx) (base : Nat) (an : Nat -> Option Ann) (p : Nat × Code) : List (StSh × (List Atom -> K -> Bool)) -> Prop
  | [] => True
  | x :: r => HookFor cx base an p x /\ HooksFor cx base an p r

theorem hooks_ok {cx : Cx} {base : Nat} {an : Nat -> Option Ann} {p : Nat × Code} (l : List (StSh × (List Atom -> K -> Bool))) (hh : hookOf (an p.1) = some (mkHooks l)) (h : HooksFor cx base an p l) : HookOk cx base an p := by
  intro hk e s κ hs
  rw [hh] at e
  cases e
  clear hh
  revert hs h
  induction l with
  | nil => intro _ hs; simp [mkHooks] at hs
  | cons x r ih =>
    intro h hs
    obtain ⟨sh, S⟩ := x
    simp only [mkHooks] at hs
    split at hs
    · rename_i a ha
      rw [StSh.ext_build ha]
      exact h.1 a κ hs
    · exact ih h.2 hs

def iterG {σ : Type} : Nat -> (σ -> (σ -> Bool) -> Bool) -> σ -> Bool
  | 0, _, _ => false
  | n + 1, step, s => step s (iterG n step)
theorem iter_tr {σ : Type} {step : St -> (St -> Bool) -> Bool} {stepG : σ -> (σ -> Bool) -> Bool} (C : σ -> St) (h : ∀ v K, step (C v) K = stepG v fun v' => K (C v')) : ∀ n v, iter n step (C v) = iterG n stepG v := by
  intro n
  induction n with
  | zero => intro v; rfl
  | succ n ih =>
    intro v
    show step (C v) (iter n step) = stepG v (iterG n stepG)
    rw [h]
    congr 1
    funext v'
    exact ih v'

end Go.Mach
end
section
namespace Go.Mach

def gone (base : Nat) (M : Heap) (n : Nat) : Bool := match look M n with
  | some ⟨_, sz, .flts _⟩ => sz == 1 && decide (base <= n)
  | some ⟨_, sz, .ints _ _⟩ => sz == 1 && decide (base <= n)
  | _ => false
mutual
def frzK (base : Nat) (M : Heap) : V -> (V -> Bool) -> Bool
  | .slw n, k => cond (gone base M n) (match look M n with
    | some ⟨_, _, .flts xs⟩ => k (.rof xs)
    | some ⟨_, _, .ints q xs⟩ => k (.roi q xs)
    | _ => false) (k (.slw n))
  | .sl n o len, k => cond (gone base M n) (match look M n with
    | some ⟨_, _, .flts xs⟩ => decide (o + len <= xs.length) && k (.rof ((xs.drop o).take len))
    | some ⟨_, _, .ints q xs⟩ => decide (o + len <= xs.length) && k (.roi q ((xs.drop o).take len))
    | _ => false) (k (.sl n o len))
  | .ptr n o, k => cond (gone base M n) (k .any) (k (.ptr n o))
  | .agg cs, k => frzL base M cs fun cs' => k (.agg cs')
  | .tup cs, k => frzL base M cs fun cs' => k (.tup cs')
  | .fn g cs, k => frzL base M cs fun cs' => k (.fn g cs')
  | .ro sz cs, k => k (.ro sz cs)
  | .rp cs i, k => k (.rp cs i)
  | v, k => k v
def frzL (base : Nat) (M : Heap) : List V -> (List V -> Bool) -> Bool
  | [], k => k []
  | v :: r, k => frzK base M v fun v' => frzL base M r fun r' => k (v' :: r')
end
def frzB (P : Program) (base : Nat) (M : Heap) (b : Blk) (k : Blk -> Bool) : Bool := match b.c with
  | .cells cs => frzL base M cs fun cs' => k { b with c := .cells (nilToL P (kinds P 4 b.e) cs') }
  | _ => k b
def frzH (P : Program) (base : Nat) (M : Heap) : Nat -> Heap -> (Heap -> Bool) -> Bool
  | _, [], k => k []
  | n, none :: r, k => frzH P base M (n + 1) r fun r' => k (none :: r')
  | n, some b :: r, k => cond (gone base M n) (frzH P base M (n + 1) r fun r' => k (none :: r')) (frzB P base M b fun b' => frzH P base M (n + 1) r fun r' => k (some b' :: r'))
def frzS (P : Program) (base : Nat) (s : St) (k : St -> Bool) : Bool := frzL base s.M s.F fun F => frzH P base s.M 0 s.M fun M => k ⟨F, M⟩

def Thaw (base : Nat) (M : Heap) (L' : LK) : Prop := ∀ m, (L' m).isSome = true -> (look M m).isSome = true /\ gone base M m = false

theorem okc_thaw {G : Gh} {ρ : Rho} {M : Heap} {L' : LK} (hL : Thaw G.base M L') {b : Nat} (h : okc G ρ (look M) b) : okc G ρ L' b := by
  refine ⟨h.1, fun n blk p hn hp => ?_⟩
  obtain ⟨h1, -⟩ := hL n (by rw [hn]; rfl)
  obtain ⟨blk', hb⟩ := Option.isSome_iff_exists.1 h1
  exact h.2 n blk' p hb hp
theorem keeps_thaw {G : Gh} {w : World} {ρ : Rho} {M : Heap} {L' : LK} (hL : Thaw G.base M L') : Keeps (okc G ρ (look M)) w ρ (okc G ρ L') w ρ :=
  ⟨fun _ _ h => h, fun _ _ h => ⟨okc_thaw hL h, rfl⟩, Nat.le_refl _⟩
theorem okL_thaw {G : Gh} {w : World} {ρ : Rho} {M : Heap} {L' : LK} (hs : SimW G w ρ (look M)) (hL : Thaw G.base M L') {n : Nat} (hg : gone G.base M n = true) {b : Nat} (h : okL (okc G ρ (look M)) ρ (look M) [n] b) : okc G ρ L' b := by
  rcases h with h | ⟨m, p, blk, hm, hb, hp, rfl⟩
  · exact okc_thaw hL h
  · simp at hm; subst hm
    have hbase : G.base <= m := by
      unfold gone at hg
      split at hg <;> simp at hg
      · exact hg.2
      · exact hg.2
    refine ⟨.inr (hs.own m p hbase hp), fun k blk' p' hk hp' heq => ?_⟩
    obtain ⟨h1, h2⟩ := hL k (by rw [hk]; rfl)
    obtain ⟨blk'', hb''⟩ := Option.isSome_iff_exists.1 h1
    have := hs.inj k m blk'' blk p' p hb'' hb hp' hp heq
    subst this
    rw [hg] at h2; cases h2
theorem okL_keeps {G : Gh} {w : World} {ρ : Rho} {M : Heap} {L' : LK} (hs : SimW G w ρ (look M)) (hL : Thaw G.base M L') {n : Nat} (hg : gone G.base M n = true) : Keeps (okL (okc G ρ (look M)) ρ (look M) [n]) w ρ (okc G ρ L') w ρ :=
  ⟨fun _ _ h => h, fun _ _ h => ⟨okL_thaw hs hL hg h, rfl⟩, Nat.le_refl _⟩

theorem cut_flts {xs : List Fl} {o n : Nat} (h : o + n <= xs.length) : Body.cut (.flts xs) o n = some (.flts ((xs.drop o).take n)) := by
  show cond (decide (o + n <= xs.length)) _ _ = _
  rw [decide_eq_true h]; rfl
theorem cut_ints {q : IntKind} {xs : List Int} {o n : Nat} (h : o + n <= xs.length) : Body.cut (.ints q xs) o n = some (.ints q ((xs.drop o).take n)) := by
  show cond (decide (o + n <= xs.length)) _ _ = _
  rw [decide_eq_true h]; rfl

abbrev Frz (base : Nat) (M : Heap) (v v' : V) : Prop := ∀ (G : Gh) (w : World) (ρ : Rho) (L' : LK) (u : Value), G.base = base -> SimW G w ρ (look M) -> Thaw base M L' -> Rep (okc G ρ (look M)) w ρ v u -> Rep (okc G ρ L') w ρ v' u
theorem frz_id {base : Nat} {M : Heap} (v : V) : Frz base M v v := fun G w ρ L' u hG _ hL h => by subst hG; exact h.mono (keeps_thaw hL)
theorem frz_lend {base : Nat} {M : Heap} {n : Nat} {v v' : V} (hg : gone base M n = true) (hl : lend M 1 v = some v') (ht : lent M 1 v = [n]) : Frz base M v v' := fun G w ρ L' u hG hs hL h => by
  subst hG
  have := lend_sound hs [n] (fun _ _ => rfl) 1 v v' u hl (fun m hm => by rw [ht] at hm; exact hm) h
  exact this.mono (okL_keeps hs hL hg)

mutual
theorem frzK_sound {base : Nat} {M : Heap} : ∀ (v : V) (k : V -> Bool), frzK base M v k = true -> ∃ v', k v' = true /\ Frz base M v v'
  | .slw n, k, h => by
    simp only [frzK] at h
    cases hg : gone base M n with
    | false => rw [hg] at h; exact ⟨_, h, frz_id _⟩
    | true =>
      rw [hg, cond_true] at h
      have hg' := hg
      unfold gone at hg'
      split at h
      · rename_i e sz xs hb
        rw [hb] at hg'
        simp at hg'
        exact ⟨_, h, frz_lend hg (by simp [lend, hb, hg'.1]) (by simp [lent, hb])⟩
      · rename_i e sz q xs hb
        rw [hb] at hg'
        simp at hg'
        exact ⟨_, h, frz_lend hg (by simp [lend, hb, hg'.1]) (by simp [lent, hb])⟩
      · cases h
  | .sl n o len, k, h => by
    simp only [frzK] at h
    cases hg : gone base M n with
    | false => rw [hg] at h; exact ⟨_, h, frz_id _⟩
    | true =>
      rw [hg, cond_true] at h
      have hg' := hg
      unfold gone at hg'
      split at h
      · rename_i e sz xs hb
        rw [hb] at hg'
        simp at hg'
        obtain ⟨h1, h2⟩ := and_true h
        have h1 := of_decide_eq_true h1
        obtain ⟨rfl, -⟩ := hg'
        exact ⟨_, h2, frz_lend hg (by simp [lend, hb, scale, cut_flts h1]) (by simp [lent, hb, scale, cut_flts h1])⟩
      · rename_i e sz q xs hb
        rw [hb] at hg'
        simp at hg'
        obtain ⟨h1, h2⟩ := and_true h
        have h1 := of_decide_eq_true h1
        obtain ⟨rfl, -⟩ := hg'
        exact ⟨_, h2, frz_lend hg (by simp [lend, hb, scale, cut_ints h1]) (by simp [lent, hb, scale, cut_ints h1])⟩
      · cases h
  | .ptr n o, k, h => by
    simp only [frzK] at h
    cases hg : gone base M n with
    | false => rw [hg] at h; exact ⟨_, h, frz_id _⟩
    | true => rw [hg] at h; exact ⟨_, h, fun _ _ _ _ _ _ _ _ _ => .any _⟩
  | .agg cs, k, h => by
    simp only [frzK] at h
    obtain ⟨cs', h1, h2, h3⟩ := frzL_sound cs _ h
    refine ⟨_, h1, fun G w ρ L' u hG hs hL hr => ?_⟩
    obtain ⟨us, rfl, hl, g1, g2⟩ := hr.agg_inv
    refine .agg cs' us (by rw [<- h2]; exact hl) g1 fun i c v hc hv => ?_
    obtain ⟨c0, hc0, hf⟩ := h3 i c hc
    exact hf G w ρ L' v hG hs hL (g2 i c0 v hc0 hv)
  | .tup cs, k, h => by
    simp only [frzK] at h
    obtain ⟨cs', h1, h2, h3⟩ := frzL_sound cs _ h
    refine ⟨_, h1, fun G w ρ L' u hG hs hL hr => ?_⟩
    cases hr with
    | tup _ us hl g2 =>
      refine .tup cs' us (by rw [<- h2]; exact hl) fun i c v hc hv => ?_
      obtain ⟨c0, hc0, hf⟩ := h3 i c hc
      exact hf G w ρ L' v hG hs hL (g2 i c0 v hc0 hv)
  | .fn g cs, k, h => by
    simp only [frzK] at h
    obtain ⟨cs', h1, h2, h3⟩ := frzL_sound cs _ h
    refine ⟨_, h1, fun G w ρ L' u hG hs hL hr => ?_⟩
    cases hr with
    | fn _ _ us hl g2 =>
      refine .fn g cs' us (by rw [<- h2]; exact hl) fun i c v hc hv => ?_
      obtain ⟨c0, hc0, hf⟩ := h3 i c hc
      exact hf G w ρ L' v hG hs hL (g2 i c0 v hc0 hv)
  | .any, k, h => ⟨_, h, frz_id _⟩
  | .nil, k, h => ⟨_, h, frz_id _⟩
  | .bool _, k, h => ⟨_, h, frz_id _⟩
  | .int _ _, k, h => ⟨_, h, frz_id _⟩
  | .flt _, k, h => ⟨_, h, frz_id _⟩
  | .val _, k, h => ⟨_, h, frz_id _⟩
  | .rof _, k, h => ⟨_, h, frz_id _⟩
  | .roi _ _, k, h => ⟨_, h, frz_id _⟩
  | .ro _ _, k, h => ⟨_, h, frz_id _⟩
  | .pf _ _, k, h => ⟨_, h, frz_id _⟩
  | .pi _ _ _, k, h => ⟨_, h, frz_id _⟩
  | .rp _ _, k, h => ⟨_, h, frz_id _⟩
theorem frzL_sound {base : Nat} {M : Heap} : ∀ (vs : List V) (k : List V -> Bool), frzL base M vs k = true -> ∃ vs', k vs' = true /\ vs.length = vs'.length /\ ∀ (i : Nat) v', vs'[i]? = some v' -> ∃ v, vs[i]? = some v /\ Frz base M v v'
  | [], k, h => ⟨[], h, rfl, fun i v' hv => by simp at hv⟩
  | v :: r, k, h => by
    simp only [frzL] at h
    obtain ⟨v', h1, h2⟩ := frzK_sound v _ h
    obtain ⟨r', h3, h4, h5⟩ := frzL_sound r _ h1
    refine ⟨v' :: r', h3, by simp [h4], fun i c hc => ?_⟩
    cases i with
    | zero => simp at hc; subst hc; exact ⟨v, rfl, h2⟩
    | succ i => obtain ⟨c0, hc0, hf⟩ := h5 i c (by simpa using hc); exact ⟨c0, by simpa using hc0, hf⟩
end

def FrzB (base : Nat) (M : Heap) (b b' : Blk) : Prop := b'.e = b.e /\ b'.sz = b.sz /\ b'.c.size = b.c.size /\
  ∀ (G : Gh) (w : World) (ρ : Rho) (L' : LK) (cur : Array Value), G.base = base -> SimW G w ρ (look M) -> Thaw base M L' -> BodyRep (okc G ρ (look M)) w ρ b.c cur -> BodyRep (okc G ρ L') w ρ b'.c cur
theorem body_at_cells (cs : List V) (i : Nat) : (Body.cells cs).at i = cs[i]? := rfl
theorem frzB_sound {P : Program} {base : Nat} {M : Heap} (b : Blk) (k : Blk -> Bool) (h : frzB P base M b k = true) : ∃ b', k b' = true /\ FrzB base M b b' := by
  unfold frzB at h
  split at h
  · rename_i cs hc
    obtain ⟨cs', h1, h2, h3⟩ := frzL_sound cs _ h
    refine ⟨_, h1, rfl, rfl, ?_, fun G w ρ L' cur hG hs hL hr => ?_⟩
    · show (nilToL P (kinds P 4 b.e) cs').length = b.c.size
      rw [nilToL_length, hc, <- h2]; rfl
    · rw [hc] at hr
      have hf : ∀ i, ∃ u : Value, i < cs'.length -> (cur[i]? = some u /\ u.oneCell' = true /\ ∀ z, cs'[i]? = some z -> Rep (okc G ρ L') w ρ z u) := by
        intro i
        by_cases hi : i < cs'.length
        · obtain ⟨c0, hc0, hfz⟩ := h3 i cs'[i] (List.getElem?_eq_getElem hi)
          obtain ⟨u, u1, u2, u3⟩ := hr i c0 (by rw [body_at_cells]; exact hc0)
          exact ⟨u, fun _ => ⟨u1, u2, fun z hz => by rw [List.getElem?_eq_getElem hi] at hz; cases hz; exact hfz G w ρ L' u hG hs hL u3⟩⟩
        · exact ⟨.bool false, fun h => absurd h hi⟩
      obtain ⟨g, hg⟩ := Classical.skolem.1 hf
      have hrl : RepL (okc G ρ L') w ρ cs' ((List.range cs'.length).map g) := by
        refine ⟨by simp, fun i x u hx hu => ?_⟩
        have hi : i < cs'.length := (List.getElem?_eq_some_iff.1 hx).1
        rw [List.getElem?_map, List.getElem?_range hi] at hu
        cases hu
        exact (hg i hi).2.2 x hx
      have hn := nilToL_rep (P := P) (kinds P 4 b.e) cs' _ hrl
      intro i x hx
      rw [body_at_cells] at hx
      have hi : i < cs'.length := by
        have := (List.getElem?_eq_some_iff.1 hx).1
        rwa [nilToL_length] at this
      refine ⟨g i, (hg i hi).1, (hg i hi).2.1, hn.2 i x (g i) hx ?_⟩
      rw [List.getElem?_map, List.getElem?_range hi]; rfl
  · exact ⟨b, h, rfl, rfl, rfl, fun G w ρ L' cur hG hs hL hr => by subst hG; exact hr.mono (keeps_thaw hL)⟩
theorem frzH_sound {P : Program} {base : Nat} {M : Heap} : ∀ (l : Heap) (n : Nat) (k : Heap -> Bool), frzH P base M n l k = true ->
    ∃ l', k l' = true /\ l'.length = l.length /\ ∀ (i : Nat) b', l'[i]? = some (some b') -> ∃ b, l[i]? = some (some b) /\ gone base M (n + i) = false /\ FrzB base M b b'
  | [], n, k, h => ⟨[], h, rfl, fun i b' hb => by simp at hb⟩
  | none :: r, n, k, h => by
    simp only [frzH] at h
    obtain ⟨l', h1, h2, h3⟩ := frzH_sound r (n + 1) _ h
    refine ⟨none :: l', h1, by simp [h2], fun i b' hb => ?_⟩
    cases i with
    | zero => simp at hb
    | succ i =>
      obtain ⟨b, g1, g2, g3⟩ := h3 i b' (by simpa using hb)
      exact ⟨b, by simpa using g1, by rw [show n + (i + 1) = n + 1 + i by omega]; exact g2, g3⟩
  | some b :: r, n, k, h => by
    simp only [frzH] at h
    cases hg : gone base M n with
    | true =>
      rw [hg, cond_true] at h
      obtain ⟨l', h1, h2, h3⟩ := frzH_sound r (n + 1) _ h
      refine ⟨none :: l', h1, by simp [h2], fun i b' hb => ?_⟩
      cases i with
      | zero => simp at hb
      | succ i =>
        obtain ⟨b, g1, g2, g3⟩ := h3 i b' (by simpa using hb)
        exact ⟨b, by simpa using g1, by rw [show n + (i + 1) = n + 1 + i by omega]; exact g2, g3⟩
    | false =>
      rw [hg, cond_false] at h
      obtain ⟨b1, h0, hb1⟩ := frzB_sound b _ h
      obtain ⟨l', h1, h2, h3⟩ := frzH_sound r (n + 1) _ h0
      refine ⟨some b1 :: l', h1, by simp [h2], fun i b' hb => ?_⟩
      cases i with
      | zero => simp at hb; subst hb; exact ⟨b, rfl, hg, hb1⟩
      | succ i =>
        obtain ⟨b, g1, g2, g3⟩ := h3 i b' (by simpa using hb)
        exact ⟨b, by simpa using g1, by rw [show n + (i + 1) = n + 1 + i by omega]; exact g2, g3⟩
theorem look_some {M : Heap} {n : Nat} {b : Blk} : look M n = some b ↔ M[n]? = some (some b) := by
  unfold look
  split
  · rename_i b' h; simp [h]
  · rename_i h
    constructor
    · intro h'; cases h'
    · intro h'; exact absurd h' (h b)

theorem frzS_sound {P : Program} {base : Nat} {s : St} {k : St -> Bool} (h : frzS P base s k = true) :
    ∃ s', k s' = true /\ s'.M.length = s.M.length /\ ∀ (G : Gh) (w : World) (ρ : Rho) (a : Act), G.base = base -> Sim G w ρ s a -> Sim G w ρ s' a := by
  unfold frzS at h
  obtain ⟨F, h1, h2, h3⟩ := frzL_sound s.F _ h
  obtain ⟨M, h4, h5, h6⟩ := frzH_sound s.M 0 _ h1
  refine ⟨⟨F, M⟩, h4, h5, fun G w ρ a hG hs => ?_⟩
  have hL : Thaw base s.M (look M) := by
    intro m hm
    obtain ⟨b', hb'⟩ := Option.isSome_iff_exists.1 hm
    obtain ⟨b, g1, g2, -⟩ := h6 m b' (look_some.1 hb')
    rw [look_some.2 g1]
    exact ⟨rfl, by simpa using g2⟩
  have hlive : ∀ m b', look M m = some b' -> ∃ b, look s.M m = some b /\ FrzB base s.M b b' := by
    intro m b' hb'
    obtain ⟨b, g1, -, g3⟩ := h6 m b' (look_some.1 hb')
    exact ⟨b, look_some.2 g1, g3⟩
  refine ⟨⟨fun n b' hb' => ?_, fun n m bn bm p q hn hm hp hq => ?_, hs.sim.own, hs.sim.size, hs.sim.os, hs.sim.tape, hs.sim.output, hs.sim.old, hs.sim.tab, hs.sim.high⟩, fun n hn => hs.dom n (by rw [<- h5]; exact hn), hs.defers, fun t => ?_, ?_, by rw [h5]; exact hs.base⟩
  · obtain ⟨b, hb, e1, e2, e3, hfz⟩ := hlive n b' hb'
    obtain ⟨q, hq, hat⟩ := hs.sim.blks n b hb
    refine ⟨q, hq, ?_⟩
    cases q with
    | none => show b'.c.size = 0; rw [e3]; exact hat
    | some p =>
      obtain ⟨cur, g1, g2, g3, g4, g5, g6⟩ := hat
      exact ⟨cur, by rw [e1]; exact g1, by rw [e2]; exact g2, by rw [e2, e3]; exact g3, g4, g5, hfz G w ρ _ cur hG hs.sim hL g6⟩
  · obtain ⟨b1, hb1, -⟩ := hlive n bn hn
    obtain ⟨b2, hb2, -⟩ := hlive m bm hm
    exact hs.sim.inj n m b1 b2 p q hb1 hb2 hp hq
  · show Rep _ w ρ (F.getD t .any) _
    by_cases ht : t < F.length
    · obtain ⟨v, hv, hf⟩ := h3 t F[t] (List.getElem?_eq_getElem ht)
      have := hs.fr t
      rw [List.getD_eq_getElem?_getD, hv] at this
      rw [List.getD_eq_getElem?_getD, List.getElem?_eq_getElem ht]
      exact hf G w ρ _ _ hG hs.sim hL this
    · rw [List.getD_eq_getElem?_getD, List.getElem?_eq_none (by omega)]
      exact .any _
  · rw [hs.size, h2]

def resTmps : List ResultVar -> List Nat
  | [] => []
  | .tmp t :: r => t :: resTmps r
  | .cell t _ :: r => t :: resTmps r
def nilRes (P : Program) (fn : Func) (r : V) : V := match r with
  | .tup vs => .tup (nilArgs P fn.resultTypes.toList vs)
  | v => nilArg P (fn.resultTypes.toList.headD 0) v
theorem nilRes_sound {P : Program} {fn : Func} {ok : Nat -> Prop} {w : World} {ρ : Rho} {x : V} {v : Value} (h : Rep ok w ρ x v) : Rep ok w ρ (nilRes P fn x) v := by
  unfold nilRes
  split
  · cases h with
    | tup _ us hl h2 =>
      have := nilArgs_rep (P := P) fn.resultTypes.toList _ us ⟨hl, h2⟩
      exact .tup _ us this.1 this.2
  · exact nilArg_sound _ h
def endZ (P : Program) (base : Nat) (fn : Func) (s : St) (k : V -> List Blk -> Bool) : Bool :=
  frzS P base (normS P base (some ⟨resTmps fn.results.toList, [], []⟩) s) fun s' => endV P base fn.results.toList s' fun r H => k (nilRes P fn r) H
theorem endZ_sound {P : Program} {base : Nat} {fn : Func} {s : St} {k : V -> List Blk -> Bool} (hb : base <= s.M.length) (h : endZ P base fn s k = true) :
    ∃ r H', k r H' = true /\ ∀ (G : Gh) (w : World) (ρ : Rho) (a : Act), G.base = base -> Sim G w ρ s a -> ∃ v ρ', (results fn a.tmps).run P w = .ok v w /\ (∀ n q, n < base -> ρ n = some q -> ρ' n = some q) /\ (∀ n, H'.length <= n -> ρ' n = none) /\
      SimW G w ρ' (live H') /\ Rep (okc G ρ' (live H')) w ρ' r v := by
  unfold endZ at h
  obtain ⟨n1, n2⟩ := normS_sound (P := P) (some ⟨resTmps fn.results.toList, [], []⟩) s base hb
  obtain ⟨s', h1, h2, h3⟩ := frzS_sound h
  obtain ⟨r, H', h4, h5⟩ := endV_sound (by rw [h2]; exact n1) h1
  refine ⟨_, H', h4, fun G w ρ a hG hs => ?_⟩
  obtain ⟨ρ1, hs1, e1⟩ := n2 G w ρ a hG hs
  obtain ⟨v, ρ', g1, g2, g3, g4, g5⟩ := h5 G w ρ1 a hG (h3 G w ρ1 a hG hs1)
  exact ⟨v, ρ', g1, fun n q hn hq => g2 n q hn (e1 n q hn hq), g3, g4, nilRes_sound g5⟩
def bodyZ (cx : Cx) (an : Nat -> Option Ann) (f : Nat) (args : List V) (H : List Blk) (k : V -> List Blk -> Bool) : Bool :=
  match cx.P.funcs[f]? with
  | some fn => match fn.body with
    | some c =>
      let fin := fun s => endZ cx.P H.length fn s k
      !(fn.name == "runtime.NumGoroutine") && codeV cx H.length an c 0 ⟨args ++ List.replicate (fn.ntmps - args.length) .any, H.map some⟩ ⟨fin, fun _ _ => false, fin⟩
    | none => false
  | none => false

theorem bodyZ_calls {cx : Cx} (hO : OSound cx.P cx.O) {an : Nat -> Option Ann} {f : Nat} {args : List V} {H : List Blk} {k : V -> List Blk -> Bool} (hk : ∀ fn c, cx.P.funcs[f]? = some fn -> fn.body = some c -> HooksOk cx H.length an c 0) (h : bodyZ cx an f args H k = true) :
    ∃ r H', (Ok cx.P f args H r H' /\ OkC cx.P f args H r H') /\ k r H' = true := by
  unfold bodyZ at h
  split at h
  · rename_i fn hfn
    split at h
    · rename_i c hc
      simp only at h
      obtain ⟨hname, h'⟩ := and_true h
      have hname' : ¬ fn.name = "runtime.NumGoroutine" := by simpa using hname
      have hb0 : H.length <= (H.map some).length := by simp
      obtain ⟨e, s', h1, h2, h3⟩ := codeV_sound hO c 0 _ _ (hk fn c hfn hc) hb0 h'
      have hend : endZ cx.P H.length fn s' k = true /\ (e = .normal \/ e = .ret) := by
        cases e <;> simp [K.of] at h1
        · exact ⟨h1, .inl rfl⟩
        · exact ⟨h1, .inr rfl⟩
      obtain ⟨r, H', hk, hfin⟩ := endZ_sound h2 hend.1
      refine ⟨r, H', ?_, hk⟩
      have hok : OkC cx.P f args H r H' := by
        intro w ρ ok vs hsim hdom hargs
        refine calls_of_wp hfn hc ?_
        have hS : Sim (gh w H.length ok) w ρ ⟨args ++ List.replicate (fn.ntmps - args.length) .any, H.map some⟩ { tmps := vs.toArray ++ Array.replicate (fn.ntmps - vs.toArray.size) undef, defers := [] } := by
          refine ⟨hsim, fun n hn => hdom n (by simpa using hn), rfl, fun t => ?_, by simp [hargs.1], by simp [gh]⟩
          show Rep _ w ρ ((args ++ List.replicate (fn.ntmps - args.length) V.any).getD t .any) _
          by_cases ht : t < args.length
          · have htv : t < vs.length := by rw [<- hargs.1]; exact ht
            have e1 : (args ++ List.replicate (fn.ntmps - args.length) V.any).getD t .any = args[t] := by
              rw [List.getD, List.getElem?_append_left ht]; simp [ht]
            have e2 : (vs.toArray ++ Array.replicate (fn.ntmps - vs.toArray.size) undef).getD t undef = vs[t] := by
              rw [Array.getD_eq_getD_getElem?, Array.getElem?_append_left (by simpa using htv)]; simp [htv]
            rw [e1, e2]
            exact hargs.2 t _ _ (by simp [ht]) (by simp [htv])
          · have e1 : (args ++ List.replicate (fn.ntmps - args.length) V.any).getD t .any = .any := by
              rw [List.getD, List.getElem?_append_right (by omega), List.getElem?_replicate]
              split <;> rfl
            rw [e1]; exact .any _
        refine h3 (gh w H.length ok) w ρ _ rfl hS _ fun w' ρ' a' hs' hr => ?_
        obtain ⟨v, ρ'', g1, g2, g3, g4, g5⟩ := hfin (gh w H.length ok) w' ρ' a' rfl hs'
        have hpost : a'.defers = [] /\ ∃ v, (results fn a'.tmps).run cx.P w' = .ok v w' /\ ∃ v', Ending.returned v = .returned v' /\ ∃ ρ', (∀ n, n < H.length -> ρ' n = ρ n) /\ (∀ n, H'.length <= n -> ρ' n = none) /\ SimW (gh w H.length ok) w' ρ' (live H') /\ Rep (okc (gh w H.length ok) ρ' (live H')) w' ρ' r v' := by
          refine ⟨hs'.defers, v, g1, v, rfl, ρ'', fun n hn => ?_, g3, g4, g5⟩
          obtain ⟨q, hq, _⟩ := hsim.blks n H[n] (live_get.2 (by simp [hn]))
          rw [hq, g2 n q hn (hr n q hn hq)]
        rcases hend.2 with rfl | rfl
        · exact hpost
        · exact hpost
      refine ⟨?_, hok⟩
      intro w ρ ok vs hsim hdom hargs o a N Q hN
      have hrun : (callFunc f vs.toArray).run cx.P w = .ok (.enter f vs.toArray) w := by
        simp [callFunc, hfn, hname', hc]
      rw [hrun, Oper.upon_enter]
      have hcalls := hok w ρ ok vs hsim hdom hargs
      refine hcalls.mono fun e' w' he => ?_
      obtain ⟨v, rfl, hv⟩ := he
      exact hN v w' hv
    · cases h
  · cases h


theorem good_fsZ {cx : Cx} (hO : OSound cx.P cx.O) {f : Nat} (sh : FnSh) (S : List Atom -> (V -> List Blk -> Bool) -> Bool) (an : Nat -> Option Ann) (n base : Nat) (hn : (lps cx.P f).length = n) (hk : ∀ i, i < n -> HookOk cx base an (lp cx.P f i))
    (h : ∀ a k, S a k = true -> ∃ H, sh.heap a = H.map some /\ H.length = base /\ bodyZ cx an f (sh.args a) H k = true) : GoodF cx.P f (mkFs sh S) := by
  intro args H k hs
  unfold mkFs at hs
  split at hs
  · rename_i a ha
    obtain ⟨rfl, e2⟩ := FnSh.ext_build ha
    obtain ⟨H', g1, g2, g3⟩ := h a k hs
    rw [g1] at e2
    obtain rfl := map_some_inj e2
    have hks : ∀ fn c, cx.P.funcs[f]? = some fn -> fn.body = some c -> HooksOk cx H.length an c 0 := fun fn c hfn hc => hooksOk_of c _ fun p hp => by
      have e : lps cx.P f = loops c 0 := by simp [lps, hfn, hc]
      rw [<- e] at hp
      obtain ⟨i, hi, rfl⟩ := List.getElem_of_mem hp
      have := hk i (by omega)
      rw [<- g2] at this
      unfold lp at this
      rwa [List.getD_eq_getElem?_getD, List.getElem?_eq_getElem hi] at this
    obtain ⟨r, H2, h1, h2⟩ := bodyZ_calls hO hks g3
    exact ⟨r, H2, h1.1, h2⟩
  · cases hs

end Go.Mach
end
section
namespace Go.Mach

theorem canon_frep (b : Nat) : FRep (canon b) (.float .f64 b) := by
  unfold canon
  cases h : isNaN b with
  | true => exact ⟨b, rfl, h⟩
  | false => rfl

theorem repL_one {ok : Nat -> Prop} {w : World} {ρ : Rho} {x : V} {vs : List Value} (h : RepL ok w ρ [x] vs) : ∃ v, vs = [v] /\ Rep ok w ρ x v := by
  obtain ⟨h1, h2⟩ := h
  match vs, h1 with
  | [v], _ => exact ⟨v, rfl, h2 0 x v rfl rfl⟩

theorem good_ext1 {P : Program} {f : Nat} {fn : Func} {e : Array Value -> Sem Value} (hf : P.funcs[f]? = some fn) (hname : (fn.name == "runtime.NumGoroutine") = false)
    (hb : fn.body.isNone = true) (hn : Extern.findNext fn = none) (he : Extern.find fn = some e) (sh : FnSh) (S : List Atom -> (V -> List Blk -> Bool) -> Bool)
    (h : ∀ a k, S a k = true -> sh.heap a = [] /\ ∃ r, k r [] = true /\ ∀ (ok : Nat -> Prop) (w : World) (ρ : Rho) (vs : List Value), RepL ok w ρ (sh.args a) vs -> ∃ v w', (e vs.toArray).run P w = .ok v w' /\ (w' = w \/ w' = w.drew) /\ Rep ok w ρ r v) : GoodF P f (mkFs sh S) := by
  refine good_extern fun args H k hs => ?_
  unfold mkFs at hs
  split at hs
  · rename_i a ha
    obtain ⟨rfl, e2⟩ := FnSh.ext_build ha
    obtain ⟨g0, r, g1, g2⟩ := h a k hs
    rw [g0] at e2
    obtain rfl : H = [] := by simpa using e2
    refine ⟨r, g1, fun ok w ρ vs hv => ?_⟩
    obtain ⟨v, w', q1, q2, q3⟩ := g2 ok w ρ vs hv
    refine ⟨v, w', ?_, q2, q3⟩
    rw [run_callFunc_extern hf hname hb hn he, q1]; rfl
  · cases hs

theorem good_frombits {P : Program} {f : Nat} {fn : Func} (hf : P.funcs[f]? = some fn) (hname : (fn.name == "runtime.NumGoroutine") = false)
    (hb : fn.body.isNone = true) (hn : Extern.findNext fn = none) (he : Extern.find fn = some Extern.MathFloatBits.float64frombits) :
    GoodF P f (mkFs ⟨[.int .u64], []⟩ fun a k => match a with | [.int n] => k (.flt (canon n.toNat)) [] | _ => false) := by
  refine good_ext1 hf hname hb hn he _ _ fun a k h => ?_
  split at h
  · rename_i n
    refine ⟨rfl, _, h, fun ok w ρ vs hv => ?_⟩
    obtain ⟨v, rfl, hr⟩ := repL_one hv
    obtain rfl := hr.int_inv
    exact ⟨.float .f64 n.toNat, w, rfl, .inl rfl, .flt _ _ (canon_frep _)⟩
  · cases h

theorem good_bits {P : Program} {f : Nat} {fn : Func} (hf : P.funcs[f]? = some fn) (hname : (fn.name == "runtime.NumGoroutine") = false)
    (hb : fn.body.isNone = true) (hn : Extern.findNext fn = none) (he : Extern.find fn = some Extern.MathFloatBits.float64bits) :
    GoodF P f (mkFs ⟨[.flt], []⟩ fun a k => match a with | [.fl (some b)] => k (.int .u64 b) [] | _ => false) := by
  refine good_ext1 hf hname hb hn he _ _ fun a k h => ?_
  split at h
  · rename_i b
    refine ⟨rfl, _, h, fun ok w ρ vs hv => ?_⟩
    obtain ⟨v, rfl, hr⟩ := repL_one hv
    have hv := hr.flt_inv
    obtain rfl : v = .float .f64 b := hv
    exact ⟨.int .u64 b, w, rfl, .inl rfl, .int _ _⟩
  · cases h

theorem good_sqrt {P : Program} {f : Nat} {fn : Func} (hf : P.funcs[f]? = some fn) (hname : (fn.name == "runtime.NumGoroutine") = false)
    (hb : fn.body.isNone = true) (hn : Extern.findNext fn = none) (he : Extern.find fn = some Extern.MathSqrt.sqrt) (hnan : ∀ b, isNaN b = true -> Ieee.double.sqrt b = none) :
    GoodF P f (mkFs ⟨[.flt], []⟩ fun a k => match a with | [.fl x] => k (.flt (fsqrt x)) [] | _ => false) := by
  refine good_ext1 hf hname hb hn he _ _ fun a k h => ?_
  split at h
  · rename_i x
    refine ⟨rfl, _, h, fun ok w ρ vs hv => ?_⟩
    obtain ⟨v, rfl, hr⟩ := repL_one hv
    have hv : FRep x v := hr.flt_inv
    obtain ⟨b, rfl⟩ := hv.float
    have hs : Ieee.double.sqrt b = fsqrt x := by
      cases x with
      | none => obtain ⟨b', e, hb'⟩ := hv; cases e; rw [hnan _ hb']; rfl
      | some b' => cases hv; rfl
    cases hq : fsqrt x with
    | some r =>
      refine ⟨.float .f64 r, w, ?_, .inl rfl, .flt _ _ rfl⟩
      rw [hq] at hs
      have e1 : Extern.MathSqrt.sqrt [Value.float .f64 b].toArray = (match Ieee.double.sqrt b with | some r => pure (.float .f64 r) | none => do pure (.float .f64 (<- choose (.nanBits .f64 b b)))) := rfl
      rw [e1, hs]; rfl
    | none =>
      rw [hq] at hs
      refine ⟨.float .f64 ((Question.nanBits .f64 b b).cut (w.tape w.drawn (.nanBits .f64 b b))), w.drew, ?_, .inr rfl, .flt _ _ ⟨_, rfl, isNaN_cut _ _ _⟩⟩
      have e1 : Extern.MathSqrt.sqrt [Value.float .f64 b].toArray = (match Ieee.double.sqrt b with | some r => pure (.float .f64 r) | none => do pure (.float .f64 (<- choose (.nanBits .f64 b b)))) := rfl
      rw [e1, hs]; simp [Question.forced]
  · cases h

theorem good_bits_fb {P : Program} {f : Nat} {fn : Func} (hf : P.funcs[f]? = some fn) (hname : (fn.name == "runtime.NumGoroutine") = false)
    (hb : fn.body.isNone = true) (hn : Extern.findNext fn = none) (he : Extern.find fn = some Extern.MathFloatBits.float64bits) :
    GoodF P f (mkFs ⟨[.fb], []⟩ fun a k => match a with | [.nat b] => k (.int .u64 b) [] | _ => false) := by
  refine good_ext1 hf hname hb hn he _ _ fun a k h => ?_
  split at h
  · rename_i b
    refine ⟨rfl, _, h, fun ok w ρ vs hv => ?_⟩
    obtain ⟨v, rfl, hr⟩ := repL_one hv
    have hv : Rep ok w ρ (.val (.float .f64 b)) v := hr
    cases hv
    exact ⟨.int .u64 b, w, rfl, .inl rfl, .int _ _⟩
  · cases h

def fbOf : List V -> List Value -> List V
  | .flt _ :: r, v :: vs => .val v :: fbOf r vs
  | a :: r, _ :: vs => a :: fbOf r vs
  | r, [] => r
  | [], _ => []
theorem fbOf_rep {ok : Nat -> Prop} {w : World} {ρ : Rho} : ∀ (args : List V) (vs : List Value), RepL ok w ρ args vs -> RepL ok w ρ (fbOf args vs) vs
  | [], vs, h => by cases vs <;> exact h
  | a :: r, [], h => by cases a <;> exact h
  | a :: r, v :: vs, h => by
    have hr : RepL ok w ρ r vs := ⟨by have := h.1; simpa using this, fun i c u hc hu => h.2 (i + 1) c u (by simpa using hc) (by simpa using hu)⟩
    have ih := fbOf_rep r vs hr
    have ha : Rep ok w ρ a v := h.2 0 a v rfl rfl
    have key : ∀ a', Rep ok w ρ a' v -> RepL ok w ρ (a' :: fbOf r vs) (v :: vs) := by
      intro a' ha'
      refine ⟨by have := ih.1; simp [this], fun i c u hc hu => ?_⟩
      cases i with
      | zero => simp at hc hu; subst hc; subst hu; exact ha'
      | succ i => exact ih.2 i c u (by simpa using hc) (by simpa using hu)
    cases a <;> first | exact key _ (.val _) | exact key _ ha
theorem ok_fb {P : Program} {f : Nat} {args : List V} {H : List Blk} {r : V} {H' : List Blk} (h : ∀ vs : List Value, (∀ (i : Nat) x v, args[i]? = some (.flt x) -> vs[i]? = some v -> FRep x v) -> args.length = vs.length -> Ok P f (fbOf args vs) H r H') : Ok P f args H r H' := by
  intro w ρ ok vs hs hd ha
  refine h vs (fun i x v hx hv => ?_) ha.1 w ρ ok vs hs hd (fbOf_rep args vs ha)
  have := ha.2 i _ v hx hv
  exact this.flt_inv

end Go.Mach
end
section
namespace Go.Mach

end Go.Mach
end
section
namespace Go.Mach

theorem inR_of {i : Int} {n : Nat} (h1 : 0 <= i) (h2 : i < n) : inR i n = true := by unfold inR; simp; omega
theorem fits64_iff (n : Int) : fits .i64 n = true ↔ -9223372036854775808 <= n /\ n <= 9223372036854775807 := by
  unfold fits
  have e1 : IntKind.min .i64 = -9223372036854775808 := by decide
  have e2 : IntKind.max .i64 = 9223372036854775807 := by decide
  simp [e1, e2]
theorem mkOk_iff (b : Nat) (l c : Int) : mkOk b l c = true ↔ 0 <= l /\ l <= c /\ c <= 9223372036854775807 /\ (b : Int) * c <= 140737488355328 := by unfold mkOk; simp
theorem iterG_eq {σ : Type} {step : σ -> (σ -> Bool) -> Bool} (C : Nat -> σ) (n : Nat) {N : Nat} (hn : n < N) {out : Bool} (hs : ∀ i, i < n -> ∀ K : σ -> Bool, step (C i) K = K (C (i + 1))) (hx : ∀ K, step (C n) K = out) : iterG N step (C 0) = out := by
  have : ∀ m, m <= n -> ∀ N, m < N -> iterG N step (C (n - m)) = out := by
    intro m
    induction m with
    | zero =>
      intro _ N hN
      cases N with
      | zero => omega
      | succ N => exact hx _
    | succ m ih =>
      intro hm N hN
      cases N with
      | zero => omega
      | succ N =>
        show step (C (n - (m + 1))) (iterG N step) = out
        rw [hs (n - (m + 1)) (by omega), show n - (m + 1) + 1 = n - m by omega]
        exact ih (by omega) N (by omega)
  simpa using this n (Nat.le_refl _) N hn

end Go.Mach
end
section
namespace Go.Mach
open Ieee

def isNum : Datum -> Bool
  | .number .. => true
  | _ => false
def finF : Fl -> Bool
  | some b => isNum (Ieee.double.read b)
  | none => false

theorem feq_zero_zero : feq (some 0) (some 0) = true := by decide
theorem sum_opposite (d : Datum) : d.sum d.opposite = if isNum d then some (.number false 0 (match d with | .number _ _ i => i | _ => 0)) else none := by
  cases d with
  | number s m i => cases s <;> simp [Datum.opposite, Datum.sum, isNum, signed, Int.add_comm, Int.add_right_neg]
  | infinity s => cases s <;> simp [Datum.opposite, Datum.sum, isNum]
  | nan s t => simp [Datum.sum, isNum]
theorem write_zero (i : Int) : Ieee.double.write (.number false 0 i) = 0 := by simp [Format.write, Format.nearest, Format.word]
theorem fin_eq (x : Fl) : feq (fsub x x) (some 0) = finF x := by
  cases x with
  | none => rfl
  | some b =>
    simp only [fsub, fbin, finF, Format.sub, sum_opposite]
    cases h : isNum (Ieee.double.read b) with
    | true => simp only [if_true, Option.map_some, write_zero]; exact feq_zero_zero
    | false => simp [feq, ford]

def cls (b : Nat) : Int :=
  if isNaN b then 1 else if b / 4503599627370496 % 2048 = 2047 then 2 else if b / 4503599627370496 % 2048 = 0 then (if b % 4503599627370496 = 0 then 3 else 4) else 5
theorem cls_fin (b : Nat) : (decide (cls b = 1) || decide (cls b = 2)) = !isNum (Ieee.double.read b) := by
  have e1 : Ieee.double.signWeight = 9223372036854775808 := by decide
  have e2 : Ieee.double.binade = 4503599627370496 := by decide
  have e3 : Ieee.double.infRung = 9218868437227405312 := by decide
  have hn := isNaN_iff b
  unfold cls Format.read
  simp only [e1, e2, e3]
  by_cases h : isNaN b = true
  · have h' := hn.1 h
    have a1 : ¬ (b % 9223372036854775808 < 4503599627370496) := by omega
    have a2 : ¬ (b % 9223372036854775808 < 9218868437227405312) := by omega
    have a3 : ¬ (b % 9223372036854775808 = 9218868437227405312) := by omega
    simp [h, a1, a2, a3, isNum]
  · have h' : ¬ (9218868437227405312 < b % 9223372036854775808) := fun q => h (hn.2 q)
    simp only [h, if_false, Bool.false_eq_true]
    by_cases a3 : b % 9223372036854775808 = 9218868437227405312
    · have c1 : b / 4503599627370496 % 2048 = 2047 := by omega
      simp [c1, a3, isNum]
    · have c1 : ¬ (b / 4503599627370496 % 2048 = 2047) := by omega
      by_cases a1 : b % 9223372036854775808 < 4503599627370496
      · simp only [c1, a1, if_true, if_false, isNum]; split <;> (try split) <;> simp
      · have a2 : b % 9223372036854775808 < 9218868437227405312 := by omega
        simp only [c1, a1, a2, if_true, if_false, isNum]; split <;> (try split) <;> simp

theorem wrap_u64 (n : Nat) (h : n < 18446744073709551616) : IntKind.wrap .u64 (n : Int) = n := by
  have : IntKind.wrap .u64 (n : Int) = (n : Int) % 18446744073709551616 := by rfl
  rw [this]; omega
theorem bitsN_and_mask (a k : Nat) (hk : k <= 64) : bitsN .and .u64 (a : Int) ((2 ^ k - 1 : Nat) : Int) = ((a % 2 ^ k : Nat) : Int) := by
  unfold bitsN bitsI
  simp only [Option.getD_some]
  have e : ((BitVec.ofInt (IntKind.bits .u64) (a : Int)) &&& (BitVec.ofInt (IntKind.bits .u64) ((2 ^ k - 1 : Nat) : Int))).toNat = a % 2 ^ k := by
    show ((BitVec.ofInt 64 (a : Int)) &&& (BitVec.ofInt 64 ((2 ^ k - 1 : Nat) : Int))).toNat = a % 2 ^ k
    rw [BitVec.toNat_and, BitVec.ofInt_natCast, BitVec.ofInt_natCast, BitVec.toNat_ofNat, BitVec.toNat_ofNat]
    have h1 : 2 ^ k <= 2 ^ 64 := Nat.pow_le_pow_right (by decide) hk
    have h0 : 0 < 2 ^ k := Nat.two_pow_pos k
    rw [Nat.mod_eq_of_lt (a := 2 ^ k - 1) (by omega), Nat.and_two_pow_sub_one_eq_mod, Nat.mod_mod_of_dvd]
    exact Nat.pow_dvd_pow 2 hk
  rw [e, wrap_u64]
  have h1 : 2 ^ k <= 2 ^ 64 := Nat.pow_le_pow_right (by decide) hk
  have : a % 2 ^ k < 2 ^ k := Nat.mod_lt _ (Nat.two_pow_pos k)
  have : (2 : Nat) ^ 64 = 18446744073709551616 := by decide
  omega
theorem bitsN_andNot_top (a : Nat) : bitsN .andNot .u64 (a : Int) 9223372036854775808 = ((a % 9223372036854775808 : Nat) : Int) := by
  unfold bitsN bitsI
  simp only [Option.getD_some]
  have e : ((BitVec.ofInt (IntKind.bits .u64) (a : Int)) &&& ~~~(BitVec.ofInt (IntKind.bits .u64) (9223372036854775808 : Int))).toNat = a % 9223372036854775808 := by
    have hm : ~~~(BitVec.ofInt 64 (9223372036854775808 : Int)) = BitVec.ofNat 64 (2 ^ 63 - 1) := by decide
    show ((BitVec.ofInt 64 (a : Int)) &&& ~~~(BitVec.ofInt 64 (9223372036854775808 : Int))).toNat = a % 9223372036854775808
    rw [hm, BitVec.toNat_and, BitVec.ofInt_natCast, BitVec.toNat_ofNat, BitVec.toNat_ofNat, Nat.mod_eq_of_lt (a := 2 ^ 63 - 1) (by decide), Nat.and_two_pow_sub_one_eq_mod, Nat.mod_mod_of_dvd]
    exact Nat.pow_dvd_pow 2 (by decide)
  rw [e, wrap_u64]
  omega

end Go.Mach
end
section
namespace Go.Mach

def clsF : Fl -> Int
  | some b => cls b
  | none => 1
def cn : Fl -> Fl
  | some b => if isNaN b then none else some b
  | none => none
def absF : Fl -> Fl
  | some b => canon (b % 9223372036854775808)
  | none => none

theorem clsF_fin (x : Fl) : (decide (clsF x = 1) || decide (clsF x = 2)) = !finF x := by
  cases x with
  | none => rfl
  | some b => exact cls_fin b
theorem clsF_lo (x : Fl) : 1 <= clsF x := by
  cases x with
  | none => decide
  | some b => show 1 <= cls b; unfold cls; split <;> (try split) <;> (try split) <;> (try split) <;> decide

theorem fits_ok {n : Int} (h1 : -9223372036854775808 <= n) (h2 : n <= 9223372036854775807) : fits .i64 n = true := (fits64_iff n).2 ⟨h1, h2⟩
theorem mkOk_ok {b : Nat} {l c : Int} (h0 : 0 <= l) (h1 : l <= c) (h2 : c <= 9223372036854775807) (h3 : (b : Int) * c <= 140737488355328) : mkOk b l c = true := (mkOk_iff b l c).2 ⟨h0, h1, h2, h3⟩
theorem dec_true {p : Prop} [Decidable p] (h : p) : decide p = true := by simp [h]
theorem dec_false {p : Prop} [Decidable p] (h : ¬ p) : decide p = false := by simp [h]

def allN (p : Nat -> Bool) : Nat -> Bool
  | 0 => true
  | n + 1 => allN p n && p n
theorem allN_iff {p : Nat -> Bool} : ∀ {n : Nat}, allN p n = true ↔ ∀ i, i < n -> p i = true
  | 0 => by simp [allN]
  | n + 1 => by
    rw [allN, Bool.and_eq_true, allN_iff]
    constructor
    · intro h i hi
      by_cases e : i = n
      · subst e; exact h.2
      · exact h.1 i (by omega)
    · intro h
      exact ⟨fun i hi => h i (by omega), h n (by omega)⟩
def allT (p : Nat -> Bool) (n : Nat) : Nat -> Bool
  | 0 => true
  | m + 1 => p (n - (m + 1)) && allT p n m
theorem allT_iff {p : Nat -> Bool} {n : Nat} : ∀ {m : Nat}, m <= n -> (allT p n m = true ↔ ∀ i, n - m <= i -> i < n -> p i = true)
  | 0, _ => by simp only [allT, true_iff]; intro i h1 h2; omega
  | m + 1, hm => by
    rw [allT, Bool.and_eq_true, allT_iff (by omega)]
    constructor
    · intro h i h1 h2
      by_cases e : i = n - (m + 1)
      · subst e; exact h.1
      · exact h.2 i (by omega) h2
    · intro h
      exact ⟨h _ (by omega) (by omega), fun i h1 h2 => h i (by omega) h2⟩
theorem iterG_all {σ : Type} {step : σ -> (σ -> Bool) -> Bool} (C : Nat -> σ) (p : Nat -> Bool) (n : Nat) {N : Nat} (hn : n < N) {ex out : Bool}
    (hs : ∀ i, i < n -> ∀ K : σ -> Bool, step (C i) K = cond (p i) (K (C (i + 1))) ex) (hx : ∀ K, step (C n) K = out) : iterG N step (C 0) = cond (allN p n) out ex := by
  have key : ∀ m, m <= n -> ∀ N, m < N -> iterG N step (C (n - m)) = cond (allT p n m) out ex := by
    intro m
    induction m with
    | zero =>
      intro _ N hN
      cases N with
      | zero => omega
      | succ N => exact hx _
    | succ m ih =>
      intro hm N hN
      cases N with
      | zero => omega
      | succ N =>
        show step (C (n - (m + 1))) (iterG N step) = _
        have e : n - (m + 1) + 1 = n - m := by omega
        rw [hs (n - (m + 1)) (by omega), e, ih (by omega) N (by omega), allT]
        cases p (n - (m + 1)) <;> rfl
  have := key n (Nat.le_refl _) N hn
  rw [Nat.sub_self] at this
  rw [this]
  congr 1
  rw [Bool.eq_iff_iff, allT_iff (Nat.le_refl _), allN_iff]
  exact ⟨fun h i hi => h i (by omega) hi, fun h i _ hi => h i hi⟩

end Go.Mach
end
section
namespace Go.Mach
open Ieee

theorem sqrt_nan (b : Nat) (h : isNaN b = true) : Ieee.double.sqrt b = none := by
  obtain ⟨s, g, e⟩ := read_nan h
  simp [Ieee.Format.sqrt, e, Ieee.Datum.root]

theorem good_lift1 {P : Program} {f : Nat} {F : Fs} {sh : FnSh} (S : List Atom -> (V -> List Blk -> Bool) -> Bool) (R : Fl -> V) (hF : GoodF P f F) (hsh : sh = ⟨[.flt], []⟩)
    (hS : ∀ a k, S a k = true -> ∃ x, a = [.fl x] /\ k (R x) [] = true)
    (h : ∀ b k, F [.val (.float .f64 b)] [] k = k (R (cn (some b))) []) (hR : ∀ b, R (cn (some b)) = R (some b)) : GoodF P f (mkFs sh S) := by
  subst hsh
  intro args H k hk
  unfold mkFs at hk
  split at hk
  · rename_i a ha
    obtain ⟨x, rfl, hx⟩ := hS a k hk
    obtain ⟨rfl, e2⟩ := FnSh.ext_build ha
    obtain rfl : H = [] := by simpa [FnSh.heap, buildM] using e2
    refine ⟨R x, [], ?_, hx⟩
    refine ok_fb fun vs hv hl => ?_
    match vs, hl with
    | [v], _ =>
      have hr : FRep x v := hv 0 x v rfl rfl
      obtain ⟨b, rfl⟩ := hr.float
      have hb : R x = R (cn (some b)) := by
        cases x with
        | none => obtain ⟨b', e, hb'⟩ := hr; cases e; simp [cn, hb']
        | some b' => cases hr; exact (hR _).symm
      obtain ⟨r, H', h1, h2⟩ := hF [.val (.float .f64 b)] [] (fun r H => @decide (r = R (cn (some b)) /\ H = []) (Classical.propDecidable _)) (by rw [h]; simp)
      simp only [decide_eq_true_eq] at h2
      obtain ⟨rfl, rfl⟩ := h2
      rw [hb]
      exact h1
  · cases hk
end Go.Mach
end
section
namespace Go.Mach
open Go.ChangeShapes Go.WideShapes Go.ChangeAt Go.RowKit

section
variable {H : Type} {enc : TypeId × Value -> H} {P : Program} {w : World} {sp : Nat -> Bool} {held : Bool}

theorem open_int1 {base : Nat} {t : TypeId} {k : IntKind} {n : Nat} {c : Value} {y : DataW H × List MemPlace} (ht : P.underlying t = some (.int k)) (h : DataW.trod enc P w base sp held n t [c] = some y) : ∃ z, c = .int k z /\ (Lit.int k z).wf = true := by
  obtain ⟨z, h1, -, h3⟩ := DataW.trod_int ht h
  cases h1
  exact ⟨z, rfl, h3⟩
end

theorem calls_of_okC {P : Program} {f : FuncId} {args : List V} {W : World} {vs : List Value} (h : OkC P f args [] (.bool true) []) (ht : ∀ b zs, tabT b = some zs -> TabAt W b zs) (hr : ∀ ok : Nat -> Prop, (∀ b, ok b) -> RepL ok W (fun _ => none) args vs) :
    Calls P f vs.toArray W fun e W' => e = .returned (.bool true) /\ Below W.heap.size W W' := by
  have hsim : SimW (gh W ([] : List Blk).length (fun _ => True)) W (fun _ => none) (live []) := by
    refine ⟨fun n blk h => ?_, fun n m bn bm p q h => ?_, fun n p _ h => (by cases h), Nat.le_refl _, rfl, rfl, rfl, fun _ _ _ => rfl, fun b zs e => ⟨trivial, ht b zs e⟩, fun n p h => (by cases h)⟩
    · simp [live, look] at h
    · simp [live, look] at h
  refine (h W (fun _ => none) (fun _ => True) vs hsim (fun _ _ => rfl) (hr _ fun b => ⟨.inl trivial, fun n blk p h => by simp [live, look] at h⟩)).mono fun e W' hq => ?_
  obtain ⟨v, rfl, ρ', -, -, hs, hv⟩ := hq
  have e1 : v = .bool true := by cases hv; rfl
  subst e1
  exact ⟨rfl, hs.os, hs.tape, hs.output, hs.size, fun b hb => hs.old b hb fun n p hn => absurd hn (Nat.not_lt_zero n)⟩

end Go.Mach
end
section
namespace Go.Mach

def flat : Code -> List Code
  | .seq a b => flat a ++ flat b
  | c => [c]
def codesV (cx : Cx) (base : Nat) (an : Nat -> Option Ann) : List Code -> Nat -> St -> K -> Bool
  | [], _, s, κ => κ.nrm s
  | c :: r, bid, s, κ => codeV cx base an c bid s { κ with nrm := fun s' => codesV cx base an r bid s' κ }
theorem codesV_app (cx : Cx) (base : Nat) (an : Nat -> Option Ann) (bid : Nat) (l2 : List Code) : ∀ (l1 : List Code) (s : St) (κ : K), codesV cx base an (l1 ++ l2) bid s κ = codesV cx base an l1 bid s { κ with nrm := fun s' => codesV cx base an l2 bid s' κ }
  | [], s, κ => rfl
  | c :: r, s, κ => by
    simp only [List.cons_append, codesV]
    congr 1
    congr 1
    funext s'
    exact codesV_app cx base an bid l2 r s' κ
theorem codeV_flat (cx : Cx) (base : Nat) (an : Nat -> Option Ann) : ∀ (c : Code) (bid : Nat) (s : St) (κ : K), codeV cx base an c bid s κ = codesV cx base an (flat c) bid s κ := by
  intro c
  induction c with
  | seq a b iha ihb =>
    intro bid s κ
    rw [flat, codesV_app, <- iha]
    simp only [codeV]
    congr 1
    congr 1
    funext s'
    exact ihb bid s' κ
  | _ => intros; rfl
def cds (P : Program) (f : Nat) : List Code := match P.funcs[f]? with
  | some fn => match fn.body with
    | some c => flat c
    | none => []
  | none => []
def sg (P : Program) (f a n : Nat) : List Code := ((cds P f).drop a).take n
theorem codesV_cut {cx : Cx} {base : Nat} {an : Nat -> Option Ann} {P : Program} {f bid : Nat} (a n m : Nat) (h : a + n = m) (s : St) (κ : K) :
    codesV cx base an ((cds P f).drop a) bid s κ = codesV cx base an (sg P f a n) bid s { κ with nrm := fun s' => codesV cx base an ((cds P f).drop m) bid s' κ } := by
  subst h
  rw [<- codesV_app]
  congr 1
  unfold sg
  rw [<- List.drop_drop, List.take_append_drop]
def st0 (P : Program) (f : Nat) (args : List V) (H : List Blk) : St := match P.funcs[f]? with
  | some fn => ⟨args ++ List.replicate (fn.ntmps - args.length) .any, H.map some⟩
  | none => ⟨[], []⟩
def finV (P : Program) (f base : Nat) (k : V -> List Blk -> Bool) : K := match P.funcs[f]? with
  | some fn => ⟨fun s => endV P base fn.results.toList s k, fun _ _ => false, fun s => endV P base fn.results.toList s k⟩
  | none => ⟨fun _ => false, fun _ _ => false, fun _ => false⟩
def okB (P : Program) (f : Nat) : Bool := match P.funcs[f]? with
  | some fn => fn.body.isSome && !(fn.name == "runtime.NumGoroutine")
  | none => false
theorem bodyV_codes {cx : Cx} {an : Nat -> Option Ann} {f : Nat} {args : List V} {H : List Blk} {k : V -> List Blk -> Bool} (h : okB cx.P f = true) :
    bodyV cx an f args H k = codesV cx H.length an ((cds cx.P f).drop 0) 0 (st0 cx.P f args H) (finV cx.P f H.length k) := by
  unfold okB at h
  unfold bodyV cds st0 finV
  split at h
  · rename_i fn hfn
    rw [hfn]
    simp only [Bool.and_eq_true] at h
    obtain ⟨c, hc⟩ := Option.isSome_iff_exists.1 h.1
    simp only [hc, List.drop_zero]
    rw [h.2, Bool.true_and, codeV_flat]
  · cases h
def dq (d : List V) (i : Nat) : V := d.getD i .any
def dqs (d : List V) (a : Nat) : Nat -> List V -> List V
  | 0, tl => tl
  | n + 1, tl => d.getD a .any :: dqs d (a + 1) n tl
end Go.Mach
end
