/-
  THE MACHINE, fifteenth part: each operation, and a region in the order of its text, do as the machine says.
  Conditions: none.
-/
import Derived.Test.YtoagmokejfcpbaaMachN
namespace Go.Mach

section
variable {cx : Cx} {base : Nat} {F : List V} {M : Heap} {k : KOp}

theorem sound_len {c : Call} (hc : c.callee = .builtin .len) (h : opV cx base F M (.call c) k = true) : ∃ z U T, OpGood cx.P base F M (.call c) z U T ∧ k z U T = true := by
  obtain ⟨callee, args, argTypes⟩ := c
  simp only at hc
  subst hc
  simp only [opV] at h
  split at h
  · rename_i t x ht hx
    have ht' : argTypes = #[t] := by apply Array.ext'; simpa using ht
    have hx' : args = #[x] := by apply Array.ext'; simpa using hx
    subst ht'; subst hx'
    obtain ⟨z, hk, hz⟩ := lenV_sound h
    refine ⟨z, _, _, good_pure (fun G w ρ L a o' ho hs hops hT => ?_), hk⟩
    obtain ⟨r, hr, hrep⟩ := hz G w ρ L _ o'.type hs hT (hops x (by simp [Op.operands, Call.operands]))
    refine ⟨r, w, ?_, .inl rfl, hrep⟩
    unfold execOp
    simp only [ho, resolve, invoke, builtin, Sem.run_bind, Sem.run_pure, Result.andThen_ok, List.map_toArray, List.map_cons, List.map_nil, hr]
  · cases h

theorem RepL.append {ok : Nat → Prop} {w : World} {ρ : Rho} {cs ds : List V} {us vs : List Value} (h : RepL ok w ρ cs us) (h' : RepL ok w ρ ds vs) : RepL ok w ρ (cs ++ ds) (us ++ vs) := by
  refine ⟨by simp [h.1, h'.1], fun i c u hc hu => ?_⟩
  rw [List.getElem?_append] at hc hu
  rw [← h.1] at hu
  split at hc
  · rename_i e; rw [if_pos e] at hu; exact h.2 i c u hc hu
  · rename_i e; rw [if_neg e] at hu; exact h'.2 _ c u hc hu

theorem sound_call (hO : OSound cx.P cx.O) (hb : base ≤ M.length) {c : Call} {f : Operand} (hc : c.callee = .value f) (h : opV cx base F M (.call c) k = true) : ∃ z U T, OpGood cx.P base F M (.call c) z U T ∧ k z U T = true := by
  obtain ⟨callee, args, argTypes⟩ := c
  simp only at hc
  subst hc
  simp only [opV] at h
  split at h
  · rename_i g caps ef
    obtain ⟨x, U, T, hk, hg⟩ := callV_sound hO h
    refine ⟨x, U, T, ?_, hk⟩
    intro G w ρ L a o' ho hbase hsim hops hT hnew N Q hn
    have hf := hops f (by simp [Op.operands, Call.operands]); rw [ef] at hf
    obtain ⟨us, hv, hl, hr⟩ := hf.fn_inv
    have hargs : RepL (okc G ρ L) w ρ (args.toList.map (ev F)) (args.toList.map a.eval) := by
      refine ⟨by simp, fun i c u hc hu => ?_⟩
      rw [List.getElem?_map] at hc hu
      obtain ⟨y, hy, rfl⟩ := Option.map_eq_some_iff.1 hc
      obtain ⟨y', hy', rfl⟩ := Option.map_eq_some_iff.1 hu
      rw [hy] at hy'; cases hy'
      have := List.mem_of_getElem? hy
      exact hops y (by simp only [Op.operands, Call.operands]; simp at this ⊢; exact .inr this)
    have hcall := hg G w ρ L _ hbase hb hsim (hargs.append ⟨hl, hr⟩) hT hnew
    have hrun : (execOp a.eval o').run cx.P w = (callFunc g (args.toList.map a.eval ++ us).toArray).run cx.P w := by
      unfold execOp
      simp only [ho, resolve, hv, Deferred.ofValue, Sem.run_bind, Sem.run_pure, Result.andThen_ok, invoke]
      have e : #[] ++ args.map a.eval ++ us.toArray = (args.toList.map a.eval ++ us).toArray := by apply Array.ext'; simp
      rw [e]
    unfold Oper.wp
    rw [hrun]
    exact hcall o' a N Q fun v w' ⟨ρ', h1, h2, h3, h4⟩ => hn v w' ρ' h1 h2 h3 h4
  · cases h

theorem opV_sound (hO : OSound cx.P cx.O) (hb : base ≤ M.length) {o : Op} (h : opV cx base F M o k = true) : ∃ z U T, OpGood cx.P base F M o z U T ∧ k z U T = true := by
  cases o with
  | move x => exact sound_move h
  | assign x => exact sound_assign h
  | pick c a b => exact sound_pick h
  | alloc t => exact sound_alloc h
  | box t v => exact sound_box h
  | build t ps => exact sound_build h
  | buildSlice t n ps => exact sound_buildSlice h
  | load t x => exact sound_load h
  | store t x y => exact sound_store h
  | nilCheck x => exact sound_nilCheck h
  | binOp op t x y yt => exact sound_binOp h
  | unOp op t x => exact sound_unOp h
  | convert s d x => exact sound_convert h
  | makeFunc f a b => exact sound_makeFunc h
  | makeSlice t l c => exact sound_makeSlice h
  | slice t x l u m => exact sound_slice h
  | fieldAddr t x f => exact sound_fieldAddr h
  | field t x f => exact sound_field h
  | indexAddr t x i => exact sound_indexAddr h
  | index t x i => exact sound_index h
  | extract x i => exact sound_extract h
  | call c =>
    cases hc : c.callee with
    | value f => exact sound_call hO hb hc h
    | invoke r m => simp [opV, hc] at h
    | builtin b =>
      cases b <;> first
        | exact sound_len hc h
        | exact sound_append hc h
        | (simp [opV, hc] at h)
  | _ => simp [opV] at h
end

/-! ### frames -/
structure Sim (G : Gh) (w : World) (ρ : Rho) (s : St) (a : Act) : Prop where
  sim : SimW G w ρ (look s.M)
  dom : ∀ n, s.M.length ≤ n → ρ n = none
  defers : a.defers = []
  fr : ∀ t, Rep (okc G ρ (look s.M)) w ρ (s.F.getD t .any) (a.tmps.getD t undef)
  size : a.tmps.size = s.F.length
  base : G.base ≤ s.M.length

theorem rep_ev {ok : Nat → Prop} {w : World} {ρ : Rho} {F : List V} {a : Act} (h : ∀ t, Rep ok w ρ (F.getD t .any) (a.tmps.getD t undef)) (y : Operand) : Rep ok w ρ (ev F y) (a.eval y) := by
  cases y with
  | tmp t => exact h t
  | const v => exact rep_ofVal1 v
  | global g => exact .val _
  | func f => exact .fn f [] [] rfl (by simp)

theorem putAt_length (M : Heap) (n : Nat) (b : Option Blk) : (putAt M n b).length = max M.length (n + 1) := by
  unfold putAt
  by_cases h : n < M.length
  · simp only [h, decide_true, cond_true, List.length_set]; omega
  · simp only [h, decide_false, cond_false, List.length_append, List.length_replicate, List.length_cons, List.length_nil]; omega
theorem look_putAt (M : Heap) (n : Nat) (b : Option Blk) : look (putAt M n b) = updL (look M) n b := by
  funext m
  unfold putAt look updL
  by_cases h : n < M.length
  · simp only [h, decide_true, cond_true, List.getElem?_set]
    by_cases e : n = m
    · subst e; simp; cases b <;> rfl
    · simp [e, show ¬ m = n from fun h => e h.symm]
  · simp only [h, decide_false, cond_false]
    by_cases e : m = n
    · subst e
      rw [List.getElem?_append_right (by simp; omega)]
      simp [show m - (M.length + (m - M.length)) = 0 by omega]
      cases b <;> rfl
    · simp only [e, if_false]
      by_cases h1 : m < M.length
      · rw [List.append_assoc, List.getElem?_append_left h1]
      · rw [List.append_assoc, List.getElem?_append_right (by omega), List.getElem?_eq_none (by omega : M.length ≤ m)]
        by_cases h2 : m - M.length < n - M.length
        · rw [List.getElem?_append_left (by simpa using h2), List.getElem?_replicate, if_pos h2]
        · rw [List.getElem?_append_right (by simp; omega)]
          have h3 : ¬ m - M.length - (List.replicate (n - M.length) (none : Option Blk)).length = 0 := by simp; omega
          cases h4 : m - M.length - (List.replicate (n - M.length) (none : Option Blk)).length with
          | zero => exact absurd h4 h3
          | succ z => simp
theorem appU_spec : ∀ (U : Upd) (M : Heap), look (appU M U) = updU (look M) U ∧ M.length ≤ (appU M U).length ∧ ∀ n, n ∈ U.map (·.1) → n < (appU M U).length
  | [], M => ⟨rfl, Nat.le_refl _, by simp⟩
  | (m, b) :: r, M => by
    obtain ⟨h1, h2, h3⟩ := appU_spec r (putAt M m b)
    rw [putAt_length] at h2
    refine ⟨by rw [appU, h1, look_putAt]; rfl, by simp only [appU]; omega, fun n hn => ?_⟩
    simp only [List.map_cons, List.mem_cons] at hn
    rcases hn with rfl | hn
    · simp only [appU]; omega
    · exact h3 n hn

theorem setF_getD (F : List V) (d : Option Nat) (x : V) (t : Nat) : (setF F d x).getD t .any = if d = some t ∧ t < F.length then x else F.getD t .any := by
  cases d with
  | none => simp [setF]
  | some u =>
    simp only [setF, List.getD, List.getElem?_set, Option.some.injEq]
    by_cases e : u = t
    · subst e
      by_cases h : u < F.length
      · simp [h]
      · simp [h]
    · simp [e]
theorem setF_length (F : List V) (d : Option Nat) (x : V) : (setF F d x).length = F.length := by cases d <;> simp [setF]
theorem put_getD (a : Act) (d : Option Nat) (v : Value) (t : Nat) : (a.put d v).tmps.getD t undef = if d = some t ∧ t < a.tmps.size then v else a.tmps.getD t undef := by
  cases d with
  | none => simp [Act.put]
  | some u =>
    simp only [Act.put, Array.getD_eq_getD_getElem?, Array.getElem?_setIfInBounds, Option.some.injEq]
    by_cases e : u = t
    · subst e
      by_cases h : u < a.tmps.size
      · simp [h]
      · simp [h]
    · simp [e]
theorem put_size (a : Act) (d : Option Nat) (v : Value) : (a.put d v).tmps.size = a.tmps.size := by cases d <;> simp [Act.put]
theorem put_defers (a : Act) (d : Option Nat) (v : Value) : (a.put d v).defers = a.defers := by cases d <;> rfl

theorem Sim.put {G : Gh} {w w' : World} {ρ ρ' : Rho} {s : St} {a : Act} (h : Sim G w ρ s a) {U : Upd} {d : Option Nat} {x : V} {v : Value} (h1 : SimW G w' ρ' (updU (look s.M) U)) (h2 : Rep (okc G ρ' (updU (look s.M) U)) w' ρ' x v)
    (h3 : Keeps (okc G ρ (look s.M)) w ρ (okc G ρ' (updU (look s.M) U)) w' ρ') (h4 : ∀ n, ρ' n ≠ ρ n → n ∈ U.map (·.1)) : Sim G w' ρ' ⟨setF s.F d x, appU s.M U⟩ (a.put d v) := by
  obtain ⟨u1, u2, u3⟩ := appU_spec U s.M
  refine ⟨by rw [u1]; exact h1, fun n hn => ?_, by rw [put_defers]; exact h.defers, fun t => ?_, by rw [put_size, setF_length]; exact h.size, Nat.le_trans h.base u2⟩
  · by_cases e : ρ' n = ρ n
    · rw [e]; exact h.dom n (by have hn : (appU s.M U).length ≤ n := hn; omega)
    · have hn : (appU s.M U).length ≤ n := hn
      have := u3 n (h4 n e); omega
  · show Rep (okc G ρ' (look (appU s.M U))) w' ρ' ((setF s.F d x).getD t .any) ((a.put d v).tmps.getD t undef)
    rw [u1, setF_getD, put_getD, h.size]
    split
    · exact h2
    · exact (h.fr t).mono h3

theorem yielded_of {G : Gh} {w : World} {ρ : Rho} {s : St} {a : Act} (h : Sim G w ρ s a) {all : Array Oper} {j t : Nat} {b : Bool} (hg : guardTmp all j = some t) (hb : s.F.getD t .any = .bool b) : yielded all a.tmps j = some b ∧ t < s.F.length := by
  have hr := h.fr t
  rw [hb] at hr
  have hv := hr.bool_inv
  have hlt : t < s.F.length := by
    rcases Nat.lt_or_ge t s.F.length with h1 | h1
    · exact h1
    · rw [List.getD, List.getElem?_eq_none h1] at hb; cases hb
  refine ⟨?_, hlt⟩
  unfold guardTmp at hg
  unfold yielded
  rw [hg]
  have hs : t < a.tmps.size := by rw [h.size]; exact hlt
  simp only [Option.bind_some]
  rw [Array.getD_eq_getD_getElem?] at hv
  rw [Array.getElem?_eq_getElem hs] at hv ⊢
  simp only [Option.getD_some] at hv
  rw [hv]

theorem set_same {F : List V} {t : Nat} {x : V} (h : F.getD t .any = x) : F.set t x = F := by
  apply List.ext_getElem?
  intro i
  rw [List.getElem?_set]
  split
  · rename_i e
    subst e
    split
    · rename_i h1; rw [List.getD, List.getElem?_eq_getElem h1] at h; simp at h; rw [← h, List.getElem?_eq_getElem h1]
    · rename_i h1; rw [List.getElem?_eq_none (by omega)]
  · rfl

/-- a region, in the order of the text -/
theorem opsV_sound {cx : Cx} (hO : OSound cx.P cx.O) {base : Nat} {all : Array Oper} : ∀ (l : List Oper) (s : St) (k : St → Bool), base ≤ s.M.length → opsV cx base all l s k = true →
    ∃ s', k s' = true ∧ base ≤ s'.M.length ∧ ∀ (G : Gh) (w : World) (ρ : Rho) (a : Act), G.base = base → Sim G w ρ s a → ∀ (Q : Exit → Act → World → Prop),
      (∀ w' ρ' a', Sim G w' ρ' s' a' → (∀ n q, n < base → ρ n = some q → ρ' n = some q) → Q .normal a' w') → wpList cx.P all Q l a w
  | [], s, k, hb, h => ⟨s, h, hb, fun G w ρ a _ hs Q hq => hq w ρ a hs fun _ _ _ h => h⟩
  | o :: r, s, k, hb, h => by
    have step : ∀ (x : V) (U : Upd) (T : List Nat), OpGood cx.P base s.F s.M o.op x U T → opsV cx base all r ⟨setF s.F o.dst x, appU s.M U⟩ k = true → 
        ∃ s', k s' = true ∧ base ≤ s'.M.length ∧ ∀ (G : Gh) (w : World) (ρ : Rho) (a : Act), G.base = base → Sim G w ρ s a → Region.wanted o (yielded all a.tmps) = true → ∀ (Q : Exit → Act → World → Prop),
          (∀ w' ρ' a', Sim G w' ρ' s' a' → (∀ n q, n < base → ρ n = some q → ρ' n = some q) → Q .normal a' w') → wpList cx.P all Q (o :: r) a w := by
      intro x U T hgood hr
      obtain ⟨u1, u2, u3⟩ := appU_spec U s.M
      obtain ⟨s', hk, hb', hs'⟩ := opsV_sound hO r ⟨setF s.F o.dst x, appU s.M U⟩ k (Nat.le_trans hb u2) hr
      refine ⟨s', hk, hb', fun G w ρ a hG hs hw Q hq => ?_⟩
      unfold wpList
      rw [if_pos hw]
      refine .inl (hgood G w ρ (look s.M) a o rfl hG hs.sim (fun y _ => rep_ev hs.fr y) (fun _ _ => rfl) (fun n b _ hn => ⟨hs.dom n hn, by omega⟩) _ _ fun v w' ρ' h1 h2 h3 h4 => ?_)
      exact hs' G w' ρ' _ hG (hs.put h1 h2 h3 h4) Q fun w'' ρ'' a' hsim hrho => hq w'' ρ'' a' hsim fun n q hn hq' => hrho n q hn (h3.rho n q hq')
    simp only [opsV] at h
    split at h
    · rename_i hg
      obtain ⟨x, U, T, hgood, hr⟩ := opV_sound hO hb h
      obtain ⟨s', hk, hb', hs'⟩ := step x U T hgood hr
      exact ⟨s', hk, hb', fun G w ρ a hG hs Q hq => hs' G w ρ a hG hs (by simp [Region.wanted, hg]) Q hq⟩
    · rename_i j want hg
      split at h
      · rename_i t ht
        split at h
        · rename_i b hb0
          cases e : (b == want) with
          | true =>
            obtain rfl : b = want := by simpa using e
            rw [e, cond_true, set_same hb0] at h
            obtain ⟨x, U, T, hgood, hr⟩ := opV_sound hO hb h
            obtain ⟨s', hk, hb', hs'⟩ := step x U T hgood hr
            exact ⟨s', hk, hb', fun G w ρ a hG hs Q hq => hs' G w ρ a hG hs (by simp [Region.wanted, hg, (yielded_of hs ht hb0).1]) Q hq⟩
          | false =>
            have hbw : b = !want := by cases b <;> cases want <;> simp at e ⊢
            rw [e, cond_false, ← hbw, set_same hb0] at h
            obtain ⟨s', hk, hb', hs'⟩ := opsV_sound hO r ⟨setF s.F o.dst .any, s.M⟩ k hb h
            refine ⟨s', hk, hb', fun G w ρ a hG hs Q hq => ?_⟩
            unfold wpList
            rw [if_neg (by simp [Region.wanted, hg, (yielded_of hs ht hb0).1]; intro e'; rw [e'] at e; simp at e)]
            refine hs' G w ρ _ hG ?_ Q hq
            have := hs.put (U := []) (d := o.dst) (x := .any) (v := undef) hs.sim (.any _) (Keeps.refl _ _ _) (fun n hn => absurd rfl hn)
            exact this
        · cases h
      · cases h
end Go.Mach
