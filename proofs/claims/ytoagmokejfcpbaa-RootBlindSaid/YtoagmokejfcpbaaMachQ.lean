/-
  THE MACHINE, seventeenth part: a region that draws its order does as the machine says.
  Conditions: none.
-/
import Derived.Test.YtoagmokejfcpbaaMachP
namespace Go.Mach

theorem yielded_at {all : Array Oper} {tmps : Array Value} {j g : Nat} {b : Bool} (hg : guardTmp all j = some g) (h : tmps.getD g undef = .bool b) : yielded all tmps j = some b := by
  unfold guardTmp at hg
  unfold yielded
  rw [hg, Option.bind_some]
  rw [Array.getD_eq_getD_getElem?] at h
  cases e : tmps[g]? with
  | none => rw [e] at h; simp [undef] at h
  | some v => rw [e] at h; simp at h; rw [h]

theorem reads_ops {all : Array Oper} {o : Oper} {t : Nat} (h : Operand.tmp t ∈ o.op.operands) : t ∈ Oper.reads all o := by
  unfold Oper.reads tmpsOf
  refine List.mem_append_left _ (List.mem_filterMap.2 ⟨.tmp t, Array.mem_def.1 h, rfl⟩)
theorem reads_guard {all : Array Oper} {o : Oper} {j g : Nat} {want : Bool} (h : o.guard = some (j, want)) (hg : guardTmp all j = some g) : g ∈ Oper.reads all o := by
  unfold Oper.reads
  refine List.mem_append_right _ ?_
  rw [h]; simp [hg]

structure Inv (G : Gh) (s : St) (ts : List Tr) (ρ0 : Rho) (S : Nat → Bool) (a : Act) (w : World) (ρ : Rho) : Prop where
  sim : SimW G w ρ (accL S 0 ts (look s.M))
  fr : ∀ u, Rep (okc G ρ (accL S 0 ts (look s.M))) w ρ (accF S 0 ts (fun u => s.F.getD u .any) u) (a.tmps.getD u undef)
  defers : a.defers = []
  size : a.tmps.size = s.F.length
  dom : ∀ m, s.M.length ≤ m → (∀ (j : Nat) t, ts[j]? = some t → S j = true → m ∉ t.U.map (·.1)) → ρ m = none
  rho : ∀ m q, ρ0 m = some q → ρ m = some q

theorem draw_any {P : Program} {base : Nat} {all : Array Oper} {s s' : St} {ts : List Tr} (hlex : Lex P base all all.toList s ts s' 0) (hord : orderly (closures all.toList []) 0 [] 0 (ts.map (Tr.did all)) = true) (hedge : edgesOk 0 all.toList = true) (hb' : base ≤ s'.M.length)
    {G : Gh} (hG : G.base = base) {ρ0 : Rho} {Q : Exit → Act → World → Prop} (hQ : ∀ w' ρ' a', Sim G w' ρ' s' a' → (∀ n q, n < base → ρ0 n = some q → ρ' n = some q) → Q .normal a' w') :
    ∀ (fuel : Nat) (listed : Array Bool) (a : Act) (w : World) (ρ : Rho), listed.size = all.size → (∀ (i : Nat) o, all[i]? = some o → listed.getD i false = true → ∀ e, e ∈ o.after → Region.binds .any e = true → listed.getD e.on false = true) →
      Inv G s ts ρ0 (fun i => listed.getD i false) a w ρ → cnt (fun i => listed.getD i false) all.size ≤ fuel → wpAny P .any all Q fuel listed a w := by
  have hlen : all.size = ts.length := by rw [← hlex.len]; simp
  have hget : ∀ (i : Nat) o, all[i]? = some o ↔ all.toList[i]? = some o := by intro i o; simp
  -- where all is done
  have fin : ∀ (listed : Array Bool) (a : Act) (w : World) (ρ : Rho), listed.size = all.size → Inv G s ts ρ0 (fun i => listed.getD i false) a w ρ → Region.ready .any all listed = [] → Q .normal a w := by
    intro listed a w ρ hls hinv hready
    have hall : ∀ i, i < all.size → listed.getD i false = true := by
      intro i
      induction i using Nat.strongRecOn with
      | _ i ih =>
        intro hi
        by_cases hs : listed.getD i false = true
        · exact hs
        · exfalso
          have hmem : i ∈ Region.ready .any all listed := by
            unfold Region.ready
            refine List.mem_filter.2 ⟨List.mem_range.2 hi, ?_⟩
            have h1 : listed.getD i true = false := by
              rw [Array.getD_eq_getD_getElem?, Array.getElem?_eq_getElem (by omega)] at hs ⊢
              simp at hs ⊢; exact hs
            rw [h1]
            simp only [Bool.not_false, Bool.true_and]
            rw [Array.getElem?_eq_getElem hi]
            simp only [Option.map_some, Option.getD_some]
            rw [Array.all_eq_true']
            intro e he
            cases hbn : Region.binds .any e with
            | false => rfl
            | true =>
              have := edgesOk_sound _ 0 hedge i all[i] (by simp [hi]) e he hbn
              simp only [Bool.not_true, Bool.false_or]
              exact ih e.on (by omega) (by omega)
          rw [hready] at hmem; cases hmem
    have hS : ∀ (j : Nat) t, ts[j]? = some t → (fun i => listed.getD i false) (0 + j) = (fun _ => true) (0 + j) := by
      intro j t hj
      have := (List.getElem?_eq_some_iff.1 hj).1
      simp only [Nat.zero_add]
      exact hall j (by omega)
    have hL : accL (fun i => listed.getD i false) 0 ts (look s.M) = look s'.M := by
      rw [hlex.lk]; funext m
      exact accL_agree ts 0 _ _ (fun j t hj _ => hS j t hj) rfl
    refine hQ w ρ a ⟨by rw [← hL]; exact hinv.sim, fun n hn => ?_, hinv.defers, fun u => ?_, by rw [hinv.size, hlex.flen], by rw [hG]; exact hb'⟩ fun n q _ h => hinv.rho n q h
    · refine hinv.dom n (Nat.le_trans hlex.mono hn) fun j t hj _ hm => ?_
      have := hlex.keys j t hj n hm; omega
    · have he := accF_agree (S := fun i => listed.getD i false) (S' := fun _ => true) (u := u) ts 0 (fun u => s.F.getD u .any) (fun u => s.F.getD u .any) (fun j t hj _ => hS j t hj) rfl
      rw [← hL, hlex.fr u, ← he]
      exact hinv.fr u
  intro fuel
  induction fuel with
  | zero =>
    intro listed a w ρ hls hcl hinv hcnt
    have hall := cnt_zero all.size (by omega) (S := fun i => listed.getD i false)
    have hr : Region.ready .any all listed = [] := by
      unfold Region.ready
      rw [List.filter_eq_nil_iff]
      intro i hi
      have hi := List.mem_range.1 hi
      have h1 : listed.getD i false = true := hall i hi
      have h2 : listed.getD i true = true := by
        rw [Array.getD_eq_getD_getElem?, Array.getElem?_eq_getElem (by omega)] at h1 ⊢
        simpa using h1
      simp [h2]
    exact ⟨hr, fin listed a w ρ hls hinv hr⟩
  | succ fuel ih =>
    intro listed a w ρ hls hcl hinv hcnt
    refine ⟨fin listed a w ρ hls hinv, fun i hi => ?_⟩
    unfold Region.ready at hi
    obtain ⟨hi1, hi2⟩ := List.mem_filter.1 hi
    have hin := List.mem_range.1 hi1
    obtain ⟨hi3, hi4⟩ := and_true hi2
    have hSi : listed.getD i false = false := by
      rw [Array.getD_eq_getD_getElem?, Array.getElem?_eq_getElem (by omega)] at hi3 ⊢
      simpa using hi3
    have hti : ts[i]? = some ts[i] := by simp [show i < ts.length by omega]
    generalize ts[i] = t at hti
    obtain ⟨x1, x2, x3, x4, x5, x6, x7, x8, x9, x10⟩ := hlex.each i t hti
    simp only [Nat.zero_add] at x7 x8 x9 x10
    have hoi : all[i]? = some t.o := (hget i t.o).2 x1
    rw [hoi] at hi4
    simp only [Option.map_some, Option.getD_some, Array.all_eq_true'] at hi4
    have hedges : ∀ e, e ∈ t.o.after → Region.binds .any e = true → listed.getD e.on false = true := by
      intro e he hbn
      have := hi4 e he
      simpa [hbn] using this
    have hclo : ∀ (i : Nat) o, all.toList[i]? = some o → (∀ e, e ∈ o.after → Region.binds .any e = true → listed.getD e.on false = true) → ∀ j, j ∈ (closures all.toList []).getD i [] → listed.getD j false = true :=
      fun i o ho he j hj => closures_sound (S := fun i => listed.getD i false) all.toList [] [] rfl (fun i o ho => hcl i o ((hget i o).2 (by simpa using ho))) (by intro i o h; simp at h) i o (by simpa using ho) he j hj
    -- two operations that meet are ordered
    have meetS : ∀ (j : Nat) tj, ts[j]? = some tj → j ≠ i → (¬ (j < i → apart (tj.did all) (t.did all) = true) ∨ ¬ (i < j → apart (t.did all) (tj.did all) = true)) → listed.getD j false = decide (j < i) := by
      intro j tj hj hne hno
      obtain ⟨y1, _⟩ := hlex.each j tj hj
      rcases Nat.lt_or_gt_of_ne hne with hlt | hgt
      · have hna : ¬ apart (tj.did all) (t.did all) = true := by
          rcases hno with h | h
          · exact fun h' => h fun _ => h'
          · exact absurd (fun h2 : i < j => by omega) h
        have := (orderly_sound _ [] 0 hord j i _ _ hlt (Nat.zero_le _) (by simp [hj]) (by simp [hti])).resolve_right hna
        rw [hclo i t.o x1 hedges j this]; simp [hlt]
      · have hna : ¬ apart (t.did all) (tj.did all) = true := by
          rcases hno with h | h
          · exact absurd (fun h2 : j < i => by omega) h
          · exact fun h' => h fun _ => h'
        have hcj := (orderly_sound _ [] 0 hord i j _ _ hgt (Nat.zero_le _) (by simp [hti]) (by simp [hj])).resolve_right hna
        cases hs : listed.getD j false with
        | false => simp; omega
        | true =>
          have := hclo j tj.o y1 (hcl j tj.o ((hget j tj.o).2 y1) hs) i hcj
          rw [hSi] at this; cases this
    have meetF : ∀ (j : Nat) tj u, ts[j]? = some tj → j ≠ i → tj.o.dst = some u → (u ∈ Oper.reads all t.o ∨ t.o.dst = some u) → listed.getD j false = decide (j < i) := by
      intro j tj u hj hne hd hu
      refine meetS j tj hj hne ?_
      rcases Nat.lt_or_gt_of_ne hne with hlt | hgt
      · left; intro h
        have := (apart_sound (h hlt)).1 u hd
        rcases hu with hu | hu
        · exact this.1 hu
        · exact this.2 hu
      · right; intro h
        have hap := apart_sound (h hgt)
        rcases hu with hu | hu
        · exact hap.2.1 u hd hu
        · exact (hap.1 u hu).2 hd
    have meetL : ∀ (j : Nat) tj m, ts[j]? = some tj → j ≠ i → m ∈ tj.U.map (·.1) → (m ∈ t.T ∨ m ∈ t.U.map (·.1)) → listed.getD j false = decide (j < i) := by
      intro j tj m hj hne hd hu
      refine meetS j tj hj hne ?_
      rcases Nat.lt_or_gt_of_ne hne with hlt | hgt
      · left; intro h
        have := (apart_sound (h hlt)).2.2.1 m hd
        rcases hu with hu | hu
        · exact this.1 hu
        · exact this.2 hu
      · right; intro h
        have hap := apart_sound (h hgt)
        rcases hu with hu | hu
        · exact hap.2.2.2 m hd hu
        · exact (hap.2.2.1 m hu).2 hd
    -- what the operation reads is as the walk in the text's order has it
    have hreads : ∀ u, u ∈ Oper.reads all t.o → accF (fun i => listed.getD i false) 0 ts (fun u => s.F.getD u .any) u = t.F.getD u .any := by
      intro u hu
      rw [x7 u]
      refine accF_agree ts 0 _ _ (fun j tj hj hd => ?_) rfl
      simp only [Nat.zero_add]
      by_cases e : j = i
      · subst e; rw [hSi]; simp
      · exact meetF j tj u hj e hd (.inl hu)
    have htouch : ∀ m, m ∈ t.T → accL (fun i => listed.getD i false) 0 ts (look s.M) m = look t.M m := by
      intro m hm
      rw [x9]
      refine accL_agree ts 0 _ _ (fun j tj hj hd => ?_) rfl
      simp only [Nat.zero_add]
      by_cases e : j = i
      · subst e; rw [hSi]; simp
      · exact meetL j tj m hj e hd (.inl hm)
    -- behind it
    have hsz : i < listed.size := by omega
    have hS' : ∀ j, (listed.setIfInBounds i true).getD j false = if j = i then true else listed.getD j false := by
      intro j
      simp only [Array.getD_eq_getD_getElem?, Array.getElem?_setIfInBounds]
      by_cases e : i = j
      · subst e; simp [hsz]
      · simp [e, show ¬ j = i from fun h => e h.symm]
    have hLs : accL (fun j => (listed.setIfInBounds i true).getD j false) 0 ts (look s.M) = updU (accL (fun i => listed.getD i false) 0 ts (look s.M)) t.U := by
      funext m
      by_cases hm : m ∈ t.U.map (·.1)
      · rw [updU_key t.U _ (look t.M) m hm, x10]
        refine accL_agree ts 0 _ _ (fun j tj hj hd => ?_) rfl
        simp only [Nat.zero_add, hS']
        by_cases e : j = i
        · subst e; simp
        · rw [if_neg e, meetL j tj m hj e hd (.inr hm)]
          simp; omega
      · rw [updU_old _ _ _ hm]
        refine accL_agree ts 0 _ _ (fun j tj hj hd => ?_) rfl
        simp only [Nat.zero_add, hS']
        by_cases e : j = i
        · subst e; rw [hti] at hj; cases hj; exact absurd hd hm
        · rw [if_neg e]
    have hFs : ∀ u, accF (fun j => (listed.setIfInBounds i true).getD j false) 0 ts (fun u => s.F.getD u .any) u = if t.o.dst = some u ∧ u < s.F.length then t.x else accF (fun i => listed.getD i false) 0 ts (fun u => s.F.getD u .any) u := by
      intro u
      by_cases hu : t.o.dst = some u
      · have h1 : accF (fun j => (listed.setIfInBounds i true).getD j false) 0 ts (fun u => s.F.getD u .any) u = (setF t.F t.o.dst t.x).getD u .any := by
          rw [x8 u]
          refine accF_agree ts 0 _ _ (fun j tj hj hd => ?_) rfl
          simp only [Nat.zero_add, hS']
          by_cases e : j = i
          · subst e; simp
          · rw [if_neg e, meetF j tj u hj e hd (.inr hu)]
            simp; omega
        rw [h1, setF_getD, x2]
        by_cases hlt : u < s.F.length
        · rw [if_pos ⟨hu, hlt⟩, if_pos ⟨hu, hlt⟩]
        · rw [if_neg (fun h => hlt h.2), if_neg (fun h => hlt h.2)]
          -- a slot that is not there
          rw [x7 u]
          refine accF_agree ts 0 _ _ (fun j tj hj hd => ?_) rfl
          simp only [Nat.zero_add]
          by_cases e : j = i
          · subst e; rw [hSi]; simp
          · exact (meetF j tj u hj e hd (.inr hu)).symm
      · rw [if_neg (fun h => hu h.1)]
        refine accF_agree ts 0 _ _ (fun j tj hj hd => ?_) rfl
        simp only [Nat.zero_add, hS']
        by_cases e : j = i
        · subst e; rw [hti] at hj; cases hj; exact absurd hd hu
        · rw [if_neg e]
    have hcl' : ∀ (j : Nat) o, all[j]? = some o → (listed.setIfInBounds i true).getD j false = true → ∀ e, e ∈ o.after → Region.binds .any e = true → (listed.setIfInBounds i true).getD e.on false = true := by
      intro j o ho hj e he hbn
      rw [hS'] at hj ⊢
      split
      · rfl
      · by_cases e1 : j = i
        · subst e1; rw [hoi] at ho; cases ho; exact hedges e he hbn
        · rw [if_neg e1] at hj; exact hcl j o ho hj e he hbn
    have hcnt' : cnt (fun j => (listed.setIfInBounds i true).getD j false) all.size ≤ fuel := by
      have := cnt_set (S := fun j => listed.getD j false) (S' := fun j => (listed.setIfInBounds i true).getD j false) (i := i) hSi (by simp only [hS']; simp) (fun j hj => by simp only [hS', if_neg hj]) all.size hin
      omega
    have next : ∀ v w' ρ', SimW G w' ρ' (updU (accL (fun i => listed.getD i false) 0 ts (look s.M)) t.U) → Rep (okc G ρ' (updU (accL (fun i => listed.getD i false) 0 ts (look s.M)) t.U)) w' ρ' t.x v →
        Keeps (okc G ρ (accL (fun i => listed.getD i false) 0 ts (look s.M))) w ρ (okc G ρ' (updU (accL (fun i => listed.getD i false) 0 ts (look s.M)) t.U)) w' ρ' → (∀ n, ρ' n ≠ ρ n → n ∈ t.U.map (·.1)) →
        wpAny P .any all Q fuel (listed.setIfInBounds i true) (a.put t.o.dst v) w' := by
      intro v w' ρ' h1 h2 h3 h4
      refine ih _ _ w' ρ' (by simpa using hls) hcl' ⟨by rw [hLs]; exact h1, fun u => ?_, by rw [put_defers]; exact hinv.defers, by rw [put_size]; exact hinv.size, fun m hm hno => ?_, fun m q hq => h3.rho m q (hinv.rho m q hq)⟩ hcnt'
      · rw [hLs, hFs u, put_getD, hinv.size]
        split
        · exact h2
        · exact (hinv.fr u).mono h3
      · by_cases e : ρ' m = ρ m
        · rw [e]
          refine hinv.dom m hm fun j tj hj hs => hno j tj hj ?_
          rw [hS']; split
          · rfl
          · exact hs
        · exact absurd (h4 m e) (hno i t hti (by rw [hS']; simp))
    unfold wpOp
    rw [hoi]
    simp only
    rcases x3 with ⟨hgd, hgood⟩ | ⟨j, want, g, b, g1, g2, g3, g4, g5, g6, g7⟩
    · have hw : Region.wanted t.o (yielded all a.tmps) = true := by
        rcases hgd with hg | ⟨j, want, g, g1, g2, g3⟩
        · simp [Region.wanted, hg]
        · have hr := hinv.fr g
          rw [hreads g (reads_guard g1 g2), g3] at hr
          simp [Region.wanted, g1, yielded_at g2 hr.bool_inv]
      rw [if_pos hw]
      refine .inl (hgood G w ρ _ a t.o rfl hG hinv.sim (fun y hy => ?_) htouch (fun n b hn hM => ?_) _ _ fun v w' ρ' h1 h2 h3 h4 => next v w' ρ' h1 h2 h3 h4)
      · cases y with
        | tmp u =>
          have hr := hinv.fr u
          rw [hreads u (reads_ops hy)] at hr
          exact hr
        | const v => exact rep_ofVal1 v
        | global g => exact .val _
        | func f => exact .fn f [] [] rfl (by simp)
      · have hnk : n ∈ t.U.map (·.1) := List.mem_map.2 ⟨(n, b), hn, rfl⟩
        refine ⟨hinv.dom n (by omega) fun j tj hj hs hm => ?_, by omega⟩
        by_cases e : j = i
        · subst e; rw [hSi] at hs; cases hs
        · have h1 := meetL j tj n hj e hm (.inr hnk)
          rw [hs] at h1
          have hlt : j < i := by simpa using h1.symm
          have := x6 j tj hlt hj n hm
          omega
    · have hr := hinv.fr g
      rw [hreads g (reads_guard g1 g2), g3] at hr
      have hw : ¬ Region.wanted t.o (yielded all a.tmps) = true := by
        simp [Region.wanted, g1, yielded_at g2 hr.bool_inv, g4]
      rw [if_neg hw]
      have h0 := next undef w ρ (by rw [g6]; exact hinv.sim) (by rw [g5]; exact .any _) (by rw [g6]; exact Keeps.refl _ _ _) (fun n hn => absurd rfl hn)
      exact h0

/-- a region that draws its order -/
theorem drawV_sound {cx : Cx} (hO : OSound cx.P cx.O) {base id : Nat} {all : Array Oper} {s : St} {k : St → Bool} (hb : base ≤ s.M.length) (hmix : cx.P.follows .mixedOrders = true) (h : drawV cx base all all.toList s [] k = true) :
    ∃ s', k s' = true ∧ base ≤ s'.M.length ∧ ∀ (G : Gh) (w : World) (ρ : Rho) (a : Act), G.base = base → Sim G w ρ s a → ∀ (Q : Exit → Act → World → Prop),
      (∀ w' ρ' a', Sim G w' ρ' s' a' → (∀ n q, n < base → ρ n = some q → ρ' n = some q) → Q .normal a' w') → (Code.region id all true).wp cx.P Q a w := by
  obtain ⟨ts, s', h1, h2, h3, h4⟩ := drawV_chain hO all.toList s [] k hb h
  have hlex := chain_lex _ _ _ _ h1 0
  have hb' : base ≤ s'.M.length := Nat.le_trans hb hlex.mono
  refine ⟨s', h4, hb', fun G w ρ a hG hs Q hQ => wp_region_any hmix ?_⟩
  obtain ⟨d1, d2⟩ := hs.sim.drew
  have hz : ∀ i, (Array.replicate all.size false).getD i false = false := by
    intro i
    simp only [Array.getD_eq_getD_getElem?, Array.getElem?_replicate]
    split <;> rfl
  have hL0 : accL (fun i => (Array.replicate all.size false).getD i false) 0 ts (look s.M) = look s.M := accL_none _ _ _ fun j _ => hz j
  have hF0 : accF (fun i => (Array.replicate all.size false).getD i false) 0 ts (fun u => s.F.getD u .any) = fun u => s.F.getD u .any := accF_none _ _ _ fun j _ => hz j
  refine draw_any hlex (by simpa using h2) h3 hb' hG hQ all.size _ a w.drew ρ (by simp) ?_ ⟨by rw [hL0]; exact d1, fun u => ?_, hs.defers, hs.size, fun m hm _ => hs.dom m hm, fun _ _ h => h⟩ ?_
  · intro i o _ hi; rw [hz] at hi; cases hi
  · rw [hL0, hF0]; exact (hs.fr u).mono d2
  · have : ∀ n S, cnt S n ≤ n := by
      intro n S
      induction n with
      | zero => exact Nat.le_refl _
      | succ n ih => simp only [cnt]; split <;> omega
    exact this _ _
end Go.Mach
