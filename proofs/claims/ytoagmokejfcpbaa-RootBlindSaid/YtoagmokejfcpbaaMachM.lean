/-
  THE MACHINE, thirteenth part: values under new names; values that are lent; what a contract of a function says.
  Conditions: none.
-/
import Derived.Test.YtoagmokejfcpbaaMachL
namespace Go.Mach

theorem renL_get (f : Nat → Option Nat) : ∀ (cs : List V) (i : Nat), (renL f cs)[i]? = (cs[i]?).map (V.ren f)
  | [], i => by simp [renL]
  | c :: r, 0 => by simp [renL]
  | c :: r, i + 1 => by simp [renL, renL_get f r i]
theorem renL_length (f : Nat → Option Nat) : ∀ (cs : List V), (renL f cs).length = cs.length
  | [] => rfl
  | c :: r => by simp [renL, renL_length f r]

theorem ren_sound {ok : Nat → Prop} {w : World} {ρ ρ' : Rho} {f : Nat → Option Nat} (hf : ∀ n m q, f n = some m → ρ n = some q → ρ' m = some q) {x : V} {v : Value} (h : Rep ok w ρ x v) : Rep ok w ρ' (x.ren f) v := by
  induction h with
  | any v => exact .any v
  | nil => exact .nil
  | bool b => exact .bool b
  | int k n => exact .int k n
  | flt x v h => exact .flt x v h
  | val v => exact .val v
  | fn g caps vs hl _ ih =>
    refine .fn g _ vs (by rw [renL_length]; exact hl) fun i c u hc hu => ?_
    rw [renL_get] at hc
    obtain ⟨c0, h0, rfl⟩ := Option.map_eq_some_iff.1 hc
    exact ih i c0 u h0 hu
  | ptr n o p h =>
    simp only [V.ren]
    cases e : f n with
    | none => exact .any _
    | some m => exact .ptr m o p (hf n m _ e h)
  | slw n p h =>
    simp only [V.ren]
    cases e : f n with
    | none => exact .any _
    | some m => exact .slw m p (hf n m _ e h)
  | slv n h =>
    simp only [V.ren]
    cases e : f n with
    | none => exact .any _
    | some m => exact .slv m (hf n m _ e h)
  | sl n o len cap o' p h hl ho =>
    simp only [V.ren]
    cases e : f n with
    | none => exact .any _
    | some m => exact .sl m o len cap o' p (hf n m _ e h) hl ho
  | slvp n o h =>
    simp only [V.ren]
    cases e : f n with
    | none => exact .any _
    | some m => exact .slvp m o (hf n m _ e h)
  | rofn => exact .rofn
  | rof xs b o cap g h1 h2 h3 h4 h5 => exact .rof xs b o cap g h1 h2 h3 h4 h5
  | roin k => exact .roin k
  | roi k xs b o cap h1 h2 h3 h4 => exact .roi k xs b o cap h1 h2 h3 h4
  | ron sz => exact .ron sz
  | ro sz cs b o len cap g h1 h2 h3 h4 h5 h6 _ ih =>
    refine .ro sz _ b o len cap g h1 h2 (by rw [renL_length]; exact h3) h4 (fun i hi => h5 i (by rwa [renL_length] at hi)) (fun i hi => h6 i (by rwa [renL_length] at hi)) fun i c hc => ?_
    rw [renL_get] at hc
    obtain ⟨c0, h0, rfl⟩ := Option.map_eq_some_iff.1 hc
    exact ih i c0 h0
  | pf xs i b o v h1 h2 h3 h4 => exact .pf xs i b o v h1 h2 h3 h4
  | pi k xs i b o h1 h2 h3 => exact .pi k xs i b o h1 h2 h3
  | rp cs i b o g h1 h2 h3 h4 _ ih =>
    refine .rp _ i b o g h1 h2 (fun j hj => h3 j (by rwa [renL_length] at hj)) (fun j hj => h4 j (by rwa [renL_length] at hj)) fun j c hc => ?_
    rw [renL_get] at hc
    obtain ⟨c0, h0, rfl⟩ := Option.map_eq_some_iff.1 hc
    exact ih j c0 h0
  | agg cs vs hl h1 _ ih =>
    refine .agg _ vs (by rw [renL_length]; exact hl) h1 fun i c u hc hu => ?_
    rw [renL_get] at hc
    obtain ⟨c0, h0, rfl⟩ := Option.map_eq_some_iff.1 hc
    exact ih i c0 u h0 hu
  | tup cs vs hl _ ih =>
    refine .tup _ vs (by rw [renL_length]; exact hl) fun i c u hc hu => ?_
    rw [renL_get] at hc
    obtain ⟨c0, h0, rfl⟩ := Option.map_eq_some_iff.1 hc
    exact ih i c0 u h0 hu

theorem RepL.ren {ok : Nat → Prop} {w : World} {ρ ρ' : Rho} {f : Nat → Option Nat} (hf : ∀ n m q, f n = some m → ρ n = some q → ρ' m = some q) {cs : List V} {us : List Value} (h : RepL ok w ρ cs us) : RepL ok w ρ' (renL f cs) us := by
  refine ⟨by rw [renL_length]; exact h.1, fun i c u hc hu => ?_⟩
  rw [renL_get] at hc
  obtain ⟨c0, h0, rfl⟩ := Option.map_eq_some_iff.1 hc
  exact ren_sound hf (h.2 i c0 u h0 hu)

theorem Body.ren_at (f : Nat → Option Nat) (c : Body) (i : Nat) : (c.ren f).at i = (c.at i).map (V.ren f) := by
  cases c with
  | flts xs => simp only [Body.ren, Body.at, Option.map_map]; rfl
  | ints q xs => simp only [Body.ren, Body.at, Option.map_map]; rfl
  | cells cs => exact renL_get f cs i
theorem Body.ren_size (f : Nat → Option Nat) (c : Body) : (c.ren f).size = c.size := by
  cases c with
  | flts xs => rfl
  | ints q xs => rfl
  | cells cs => exact renL_length f cs
theorem BodyRep.ren {ok : Nat → Prop} {w : World} {ρ ρ' : Rho} {f : Nat → Option Nat} (hf : ∀ n m q, f n = some m → ρ n = some q → ρ' m = some q) {c : Body} {cur : Array Value} (h : BodyRep ok w ρ c cur) : BodyRep ok w ρ' (c.ren f) cur := by
  intro i x hx
  rw [Body.ren_at] at hx
  obtain ⟨y, hy, rfl⟩ := Option.map_eq_some_iff.1 hx
  obtain ⟨v, h1, h2, h3⟩ := h i y hy
  exact ⟨v, h1, h2, ren_sound hf h3⟩

theorem freeL_mem : ∀ {cs : List V}, freeL cs = true → ∀ (i : Nat) c, cs[i]? = some c → c.free = true
  | [], _, i, c, h => by simp at h
  | x :: r, hf, 0, c, h => by simp [freeL] at hf h; subst h; exact hf.1
  | x :: r, hf, i + 1, c, h => by simp [freeL] at hf h; exact freeL_mem hf.2 i c h

/-- what names no read-only memory stands under whatever is read only -/
theorem free_rep {ok ok' : Nat → Prop} {w w' : World} {ρ : Rho} {x : V} {v : Value} (h : Rep ok w ρ x v) (hx : x.free = true) : Rep ok' w' ρ x v := by
  induction h with
  | any v => simp [V.free] at hx
  | nil => exact .nil
  | bool b => exact .bool b
  | int k n => exact .int k n
  | flt x v h => exact .flt x v h
  | val v => exact .val v
  | fn g caps vs hl _ ih => exact .fn g caps vs hl fun i c u hc hu => ih i c u hc hu (freeL_mem (by simpa [V.free] using hx) i c hc)
  | ptr n o p h => exact .ptr n o p h
  | slw n p h => exact .slw n p h
  | slv n h => exact .slv n h
  | sl n o len cap o' p h hl ho => exact .sl n o len cap o' p h hl ho
  | slvp n o h => exact .slvp n o h
  | rofn => simp [V.free] at hx
  | rof xs b o cap g h1 h2 h3 h4 h5 => simp [V.free] at hx
  | roin k => simp [V.free] at hx
  | roi k xs b o cap h1 h2 h3 h4 => simp [V.free] at hx
  | ron sz => simp [V.free] at hx
  | ro sz cs b o len cap g h1 h2 h3 h4 h5 h6 _ ih => simp [V.free] at hx
  | pf xs i b o v h1 h2 h3 h4 => simp [V.free] at hx
  | pi k xs i b o h1 h2 h3 => simp [V.free] at hx
  | rp cs i b o g h1 h2 h3 h4 _ ih => simp [V.free] at hx
  | agg cs vs hl h1 _ ih => exact .agg cs vs hl h1 fun i c u hc hu => ih i c u hc hu (freeL_mem (by simpa [V.free] using hx) i c hc)
  | tup cs vs hl _ ih => exact .tup cs vs hl fun i c u hc hu => ih i c u hc hu (freeL_mem (by simpa [V.free] using hx) i c hc)
theorem BodyRep.free {ok ok' : Nat → Prop} {w w' : World} {ρ : Rho} {c : Body} {cur : Array Value} (h : BodyRep ok w ρ c cur) (hx : c.free = true) : BodyRep ok' w' ρ c cur := by
  intro i x hc
  obtain ⟨v, h1, h2, h3⟩ := h i x hc
  refine ⟨v, h1, h2, ?_⟩
  cases c with
  | flts xs => simp only [Body.at, Option.map_eq_some_iff] at hc; obtain ⟨y, _, rfl⟩ := hc; exact .flt _ _ h3.flt_inv
  | ints q xs => simp only [Body.at, Option.map_eq_some_iff] at hc; obtain ⟨y, _, rfl⟩ := hc; obtain rfl := h3.int_inv; exact .int _ _
  | cells cs => exact free_rep h3 (freeL_mem (by simpa [Body.free] using hx) i x hc)

/-! ### lending -/
theorem mapM_get {α β : Type} {f : α → Option β} : ∀ {l : List α} {r : List β}, l.mapM f = some r → l.length = r.length ∧ ∀ (i : Nat) b, r[i]? = some b → ∃ a, l[i]? = some a ∧ f a = some b
  | [], r, h => by simp at h; subst h; simp
  | a :: l, r, h => by
    simp only [List.mapM_cons, Option.bind_eq_bind, Option.pure_def] at h
    cases ha : f a with
    | none => simp [ha] at h
    | some b =>
      cases hl : l.mapM f with
      | none => simp [ha, hl] at h
      | some r' =>
        simp [ha, hl] at h
        subst h
        obtain ⟨h1, h2⟩ := mapM_get hl
        refine ⟨by simp [h1], fun i c hc => ?_⟩
        cases i with
        | zero => simp at hc; subst hc; exact ⟨a, rfl, ha⟩
        | succ i => exact h2 i c (by simpa using hc)

/-- read only: what was, and what is lent -/
def okL (ok : Nat → Prop) (ρ : Rho) (L : LK) (B : List Nat) (b : Nat) : Prop := ok b ∨ ∃ n p blk, n ∈ B ∧ L n = some blk ∧ ρ n = some (some p) ∧ p.b = b

theorem keeps_okL {ok : Nat → Prop} {w : World} {ρ : Rho} {L : LK} (B : List Nat) : Keeps ok w ρ (okL ok ρ L B) w ρ := ⟨fun _ _ h => h, fun _ _ h => ⟨.inl h, rfl⟩, Nat.le_refl _⟩

theorem mem_flatten_map {α β : Type} {f : α → List β} {l : List α} {a : α} {b : β} (ha : a ∈ l) (hb : b ∈ f a) : b ∈ (l.map f).flatten :=
  List.mem_flatten.2 ⟨f a, List.mem_map.2 ⟨a, ha, rfl⟩, hb⟩

theorem lend_sound {G : Gh} {w : World} {ρ : Rho} {L : LK} {M : Heap} (hs : SimW G w ρ L) (B : List Nat) (hB : ∀ n, n ∈ B → L n = look M n) :
    ∀ (d : Nat) (x y : V) (v : Value), lend M d x = some y → (∀ n, n ∈ lent M d x → n ∈ B) → Rep (okc G ρ L) w ρ x v → Rep (okL (okc G ρ L) ρ L B) w ρ y v := by
  intro d
  induction d with
  | zero => intro x y v h; simp [lend] at h
  | succ d ih =>
    -- a block's cells, or a part of them
    have cells : ∀ (n o m cap s : Nat) (p : Place) (cur : Array Value) (blk : Blk) (cs cs' : List V), n ∈ B → L n = some blk → ρ n = some (some p) → w.heap[p.b]? = some (.cells cur blk.e (0, 0)) → BodyRep (okc G ρ L) w ρ blk.c cur →
        cs.mapM (lend M d) = some cs' → (∀ z, z ∈ cs → ∀ n, n ∈ lent M d z → n ∈ B) → (∀ i, i < cs.length → blk.c.at (o + i) = cs[i]?) → m * s = cs.length → m ≤ cap → Rep (okL (okc G ρ L) ρ L B) w ρ (.ro s cs') (.slice (some ⟨p.b, o, none⟩) m cap) := by
      intro n o m cap s p cur blk cs cs' hn hLn hp hc hb hm hl hat hms hcap
      obtain ⟨m1, m2⟩ := mapM_get hm
      have hlt : p.b < w.heap.size := (Array.getElem?_eq_some_iff.1 hc).1
      have hf : ∀ i, ∃ u : Value, i < cs.length → (w.cell? ⟨p.b, o + i, none⟩ = some u ∧ u.oneCell' = true ∧ ∀ z, cs[i]? = some z → Rep (okc G ρ L) w ρ z u) := by
        intro i
        by_cases hi : i < cs.length
        · obtain ⟨u, u1, u2, u3⟩ := hb (o + i) cs[i] (by rw [hat i hi]; simp [hi])
          exact ⟨u, fun _ => ⟨cell_of_heap hc u1, u2, fun z hz => by simp [hi] at hz; subst hz; exact u3⟩⟩
        · exact ⟨.bool false, fun h => absurd h hi⟩
      obtain ⟨g, hg⟩ := Classical.skolem.1 hf
      refine .ro s cs' p.b o m cap g (.inr ⟨n, p, blk, hn, hLn, hp, rfl⟩) hlt (by rw [hms, m1]) hcap (fun i hi => (hg i (by omega)).1) (fun i hi => (hg i (by omega)).2.1) fun i c hc => ?_
      obtain ⟨a, ha, hla⟩ := m2 i c hc
      have hi : i < cs.length := (List.getElem?_eq_some_iff.1 ha).1
      exact ih a c _ hla (hl a (List.mem_of_getElem? ha)) ((hg i hi).2.2 a ha)
    have fls : ∀ (n o m cap : Nat) (p : Place) (cur : Array Value) (blk : Blk) (xs : List Fl), n ∈ B → L n = some blk → ρ n = some (some p) → w.heap[p.b]? = some (.cells cur blk.e (0, 0)) → BodyRep (okc G ρ L) w ρ blk.c cur →
        (∀ i, i < xs.length → blk.c.at (o + i) = (xs[i]?).map .flt) → m = xs.length → m ≤ cap → Rep (okL (okc G ρ L) ρ L B) w ρ (.rof xs) (.slice (some ⟨p.b, o, none⟩) m cap) := by
      intro n o m cap p cur blk xs hn hLn hp hc hb hat hms hcap
      have hlt : p.b < w.heap.size := (Array.getElem?_eq_some_iff.1 hc).1
      have hf : ∀ i, ∃ u : Value, i < xs.length → (w.cell? ⟨p.b, o + i, none⟩ = some u ∧ ∀ z, xs[i]? = some z → FRep z u) := by
        intro i
        by_cases hi : i < xs.length
        · obtain ⟨u, u1, u2, u3⟩ := hb (o + i) (.flt xs[i]) (by rw [hat i hi]; simp [hi])
          exact ⟨u, fun _ => ⟨cell_of_heap hc u1, fun z hz => by simp [hi] at hz; subst hz; exact u3.flt_inv⟩⟩
        · exact ⟨.bool false, fun h => absurd h hi⟩
      obtain ⟨g, hg⟩ := Classical.skolem.1 hf
      subst hms
      exact .rof xs p.b o cap g (.inr ⟨n, p, blk, hn, hLn, hp, rfl⟩) hlt hcap (fun i hi => (hg i hi).1) (fun i x hx => (hg i (List.getElem?_eq_some_iff.1 hx).1).2 x hx)
    have ins : ∀ (n o m cap : Nat) (p : Place) (cur : Array Value) (blk : Blk) (q : IntKind) (xs : List Int), n ∈ B → L n = some blk → ρ n = some (some p) → w.heap[p.b]? = some (.cells cur blk.e (0, 0)) → BodyRep (okc G ρ L) w ρ blk.c cur →
        (∀ i, i < xs.length → blk.c.at (o + i) = (xs[i]?).map (.int q)) → m = xs.length → m ≤ cap → Rep (okL (okc G ρ L) ρ L B) w ρ (.roi q xs) (.slice (some ⟨p.b, o, none⟩) m cap) := by
      intro n o m cap p cur blk q xs hn hLn hp hc hb hat hms hcap
      have hlt : p.b < w.heap.size := (Array.getElem?_eq_some_iff.1 hc).1
      subst hms
      refine .roi q xs p.b o cap (.inr ⟨n, p, blk, hn, hLn, hp, rfl⟩) hlt hcap fun i x hx => ?_
      have hi := (List.getElem?_eq_some_iff.1 hx).1
      obtain ⟨u, u1, u2, u3⟩ := hb (o + i) (.int q x) (by rw [hat i hi, hx]; rfl)
      obtain rfl := u3.int_inv
      exact cell_of_heap hc u1
    intro x y v h hl hx
    cases x <;> simp only [lend, lent] at h hl
    case slw n =>
      cases hM : look M n with
      | none => simp [hM] at h
      | some blk =>
        obtain ⟨e, s, c⟩ := blk
        simp only [hM] at h hl
        have hnB : n ∈ B := by cases c <;> exact hl n (by simp)
        have hL : L n = some ⟨e, s, c⟩ := by rw [hB n hnB, hM]
        rcases hx.slw_inv with ⟨p, hp, rfl⟩ | ⟨hp, rfl⟩
        · obtain ⟨cur, c1, c2, c3, c4, c5, c6⟩ := hs.place hL hp
          cases c with
          | flts xs =>
            simp only at h hl
            obtain ⟨e1, e2⟩ := cond_some h
            obtain rfl : s = 1 := by simpa using e1
            cases e2
            exact fls n 0 p.len p.cap p cur _ xs hnB hL hp c1 c6 (fun i hi => by simp [Body.at]) (by simpa [Body.size] using c3) c4
          | ints q xs =>
            simp only at h hl
            obtain ⟨e1, e2⟩ := cond_some h
            obtain rfl : s = 1 := by simpa using e1
            cases e2
            exact ins n 0 p.len p.cap p cur _ q xs hnB hL hp c1 c6 (fun i hi => by simp [Body.at]) (by simpa [Body.size] using c3) c4
          | cells cs =>
            simp only at h hl
            obtain ⟨cs', h1, rfl⟩ := Option.map_eq_some_iff.1 h
            exact cells n 0 p.len p.cap s p cur _ cs cs' hnB hL hp c1 c6 h1 (fun z hz m hm => hl m (List.mem_cons_of_mem _ (mem_flatten_map hz hm))) (fun i hi => by simp [Body.at]) (by simpa [Body.size] using c3) c4
        · have h0 := hs.empty hL hp
          cases c with
          | flts xs =>
            simp only at h
            obtain ⟨e1, e2⟩ := cond_some h
            obtain rfl : xs = [] := List.eq_nil_of_length_eq_zero h0
            cases e2; exact .rofn
          | ints q xs =>
            simp only at h
            obtain ⟨e1, e2⟩ := cond_some h
            obtain rfl : xs = [] := List.eq_nil_of_length_eq_zero h0
            cases e2; exact .roin _
          | cells cs =>
            simp only at h
            obtain rfl : cs = [] := List.eq_nil_of_length_eq_zero h0
            simp at h; subst h; exact .ron _
    case sl n o len =>
      cases hM : look M n with
      | none => simp [hM] at h
      | some blk =>
        simp only [hM] at h hl
        cases hcut : blk.c.cut o (scale len blk.sz) with
        | none => simp [hcut] at h
        | some c =>
          simp only [hcut] at h hl
          have hnB : n ∈ B := by cases c <;> exact hl n (by simp)
          have hL : L n = some blk := by rw [hB n hnB, hM]
          obtain ⟨k1, k2, k3⟩ := Body.cut_sound hcut
          rw [scale_eq] at k1 k2 k3
          rcases hx.sl_inv with ⟨p, cap, o', hp, hcap, ho', rfl⟩ | ⟨hp, rfl, rfl⟩
          · obtain ⟨cur, c1, c2, c3, c4, c5, c6⟩ := hs.place hL hp
            have hoff : ∀ i, i < c.size → c.at i = blk.c.at (o' + i) := by
              intro i hi
              rcases ho' with rfl | rfl
              · exact k3 i (by omega)
              · simp at k1; omega
            cases c with
            | flts xs =>
              simp only at h
              obtain ⟨e1, e2⟩ := cond_some h
              have hs1 : blk.sz = 1 := by simpa using e1
              cases e2
              exact fls n o' len cap p cur blk xs hnB hL hp c1 c6 (fun i hi => by rw [← hoff i hi]; rfl) (by simpa [Body.size, hs1] using k1.symm) hcap
            | ints q xs =>
              simp only at h
              obtain ⟨e1, e2⟩ := cond_some h
              have hs1 : blk.sz = 1 := by simpa using e1
              cases e2
              exact ins n o' len cap p cur blk q xs hnB hL hp c1 c6 (fun i hi => by rw [← hoff i hi]; rfl) (by simpa [Body.size, hs1] using k1.symm) hcap
            | cells cs =>
              simp only at h
              obtain ⟨cs', h1, rfl⟩ := Option.map_eq_some_iff.1 h
              exact cells n o' len cap blk.sz p cur blk cs cs' hnB hL hp c1 c6 h1 (fun z hz m hm => hl m (List.mem_cons_of_mem _ (mem_flatten_map hz hm))) (fun i hi => by rw [← hoff i hi]; rfl) (by simpa [Body.size] using k1.symm) hcap
          · simp at k1
            cases c with
            | flts xs =>
              simp only at h
              obtain ⟨e1, e2⟩ := cond_some h
              obtain rfl : xs = [] := List.eq_nil_of_length_eq_zero k1
              cases e2; exact .rofn
            | ints q xs =>
              simp only at h
              obtain ⟨e1, e2⟩ := cond_some h
              obtain rfl : xs = [] := List.eq_nil_of_length_eq_zero k1
              cases e2; exact .roin _
            | cells cs =>
              simp only at h
              obtain rfl : cs = [] := List.eq_nil_of_length_eq_zero k1
              simp at h; subst h; exact .ron _
    case agg cs =>
      obtain ⟨cs', h1, rfl⟩ := Option.map_eq_some_iff.1 h
      obtain ⟨us, rfl, hul, hone, hrep⟩ := hx.agg_inv
      obtain ⟨m1, m2⟩ := mapM_get h1
      refine .agg cs' us (by omega) hone fun i c u hc hu => ?_
      obtain ⟨a, ha, hla⟩ := m2 i c hc
      exact ih a c u hla (fun m hm => hl m (mem_flatten_map (List.mem_of_getElem? ha) hm)) (hrep i a u ha hu)
    all_goals (cases h; exact hx.mono (keeps_okL B))

/-! ### nil slices as empty ones -/
theorem nilTo_sound {P : Program} {ok : Nat → Prop} {w : World} {ρ : Rho} (t : Nat) {x : V} {v : Value} (h : Rep ok w ρ x v) : Rep ok w ρ (nilTo P t x) v := by
  unfold nilTo
  split
  · obtain rfl := h.nil_inv
    split
    · split <;> first | exact .rofn | exact .roin _ | exact .ron _
    · exact .nil
  · exact h
theorem nilToL_length (P : Program) : ∀ (ts : List Nat) (cs : List V), (nilToL P ts cs).length = cs.length
  | [], cs => by simp [nilToL]
  | t :: ts, [] => by simp [nilToL]
  | t :: ts, c :: cs => by simp [nilToL, nilToL_length P ts cs]
theorem nilToL_rep {P : Program} {ok : Nat → Prop} {w : World} {ρ : Rho} : ∀ (ts : List Nat) (cs : List V) (us : List Value), RepL ok w ρ cs us → RepL ok w ρ (nilToL P ts cs) us
  | [], cs, us, h => by simpa [nilToL] using h
  | t :: ts, [], us, h => by simpa [nilToL] using h
  | t :: ts, c :: cs, us, h => by
    refine ⟨by rw [nilToL_length]; exact h.1, fun i x u hx hu => ?_⟩
    cases us with
    | nil => simp at hu
    | cons u0 us =>
      have ih := nilToL_rep (P := P) ts cs us ⟨by have := h.1; simp at this; exact this, fun i c u hc hu => h.2 (i + 1) c u (by simpa using hc) (by simpa using hu)⟩
      cases i with
      | zero => simp [nilToL] at hx hu; subst hx; subst hu; exact nilTo_sound t (h.2 0 c u0 (by simp) (by simp))
      | succ i => exact ih.2 i x u (by simpa [nilToL] using hx) (by simpa using hu)
theorem nilArg_sound {P : Program} {ok : Nat → Prop} {w : World} {ρ : Rho} (t : Nat) {x : V} {v : Value} (h : Rep ok w ρ x v) : Rep ok w ρ (nilArg P t x) v := by
  unfold nilArg
  split
  · obtain ⟨us, rfl, hl, h1, hr⟩ := h.agg_inv
    have := nilToL_rep (P := P) (kinds P 4 t) _ us ⟨hl, hr⟩
    exact .agg _ us this.1 h1 this.2
  · exact nilTo_sound t h
theorem nilArgs_length (P : Program) : ∀ (ts : List Nat) (cs : List V), (nilArgs P ts cs).length = cs.length
  | [], cs => by simp [nilArgs]
  | t :: ts, [] => by simp [nilArgs]
  | t :: ts, c :: cs => by simp [nilArgs, nilArgs_length P ts cs]
theorem nilArgs_rep {P : Program} {ok : Nat → Prop} {w : World} {ρ : Rho} : ∀ (ts : List Nat) (cs : List V) (us : List Value), RepL ok w ρ cs us → RepL ok w ρ (nilArgs P ts cs) us
  | [], cs, us, h => by simpa [nilArgs] using h
  | t :: ts, [], us, h => by simpa [nilArgs] using h
  | t :: ts, c :: cs, us, h => by
    refine ⟨by rw [nilArgs_length]; exact h.1, fun i x u hx hu => ?_⟩
    cases us with
    | nil => simp at hu
    | cons u0 us =>
      have ih := nilArgs_rep (P := P) ts cs us ⟨by have := h.1; simp at this; exact this, fun i c u hc hu => h.2 (i + 1) c u (by simpa using hc) (by simpa using hu)⟩
      cases i with
      | zero => simp [nilArgs] at hx hu; subst hx; subst hu; exact nilArg_sound t (h.2 0 c u0 (by simp) (by simp))
      | succ i => exact ih.2 i x u (by simpa [nilArgs] using hx) (by simpa using hu)

/-! ### contracts -/
/-- a call comes back with what R says (a function with a body, or one of the model's own) -/
def InvP (P : Program) (f : FuncId) (args : Array Value) (w : World) (R : Value → World → Prop) : Prop :=
  ∀ (o : Oper) (a : Act) (N : Act → World → Prop) (Q : Exit → Act → World → Prop), (∀ v w', R v w' → N (a.put o.dst v) w') → o.upon P a N Q ((callFunc f args).run P w)

def gh (w : World) (n : Nat) (ok : Nat → Prop) : Gh := ⟨w.heap.size, n, w, ok⟩
def live (H : List Blk) : LK := look (H.map some)

/-- THE CONTRACT: handed args and the blocks H, the function answers r and leaves the blocks H' (the first of them are those of H) -/
def Ok (P : Program) (f : FuncId) (args : List V) (H : List Blk) (r : V) (H' : List Blk) : Prop :=
  ∀ (w : World) (ρ : Rho) (ok : Nat → Prop) (vs : List Value), SimW (gh w H.length ok) w ρ (live H) → (∀ n, H.length ≤ n → ρ n = none) → RepL (okc (gh w H.length ok) ρ (live H)) w ρ args vs →
    InvP P f vs.toArray w fun v w' => ∃ ρ', (∀ n, n < H.length → ρ' n = ρ n) ∧ (∀ n, H'.length ≤ n → ρ' n = none) ∧ SimW (gh w H.length ok) w' ρ' (live H') ∧ Rep (okc (gh w H.length ok) ρ' (live H')) w' ρ' r v

def OSound (P : Program) (O : Oracle) : Prop := ∀ f args H k, O f args H k = true → ∃ r H', Ok P f args H r H' ∧ k r H' = true

end Go.Mach
