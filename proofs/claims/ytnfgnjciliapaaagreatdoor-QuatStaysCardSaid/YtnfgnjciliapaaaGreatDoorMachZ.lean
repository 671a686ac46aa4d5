/-
  THE MACHINE, twenty-sixth part: the frame: arguments that came in, as the machine's values; a call's law with nothing written.
  Conditions: none.
-/
import Derived.Test.YtnfgnjciliapaaaGreatDoorMachP
import Derived.WalkKit
import Derived.ProofKit
import Derived.OpenShut
import Derived.Below
import Derived.Carry
import Derived.SizedLaws
section
namespace Go.Mach
open Go.ChangeShapes Go.WideShapes Go.ChangeAt Go.RowKit

section
variable {H : Type} {enc : TypeId × Value -> H} {P : Program} {w : World} {sp : Nat -> Bool} {held : Bool}

def flatB (P : Program) (fs : Array Field) : Bool := fs.toList.zipIdx.all fun p => p.1.offset == p.2 && P.cellsOf p.1.type == 1
theorem flatB_at {fs : Array Field} (h : flatB P fs = true) {i : Nat} {f : Field} (hf : fs[i]? = some f) : f.offset = i /\ P.cellsOf f.type = 1 := by
  have := List.all_eq_true.1 h (f, i) (by rw [List.mem_zipIdx_iff_getElem?]; simpa using hf)
  simpa using this
theorem open_flat {r : Reach} {b0 base : Nat} {t : TypeId} {v : Value} {d : DataW H} {ps : List MemPlace} {fs : Array Field} (ht : P.underlying t = some (.struct fs)) (hfl : flatB P fs = true) (hc : P.cellsOf t = fs.size)
    (hts : P.cellTypes P.depth t = some (fs.toList.map (·.type))) (hval : Value.okWide P w r b0 t v) (hd : DataW.Trod enc P w base sp held t v d ps) :
    ∃ cs : List Value, v = .agg cs.toArray /\ cs.length = fs.size /\ ∃ ys : List (DataW H × List MemPlace), d = .agg (ys.map (·.1)) /\ ys.length = fs.size /\
      ∀ (i : Nat) f, fs[i]? = some f -> ∃ c y n, cs[i]? = some c /\ ys[i]? = some y /\ DataW.trod enc P w base sp held n f.type [c] = some y /\ Cell.okWide P w r b0 f.type c := by
  simp only [Value.okWide, ht] at hval
  obtain ⟨cs, rfl, h2, ts, h3, -, h4⟩ := hval
  rw [hts] at h3
  cases h3
  obtain ⟨fuel, hf⟩ := hd
  have hcells : (Value.cells (.agg cs)) = cs := rfl
  rw [hcells] at hf
  obtain ⟨xs, n, -, hx, hl, hlen, hat⟩ := DataW.trod_struct ht hf
  simp only [Prod.mk.injEq] at hx
  have hsz : cs.toList.length = fs.size := by rw [hl, hc]
  refine ⟨cs.toList, by simp, hsz, xs, hx.1, hlen, fun i f hif => ?_⟩
  obtain ⟨q1, q2⟩ := flatB_at hfl hif
  have hi : i < fs.size := (Array.getElem?_eq_some_iff.1 hif).1
  have hi' : i < cs.toList.length := by omega
  have hx' := hat i f hif
  rw [q1, q2] at hx'
  have e1 : (cs.toList.drop i).take 1 = [cs.toList[i]] := by
    rw [List.take_one, List.head?_drop, List.getElem?_eq_getElem hi']; rfl
  rw [e1, List.getElem?_eq_getElem (by omega)] at hx'
  obtain ⟨u, hu, hcell⟩ := h4 i cs.toList[i] (by simp)
  have hu' : u = f.type := by
    have hm : i % (fs.toList.map (·.type)).length = i := Nat.mod_eq_of_lt (by simpa using hi)
    rw [hm] at hu
    have hif' : fs.toList[i]? = some f := by simpa using hif
    rw [List.getElem?_map, hif'] at hu
    simpa using hu.symm
  subst hu'
  exact ⟨_, _, n, List.getElem?_eq_getElem hi', List.getElem?_eq_getElem (by omega), hx', hcell⟩

theorem open_flat3 {r : Reach} {b0 base : Nat} {t : TypeId} {v : Value} {d : DataW H} {ps : List MemPlace} {f0 f1 f2 : Field} (ht : P.underlying t = some (.struct #[f0, f1, f2])) (hfl : flatB P #[f0, f1, f2] = true) (hc : P.cellsOf t = 3)
    (hts : P.cellTypes P.depth t = some [f0.type, f1.type, f2.type]) (hval : Value.okWide P w r b0 t v) (hd : DataW.Trod enc P w base sp held t v d ps) :
    ∃ (c0 c1 c2 : Value) (y0 y1 y2 : DataW H × List MemPlace), v = .agg #[c0, c1, c2] /\ d = .agg [y0.1, y1.1, y2.1] /\
      (∃ n, DataW.trod enc P w base sp held n f0.type [c0] = some y0) /\ (∃ n, DataW.trod enc P w base sp held n f1.type [c1] = some y1) /\ (∃ n, DataW.trod enc P w base sp held n f2.type [c2] = some y2) /\
      Cell.okWide P w r b0 f0.type c0 /\ Cell.okWide P w r b0 f1.type c1 /\ Cell.okWide P w r b0 f2.type c2 := by
  obtain ⟨cs, rfl, h1, ys, rfl, h2, hat⟩ := open_flat ht hfl hc hts hval hd
  have h1 : cs.length = 3 := h1
  have h2 : ys.length = 3 := h2
  obtain ⟨c0, y0, n0, e0, g0, t0, o0⟩ := hat 0 f0 rfl
  obtain ⟨c1, y1, n1, e1, g1, t1, o1⟩ := hat 1 f1 rfl
  obtain ⟨c2, y2, n2, e2, g2, t2, o2⟩ := hat 2 f2 rfl
  match cs, h1, ys, h2 with
  | [a, b, c], _, [x, y, z], _ =>
    simp at e0 e1 e2 g0 g1 g2
    subst e0; subst e1; subst e2; subst g0; subst g1; subst g2
    exact ⟨_, _, _, _, _, _, rfl, rfl, ⟨_, t0⟩, ⟨_, t1⟩, ⟨_, t2⟩, o0, o1, o2⟩

theorem okWide_spot {r : Reach} {b0 : Nat} {t e : TypeId} {a : Addr} {len cap : Nat} (ht : P.underlying t = some (.slice e)) (hv : Cell.okWide P w r b0 t (.slice (some a) len cap)) : a.spot = none /\ a.block < w.heap.size := by
  simp only [Cell.okWide, ht, Cell.ok] at hv
  obtain ⟨-, -, -, h1, row, cells, h2, -⟩ := hv
  refine ⟨h1, ?_⟩
  unfold World.shape? at h2
  by_cases hb : a.block < w.heap.size
  · exact hb
  · rw [Array.getElem?_eq_none (by omega)] at h2; cases h2

theorem open_int1 {base : Nat} {t : TypeId} {k : IntKind} {n : Nat} {c : Value} {y : DataW H × List MemPlace} (ht : P.underlying t = some (.int k)) (h : DataW.trod enc P w base sp held n t [c] = some y) : ∃ z, c = .int k z /\ (Lit.int k z).wf = true := by
  obtain ⟨z, h1, -, h3⟩ := DataW.trod_int ht h
  cases h1
  exact ⟨z, rfl, h3⟩
theorem open_roi {r : Reach} {b0 base : Nat} {t e : TypeId} {k : IntKind} {n : Nat} {c : Value} {y : DataW H × List MemPlace} (ht : P.underlying t = some (.slice e)) (he : P.underlying e = some (.int k)) (hc : P.cellsOf e = 1)
    (hv : Cell.okWide P w r b0 t c) (h : DataW.trod enc P w base (fun _ => true) held n t [c] = some y) :
    ∃ zs : List Int, (∀ ok : Nat -> Prop, (∀ b, ok b) -> ∀ ρ, Rep ok w ρ (.roi k zs) c) /\ (zs = [] \/ ∃ els spare : List (DataW H), y.1 = .slice els spare /\ els.length = zs.length) /\ (∀ z ∈ zs, (Lit.int k z).wf = true) /\ c.oneCell' = true := by
  rcases open_ints ht he hc h with ⟨hcs, hy⟩ | ⟨a, len, cap, zs, hcs, -, hl, hm, hz, hy, hcell, hwz⟩
  · cases hcs
    exact ⟨[], fun _ _ _ => .roin k, .inl rfl, by simp, rfl⟩
  · cases hcs
    obtain ⟨h1, h2⟩ := okWide_spot ht hv
    obtain ⟨b, off, spot⟩ := a
    simp only at h1 h2
    subst h1
    simp only [if_true] at hz
    refine ⟨zs.take len, fun ok hok ρ => ?_, .inr ⟨_, _, by rw [hy], by simp [lits]⟩, fun z hz' => hwz z (List.mem_of_mem_take hz'), rfl⟩
    have e1 : len = (zs.take len).length := by simp; omega
    have : Rep ok w ρ (.roi k (zs.take len)) (.slice (some ⟨b, off, none⟩) (zs.take len).length cap) := by
      refine .roi k _ b off cap (hok b) h2 (by simp; omega) fun i x hx => ?_
      have hi : i < (zs.take len).length := (List.getElem?_eq_some_iff.1 hx).1
      have hi' : i < zs.length := by simp at hi; omega
      have := hcell i hi'
      have e2 : (Addr.add ⟨b, off, none⟩ i) = ⟨b, off + i, none⟩ := by
        unfold Addr.add; split
        · rename_i h0; subst h0; rfl
        · rfl
      rw [e2] at this
      rw [this]
      have e3 : zs.getD i 0 = x := by
        rw [List.getElem?_take] at hx
        split at hx
        · rw [List.getD_eq_getElem?_getD, hx]; rfl
        · cases hx
      rw [e3]
    rwa [<- e1] at this
theorem sized_part {ts : List TypeId} {ds : List (DataW H)} (h : (DataW.weightsEach P ts ds).all (· <= reachBytes) = true) {j : Nat} {t : TypeId} {fs : Array Field} {parts : List (DataW H)} (ht : ts[j]? = some t) (hd : ds[j]? = some (.agg parts)) (hu : P.underlying t = some (.struct fs)) :
    (DataW.weightsEach P (fs.toList.map (·.type)) parts).all (· <= reachBytes) = true := by
  refine List.all_eq_true.2 fun n hn => List.all_eq_true.1 h n (DataW.weights_mem_each ht hd n ?_)
  simpa [DataW.weights, hu] using hn
end

theorem calls_of_okC {P : Program} {f : FuncId} {args : List V} {W : World} {vs : List Value} (h : OkC P f args [] (.bool true) []) (ht : ∀ b zs, tabT b = some zs -> TabAt W b zs) (hr : ∀ ok : Nat -> Prop, (∀ b, ok b) -> RepL ok W (fun _ => none) args vs) :
    Calls P f vs.toArray W fun e W' => e = .returned (.bool true) /\ Below W.heap.size W W' := by
  have hsim : SimW (gh W ([] : List Blk).length (fun _ => True)) W (fun _ => none) (live []) := by
    refine ⟨fun n blk h => ?_, fun n m bn bm p q h => ?_, fun n p _ h => (by cases h), Nat.le_refl _, rfl, rfl, rfl, fun _ _ _ => rfl, fun b zs e => ⟨trivial, ht b zs e⟩, fun n p h => (by cases h)⟩
    · simp [live, look] at h
    · simp [live, look] at h
  refine (h W (fun _ => none) (fun _ => True) vs hsim (fun _ _ => rfl) (hr _ fun b => ⟨.inl trivial, fun n blk p h => by simp [live, look] at h⟩)).mono fun e W' hq => ?_
  obtain ⟨v, rfl, ρ', -, -, hs, hv⟩ := hq
  have e1 : v = .bool true := by cases hv; rfl
  subst e1
  exact ⟨rfl, hs.os, hs.tape, hs.output, hs.size, fun b hb => hs.old b hb fun n p hn => absurd hn (Nat.not_lt_zero n)⟩

end Go.Mach
end
section
namespace Go.Mach

def flat : Code -> List Code
  | .seq a b => flat a ++ flat b
  | c => [c]
def codesV (cx : Cx) (base : Nat) (an : Nat -> Option Ann) : List Code -> Nat -> St -> K -> Bool
  | [], _, s, κ => κ.nrm s
  | c :: r, bid, s, κ => codeV cx base an c bid s { κ with nrm := fun s' => codesV cx base an r bid s' κ }
theorem codesV_app (cx : Cx) (base : Nat) (an : Nat -> Option Ann) (bid : Nat) (l2 : List Code) : ∀ (l1 : List Code) (s : St) (κ : K), codesV cx base an (l1 ++ l2) bid s κ = codesV cx base an l1 bid s { κ with nrm := fun s' => codesV cx base an l2 bid s' κ }
  | [], s, κ => rfl
  | c :: r, s, κ => by
    simp only [List.cons_append, codesV]
    congr 1
    congr 1
    funext s'
    exact codesV_app cx base an bid l2 r s' κ
theorem codeV_flat (cx : Cx) (base : Nat) (an : Nat -> Option Ann) : ∀ (c : Code) (bid : Nat) (s : St) (κ : K), codeV cx base an c bid s κ = codesV cx base an (flat c) bid s κ := by
  intro c
  induction c with
  | seq a b iha ihb =>
    intro bid s κ
    rw [flat, codesV_app, <- iha]
    simp only [codeV]
    congr 1
    congr 1
    funext s'
    exact ihb bid s' κ
  | _ => intros; rfl
def cds (P : Program) (f : Nat) : List Code := match P.funcs[f]? with
  | some fn => match fn.body with
    | some c => flat c
    | none => []
  | none => []
def sg (P : Program) (f a n : Nat) : List Code := ((cds P f).drop a).take n
theorem codesV_cut {cx : Cx} {base : Nat} {an : Nat -> Option Ann} {P : Program} {f bid : Nat} (a n m : Nat) (h : a + n = m) (s : St) (κ : K) :
    codesV cx base an ((cds P f).drop a) bid s κ = codesV cx base an (sg P f a n) bid s { κ with nrm := fun s' => codesV cx base an ((cds P f).drop m) bid s' κ } := by
  subst h
  rw [<- codesV_app]
  congr 1
  unfold sg
  rw [<- List.drop_drop, List.take_append_drop]
def st0 (P : Program) (f : Nat) (args : List V) (H : List Blk) : St := match P.funcs[f]? with
  | some fn => ⟨args ++ List.replicate (fn.ntmps - args.length) .any, H.map some⟩
  | none => ⟨[], []⟩
def finV (P : Program) (f base : Nat) (k : V -> List Blk -> Bool) : K := match P.funcs[f]? with
  | some fn => ⟨fun s => endV P base fn.results.toList s k, fun _ _ => false, fun s => endV P base fn.results.toList s k⟩
  | none => ⟨fun _ => false, fun _ _ => false, fun _ => false⟩
def okB (P : Program) (f : Nat) : Bool := match P.funcs[f]? with
  | some fn => fn.body.isSome && !(fn.name == "runtime.NumGoroutine")
  | none => false
theorem bodyV_codes {cx : Cx} {an : Nat -> Option Ann} {f : Nat} {args : List V} {H : List Blk} {k : V -> List Blk -> Bool} (h : okB cx.P f = true) :
    bodyV cx an f args H k = codesV cx H.length an ((cds cx.P f).drop 0) 0 (st0 cx.P f args H) (finV cx.P f H.length k) := by
  unfold okB at h
  unfold bodyV cds st0 finV
  split at h
  · rename_i fn hfn
    rw [hfn]
    simp only [Bool.and_eq_true] at h
    obtain ⟨c, hc⟩ := Option.isSome_iff_exists.1 h.1
    simp only [hc, List.drop_zero]
    rw [h.2, Bool.true_and, codeV_flat]
  · cases h
def dq (d : List V) (i : Nat) : V := d.getD i .any
def dqs (d : List V) (a : Nat) : Nat -> List V -> List V
  | 0, tl => tl
  | n + 1, tl => d.getD a .any :: dqs d (a + 1) n tl
def subOp (K L : Int) (o : Oper) : Oper := match o.op with
  | .binOp .mul t x (.const (.int .u64 n)) t' => { o with op := .binOp .mul t x (.const (.int .u64 (cond (n == K) L n))) t' }
  | _ => o
def subC (K L : Int) : Code -> Code
  | .region i ops b => .region i (ops.toList.map (subOp K L)).toArray b
  | .seq a b => .seq (subC K L a) (subC K L b)
  | .cond c a b => .cond c (subC K L a) (subC K L b)
  | c => c
end Go.Mach
end
