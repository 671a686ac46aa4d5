/-
  PURE: exact sums of products (binnacleref03.Dot); quaternions of whole numbers.
  Conditions: N at least 1000; finite words.
-/
import Derived.Test.YtccocdgimamdhaaGreatDoorE2
namespace Go.Proofs.YtccocdgimamdhaaGreatDoor
open Go Go.Mach Ieee
set_option linter.unusedVariables false

@[irreducible] def Sc : Nat := 1074
theorem Sc_ge : 1074 <= Sc := by unfold Sc; exact Nat.le_refl _
theorem Sc_le : Sc <= 1074 := by unfold Sc; exact Nat.le_refl _
@[irreducible] def e2 : Nat := 4196
theorem e2_eq : e2 = 2098 + 2098 := by unfold e2; rfl
theorem big2_lt {x : Nat} (h : Bits (2098 + 2098) x) : x < 2 ^ e2 := by
  have h' : Bits e2 x := by rw [e2_eq]; exact h
  exact h'
theorem big2_12 {n x : Nat} (hn : n <= 12) (h : x <= n * 2 ^ e2) : Bits 4200 x := by
  have h3 : n * 2 ^ e2 < 2 ^ 4 * 2 ^ e2 := Nat.mul_lt_mul_of_pos_right (Nat.lt_of_le_of_lt hn (Nat.le_of_ble_eq_true rfl)) (Nat.two_pow_pos e2)
  rw [<- Nat.pow_add] at h3
  have h4 : Bits (4 + e2) x := Nat.lt_of_le_of_lt h h3
  exact bits_mono h4 (by rw [e2_eq]; omega)
def valE (x : Fl) : Int := (ofE x).2 * 2 ^ ((ofE x).1 + Sc).toNat
theorem valE_EV {x : Fl} (hx : finF x = true) : EV (ofE x) (valE x) Sc := by
  obtain ⟨b, s, m, i, rfl, h⟩ := finF_num hx
  exact ⟨(ofE_EV h Sc_ge).1, rfl⟩
theorem valE_num {b : Nat} {s : Bool} {m : Nat} {i : Int} (h : Ieee.double.read b = .number s m i) : valE (some b) = signed s m (i + Sc).toNat := (ofE_EV h Sc_ge).2
theorem valE_lt {x : Fl} (hx : finF x = true) : Bits 2098 (valE x).natAbs := by
  obtain ⟨b, s, m, i, rfl, h⟩ := finF_num hx
  rw [valE_num h, signed_abs]
  have hpl := place_le h
  have hm : Bits 53 m := by
    show _ < 2 ^ 53
    have : (2 : Nat) ^ 53 = 9007199254740992 := by decide
    omega
  refine bits_mono (bits_shift hm _) ?_
  have := Sc_le; omega
theorem EV.bits {x : Int × Int} {v : Int} {E B : Nat} (h : EV x v E) (g : Bits B v.natAbs) : Bits B x.2.natAbs := by
  refine bits_le g ?_
  rw [<- h.2, abs_mul_pow]
  exact Nat.le_mul_of_pos_right _ (Nat.two_pow_pos _)
def dotVal (a b : List Fl) : Nat -> Int
  | 0 => 0
  | n + 1 => dotVal a b n + valE (a.getD n none) * valE (b.getD n none)
def FinL (a : List Fl) (n : Nat) : Prop := ∀ i, i < n -> finF (a.getD i none) = true /\ FW (a.getD i none)
theorem dotE_EV {a b : List Fl} : ∀ n, FinL a n -> FinL b n -> EV (dotE a b n) (dotVal a b n) (Sc + Sc)
  | 0, _, _ => EV_zero _
  | n + 1, ha, hb => (dotE_EV n (fun i hi => ha i (by omega)) (fun i hi => hb i (by omega))).add ((valE_EV (ha n (by omega)).1).mul (valE_EV (hb n (by omega)).1))
theorem dotVal_le {a b : List Fl} : ∀ n, FinL a n -> FinL b n -> (dotVal a b n).natAbs <= n * 2 ^ e2
  | 0, _, _ => by show (0 : Int).natAbs <= _; simp
  | n + 1, ha, hb => by
    have h1 := dotVal_le n (fun i hi => ha i (by omega)) (fun i hi => hb i (by omega))
    have h2 := bits_mul (valE_lt (ha n (by omega)).1) (valE_lt (hb n (by omega)).1)
    show (dotVal a b n + valE (a.getD n none) * valE (b.getD n none)).natAbs <= _
    have h3 := Int.natAbs_add_le (dotVal a b n) (valE (a.getD n none) * valE (b.getD n none))
    rw [Int.natAbs_mul] at h3
    have h4 := big2_lt h2
    rw [Nat.succ_mul]; omega
theorem exAdd_exp {x y : Int × Int} {E : Nat} (h1 : -(E : Int) <= x.1) (h2 : x.1 <= E) (g1 : -(E : Int) <= y.1) (g2 : y.1 <= E) : -(E : Int) <= (exAdd x y).1 /\ (exAdd x y).1 <= E := by
  unfold exAdd
  split
  · exact ⟨g1, g2⟩
  · split
    · exact ⟨h1, h2⟩
    · show -(E : Int) <= min x.1 y.1 /\ min x.1 y.1 <= E
      omega
theorem dotE_exp {a b : List Fl} : ∀ n, FinL a n -> FinL b n -> -((2200 : Nat) : Int) <= (dotE a b n).1 /\ (dotE a b n).1 <= ((2200 : Nat) : Int)
  | 0, _, _ => by show -((2200 : Nat) : Int) <= 0 /\ (0 : Int) <= ((2200 : Nat) : Int); omega
  | n + 1, ha, hb => by
    have h1 := dotE_exp n (fun i hi => ha i (by omega)) (fun i hi => hb i (by omega))
    have h2 := ofE_Ex (ha n (by omega)).1
    have h3 := ofE_Ex (hb n (by omega)).1
    have a1 := h2.1; have a2 := h2.2.1; have b1 := h3.1; have b2 := h3.2.1
    exact exAdd_exp h1.1 h1.2 (by show -((2200 : Nat) : Int) <= (ofE (a.getD n none)).1 + (ofE (b.getD n none)).1; omega) (by show (ofE (a.getD n none)).1 + (ofE (b.getD n none)).1 <= ((2200 : Nat) : Int); omega)
theorem dotE_Ex {a b : List Fl} {n : Nat} (hn : n <= 12) (ha : FinL a n) (hb : FinL b n) : Ex 2200 4200 (dotE a b n) := by
  have h1 := dotE_exp n ha hb
  refine ⟨h1.1, h1.2, (dotE_EV n ha hb).bits ?_⟩
  exact big2_12 hn (dotVal_le n ha hb)
theorem FinL.mono {a : List Fl} {n m : Nat} (h : FinL a n) (hm : m <= n) : FinL a m := fun i hi => h i (by omega)
theorem law_DotE {N : Nat} (hN : 1000 <= N) {a b : List Fl} (hl : a.length = b.length) (hn : a.length <= 12) (ha : FinL a a.length) (hb : FinL b a.length) (k : Int -> Bool -> List Int -> Bool) :
    sj191 N a b k = exK (dotE a b a.length) k := by
  unfold sj191 Gj191 sj145 Gj145
  refine iterG_eq0 (fun i => ((i : Int), (dotE a b i).1, decide ((dotE a b i).2 < 0), digs (dotE a b i).2.natAbs)) a.length ?_ (by omega) (fun i hi K => ?_) (fun K => ?_)
  · show ((0 : Int), (0 : Int), false, ([] : List Int)) = (((0 : Nat) : Int), (0 : Int), decide ((0 : Int) < 0), digs (0 : Int).natAbs)
    rw [show (0 : Int).natAbs = 0 from rfl, digs_zero]; rfl
  · simp only [st_z03_Dot_0, Int.toNat_natCast]
    have f1 := ha i hi
    have f2 := hb i hi
    have d1 := dotE_Ex (a := a) (b := b) (n := i) (by omega) (ha.mono (by omega)) (hb.mono (by omega))
    have e1 := ofE_Ex f1.1
    have e2 := ofE_Ex f2.1
    have em := (e1.mul e2).mono (E' := 2200) (B' := 4200) (by omega) (by omega)
    rw [decide_eq_true (by omega : (i : Int) < ((a.length : Nat) : Int)), cond_true, and_tr (inR_of (by omega) (by omega)), law_Of hN f1.1 f1.2]
    unfold exK
    dsimp only
    rw [and_tr (inR_of (by omega) (by omega)), law_Of hN f2.1 f2.2]
    unfold exK
    dsimp only
    rw [law_ExMul hN e1 e2 (by omega) (by omega)]
    unfold exK
    dsimp only
    rw [law_ExAdd hN d1 em (by omega) _ _ (fun nr cr nsr => (fits .i64 ((i : Int) + 1)) && K ((i : Int) + 1, nr, cr, nsr)) (by rfl) (by rfl)]
    unfold exK
    dsimp only
    rw [and_tr (fits_ok (by omega) (by omega))]
    rfl
  · simp only [st_z03_Dot_0]
    rw [decide_eq_false (by omega), cond_false]
    rfl
end Go.Proofs.YtccocdgimamdhaaGreatDoor
