/-
  WHOLE NUMBERS AS WORDS of 32 bits, the least ahead: what a list is worth, a number's words.
  Conditions: none.
-/
import Derived.Test.YtjpaijnmiaoopaaGreatDoorMachT
namespace Go.Mach
def mval : List Int -> Nat
 | [] => 0
 | x :: r => x.toNat + 4294967296 * mval r
def InW (m : List Int) : Prop := ∀ x ∈ m, 0 <= x /\ x < 4294967296
def digs (n : Nat) : List Int := if h : n = 0 then [] else ((n % 4294967296 : Nat) : Int) :: digs (n / 4294967296)
termination_by n
decreasing_by omega
theorem digs_zero : digs 0 = [] := by rw [digs]; simp
theorem digs_pos {n : Nat} (h : n ≠ 0) : digs n = ((n % 4294967296 : Nat) : Int) :: digs (n / 4294967296) := by
 rw [digs]; simp [h]
theorem digs_inW : ∀ n, InW (digs n) := by
 intro n
 induction n using Nat.strongRecOn with
 | ind n ih =>
  by_cases h : n = 0
  ·subst h; rw [digs_zero]; intro x hx; cases hx
  ·rw [digs_pos h]
   intro x hx
   rcases List.mem_cons.1 hx with rfl | hx
   ·omega
   ·exact ih (n / 4294967296) (by omega) x hx
theorem mval_digs : ∀ n, mval (digs n) = n := by
 intro n
 induction n using Nat.strongRecOn with
 | ind n ih =>
  by_cases h : n = 0
  ·subst h; rw [digs_zero]; rfl
  ·rw [digs_pos h, mval, ih (n / 4294967296) (by omega), Int.toNat_natCast]
   omega
theorem mval_append (a b : List Int) : mval (a ++ b) = mval a + 4294967296 ^ a.length * mval b := by
 induction a with
 | nil => simp [mval]
 | cons x r ih =>
  rw [List.cons_append, mval, ih, mval, List.length_cons, Nat.pow_succ, Nat.mul_add, Nat.mul_comm (4294967296 ^ r.length) 4294967296, Nat.mul_assoc]
  omega
theorem InW.take {m : List Int} (h : InW m) (n : Nat) : InW (m.take n) := fun x hx => h x (List.mem_of_mem_take hx)
theorem InW.drop {m : List Int} (h : InW m) (n : Nat) : InW (m.drop n) := fun x hx => h x (List.mem_of_mem_drop hx)
theorem InW.cons {x : Int} {m : List Int} (h : InW (x :: m)) : (0 <= x /\ x < 4294967296) /\ InW m := ⟨h x (by simp), fun y hy => h y (by simp [hy])⟩
theorem InW.at {m : List Int} (h : InW m) {i : Nat} : 0 <= m.getD i 0 /\ m.getD i 0 < 4294967296 := by
 rw [List.getD_eq_getElem?_getD]
 by_cases hi : i < m.length
 ·rw [List.getElem?_eq_getElem hi]; exact h _ (List.getElem_mem hi)
 ·rw [List.getElem?_eq_none (by omega)]; exact ⟨by decide, by decide⟩
theorem mval_lt : ∀ {m : List Int}, InW m -> mval m < 4294967296 ^ m.length
 | [], _ => by simp [mval]
 | x :: r, h => by
  have ih := mval_lt h.cons.2
  have hx := h.cons.1
  rw [mval, List.length_cons, Nat.pow_succ]
  have : mval r + 1 <= 4294967296 ^ r.length := ih
  have := Nat.mul_le_mul_right 4294967296 this
  omega
theorem digs_mval : ∀ {m : List Int}, InW m -> (∀ x, m.getLast? = some x -> x ≠ 0) -> digs (mval m) = m
 | [], _, _ => digs_zero
 | [x], h, hl => by
  have hx := h.cons.1
  have h0 : x ≠ 0 := hl x rfl
  have e : mval [x] = x.toNat := by simp [mval]
  rw [e, digs_pos (by omega), Nat.div_eq_of_lt (by omega), digs_zero, Nat.mod_eq_of_lt (by omega), Int.toNat_of_nonneg hx.1]
 | x :: y :: r, h, hl => by
  have hx := h.cons.1
  have ih := digs_mval h.cons.2 (fun z hz => hl z (by rw [List.getLast?_cons_cons]; exact hz))
  have hne : mval (y :: r) ≠ 0 := by
   intro h0
   rw [h0, digs_zero] at ih; cases ih
  have e1 : mval (x :: y :: r) = x.toNat + 4294967296 * mval (y :: r) := rfl
  rw [e1, digs_pos (by omega)]
  have e2 : (x.toNat + 4294967296 * mval (y :: r)) % 4294967296 = x.toNat := by omega
  have e3 : (x.toNat + 4294967296 * mval (y :: r)) / 4294967296 = mval (y :: r) := by omega
  rw [e2, e3, ih, Int.toNat_of_nonneg hx.1]
theorem mval_take_succ {m : List Int} {i : Nat} (hi : i < m.length) : mval (m.take (i + 1)) = mval (m.take i) + 4294967296 ^ i * (m.getD i 0).toNat := by
 rw [List.take_succ_eq_append_getElem hi, mval_append, List.length_take, Nat.min_eq_left (by omega), List.getD_eq_getElem?_getD, List.getElem?_eq_getElem hi]
 simp [mval]
def dl (S : Nat) : Nat -> List Int
 | 0 => []
 | n + 1 => dl S n ++ [((S / 4294967296 ^ n % 4294967296 : Nat) : Int)]
theorem dl_length (S : Nat) : ∀ n, (dl S n).length = n
 | 0 => rfl
 | n + 1 => by simp [dl, dl_length S n]
theorem dl_inW (S : Nat) : ∀ n, InW (dl S n)
 | 0 => fun x hx => by cases hx
 | n + 1 => fun x hx => by
  rcases List.mem_append.1 hx with h | h
  ·exact dl_inW S n x h
  ·simp only [List.mem_singleton] at h
   subst h
   omega
theorem mval_dl (S : Nat) : ∀ n, mval (dl S n) = S % 4294967296 ^ n
 | 0 => by simp [dl, mval, Nat.mod_one]
 | n + 1 => by
  rw [dl, mval_append, dl_length, mval_dl S n, Nat.pow_succ, Nat.mod_mul]
  simp only [mval, Int.toNat_natCast, Nat.mul_zero, Nat.add_zero]
theorem dl_set (S n m : Nat) (h : n < m) : (dl S n ++ List.replicate (m - n) 0).set n ((S / 4294967296 ^ n % 4294967296 : Nat) : Int) = dl S (n + 1) ++ List.replicate (m - (n + 1)) 0 := by
 rw [List.set_append_right _ _ (by rw [dl_length]; exact Nat.le_refl _), dl_length, Nat.sub_self]
 have : m - n = (m - (n + 1)) + 1 := by omega
 rw [this, List.replicate_succ]
 simp [dl]
theorem digs_dl {S n : Nat} (h : S < 4294967296 ^ n) : digs (mval (dl S n)) = digs S := by rw [mval_dl, Nat.mod_eq_of_lt h]
end Go.Mach
