/-
  THE TIES: each printed meaning is what the program does (written by program).
  Conditions: none.
-/
import Derived.Test.YtccocdgimamdhaaGreatDoorGs
namespace Go.Proofs.YtccocdgimamdhaaGreatDoor
open Go Go.Mach Go.Proofs
set_option linter.unusedVariables false
set_option maxRecDepth 50000

def sh_st_big_less_0 : StSh := ⟨(.roi .u64 :: (.roi .u64 :: (.any :: (.any :: (.any :: (.slw 0 :: (.int .u64 :: (sqs 5 (.int .i64 :: (.int .i64 :: (sqs 20 []))))))))))), [some (41, 1, .ints .u64)]⟩
def sx0_st_big_less_0 : StSh := ⟨(sqs 5 (.slw 0 :: (sqs 28 []))), [some (41, 1, .ints .u64)]⟩
def hk_st_big_less_0 (N : Nat) (Sj19 : TSj19) (Sj109 : TSj109) (Sj1 : TSj1) : List Atom -> K -> Bool := fun a_ κ => match a_ with
  | [.ints x_1, .ints y_1, .int borrow, .int t12, .int t13, .ints z] => iterG N (st_big_less_0 N Sj19 Sj109 Sj1 x_1 y_1 t12 (fun r0 => κ.ext 0 (sx0_st_big_less_0.build [.ints r0]))) (borrow, t13, z)
  | _ => false
def anj178 (N : Nat) (Sj19 : TSj19) (Sj109 : TSj109) (Sj1 : TSj1) : Nat -> Option Ann := fun b_ => cond (b_ == 0) (some ⟨⟨[0, 1, 5, 6, 12, 13], [], []⟩, [(0, ⟨[5], [], []⟩)], some ⟨[4], [], []⟩, some (mkHooks [(sh_st_big_less_0, hk_st_big_less_0 N Sj19 Sj109 Sj1)])⟩) (none)
theorem eq_st_big_less_0 (N : Nat) (Sj19 : TSj19) (Sj109 : TSj109) (Sj1 : TSj1) (κ : K) (x_1 y_1 : List Int) (borrow t12 t13 : Int) (z : List Int) : iter N (fun s k => codeV ⟨Pg, ofList [(205, (Fj19 Sj19)), (230, (Fj109 Sj109)), (202, (Fj1 Sj1))], isref, N⟩ 0 (anj178 N Sj19 Sj109 Sj1) (lp Pg 216 0).2 (lp Pg 216 0).1 s (roundK Pg 0 ((anj178 N Sj19 Sj109 Sj1) (lp Pg 216 0).1) κ k)) (sh_st_big_less_0.build [.ints x_1, .ints y_1, .int borrow, .int t12, .int t13, .ints z]) = iterG N (st_big_less_0 N Sj19 Sj109 Sj1 x_1 y_1 t12 (fun r0 => κ.ext 0 (sx0_st_big_less_0.build [.ints r0]))) (borrow, t13, z) :=
  iter_tr (fun (v_ : Int × Int × List Int) => sh_st_big_less_0.build [.ints x_1, .ints y_1, .int v_.1, .int t12, .int v_.2.1, .ints v_.2.2]) (fun v_ K_ => by obtain ⟨borrow, t13, z⟩ := v_; kernel_rfl) N (borrow, t13, z)
theorem hk1_st_big_less_0 (N : Nat) (Sj19 : TSj19) (Sj109 : TSj109) (Sj1 : TSj1) : HookFor ⟨Pg, ofList [(205, (Fj19 Sj19)), (230, (Fj109 Sj109)), (202, (Fj1 Sj1))], isref, N⟩ 0 (anj178 N Sj19 Sj109 Sj1) (lp Pg 216 0) (sh_st_big_less_0, hk_st_big_less_0 N Sj19 Sj109 Sj1) := by
  intro a κ h
  simp only at h
  unfold hk_st_big_less_0 at h
  split at h
  · exact (eq_st_big_less_0 _ _ _ _ _ _ _ _ _ _ _).trans h
  · cases h
theorem ho_big_less_0 (N : Nat) (Sj19 : TSj19) (Sj109 : TSj109) (Sj1 : TSj1) : HookOk ⟨Pg, ofList [(205, (Fj19 Sj19)), (230, (Fj109 Sj109)), (202, (Fj1 Sj1))], isref, N⟩ 0 (anj178 N Sj19 Sj109 Sj1) (lp Pg 216 0) :=
  hooks_ok [(sh_st_big_less_0, hk_st_big_less_0 N Sj19 Sj109 Sj1)] (by kernel_rfl) ⟨hk1_st_big_less_0 _ _ _ _, trivial⟩
theorem eqj178 (N : Nat) (Sj19 : TSj19) (Sj109 : TSj109) (Sj1 : TSj1) (x y : List Int) (c_ : V -> List Blk -> Bool) : bodyZ ⟨Pg, ofList [(205, (Fj19 Sj19)), (230, (Fj109 Sj109)), (202, (Fj1 Sj1))], isref, N⟩ (anj178 N Sj19 Sj109 Sj1) 216 (shFj178.args [.ints x, .ints y]) [] c_ = Gj178 N Sj19 Sj109 Sj1 x y (fun r0 => c_ (.roi .u64 r0) []) := by kernel_rfl
theorem goodj178 (N : Nat) (Sj19 : TSj19) (Sj109 : TSj109) (Sj1 : TSj1) (hj19 : GoodF Pg 205 (Fj19 Sj19)) (hj109 : GoodF Pg 230 (Fj109 Sj109)) (hj1 : GoodF Pg 202 (Fj1 Sj1)) : GoodF Pg 216 (Fj178 (Gj178 N Sj19 Sj109 Sj1)) := by
  refine good_fsZ (cx := ⟨Pg, ofList [(205, (Fj19 Sj19)), (230, (Fj109 Sj109)), (202, (Fj1 Sj1))], isref, N⟩) (ofList_cons hj19 (ofList_cons hj109 (ofList_cons hj1 (ofList_nil _)))) shFj178 (spj178 (Gj178 N Sj19 Sj109 Sj1)) (anj178 N Sj19 Sj109 Sj1) 1 0 (by kernel_rfl) (fun i_ hi_ => by
    match i_, hi_ with
    | 0, _ => exact ho_big_less_0 _ _ _ _
    | (q + 1), h => omega) ?_
  intro a k h
  unfold spj178 at h
  split at h
  · exact ⟨[], rfl, rfl, (eqj178 _ _ _ _ _ _ _).trans h⟩
  · cases h

def anj68 (N : Nat) (Sj172 : TSj172) (Sj0 : TSj0) (Sj130 : TSj130) (Sj178 : TSj178) : Nat -> Option Ann := fun b_ => none
theorem eqj68 (N : Nat) (Sj172 : TSj172) (Sj0 : TSj0) (Sj130 : TSj130) (Sj178 : TSj178) (neg : Bool) (y : List Int) (b b_1 : Bool) (b_2 : List Int) (c_ : V -> List Blk -> Bool) : bodyZ ⟨Pg, ofList [(201, (Fj172 Sj172)), (170, (Fj0 Sj0)), (215, (Fj130 Sj130)), (216, (Fj178 Sj178))], isref, N⟩ (anj68 N Sj172 Sj0 Sj130 Sj178) 191 (shFj68.args [.bool neg, .ints y, .bool b, .bool b_1, .ints b_2]) [⟨164, 1, .cells [.bool b, .nil]⟩, ⟨164, 1, .cells [.bool b_1, .roi .u64 b_2]⟩] c_ = Gj68 N Sj172 Sj0 Sj130 Sj178 neg y b b_1 b_2 (fun r0 r1 => c_ (.ptr 0 0) [⟨164, 1, .cells [.bool r0, .roi .u64 r1]⟩, ⟨164, 1, .cells [.bool b_1, .roi .u64 b_2]⟩]) := by kernel_rfl
theorem goodj68 (N : Nat) (Sj172 : TSj172) (Sj0 : TSj0) (Sj130 : TSj130) (Sj178 : TSj178) (hj172 : GoodF Pg 201 (Fj172 Sj172)) (hj0 : GoodF Pg 170 (Fj0 Sj0)) (hj130 : GoodF Pg 215 (Fj130 Sj130)) (hj178 : GoodF Pg 216 (Fj178 Sj178)) : GoodF Pg 191 (Fj68 (Gj68 N Sj172 Sj0 Sj130 Sj178)) := by
  refine good_fsZ (cx := ⟨Pg, ofList [(201, (Fj172 Sj172)), (170, (Fj0 Sj0)), (215, (Fj130 Sj130)), (216, (Fj178 Sj178))], isref, N⟩) (ofList_cons hj172 (ofList_cons hj0 (ofList_cons hj130 (ofList_cons hj178 (ofList_nil _))))) shFj68 (spj68 (Gj68 N Sj172 Sj0 Sj130 Sj178)) (anj68 N Sj172 Sj0 Sj130 Sj178) 0 2 (by kernel_rfl) (fun i_ hi_ => by omega) ?_
  intro a k h
  unfold spj68 at h
  split at h
  · exact ⟨[_, _], rfl, rfl, (eqj68 _ _ _ _ _ _ _ _ _ _ _).trans h⟩
  · cases h

def anj27 (N : Nat) (Sj68 : TSj68) : Nat -> Option Ann := fun b_ => none
theorem eqj27 (N : Nat) (Sj68 : TSj68) (b b_1 : Bool) (b_2 : List Int) (b_3 : Bool) (b_4 : List Int) (c_ : V -> List Blk -> Bool) : bodyZ ⟨Pg, ofList [(191, (Fj68 Sj68))], isref, N⟩ (anj27 N Sj68) 158 (shFj27.args [.bool b, .bool b_1, .ints b_2, .bool b_3, .ints b_4]) [⟨164, 1, .cells [.bool b, .nil]⟩, ⟨164, 1, .cells [.bool b_1, .roi .u64 b_2]⟩, ⟨164, 1, .cells [.bool b_3, .roi .u64 b_4]⟩] c_ = Gj27 N Sj68 b b_1 b_2 b_3 b_4 (fun r0 r1 => c_ (.ptr 0 0) [⟨164, 1, .cells [.bool r0, .roi .u64 r1]⟩, ⟨164, 1, .cells [.bool b_1, .roi .u64 b_2]⟩, ⟨164, 1, .cells [.bool b_3, .roi .u64 b_4]⟩]) := by kernel_rfl
theorem goodj27 (N : Nat) (Sj68 : TSj68) (hj68 : GoodF Pg 191 (Fj68 Sj68)) : GoodF Pg 158 (Fj27 (Gj27 N Sj68)) := by
  refine good_fsZ (cx := ⟨Pg, ofList [(191, (Fj68 Sj68))], isref, N⟩) (ofList_cons hj68 (ofList_nil _)) shFj27 (spj27 (Gj27 N Sj68)) (anj27 N Sj68) 0 3 (by kernel_rfl) (fun i_ hi_ => by omega) ?_
  intro a k h
  unfold spj27 at h
  split at h
  · exact ⟨[_, _, _], rfl, rfl, (eqj27 _ _ _ _ _ _ _ _).trans h⟩
  · cases h

def anj20 (N : Nat) (Sj88 : TSj88) (Sj3 : TSj3) (Sj34 : TSj34) (Sj27 : TSj27) : Nat -> Option Ann := fun b_ => none
theorem eqj20 (N : Nat) (Sj88 : TSj88) (Sj3 : TSj3) (Sj34 : TSj34) (Sj27 : TSj27) (x y : Int) (b b_1 : Bool) (b_2 : List Int) (c_ : V -> List Blk -> Bool) : bodyV ⟨Pg, ofList [(134, (orFs (Fj88 Sj88) (Fj3 Sj3) shFj88)), (159, (Fj34 Sj34)), (158, (Fj27 Sj27))], isref, N⟩ (anj20 N Sj88 Sj3 Sj34 Sj27) 125 (shFj20.args [.int x, .int y, .bool b, .bool b_1, .ints b_2]) [⟨164, 1, .cells [.bool b, .nil]⟩, ⟨164, 1, .cells [.bool b_1, .roi .u64 b_2]⟩] c_ = Gj20 N Sj88 Sj3 Sj34 Sj27 x y b b_1 b_2 (fun r2 => c_ (.agg [.ptr 1 0, .int .i64 y]) [⟨164, 1, .cells [.bool b, .roi .u64 r2]⟩, ⟨164, 1, .cells [.bool b_1, .roi .u64 b_2]⟩]) (fun r2 => c_ (.agg [.ptr 0 0, .int .i64 x]) [⟨164, 1, .cells [.bool b, .roi .u64 r2]⟩, ⟨164, 1, .cells [.bool b_1, .roi .u64 b_2]⟩]) (fun r0 r2 r5 r6 => c_ (.agg [.ptr 2 0, .int .i64 r0]) [⟨164, 1, .cells [.bool b, .roi .u64 r2]⟩, ⟨164, 1, .cells [.bool b_1, .roi .u64 b_2]⟩, ⟨164, 1, .cells [.bool r5, .roi .u64 r6]⟩]) := by kernel_rfl
theorem goodj20 (N : Nat) (Sj88 : TSj88) (Sj3 : TSj3) (Sj34 : TSj34) (Sj27 : TSj27) (hj88 : GoodF Pg 134 (Fj88 Sj88)) (hj3 : GoodF Pg 134 (Fj3 Sj3)) (hj34 : GoodF Pg 159 (Fj34 Sj34)) (hj27 : GoodF Pg 158 (Fj27 Sj27)) : GoodF Pg 125 (Fj20 (Gj20 N Sj88 Sj3 Sj34 Sj27)) := by
  refine good_fs (cx := ⟨Pg, ofList [(134, (orFs (Fj88 Sj88) (Fj3 Sj3) shFj88)), (159, (Fj34 Sj34)), (158, (Fj27 Sj27))], isref, N⟩) (ofList_cons (good_or hj88 hj3) (ofList_cons hj34 (ofList_cons hj27 (ofList_nil _)))) shFj20 (spj20 (Gj20 N Sj88 Sj3 Sj34 Sj27)) (anj20 N Sj88 Sj3 Sj34 Sj27) 0 2 (by kernel_rfl) (fun i_ hi_ => by omega) ?_
  intro a k h
  unfold spj20 at h
  split at h
  · exact ⟨[_, _], rfl, rfl, (eqj20 _ _ _ _ _ _ _ _ _ _ _).trans h⟩
  · cases h

def anj4 (N : Nat) (Sj3 : TSj3) (Sj34 : TSj34) (Sj27 : TSj27) : Nat -> Option Ann := fun b_ => none
theorem eqj4 (N : Nat) (Sj3 : TSj3) (Sj34 : TSj34) (Sj27 : TSj27) (x y : Int) (b : Bool) (b_1 : List Int) (b_2 : Bool) (b_3 : List Int) (c_ : V -> List Blk -> Bool) : bodyV ⟨Pg, ofList [(134, (Fj3 Sj3)), (159, (Fj34 Sj34)), (158, (Fj27 Sj27))], isref, N⟩ (anj4 N Sj3 Sj34 Sj27) 125 (shFj4.args [.int x, .int y, .bool b, .ints b_1, .bool b_2, .ints b_3]) [⟨164, 1, .cells [.bool b, .roi .u64 b_1]⟩, ⟨164, 1, .cells [.bool b_2, .roi .u64 b_3]⟩] c_ = Gj4 N Sj3 Sj34 Sj27 x y b b_1 b_2 b_3 (c_ (.agg [.ptr 1 0, .int .i64 y]) [⟨164, 1, .cells [.bool b, .roi .u64 b_1]⟩, ⟨164, 1, .cells [.bool b_2, .roi .u64 b_3]⟩]) (c_ (.agg [.ptr 0 0, .int .i64 x]) [⟨164, 1, .cells [.bool b, .roi .u64 b_1]⟩, ⟨164, 1, .cells [.bool b_2, .roi .u64 b_3]⟩]) (fun r0 r5 r6 => c_ (.agg [.ptr 2 0, .int .i64 r0]) [⟨164, 1, .cells [.bool b, .roi .u64 b_1]⟩, ⟨164, 1, .cells [.bool b_2, .roi .u64 b_3]⟩, ⟨164, 1, .cells [.bool r5, .roi .u64 r6]⟩]) := by kernel_rfl
theorem goodj4 (N : Nat) (Sj3 : TSj3) (Sj34 : TSj34) (Sj27 : TSj27) (hj3 : GoodF Pg 134 (Fj3 Sj3)) (hj34 : GoodF Pg 159 (Fj34 Sj34)) (hj27 : GoodF Pg 158 (Fj27 Sj27)) : GoodF Pg 125 (Fj4 (Gj4 N Sj3 Sj34 Sj27)) := by
  refine good_fs (cx := ⟨Pg, ofList [(134, (Fj3 Sj3)), (159, (Fj34 Sj34)), (158, (Fj27 Sj27))], isref, N⟩) (ofList_cons hj3 (ofList_cons hj34 (ofList_cons hj27 (ofList_nil _)))) shFj4 (spj4 (Gj4 N Sj3 Sj34 Sj27)) (anj4 N Sj3 Sj34 Sj27) 0 2 (by kernel_rfl) (fun i_ hi_ => by omega) ?_
  intro a k h
  unfold spj4 at h
  split at h
  · exact ⟨[_, _], rfl, rfl, (eqj4 _ _ _ _ _ _ _ _ _ _ _).trans h⟩
  · cases h

def anj37 (N : Nat) (Sj82 : TSj82) (Sj0 : TSj0) : Nat -> Option Ann := fun b_ => none
theorem eqj37 (N : Nat) (Sj82 : TSj82) (Sj0 : TSj0) (b b_1 : Bool) (b_2 : List Int) (c_ : V -> List Blk -> Bool) : bodyZ ⟨Pg, ofList [(171, (Fj82 Sj82)), (170, (Fj0 Sj0))], isref, N⟩ (anj37 N Sj82 Sj0) 195 (shFj37.args [.bool b, .bool b_1, .ints b_2]) [⟨164, 1, .cells [.bool b, .nil]⟩, ⟨164, 1, .cells [.bool b_1, .roi .u64 b_2]⟩] c_ = Gj37 N Sj82 Sj0 b b_1 b_2 (fun r0 r1 => c_ (.ptr 0 0) [⟨164, 1, .cells [.bool r0, .roi .u64 r1]⟩, ⟨164, 1, .cells [.bool b_1, .roi .u64 b_2]⟩]) := by kernel_rfl
theorem goodj37 (N : Nat) (Sj82 : TSj82) (Sj0 : TSj0) (hj82 : GoodF Pg 171 (Fj82 Sj82)) (hj0 : GoodF Pg 170 (Fj0 Sj0)) : GoodF Pg 195 (Fj37 (Gj37 N Sj82 Sj0)) := by
  refine good_fsZ (cx := ⟨Pg, ofList [(171, (Fj82 Sj82)), (170, (Fj0 Sj0))], isref, N⟩) (ofList_cons hj82 (ofList_cons hj0 (ofList_nil _))) shFj37 (spj37 (Gj37 N Sj82 Sj0)) (anj37 N Sj82 Sj0) 0 2 (by kernel_rfl) (fun i_ hi_ => by omega) ?_
  intro a k h
  unfold spj37 at h
  split at h
  · exact ⟨[_, _], rfl, rfl, (eqj37 _ _ _ _ _ _ _).trans h⟩
  · cases h

def anj59 (N : Nat) (Sj19 : TSj19) : Nat -> Option Ann := fun b_ => none
theorem eqj59 (N : Nat) (Sj19 : TSj19) (i : Int) (b : Bool) (b_1 : List Int) (c_ : V -> List Blk -> Bool) : bodyZ ⟨Pg, ofList [(205, (Fj19 Sj19))], isref, N⟩ (anj59 N Sj19) 196 (shFj59.args [.int i, .bool b, .ints b_1]) [⟨164, 1, .cells [.bool b, .roi .u64 b_1]⟩] c_ = Gj59 N Sj19 i b b_1 (fun r0 => c_ (.int .u64 r0) [⟨164, 1, .cells [.bool b, .roi .u64 b_1]⟩]) := by kernel_rfl
theorem goodj59 (N : Nat) (Sj19 : TSj19) (hj19 : GoodF Pg 205 (Fj19 Sj19)) : GoodF Pg 196 (Fj59 (Gj59 N Sj19)) := by
  refine good_fsZ (cx := ⟨Pg, ofList [(205, (Fj19 Sj19))], isref, N⟩) (ofList_cons hj19 (ofList_nil _)) shFj59 (spj59 (Gj59 N Sj19)) (anj59 N Sj19) 0 1 (by kernel_rfl) (fun i_ hi_ => by omega) ?_
  intro a k h
  unfold spj59 at h
  split at h
  · exact ⟨[_], rfl, rfl, (eqj59 _ _ _ _ _ _).trans h⟩
  · cases h

def sh_st_big_Int_TrailingZeroBits_p0r_0 : StSh := ⟨(sqs 8 (.roi .u64 :: (.int .i64 :: (.int .i64 :: (sqs 13 []))))), [some (164, 1, .cells [.bool, .roi .u64])]⟩
def sx0_st_big_Int_TrailingZeroBits_p0r_0 : StSh := ⟨(.any :: (.any :: (.int .u64 :: (sqs 21 [])))), [some (164, 1, .cells [.bool, .roi .u64])]⟩
def sx1_st_big_Int_TrailingZeroBits_p0r_0 : StSh := ⟨(sqs 24 []), [some (164, 1, .cells [.bool, .roi .u64])]⟩
def hk_st_big_Int_TrailingZeroBits_p0r_0 (N : Nat) (Sj6 : TSj6) : List Atom -> K -> Bool := fun a_ κ => match a_ with
  | [.ints t8, .int t9, .int t10, .bool b0, .ints b0_1] => iterG N (stj202 N Sj6 t8 t9 b0 b0_1 (fun r0 => κ.ret (sx0_st_big_Int_TrailingZeroBits_p0r_0.build [.int r0, .bool b0, .ints b0_1])) (κ.ext 0 (sx1_st_big_Int_TrailingZeroBits_p0r_0.build [.bool b0, .ints b0_1]))) t10
  | _ => false
def anj11 (N : Nat) (Sj6 : TSj6) : Nat -> Option Ann := fun b_ => cond (b_ == 0) (some ⟨⟨[8, 9, 10], [], []⟩, [(0, ⟨[], [], []⟩)], some ⟨[2], [], []⟩, some (mkHooks [(sh_st_big_Int_TrailingZeroBits_p0r_0, hk_st_big_Int_TrailingZeroBits_p0r_0 N Sj6)])⟩) (none)
theorem eq_st_big_Int_TrailingZeroBits_p0r_0 (N : Nat) (Sj6 : TSj6) (κ : K) (t8 : List Int) (t9 t10 : Int) (b0 : Bool) (b0_1 : List Int) : iter N (fun s k => codeV ⟨Pg, ofList [(218, (Fj6 Sj6))], isref, N⟩ 1 (anj11 N Sj6) (lp Pg 197 0).2 (lp Pg 197 0).1 s (roundK Pg 1 ((anj11 N Sj6) (lp Pg 197 0).1) κ k)) (sh_st_big_Int_TrailingZeroBits_p0r_0.build [.ints t8, .int t9, .int t10, .bool b0, .ints b0_1]) = iterG N (stj202 N Sj6 t8 t9 b0 b0_1 (fun r0 => κ.ret (sx0_st_big_Int_TrailingZeroBits_p0r_0.build [.int r0, .bool b0, .ints b0_1])) (κ.ext 0 (sx1_st_big_Int_TrailingZeroBits_p0r_0.build [.bool b0, .ints b0_1]))) t10 :=
  iter_tr (fun v_ => sh_st_big_Int_TrailingZeroBits_p0r_0.build [.ints t8, .int t9, .int v_, .bool b0, .ints b0_1]) (fun v_ K_ => by kernel_rfl) N t10
theorem hk1_st_big_Int_TrailingZeroBits_p0r_0 (N : Nat) (Sj6 : TSj6) : HookFor ⟨Pg, ofList [(218, (Fj6 Sj6))], isref, N⟩ 1 (anj11 N Sj6) (lp Pg 197 0) (sh_st_big_Int_TrailingZeroBits_p0r_0, hk_st_big_Int_TrailingZeroBits_p0r_0 N Sj6) := by
  intro a κ h
  simp only at h
  unfold hk_st_big_Int_TrailingZeroBits_p0r_0 at h
  split at h
  · exact (eq_st_big_Int_TrailingZeroBits_p0r_0 _ _ _ _ _ _ _ _).trans h
  · cases h
theorem ho_big_Int_TrailingZeroBits_p0r_0 (N : Nat) (Sj6 : TSj6) : HookOk ⟨Pg, ofList [(218, (Fj6 Sj6))], isref, N⟩ 1 (anj11 N Sj6) (lp Pg 197 0) :=
  hooks_ok [(sh_st_big_Int_TrailingZeroBits_p0r_0, hk_st_big_Int_TrailingZeroBits_p0r_0 N Sj6)] (by kernel_rfl) ⟨hk1_st_big_Int_TrailingZeroBits_p0r_0 _ _, trivial⟩
theorem eqj11 (N : Nat) (Sj6 : TSj6) (b : Bool) (b_1 : List Int) (c_ : V -> List Blk -> Bool) : bodyZ ⟨Pg, ofList [(218, (Fj6 Sj6))], isref, N⟩ (anj11 N Sj6) 197 (shFj11.args [.bool b, .ints b_1]) [⟨164, 1, .cells [.bool b, .roi .u64 b_1]⟩] c_ = Gj11 N Sj6 b b_1 (fun r0 => c_ (.int .u64 r0) [⟨164, 1, .cells [.bool b, .roi .u64 b_1]⟩]) := by kernel_rfl
theorem goodj11 (N : Nat) (Sj6 : TSj6) (hj6 : GoodF Pg 218 (Fj6 Sj6)) : GoodF Pg 197 (Fj11 (Gj11 N Sj6)) := by
  refine good_fsZ (cx := ⟨Pg, ofList [(218, (Fj6 Sj6))], isref, N⟩) (ofList_cons hj6 (ofList_nil _)) shFj11 (spj11 (Gj11 N Sj6)) (anj11 N Sj6) 1 1 (by kernel_rfl) (fun i_ hi_ => by
    match i_, hi_ with
    | 0, _ => exact ho_big_Int_TrailingZeroBits_p0r_0 _ _
    | (q + 1), h => omega) ?_
  intro a k h
  unfold spj11 at h
  split at h
  · exact ⟨[_], rfl, rfl, (eqj11 _ _ _ _ _).trans h⟩
  · cases h

def sh_st_big_right_0 : StSh := ⟨(.roi .u64 :: (sqs 5 (.int .i64 :: (.int .u64 :: (.int .u64 :: (sqs 28 (.roi .u64 :: (.int .i64 :: (.int .i64 :: (sqs 42 [])))))))))), []⟩
def sx0_st_big_right_0 : StSh := ⟨(.roi .u64 :: (sqs 5 (.int .i64 :: (.int .u64 :: (.int .u64 :: (sqs 73 [])))))), []⟩
def hk_st_big_right_0 (N : Nat) (Sj19 : TSj19) (Sj1 : TSj1) : List Atom -> K -> Bool := fun a_ κ => match a_ with
  | [.ints x_1, .int words, .int rest, .int lost, .ints t37, .int t38, .int t39] => iterG N (st_big_right_0 N Sj19 Sj1 x_1 words rest t37 t38 (fun r3 => κ.ext 0 (sx0_st_big_right_0.build [.ints x_1, .int words, .int rest, .int r3]))) (lost, t39)
  | _ => false
def sh_st_big_right_2 : StSh := ⟨(.roi .u64 :: (sqs 5 (.int .i64 :: (.int .u64 :: (.int .u64 :: (.any :: (.any :: (.slw 0 :: (sqs 41 (.int .i64 :: (.int .i64 :: (sqs 27 [])))))))))))), [some (41, 1, .ints .u64)]⟩
def sx0_st_big_right_2 : StSh := ⟨(sqs 8 (.int .u64 :: (.any :: (.any :: (.slw 0 :: (sqs 70 [])))))), [some (41, 1, .ints .u64)]⟩
def hk_st_big_right_2 (N : Nat) (Sj19 : TSj19) (Sj1 : TSj1) : List Atom -> K -> Bool := fun a_ κ => match a_ with
  | [.ints x_2, .int words_1, .int rest_1, .int lost_2, .int t53, .int t54, .ints z] => iterG N (st_big_right_2 N Sj19 Sj1 x_2 words_1 rest_1 lost_2 t53 (fun r1 => κ.ext 2 (sx0_st_big_right_2.build [.int lost_2, .ints r1]))) (t54, z)
  | _ => false
def anj148 (N : Nat) (Sj19 : TSj19) (Sj1 : TSj1) : Nat -> Option Ann := fun b_ => cond (b_ == 0) (some ⟨⟨[0, 6, 7, 8, 37, 38, 39], [], []⟩, [(0, ⟨[0, 6, 7, 8], [], []⟩)], some ⟨[4, 5], [], []⟩, some (mkHooks [(sh_st_big_right_0, hk_st_big_right_0 N Sj19 Sj1)])⟩) (cond (b_ == 2) (some ⟨⟨[0, 6, 7, 8, 11, 53, 54], [], []⟩, [(2, ⟨[8, 11], [], []⟩)], some ⟨[4, 5], [], []⟩, some (mkHooks [(sh_st_big_right_2, hk_st_big_right_2 N Sj19 Sj1)])⟩) (none))
theorem eq_st_big_right_0 (N : Nat) (Sj19 : TSj19) (Sj1 : TSj1) (κ : K) (x_1 : List Int) (words rest lost : Int) (t37 : List Int) (t38 t39 : Int) : iter N (fun s k => codeV ⟨Pg, ofList [(205, (Fj19 Sj19)), (202, (Fj1 Sj1))], isref, N⟩ 0 (anj148 N Sj19 Sj1) (lp Pg 200 0).2 (lp Pg 200 0).1 s (roundK Pg 0 ((anj148 N Sj19 Sj1) (lp Pg 200 0).1) κ k)) (sh_st_big_right_0.build [.ints x_1, .int words, .int rest, .int lost, .ints t37, .int t38, .int t39]) = iterG N (st_big_right_0 N Sj19 Sj1 x_1 words rest t37 t38 (fun r3 => κ.ext 0 (sx0_st_big_right_0.build [.ints x_1, .int words, .int rest, .int r3]))) (lost, t39) :=
  iter_tr (fun (v_ : Int × Int) => sh_st_big_right_0.build [.ints x_1, .int words, .int rest, .int v_.1, .ints t37, .int t38, .int v_.2]) (fun v_ K_ => by obtain ⟨lost, t39⟩ := v_; kernel_rfl) N (lost, t39)
theorem hk1_st_big_right_0 (N : Nat) (Sj19 : TSj19) (Sj1 : TSj1) : HookFor ⟨Pg, ofList [(205, (Fj19 Sj19)), (202, (Fj1 Sj1))], isref, N⟩ 0 (anj148 N Sj19 Sj1) (lp Pg 200 0) (sh_st_big_right_0, hk_st_big_right_0 N Sj19 Sj1) := by
  intro a κ h
  simp only at h
  unfold hk_st_big_right_0 at h
  split at h
  · exact (eq_st_big_right_0 _ _ _ _ _ _ _ _ _ _ _).trans h
  · cases h
theorem eq_st_big_right_2 (N : Nat) (Sj19 : TSj19) (Sj1 : TSj1) (κ : K) (x_2 : List Int) (words_1 rest_1 lost_2 t53 t54 : Int) (z : List Int) : iter N (fun s k => codeV ⟨Pg, ofList [(205, (Fj19 Sj19)), (202, (Fj1 Sj1))], isref, N⟩ 0 (anj148 N Sj19 Sj1) (lp Pg 200 1).2 (lp Pg 200 1).1 s (roundK Pg 0 ((anj148 N Sj19 Sj1) (lp Pg 200 1).1) κ k)) (sh_st_big_right_2.build [.ints x_2, .int words_1, .int rest_1, .int lost_2, .int t53, .int t54, .ints z]) = iterG N (st_big_right_2 N Sj19 Sj1 x_2 words_1 rest_1 lost_2 t53 (fun r1 => κ.ext 2 (sx0_st_big_right_2.build [.int lost_2, .ints r1]))) (t54, z) :=
  iter_tr (fun (v_ : Int × List Int) => sh_st_big_right_2.build [.ints x_2, .int words_1, .int rest_1, .int lost_2, .int t53, .int v_.1, .ints v_.2]) (fun v_ K_ => by obtain ⟨t54, z⟩ := v_; kernel_rfl) N (t54, z)
theorem hk1_st_big_right_2 (N : Nat) (Sj19 : TSj19) (Sj1 : TSj1) : HookFor ⟨Pg, ofList [(205, (Fj19 Sj19)), (202, (Fj1 Sj1))], isref, N⟩ 0 (anj148 N Sj19 Sj1) (lp Pg 200 1) (sh_st_big_right_2, hk_st_big_right_2 N Sj19 Sj1) := by
  intro a κ h
  simp only at h
  unfold hk_st_big_right_2 at h
  split at h
  · exact (eq_st_big_right_2 _ _ _ _ _ _ _ _ _ _ _).trans h
  · cases h
theorem ho_big_right_0 (N : Nat) (Sj19 : TSj19) (Sj1 : TSj1) : HookOk ⟨Pg, ofList [(205, (Fj19 Sj19)), (202, (Fj1 Sj1))], isref, N⟩ 0 (anj148 N Sj19 Sj1) (lp Pg 200 0) :=
  hooks_ok [(sh_st_big_right_0, hk_st_big_right_0 N Sj19 Sj1)] (by kernel_rfl) ⟨hk1_st_big_right_0 _ _ _, trivial⟩
theorem ho_big_right_2 (N : Nat) (Sj19 : TSj19) (Sj1 : TSj1) : HookOk ⟨Pg, ofList [(205, (Fj19 Sj19)), (202, (Fj1 Sj1))], isref, N⟩ 0 (anj148 N Sj19 Sj1) (lp Pg 200 1) :=
  hooks_ok [(sh_st_big_right_2, hk_st_big_right_2 N Sj19 Sj1)] (by kernel_rfl) ⟨hk1_st_big_right_2 _ _ _, trivial⟩
theorem eqj148 (N : Nat) (Sj19 : TSj19) (Sj1 : TSj1) (x : List Int) (n : Int) (c_ : V -> List Blk -> Bool) : bodyZ ⟨Pg, ofList [(205, (Fj19 Sj19)), (202, (Fj1 Sj1))], isref, N⟩ (anj148 N Sj19 Sj1) 200 (shFj148.args [.ints x, .int n]) [] c_ = Gj148 N Sj19 Sj1 x n (fun r0 r1 => c_ (.tup [.roi .u64 r0, .bool r1]) []) := by kernel_rfl
theorem goodj148 (N : Nat) (Sj19 : TSj19) (Sj1 : TSj1) (hj19 : GoodF Pg 205 (Fj19 Sj19)) (hj1 : GoodF Pg 202 (Fj1 Sj1)) : GoodF Pg 200 (Fj148 (Gj148 N Sj19 Sj1)) := by
  refine good_fsZ (cx := ⟨Pg, ofList [(205, (Fj19 Sj19)), (202, (Fj1 Sj1))], isref, N⟩) (ofList_cons hj19 (ofList_cons hj1 (ofList_nil _))) shFj148 (spj148 (Gj148 N Sj19 Sj1)) (anj148 N Sj19 Sj1) 2 0 (by kernel_rfl) (fun i_ hi_ => by
    match i_, hi_ with
    | 0, _ => exact ho_big_right_0 _ _ _
    | 1, _ => exact ho_big_right_2 _ _ _
    | (q + 2), h => omega) ?_
  intro a k h
  unfold spj148 at h
  split at h
  · exact ⟨[], rfl, rfl, (eqj148 _ _ _ _ _ _).trans h⟩
  · cases h

def anj17 (N : Nat) (Sj148 : TSj148) (Sj172 : TSj172) (Sj33 : TSj33) : Nat -> Option Ann := fun b_ => none
theorem eqj17 (N : Nat) (Sj148 : TSj148) (Sj172 : TSj172) (Sj33 : TSj33) (n : Int) (b : Bool) (b_1 : List Int) (c_ : V -> List Blk -> Bool) : bodyZ ⟨Pg, ofList [(200, (Fj148 Sj148)), (201, (Fj172 Sj172)), (170, (Fj33 Sj33))], isref, N⟩ (anj17 N Sj148 Sj172 Sj33) 167 (shFj17.args [.int n, .bool b, .ints b_1]) [⟨164, 1, .cells [.bool b, .roi .u64 b_1]⟩] c_ = Gj17 N Sj148 Sj172 Sj33 n b b_1 (fun r0 r1 => c_ (.ptr 0 0) [⟨164, 1, .cells [.bool r0, .roi .u64 r1]⟩]) := by kernel_rfl
theorem goodj17 (N : Nat) (Sj148 : TSj148) (Sj172 : TSj172) (Sj33 : TSj33) (hj148 : GoodF Pg 200 (Fj148 Sj148)) (hj172 : GoodF Pg 201 (Fj172 Sj172)) (hj33 : GoodF Pg 170 (Fj33 Sj33)) : GoodF Pg 167 (Fj17 (Gj17 N Sj148 Sj172 Sj33)) := by
  refine good_fsZ (cx := ⟨Pg, ofList [(200, (Fj148 Sj148)), (201, (Fj172 Sj172)), (170, (Fj33 Sj33))], isref, N⟩) (ofList_cons hj148 (ofList_cons hj172 (ofList_cons hj33 (ofList_nil _)))) shFj17 (spj17 (Gj17 N Sj148 Sj172 Sj33)) (anj17 N Sj148 Sj172 Sj33) 0 1 (by kernel_rfl) (fun i_ hi_ => by omega) ?_
  intro a k h
  unfold spj17 at h
  split at h
  · exact ⟨[_], rfl, rfl, (eqj17 _ _ _ _ _ _ _ _).trans h⟩
  · cases h

def sh_st_v_dyad_exact_halve_p0r_0 : StSh := ⟨(.any :: (.any :: (.ptr 1 0 :: (.ptr 2 0 :: (.int .i64 :: (sqs 28 [])))))), [some (164, 1, .cells [.bool, .roi .u64]), some (166, 1, .cells [.val, .int .i64]), some (164, 1, .cells [.bool, .roi .u64])]⟩
def sx0_st_v_dyad_exact_halve_p0r_0 : StSh := ⟨(.any :: (.any :: (.ptr 1 0 :: (.ptr 2 0 :: (.int .i64 :: (sqs 28 [])))))), [some (164, 1, .cells [.bool, .roi .u64]), some (166, 1, .cells [.val, .int .i64]), some (164, 1, .cells [.bool, .roi .u64])]⟩
def hk_st_v_dyad_exact_halve_p0r_0 (N : Nat) (Sj37 : TSj37) (Sj3 : TSj3) (Sj59 : TSj59) (Sj11 : TSj11) (Sj17 : TSj17) : List Atom -> K -> Bool := fun a_ κ => match a_ with
  | [.int e, .bool b0, .ints b0_1, .val t2, .int t2_1, .bool n, .ints n_1] => iterG N (stj200 N Sj37 Sj3 Sj59 Sj11 Sj17 b0 b0_1 t2 t2_1 (fun r0 r5 r6 => κ.ext 0 (sx0_st_v_dyad_exact_halve_p0r_0.build [.int r0, .bool b0, .ints b0_1, .val t2, .int t2_1, .bool r5, .ints r6]))) (e, n, n_1)
  | _ => false
def anj21 (N : Nat) (Sj37 : TSj37) (Sj3 : TSj3) (Sj59 : TSj59) (Sj11 : TSj11) (Sj17 : TSj17) : Nat -> Option Ann := fun b_ => cond (b_ == 0) (some ⟨⟨[2, 3, 4], [], []⟩, [(0, ⟨[2, 3, 4], [], []⟩)], some ⟨[2], [], []⟩, some (mkHooks [(sh_st_v_dyad_exact_halve_p0r_0, hk_st_v_dyad_exact_halve_p0r_0 N Sj37 Sj3 Sj59 Sj11 Sj17)])⟩) (none)
theorem eq_st_v_dyad_exact_halve_p0r_0 (N : Nat) (Sj37 : TSj37) (Sj3 : TSj3) (Sj59 : TSj59) (Sj11 : TSj11) (Sj17 : TSj17) (κ : K) (e : Int) (b0 : Bool) (b0_1 : List Int) (t2 : Value) (t2_1 : Int) (n : Bool) (n_1 : List Int) : iter N (fun s k => codeV ⟨Pg, ofList [(195, (Fj37 Sj37)), (134, (Fj3 Sj3)), (196, (Fj59 Sj59)), (197, (Fj11 Sj11)), (167, (Fj17 Sj17))], isref, N⟩ 1 (anj21 N Sj37 Sj3 Sj59 Sj11 Sj17) (lp Pg 163 0).2 (lp Pg 163 0).1 s (roundK Pg 1 ((anj21 N Sj37 Sj3 Sj59 Sj11 Sj17) (lp Pg 163 0).1) κ k)) (sh_st_v_dyad_exact_halve_p0r_0.build [.int e, .bool b0, .ints b0_1, .val t2, .int t2_1, .bool n, .ints n_1]) = iterG N (stj200 N Sj37 Sj3 Sj59 Sj11 Sj17 b0 b0_1 t2 t2_1 (fun r0 r5 r6 => κ.ext 0 (sx0_st_v_dyad_exact_halve_p0r_0.build [.int r0, .bool b0, .ints b0_1, .val t2, .int t2_1, .bool r5, .ints r6]))) (e, n, n_1) :=
  iter_tr (fun (v_ : Int × Bool × List Int) => sh_st_v_dyad_exact_halve_p0r_0.build [.int v_.1, .bool b0, .ints b0_1, .val t2, .int t2_1, .bool v_.2.1, .ints v_.2.2]) (fun v_ K_ => by obtain ⟨e, n, n_1⟩ := v_; kernel_rfl) N (e, n, n_1)
theorem hk1_st_v_dyad_exact_halve_p0r_0 (N : Nat) (Sj37 : TSj37) (Sj3 : TSj3) (Sj59 : TSj59) (Sj11 : TSj11) (Sj17 : TSj17) : HookFor ⟨Pg, ofList [(195, (Fj37 Sj37)), (134, (Fj3 Sj3)), (196, (Fj59 Sj59)), (197, (Fj11 Sj11)), (167, (Fj17 Sj17))], isref, N⟩ 1 (anj21 N Sj37 Sj3 Sj59 Sj11 Sj17) (lp Pg 163 0) (sh_st_v_dyad_exact_halve_p0r_0, hk_st_v_dyad_exact_halve_p0r_0 N Sj37 Sj3 Sj59 Sj11 Sj17) := by
  intro a κ h
  simp only at h
  unfold hk_st_v_dyad_exact_halve_p0r_0 at h
  split at h
  · exact (eq_st_v_dyad_exact_halve_p0r_0 _ _ _ _ _ _ _ _ _ _ _ _ _ _).trans h
  · cases h
theorem ho_v_dyad_exact_halve_p0r_0 (N : Nat) (Sj37 : TSj37) (Sj3 : TSj3) (Sj59 : TSj59) (Sj11 : TSj11) (Sj17 : TSj17) : HookOk ⟨Pg, ofList [(195, (Fj37 Sj37)), (134, (Fj3 Sj3)), (196, (Fj59 Sj59)), (197, (Fj11 Sj11)), (167, (Fj17 Sj17))], isref, N⟩ 1 (anj21 N Sj37 Sj3 Sj59 Sj11 Sj17) (lp Pg 163 0) :=
  hooks_ok [(sh_st_v_dyad_exact_halve_p0r_0, hk_st_v_dyad_exact_halve_p0r_0 N Sj37 Sj3 Sj59 Sj11 Sj17)] (by kernel_rfl) ⟨hk1_st_v_dyad_exact_halve_p0r_0 _ _ _ _ _ _, trivial⟩
theorem eqj21 (N : Nat) (Sj37 : TSj37) (Sj3 : TSj3) (Sj59 : TSj59) (Sj11 : TSj11) (Sj17 : TSj17) (x : Int) (b : Bool) (b_1 : List Int) (c_ : V -> List Blk -> Bool) : bodyV ⟨Pg, ofList [(195, (Fj37 Sj37)), (134, (Fj3 Sj3)), (196, (Fj59 Sj59)), (197, (Fj11 Sj11)), (167, (Fj17 Sj17))], isref, N⟩ (anj21 N Sj37 Sj3 Sj59 Sj11 Sj17) 163 (shFj21.args [.int x, .bool b, .ints b_1]) [⟨164, 1, .cells [.bool b, .roi .u64 b_1]⟩] c_ = Gj21 N Sj37 Sj3 Sj59 Sj11 Sj17 x b b_1 (fun r0 r3 r4 => c_ (.agg [.ptr 1 0, .int .i64 r0]) [⟨164, 1, .cells [.bool b, .roi .u64 b_1]⟩, ⟨164, 1, .cells [.bool r3, .roi .u64 r4]⟩]) := by kernel_rfl
theorem goodj21 (N : Nat) (Sj37 : TSj37) (Sj3 : TSj3) (Sj59 : TSj59) (Sj11 : TSj11) (Sj17 : TSj17) (hj37 : GoodF Pg 195 (Fj37 Sj37)) (hj3 : GoodF Pg 134 (Fj3 Sj3)) (hj59 : GoodF Pg 196 (Fj59 Sj59)) (hj11 : GoodF Pg 197 (Fj11 Sj11)) (hj17 : GoodF Pg 167 (Fj17 Sj17)) : GoodF Pg 163 (Fj21 (Gj21 N Sj37 Sj3 Sj59 Sj11 Sj17)) := by
  refine good_fs (cx := ⟨Pg, ofList [(195, (Fj37 Sj37)), (134, (Fj3 Sj3)), (196, (Fj59 Sj59)), (197, (Fj11 Sj11)), (167, (Fj17 Sj17))], isref, N⟩) (ofList_cons hj37 (ofList_cons hj3 (ofList_cons hj59 (ofList_cons hj11 (ofList_cons hj17 (ofList_nil _)))))) shFj21 (spj21 (Gj21 N Sj37 Sj3 Sj59 Sj11 Sj17)) (anj21 N Sj37 Sj3 Sj59 Sj11 Sj17) 1 1 (by kernel_rfl) (fun i_ hi_ => by
    match i_, hi_ with
    | 0, _ => exact ho_v_dyad_exact_halve_p0r_0 _ _ _ _ _ _
    | (q + 1), h => omega) ?_
  intro a k h
  unfold spj21 at h
  split at h
  · exact ⟨[_], rfl, rfl, (eqj21 _ _ _ _ _ _ _ _ _ _).trans h⟩
  · cases h

def anj108 (N : Nat) : Nat -> Option Ann := fun b_ => none
def lsj204 (d_ : List V) (u_ : List (Option Blk)) (x x_2 n_1 : Int) : St := ⟨(.int .u64 x_2 :: ((dq d_ 0) :: (.int .i64 n_1 :: (dqs d_ 1 22 [])))), []⟩
def lsj201 (d_ : List V) (u_ : List (Option Blk)) (x x_1 n : Int) : St := ⟨(.int .u64 x_1 :: ((dq d_ 0) :: (.int .i64 n :: (dqs d_ 1 22 [])))), []⟩
theorem jnj204 (N : Nat) (d_ : List V) (u_ : List (Option Blk)) (x x_2 n_1 : Int) (c_ : V -> List Blk -> Bool) : codesV ⟨Pg, ofList [], isref, N⟩ 0 (anj108 N) ((cds Pg 220).drop 5) 0 (lsj204 d_ u_ x x_2 n_1) (finV Pg 220 0 c_) = Jj204 N x x_2 n_1 (fun r0 => c_ (.int .i64 r0) []) := by kernel_rfl
theorem hdj201 (N : Nat) (d_ : List V) (u_ : List (Option Blk)) (x x_1 n : Int) (c_ : V -> List Blk -> Bool) (κn_ : St -> Bool) : codesV ⟨Pg, ofList [], isref, N⟩ 0 (anj108 N) (sg Pg 220 3 2) 0 (lsj201 d_ u_ x x_1 n) { (finV Pg 220 0 c_) with nrm := κn_ } = (cond (decide (x_1 >= 65536)) ((fits .i64 (n + 16)) && (κn_ (lsj204 (dqs d_ 0 5 (.int .u64 x_1 :: (.bool true :: (.int .u64 x_1 :: (.int .u64 (Int.fdiv x_1 (2 ^ 16)) :: (.int .i64 n :: (.int .i64 (n + 16) :: (dqs d_ 11 12 [])))))))) [] x (Int.fdiv x_1 (2 ^ 16)) (n + 16)))) (κn_ (lsj204 (dqs d_ 0 5 (.int .u64 x_1 :: (.bool false :: (dqs d_ 7 16 [])))) [] x x_1 n))) := by kernel_rfl
theorem jnj201 (N : Nat) (d_ : List V) (u_ : List (Option Blk)) (x x_1 n : Int) (c_ : V -> List Blk -> Bool) : codesV ⟨Pg, ofList [], isref, N⟩ 0 (anj108 N) ((cds Pg 220).drop 3) 0 (lsj201 d_ u_ x x_1 n) (finV Pg 220 0 c_) = Jj201 N x x_1 n (fun r0 => c_ (.int .i64 r0) []) := by
  rw [codesV_cut 3 2 5 rfl]
  refine (hdj201 N d_ u_ x x_1 n c_ _).trans ?_
  simp only [jnj204]
  kernel_rfl
theorem hd_m_bits_Len64_w (N : Nat) (x : Int) (c_ : V -> List Blk -> Bool) (κn_ : St -> Bool) : codesV ⟨Pg, ofList [], isref, N⟩ 0 (anj108 N) (sg Pg 220 0 3) 0 (st0 Pg 220 (shFj108.args [.int x]) []) { (finV Pg 220 0 c_) with nrm := κn_ } = (cond (decide (x >= 4294967296)) (κn_ (lsj201 [.any, .int .u64 x, .bool true, .int .u64 x, .int .u64 (Int.fdiv x (2 ^ 32)), .any, .any, .any, .any, .any, .any, .any, .any, .any, .any, .any, .any, .any, .any, .any, .any, .any, .any] [] x (Int.fdiv x (2 ^ 32)) 32)) (κn_ (lsj201 [.any, .int .u64 x, .bool false, .any, .any, .any, .any, .any, .any, .any, .any, .any, .any, .any, .any, .any, .any, .any, .any, .any, .any, .any, .any] [] x x 0))) := by kernel_rfl
theorem jn_m_bits_Len64_w (N : Nat) (x : Int) (c_ : V -> List Blk -> Bool) : codesV ⟨Pg, ofList [], isref, N⟩ 0 (anj108 N) ((cds Pg 220).drop 0) 0 (st0 Pg 220 (shFj108.args [.int x]) []) (finV Pg 220 0 c_) = Gj108 N x (fun r0 => c_ (.int .i64 r0) []) := by
  rw [codesV_cut 0 3 3 rfl]
  refine (hd_m_bits_Len64_w N x c_ _).trans ?_
  simp only [jnj201]
  kernel_rfl
theorem eqj108 (N : Nat) (x : Int) (c_ : V -> List Blk -> Bool) : bodyV ⟨Pg, ofList [], isref, N⟩ (anj108 N) 220 (shFj108.args [.int x]) [] c_ = Gj108 N x (fun r0 => c_ (.int .i64 r0) []) :=
  (bodyV_codes (by kernel_rfl)).trans (jn_m_bits_Len64_w N x c_)
theorem goodj108 (N : Nat) : GoodF Pg 220 (Fj108 (Gj108 N)) := by
  refine good_fs (cx := ⟨Pg, ofList [], isref, N⟩) (ofList_nil _) shFj108 (spj108 (Gj108 N)) (anj108 N) 0 0 (by kernel_rfl) (fun i_ hi_ => by omega) ?_
  intro a k h
  unfold spj108 at h
  split at h
  · exact ⟨[], rfl, rfl, (eqj108 _ _ _).trans h⟩
  · cases h

def anj150 (N : Nat) (Sj108 : TSj108) : Nat -> Option Ann := fun b_ => none
theorem eqj150 (N : Nat) (Sj108 : TSj108) (x : List Int) (c_ : V -> List Blk -> Bool) : bodyZ ⟨Pg, ofList [(220, (Fj108 Sj108))], isref, N⟩ (anj150 N Sj108) 198 (shFj150.args [.ints x]) [] c_ = Gj150 N Sj108 x (fun r0 => c_ (.int .i64 r0) []) := by kernel_rfl
theorem goodj150 (N : Nat) (Sj108 : TSj108) (hj108 : GoodF Pg 220 (Fj108 Sj108)) : GoodF Pg 198 (Fj150 (Gj150 N Sj108)) := by
  refine good_fsZ (cx := ⟨Pg, ofList [(220, (Fj108 Sj108))], isref, N⟩) (ofList_cons hj108 (ofList_nil _)) shFj150 (spj150 (Gj150 N Sj108)) (anj150 N Sj108) 0 0 (by kernel_rfl) (fun i_ hi_ => by omega) ?_
  intro a k h
  unfold spj150 at h
  split at h
  · exact ⟨[], rfl, rfl, (eqj150 _ _ _ _).trans h⟩
  · cases h

def anj40 (N : Nat) (Sj150 : TSj150) : Nat -> Option Ann := fun b_ => none
theorem eqj40 (N : Nat) (Sj150 : TSj150) (b : Bool) (b_1 : List Int) (c_ : V -> List Blk -> Bool) : bodyZ ⟨Pg, ofList [(198, (Fj150 Sj150))], isref, N⟩ (anj40 N Sj150) 164 (shFj40.args [.bool b, .ints b_1]) [⟨164, 1, .cells [.bool b, .roi .u64 b_1]⟩] c_ = Gj40 N Sj150 b b_1 (fun r0 => c_ (.int .i64 r0) [⟨164, 1, .cells [.bool b, .roi .u64 b_1]⟩]) := by kernel_rfl
theorem goodj40 (N : Nat) (Sj150 : TSj150) (hj150 : GoodF Pg 198 (Fj150 Sj150)) : GoodF Pg 164 (Fj40 (Gj40 N Sj150)) := by
  refine good_fsZ (cx := ⟨Pg, ofList [(198, (Fj150 Sj150))], isref, N⟩) (ofList_cons hj150 (ofList_nil _)) shFj40 (spj40 (Gj40 N Sj150)) (anj40 N Sj150) 0 1 (by kernel_rfl) (fun i_ hi_ => by omega) ?_
  intro a k h
  unfold spj40 at h
  split at h
  · exact ⟨[_], rfl, rfl, (eqj40 _ _ _ _ _).trans h⟩
  · cases h

def anj62 (N : Nat) (Sj142 : TSj142) (Sj0 : TSj0) : Nat -> Option Ann := fun b_ => none
theorem eqj62 (N : Nat) (Sj142 : TSj142) (Sj0 : TSj0) (n : Int) (b : Bool) (c_ : V -> List Blk -> Bool) : bodyZ ⟨Pg, ofList [(193, (Fj142 Sj142)), (170, (Fj0 Sj0))], isref, N⟩ (anj62 N Sj142 Sj0) 199 (shFj62.args [.int n, .bool b]) [⟨164, 1, .cells [.bool b, .nil]⟩] c_ = Gj62 N Sj142 Sj0 n b (fun r0 r1 => c_ (.ptr 0 0) [⟨164, 1, .cells [.bool r0, .roi .u64 r1]⟩]) := by kernel_rfl
theorem goodj62 (N : Nat) (Sj142 : TSj142) (Sj0 : TSj0) (hj142 : GoodF Pg 193 (Fj142 Sj142)) (hj0 : GoodF Pg 170 (Fj0 Sj0)) : GoodF Pg 199 (Fj62 (Gj62 N Sj142 Sj0)) := by
  refine good_fsZ (cx := ⟨Pg, ofList [(193, (Fj142 Sj142)), (170, (Fj0 Sj0))], isref, N⟩) (ofList_cons hj142 (ofList_cons hj0 (ofList_nil _))) shFj62 (spj62 (Gj62 N Sj142 Sj0)) (anj62 N Sj142 Sj0) 0 1 (by kernel_rfl) (fun i_ hi_ => by omega) ?_
  intro a k h
  unfold spj62 at h
  split at h
  · exact ⟨[_], rfl, rfl, (eqj62 _ _ _ _ _ _).trans h⟩
  · cases h

def anj67 (N : Nat) (Sj62 : TSj62) : Nat -> Option Ann := fun b_ => none
theorem eqj67 (N : Nat) (Sj62 : TSj62) (n : Int) (c_ : V -> List Blk -> Bool) : bodyZ ⟨Pg, ofList [(199, (Fj62 Sj62))], isref, N⟩ (anj67 N Sj62) 165 (shFj67.args [.int n]) [] c_ = Gj67 N Sj62 n (fun r0 r1 => c_ (.ptr 0 0) [⟨164, 1, .cells [.bool r0, .roi .u64 r1]⟩]) := by kernel_rfl
theorem goodj67 (N : Nat) (Sj62 : TSj62) (hj62 : GoodF Pg 199 (Fj62 Sj62)) : GoodF Pg 165 (Fj67 (Gj67 N Sj62)) := by
  refine good_fsZ (cx := ⟨Pg, ofList [(199, (Fj62 Sj62))], isref, N⟩) (ofList_cons hj62 (ofList_nil _)) shFj67 (spj67 (Gj67 N Sj62)) (anj67 N Sj62) 0 0 (by kernel_rfl) (fun i_ hi_ => by omega) ?_
  intro a k h
  unfold spj67 at h
  split at h
  · exact ⟨[], rfl, rfl, (eqj67 _ _ _ _).trans h⟩
  · cases h

def anj39 (N : Nat) (Sj82 : TSj82) (Sj0 : TSj0) : Nat -> Option Ann := fun b_ => none
theorem eqj39 (N : Nat) (Sj82 : TSj82) (Sj0 : TSj0) (b b_1 : Bool) (b_2 : List Int) (c_ : V -> List Blk -> Bool) : bodyZ ⟨Pg, ofList [(171, (Fj82 Sj82)), (170, (Fj0 Sj0))], isref, N⟩ (anj39 N Sj82 Sj0) 166 (shFj39.args [.bool b, .bool b_1, .ints b_2]) [⟨164, 1, .cells [.bool b, .nil]⟩, ⟨164, 1, .cells [.bool b_1, .roi .u64 b_2]⟩] c_ = Gj39 N Sj82 Sj0 b b_1 b_2 (fun r0 r1 => c_ (.ptr 0 0) [⟨164, 1, .cells [.bool r0, .roi .u64 r1]⟩, ⟨164, 1, .cells [.bool b_1, .roi .u64 b_2]⟩]) := by kernel_rfl
theorem goodj39 (N : Nat) (Sj82 : TSj82) (Sj0 : TSj0) (hj82 : GoodF Pg 171 (Fj82 Sj82)) (hj0 : GoodF Pg 170 (Fj0 Sj0)) : GoodF Pg 166 (Fj39 (Gj39 N Sj82 Sj0)) := by
  refine good_fsZ (cx := ⟨Pg, ofList [(171, (Fj82 Sj82)), (170, (Fj0 Sj0))], isref, N⟩) (ofList_cons hj82 (ofList_cons hj0 (ofList_nil _))) shFj39 (spj39 (Gj39 N Sj82 Sj0)) (anj39 N Sj82 Sj0) 0 2 (by kernel_rfl) (fun i_ hi_ => by omega) ?_
  intro a k h
  unfold spj39 at h
  split at h
  · exact ⟨[_, _], rfl, rfl, (eqj39 _ _ _ _ _ _ _).trans h⟩
  · cases h

def anj46 (N : Nat) : Nat -> Option Ann := fun b_ => none
theorem eqj46 (N : Nat) (neg : Bool) (abs_0 abs_1 : Nat) (b : Bool) (b_1 : List Int) (c_ : V -> List Blk -> Bool) : bodyZ ⟨Pg, ofList [], isref, N⟩ (anj46 N) 170 (shFj46.args [.bool neg, .nat abs_0, .nat abs_1, .bool b, .ints b_1]) [⟨164, 1, .cells [.bool b, .nil]⟩, ⟨41, 1, .ints .u64 b_1⟩] c_ = Gj46 N neg abs_0 abs_1 b b_1 (fun r0 => c_ (.ptr 0 0) [⟨164, 1, .cells [.bool r0, .sl 1 abs_0 abs_1]⟩, ⟨41, 1, .ints .u64 b_1⟩]) := by kernel_rfl
theorem goodj46 (N : Nat) : GoodF Pg 170 (Fj46 (Gj46 N)) := by
  refine good_fsZ (cx := ⟨Pg, ofList [], isref, N⟩) (ofList_nil _) shFj46 (spj46 (Gj46 N)) (anj46 N) 0 2 (by kernel_rfl) (fun i_ hi_ => by omega) ?_
  intro a k h
  unfold spj46 at h
  split at h
  · exact ⟨[_, _], rfl, rfl, (eqj46 _ _ _ _ _ _ _).trans h⟩
  · cases h

def sh_st_big_Int_And_p0p1p2nrr_0 : StSh := ⟨(.ptr 0 0 :: (.ptr 1 0 :: (.ptr 2 0 :: (sqs 4 (.slw 3 :: (sqs 14 (.int .i64 :: (.int .i64 :: (sqs 25 []))))))))), [some (164, 1, .cells [.bool, .nil]), some (164, 1, .cells [.bool, .roi .u64]), some (164, 1, .cells [.bool, .roi .u64]), some (41, 1, .ints .u64)]⟩
def sx0_st_big_Int_And_p0p1p2nrr_0 : StSh := ⟨(.ptr 0 0 :: (sqs 6 (.slw 3 :: (sqs 41 [])))), [some (164, 1, .cells [.bool, .nil]), some (164, 1, .cells [.bool, .roi .u64]), some (164, 1, .cells [.bool, .roi .u64]), some (41, 1, .ints .u64)]⟩
def hk_st_big_Int_And_p0p1p2nrr_0 (N : Nat) (Sj1 : TSj1) (Sj46 : TSj46) : List Atom -> K -> Bool := fun a_ κ => match a_ with
  | [.int t22, .int t23, .bool z, .bool x, .ints x_1, .bool y, .ints y_1, .ints r] => iterG N (stj206 N Sj1 Sj46 t22 z x x_1 y y_1 (fun r5 => κ.ext 0 (sx0_st_big_Int_And_p0p1p2nrr_0.build [.bool z, .bool x, .ints x_1, .bool y, .ints y_1, .ints r5]))) (t23, r)
  | _ => false
def anj25 (N : Nat) (Sj1 : TSj1) (Sj46 : TSj46) : Nat -> Option Ann := fun b_ => cond (b_ == 0) (some ⟨⟨[0, 1, 2, 7, 22, 23], [], []⟩, [(0, ⟨[0, 7], [], []⟩)], some ⟨[6], [], []⟩, some (mkHooks [(sh_st_big_Int_And_p0p1p2nrr_0, hk_st_big_Int_And_p0p1p2nrr_0 N Sj1 Sj46)])⟩) (none)
theorem eq_st_big_Int_And_p0p1p2nrr_0 (N : Nat) (Sj1 : TSj1) (Sj46 : TSj46) (κ : K) (t22 t23 : Int) (z x : Bool) (x_1 : List Int) (y : Bool) (y_1 r : List Int) : iter N (fun s k => codeV ⟨Pg, ofList [(202, (Fj1 Sj1)), (170, (Fj46 Sj46))], isref, N⟩ 3 (anj25 N Sj1 Sj46) (lp Pg 168 0).2 (lp Pg 168 0).1 s (roundK Pg 3 ((anj25 N Sj1 Sj46) (lp Pg 168 0).1) κ k)) (sh_st_big_Int_And_p0p1p2nrr_0.build [.int t22, .int t23, .bool z, .bool x, .ints x_1, .bool y, .ints y_1, .ints r]) = iterG N (stj206 N Sj1 Sj46 t22 z x x_1 y y_1 (fun r5 => κ.ext 0 (sx0_st_big_Int_And_p0p1p2nrr_0.build [.bool z, .bool x, .ints x_1, .bool y, .ints y_1, .ints r5]))) (t23, r) :=
  iter_tr (fun (v_ : Int × List Int) => sh_st_big_Int_And_p0p1p2nrr_0.build [.int t22, .int v_.1, .bool z, .bool x, .ints x_1, .bool y, .ints y_1, .ints v_.2]) (fun v_ K_ => by obtain ⟨t23, r⟩ := v_; kernel_rfl) N (t23, r)
theorem hk1_st_big_Int_And_p0p1p2nrr_0 (N : Nat) (Sj1 : TSj1) (Sj46 : TSj46) : HookFor ⟨Pg, ofList [(202, (Fj1 Sj1)), (170, (Fj46 Sj46))], isref, N⟩ 3 (anj25 N Sj1 Sj46) (lp Pg 168 0) (sh_st_big_Int_And_p0p1p2nrr_0, hk_st_big_Int_And_p0p1p2nrr_0 N Sj1 Sj46) := by
  intro a κ h
  simp only at h
  unfold hk_st_big_Int_And_p0p1p2nrr_0 at h
  split at h
  · exact (eq_st_big_Int_And_p0p1p2nrr_0 _ _ _ _ _ _ _ _ _ _ _ _).trans h
  · cases h
theorem ho_big_Int_And_p0p1p2nrr_0 (N : Nat) (Sj1 : TSj1) (Sj46 : TSj46) : HookOk ⟨Pg, ofList [(202, (Fj1 Sj1)), (170, (Fj46 Sj46))], isref, N⟩ 3 (anj25 N Sj1 Sj46) (lp Pg 168 0) :=
  hooks_ok [(sh_st_big_Int_And_p0p1p2nrr_0, hk_st_big_Int_And_p0p1p2nrr_0 N Sj1 Sj46)] (by kernel_rfl) ⟨hk1_st_big_Int_And_p0p1p2nrr_0 _ _ _, trivial⟩
theorem eqj25 (N : Nat) (Sj1 : TSj1) (Sj46 : TSj46) (b b_1 : Bool) (b_2 : List Int) (b_3 : Bool) (b_4 : List Int) (c_ : V -> List Blk -> Bool) : bodyZ ⟨Pg, ofList [(202, (Fj1 Sj1)), (170, (Fj46 Sj46))], isref, N⟩ (anj25 N Sj1 Sj46) 168 (shFj25.args [.bool b, .bool b_1, .ints b_2, .bool b_3, .ints b_4]) [⟨164, 1, .cells [.bool b, .nil]⟩, ⟨164, 1, .cells [.bool b_1, .roi .u64 b_2]⟩, ⟨164, 1, .cells [.bool b_3, .roi .u64 b_4]⟩] c_ = Gj25 N Sj1 Sj46 b b_1 b_2 b_3 b_4 (fun r0 r1 => c_ (.ptr 0 0) [⟨164, 1, .cells [.bool r0, .roi .u64 r1]⟩, ⟨164, 1, .cells [.bool b_1, .roi .u64 b_2]⟩, ⟨164, 1, .cells [.bool b_3, .roi .u64 b_4]⟩]) := by kernel_rfl
theorem goodj25 (N : Nat) (Sj1 : TSj1) (Sj46 : TSj46) (hj1 : GoodF Pg 202 (Fj1 Sj1)) (hj46 : GoodF Pg 170 (Fj46 Sj46)) : GoodF Pg 168 (Fj25 (Gj25 N Sj1 Sj46)) := by
  refine good_fsZ (cx := ⟨Pg, ofList [(202, (Fj1 Sj1)), (170, (Fj46 Sj46))], isref, N⟩) (ofList_cons hj1 (ofList_cons hj46 (ofList_nil _))) shFj25 (spj25 (Gj25 N Sj1 Sj46)) (anj25 N Sj1 Sj46) 1 3 (by kernel_rfl) (fun i_ hi_ => by
    match i_, hi_ with
    | 0, _ => exact ho_big_Int_And_p0p1p2nrr_0 _ _ _
    | (q + 1), h => omega) ?_
  intro a k h
  unfold spj25 at h
  split at h
  · exact ⟨[_, _, _], rfl, rfl, (eqj25 _ _ _ _ _ _ _ _ _).trans h⟩
  · cases h

def anj193 (N : Nat) (Sj19 : TSj19) : Nat -> Option Ann := fun b_ => none
theorem eqj193 (N : Nat) (Sj19 : TSj19) (x : List Int) (c_ : V -> List Blk -> Bool) : bodyZ ⟨Pg, ofList [(205, (Fj19 Sj19))], isref, N⟩ (anj193 N Sj19) 203 (shFj193.args [.ints x]) [] c_ = Gj193 N Sj19 x (fun r0 => c_ (.int .u64 r0) []) := by kernel_rfl
theorem goodj193 (N : Nat) (Sj19 : TSj19) (hj19 : GoodF Pg 205 (Fj19 Sj19)) : GoodF Pg 203 (Fj193 (Gj193 N Sj19)) := by
  refine good_fsZ (cx := ⟨Pg, ofList [(205, (Fj19 Sj19))], isref, N⟩) (ofList_cons hj19 (ofList_nil _)) shFj193 (spj193 (Gj193 N Sj19)) (anj193 N Sj19) 0 0 (by kernel_rfl) (fun i_ hi_ => by omega) ?_
  intro a k h
  unfold spj193 at h
  split at h
  · exact ⟨[], rfl, rfl, (eqj193 _ _ _ _).trans h⟩
  · cases h

def anj41 (N : Nat) (Sj193 : TSj193) : Nat -> Option Ann := fun b_ => none
theorem eqj41 (N : Nat) (Sj193 : TSj193) (b : Bool) (b_1 : List Int) (c_ : V -> List Blk -> Bool) : bodyZ ⟨Pg, ofList [(203, (Fj193 Sj193))], isref, N⟩ (anj41 N Sj193) 169 (shFj41.args [.bool b, .ints b_1]) [⟨164, 1, .cells [.bool b, .roi .u64 b_1]⟩] c_ = Gj41 N Sj193 b b_1 (fun r0 => c_ (.int .u64 r0) [⟨164, 1, .cells [.bool b, .roi .u64 b_1]⟩]) := by kernel_rfl
theorem goodj41 (N : Nat) (Sj193 : TSj193) (hj193 : GoodF Pg 203 (Fj193 Sj193)) : GoodF Pg 169 (Fj41 (Gj41 N Sj193)) := by
  refine good_fsZ (cx := ⟨Pg, ofList [(203, (Fj193 Sj193))], isref, N⟩) (ofList_cons hj193 (ofList_nil _)) shFj41 (spj41 (Gj41 N Sj193)) (anj41 N Sj193) 0 1 (by kernel_rfl) (fun i_ hi_ => by omega) ?_
  intro a k h
  unfold spj41 at h
  split at h
  · exact ⟨[_], rfl, rfl, (eqj41 _ _ _ _ _).trans h⟩
  · cases h

def sh_st_v_dyad_exact_put_p0r_0 : StSh := ⟨(.any :: (.any :: (.ptr 1 0 :: (.any :: (.ptr 2 0 :: (.ptr 3 0 :: (.ptr 4 0 :: (sqs 52 [])))))))), [some (164, 1, .cells [.bool, .roi .u64]), some (124, 1, .cells [.bool, .nil, .int .i64]), some (124, 1, .cells [.bool, .slw 5, .int .i64]), some (164, 1, .cells [.bool, .roi .u64]), some (164, 1, .cells [.bool, .roi .u64]), some (127, 1, .ints .u32)]⟩
def sx0_st_v_dyad_exact_put_p0r_0 : StSh := ⟨(.any :: (.any :: (.ptr 1 0 :: (.any :: (.ptr 2 0 :: (sqs 54 [])))))), [some (164, 1, .cells [.bool, .roi .u64]), some (124, 1, .cells [.bool, .nil, .int .i64]), some (124, 1, .cells [.bool, .slw 3, .int .i64]), some (127, 1, .ints .u32)]⟩
def hk_st_v_dyad_exact_put_p0r_0 (N : Nat) (Sj21 : TSj21) (Sj3 : TSj3) (Sj40 : TSj40) (Sj67 : TSj67) (Sj39 : TSj39) (Sj25 : TSj25) (Sj41 : TSj41) (Sj17 : TSj17) : List Atom -> K -> Bool := fun a_ κ => match a_ with
  | [.bool b0_2, .ints b0_3, .bool t2_2, .int t2_3, .bool d_2, .int d_3, .bool mask_2, .ints mask_3, .bool m_2, .ints m_3, .ints b5] => iterG N (stj210 N Sj21 Sj3 Sj40 Sj67 Sj39 Sj25 Sj41 Sj17 b0_2 b0_3 t2_2 t2_3 d_2 d_3 mask_2 mask_3 (fun r6 => κ.ext 0 (sx0_st_v_dyad_exact_put_p0r_0.build [.bool b0_2, .ints b0_3, .bool t2_2, .int t2_3, .bool d_2, .int d_3, .ints r6]))) (m_2, m_3, b5)
  | _ => false
def anj16 (N : Nat) (Sj21 : TSj21) (Sj3 : TSj3) (Sj40 : TSj40) (Sj67 : TSj67) (Sj39 : TSj39) (Sj25 : TSj25) (Sj41 : TSj41) (Sj17 : TSj17) : Nat -> Option Ann := fun b_ => cond (b_ == 0) (some ⟨⟨[2, 4, 5, 6], [(4, some 1, 127)], []⟩, [(0, ⟨[2, 4], [], []⟩)], some ⟨[2, 3], [], []⟩, some (mkHooks [(sh_st_v_dyad_exact_put_p0r_0, hk_st_v_dyad_exact_put_p0r_0 N Sj21 Sj3 Sj40 Sj67 Sj39 Sj25 Sj41 Sj17)])⟩) (none)
theorem eq_st_v_dyad_exact_put_p0r_0 (N : Nat) (Sj21 : TSj21) (Sj3 : TSj3) (Sj40 : TSj40) (Sj67 : TSj67) (Sj39 : TSj39) (Sj25 : TSj25) (Sj41 : TSj41) (Sj17 : TSj17) (κ : K) (b0_2 : Bool) (b0_3 : List Int) (t2_2 : Bool) (t2_3 : Int) (d_2 : Bool) (d_3 : Int) (mask_2 : Bool) (mask_3 : List Int) (m_2 : Bool) (m_3 b5 : List Int) : iter N (fun s k => codeV ⟨Pg, ofList [(163, (Fj21 Sj21)), (134, (Fj3 Sj3)), (164, (Fj40 Sj40)), (165, (Fj67 Sj67)), (166, (Fj39 Sj39)), (168, (Fj25 Sj25)), (169, (Fj41 Sj41)), (167, (Fj17 Sj17))], isref, N⟩ 1 (anj16 N Sj21 Sj3 Sj40 Sj67 Sj39 Sj25 Sj41 Sj17) (lp Pg 128 0).2 (lp Pg 128 0).1 s (roundK Pg 1 ((anj16 N Sj21 Sj3 Sj40 Sj67 Sj39 Sj25 Sj41 Sj17) (lp Pg 128 0).1) κ k)) (sh_st_v_dyad_exact_put_p0r_0.build [.bool b0_2, .ints b0_3, .bool t2_2, .int t2_3, .bool d_2, .int d_3, .bool mask_2, .ints mask_3, .bool m_2, .ints m_3, .ints b5]) = iterG N (stj210 N Sj21 Sj3 Sj40 Sj67 Sj39 Sj25 Sj41 Sj17 b0_2 b0_3 t2_2 t2_3 d_2 d_3 mask_2 mask_3 (fun r6 => κ.ext 0 (sx0_st_v_dyad_exact_put_p0r_0.build [.bool b0_2, .ints b0_3, .bool t2_2, .int t2_3, .bool d_2, .int d_3, .ints r6]))) (m_2, m_3, b5) :=
  iter_tr (fun (v_ : Bool × List Int × List Int) => sh_st_v_dyad_exact_put_p0r_0.build [.bool b0_2, .ints b0_3, .bool t2_2, .int t2_3, .bool d_2, .int d_3, .bool mask_2, .ints mask_3, .bool v_.1, .ints v_.2.1, .ints v_.2.2]) (fun v_ K_ => by obtain ⟨m_2, m_3, b5⟩ := v_; kernel_rfl) N (m_2, m_3, b5)
theorem hk1_st_v_dyad_exact_put_p0r_0 (N : Nat) (Sj21 : TSj21) (Sj3 : TSj3) (Sj40 : TSj40) (Sj67 : TSj67) (Sj39 : TSj39) (Sj25 : TSj25) (Sj41 : TSj41) (Sj17 : TSj17) : HookFor ⟨Pg, ofList [(163, (Fj21 Sj21)), (134, (Fj3 Sj3)), (164, (Fj40 Sj40)), (165, (Fj67 Sj67)), (166, (Fj39 Sj39)), (168, (Fj25 Sj25)), (169, (Fj41 Sj41)), (167, (Fj17 Sj17))], isref, N⟩ 1 (anj16 N Sj21 Sj3 Sj40 Sj67 Sj39 Sj25 Sj41 Sj17) (lp Pg 128 0) (sh_st_v_dyad_exact_put_p0r_0, hk_st_v_dyad_exact_put_p0r_0 N Sj21 Sj3 Sj40 Sj67 Sj39 Sj25 Sj41 Sj17) := by
  intro a κ h
  simp only at h
  unfold hk_st_v_dyad_exact_put_p0r_0 at h
  split at h
  · exact (eq_st_v_dyad_exact_put_p0r_0 _ _ _ _ _ _ _ _ _ _ _ _ _ _ _ _ _ _ _ _ _).trans h
  · cases h
theorem ho_v_dyad_exact_put_p0r_0 (N : Nat) (Sj21 : TSj21) (Sj3 : TSj3) (Sj40 : TSj40) (Sj67 : TSj67) (Sj39 : TSj39) (Sj25 : TSj25) (Sj41 : TSj41) (Sj17 : TSj17) : HookOk ⟨Pg, ofList [(163, (Fj21 Sj21)), (134, (Fj3 Sj3)), (164, (Fj40 Sj40)), (165, (Fj67 Sj67)), (166, (Fj39 Sj39)), (168, (Fj25 Sj25)), (169, (Fj41 Sj41)), (167, (Fj17 Sj17))], isref, N⟩ 1 (anj16 N Sj21 Sj3 Sj40 Sj67 Sj39 Sj25 Sj41 Sj17) (lp Pg 128 0) :=
  hooks_ok [(sh_st_v_dyad_exact_put_p0r_0, hk_st_v_dyad_exact_put_p0r_0 N Sj21 Sj3 Sj40 Sj67 Sj39 Sj25 Sj41 Sj17)] (by kernel_rfl) ⟨hk1_st_v_dyad_exact_put_p0r_0 _ _ _ _ _ _ _ _ _, trivial⟩
theorem eqj16 (N : Nat) (Sj21 : TSj21) (Sj3 : TSj3) (Sj40 : TSj40) (Sj67 : TSj67) (Sj39 : TSj39) (Sj25 : TSj25) (Sj41 : TSj41) (Sj17 : TSj17) (x : Int) (b : Bool) (b_1 : List Int) (c_ : V -> List Blk -> Bool) : bodyV ⟨Pg, ofList [(163, (Fj21 Sj21)), (134, (Fj3 Sj3)), (164, (Fj40 Sj40)), (165, (Fj67 Sj67)), (166, (Fj39 Sj39)), (168, (Fj25 Sj25)), (169, (Fj41 Sj41)), (167, (Fj17 Sj17))], isref, N⟩ (anj16 N Sj21 Sj3 Sj40 Sj67 Sj39 Sj25 Sj41 Sj17) 128 (shFj16.args [.int x, .bool b, .ints b_1]) [⟨164, 1, .cells [.bool b, .roi .u64 b_1]⟩] c_ = Gj16 N Sj21 Sj3 Sj40 Sj67 Sj39 Sj25 Sj41 Sj17 x b b_1 (fun r0 r1 r2 => c_ (.tup [.agg [.bool r0, .nil, .int .i64 r1], .int .i64 r2]) [⟨164, 1, .cells [.bool b, .roi .u64 b_1]⟩]) (fun r0 r1 r2 r5 => c_ (.tup [.agg [.bool r0, .slw 1, .int .i64 r1], .int .i64 r2]) [⟨164, 1, .cells [.bool b, .roi .u64 b_1]⟩, ⟨127, 1, .ints .u32 r5⟩]) := by kernel_rfl
theorem goodj16 (N : Nat) (Sj21 : TSj21) (Sj3 : TSj3) (Sj40 : TSj40) (Sj67 : TSj67) (Sj39 : TSj39) (Sj25 : TSj25) (Sj41 : TSj41) (Sj17 : TSj17) (hj21 : GoodF Pg 163 (Fj21 Sj21)) (hj3 : GoodF Pg 134 (Fj3 Sj3)) (hj40 : GoodF Pg 164 (Fj40 Sj40)) (hj67 : GoodF Pg 165 (Fj67 Sj67)) (hj39 : GoodF Pg 166 (Fj39 Sj39)) (hj25 : GoodF Pg 168 (Fj25 Sj25)) (hj41 : GoodF Pg 169 (Fj41 Sj41)) (hj17 : GoodF Pg 167 (Fj17 Sj17)) : GoodF Pg 128 (Fj16 (Gj16 N Sj21 Sj3 Sj40 Sj67 Sj39 Sj25 Sj41 Sj17)) := by
  refine good_fs (cx := ⟨Pg, ofList [(163, (Fj21 Sj21)), (134, (Fj3 Sj3)), (164, (Fj40 Sj40)), (165, (Fj67 Sj67)), (166, (Fj39 Sj39)), (168, (Fj25 Sj25)), (169, (Fj41 Sj41)), (167, (Fj17 Sj17))], isref, N⟩) (ofList_cons hj21 (ofList_cons hj3 (ofList_cons hj40 (ofList_cons hj67 (ofList_cons hj39 (ofList_cons hj25 (ofList_cons hj41 (ofList_cons hj17 (ofList_nil _))))))))) shFj16 (spj16 (Gj16 N Sj21 Sj3 Sj40 Sj67 Sj39 Sj25 Sj41 Sj17)) (anj16 N Sj21 Sj3 Sj40 Sj67 Sj39 Sj25 Sj41 Sj17) 1 1 (by kernel_rfl) (fun i_ hi_ => by
    match i_, hi_ with
    | 0, _ => exact ho_v_dyad_exact_put_p0r_0 _ _ _ _ _ _ _ _ _
    | (q + 1), h => omega) ?_
  intro a k h
  unfold spj16 at h
  split at h
  · exact ⟨[_], rfl, rfl, (eqj16 _ _ _ _ _ _ _ _ _ _ _ _ _).trans h⟩
  · cases h

def sh_st_dyad_Dot_0 : StSh := ⟨(.any :: (.rof :: (.any :: (.any :: (.ptr 0 0 :: (.any :: (.ptr 1 0 :: (sqs 19 (.rof :: (.int .i64 :: (.int .i64 :: (sqs 19 [])))))))))))), [some (124, 1, .cells [.bool, .nil, .int .i64]), some (166, 1, .cells [.ptr 2 0, .int .i64]), some (164, 1, .cells [.bool, .roi .u64])]⟩
def sx0_st_dyad_Dot_0 : StSh := ⟨(sqs 4 (.ptr 0 0 :: (.any :: (.ptr 1 0 :: (sqs 41 []))))), [some (124, 1, .cells [.bool, .nil, .int .i64]), some (166, 1, .cells [.ptr 2 0, .int .i64]), some (164, 1, .cells [.bool, .roi .u64])]⟩
def hk_st_dyad_Dot_0 (N : Nat) (Sj121 : TSj121) (Sj175 : TSj175) (Sj18 : TSj18) (Sj20 : TSj20) (Sj4 : TSj4) (Sj16 : TSj16) : List Atom -> K -> Bool := fun a_ κ => match a_ with
  | [.fls b_2, .fls t26_1, .int t27_1, .int t28_1, .bool t4_2, .int t4_3, .int s_1, .bool b2_1, .ints b2_2] => iterG N (st_dyad_Dot_0 N Sj121 Sj175 Sj18 Sj20 Sj4 Sj16 b_2 t26_1 t27_1 t4_2 t4_3 (fun r2 r3 r4 => κ.ext 0 (sx0_st_dyad_Dot_0.build [.bool t4_2, .int t4_3, .int r2, .bool r3, .ints r4]))) (t28_1, s_1, b2_1, b2_2)
  | _ => false
def anj94 (N : Nat) (Sj121 : TSj121) (Sj175 : TSj175) (Sj18 : TSj18) (Sj20 : TSj20) (Sj4 : TSj4) (Sj16 : TSj16) : Nat -> Option Ann := fun b_ => cond (b_ == 0) (some ⟨⟨[1, 4, 6, 26, 27, 28], [], [(2, 1, some .u64)]⟩, [(0, ⟨[4, 6], [], []⟩)], some ⟨[4, 5], [], []⟩, some (mkHooks [(sh_st_dyad_Dot_0, hk_st_dyad_Dot_0 N Sj121 Sj175 Sj18 Sj20 Sj4 Sj16)])⟩) (none)
theorem eq_st_dyad_Dot_0 (N : Nat) (Sj121 : TSj121) (Sj175 : TSj175) (Sj18 : TSj18) (Sj20 : TSj20) (Sj4 : TSj4) (Sj16 : TSj16) (κ : K) (b_2 t26_1 : List Fl) (t27_1 t28_1 : Int) (t4_2 : Bool) (t4_3 s_1 : Int) (b2_1 : Bool) (b2_2 : List Int) : iter N (fun s k => codeV ⟨Pg, ofList [(124, (Fj121 Sj121)), (126, (Fj175 Sj175)), (127, (Fj18 Sj18)), (125, (orFs (Fj20 Sj20) (Fj4 Sj4) shFj20)), (128, (Fj16 Sj16))], isref, N⟩ 0 (anj94 N Sj121 Sj175 Sj18 Sj20 Sj4 Sj16) (lp Pg 79 0).2 (lp Pg 79 0).1 s (roundK Pg 0 ((anj94 N Sj121 Sj175 Sj18 Sj20 Sj4 Sj16) (lp Pg 79 0).1) κ k)) (sh_st_dyad_Dot_0.build [.fls b_2, .fls t26_1, .int t27_1, .int t28_1, .bool t4_2, .int t4_3, .int s_1, .bool b2_1, .ints b2_2]) = iterG N (st_dyad_Dot_0 N Sj121 Sj175 Sj18 Sj20 Sj4 Sj16 b_2 t26_1 t27_1 t4_2 t4_3 (fun r2 r3 r4 => κ.ext 0 (sx0_st_dyad_Dot_0.build [.bool t4_2, .int t4_3, .int r2, .bool r3, .ints r4]))) (t28_1, s_1, b2_1, b2_2) :=
  iter_tr (fun (v_ : Int × Int × Bool × List Int) => sh_st_dyad_Dot_0.build [.fls b_2, .fls t26_1, .int t27_1, .int v_.1, .bool t4_2, .int t4_3, .int v_.2.1, .bool v_.2.2.1, .ints v_.2.2.2]) (fun v_ K_ => by obtain ⟨t28_1, s_1, b2_1, b2_2⟩ := v_; kernel_rfl) N (t28_1, s_1, b2_1, b2_2)
theorem hk1_st_dyad_Dot_0 (N : Nat) (Sj121 : TSj121) (Sj175 : TSj175) (Sj18 : TSj18) (Sj20 : TSj20) (Sj4 : TSj4) (Sj16 : TSj16) : HookFor ⟨Pg, ofList [(124, (Fj121 Sj121)), (126, (Fj175 Sj175)), (127, (Fj18 Sj18)), (125, (orFs (Fj20 Sj20) (Fj4 Sj4) shFj20)), (128, (Fj16 Sj16))], isref, N⟩ 0 (anj94 N Sj121 Sj175 Sj18 Sj20 Sj4 Sj16) (lp Pg 79 0) (sh_st_dyad_Dot_0, hk_st_dyad_Dot_0 N Sj121 Sj175 Sj18 Sj20 Sj4 Sj16) := by
  intro a κ h
  simp only at h
  unfold hk_st_dyad_Dot_0 at h
  split at h
  · exact (eq_st_dyad_Dot_0 _ _ _ _ _ _ _ _ _ _ _ _ _ _ _ _ _).trans h
  · cases h
theorem ho_dyad_Dot_0 (N : Nat) (Sj121 : TSj121) (Sj175 : TSj175) (Sj18 : TSj18) (Sj20 : TSj20) (Sj4 : TSj4) (Sj16 : TSj16) : HookOk ⟨Pg, ofList [(124, (Fj121 Sj121)), (126, (Fj175 Sj175)), (127, (Fj18 Sj18)), (125, (orFs (Fj20 Sj20) (Fj4 Sj4) shFj20)), (128, (Fj16 Sj16))], isref, N⟩ 0 (anj94 N Sj121 Sj175 Sj18 Sj20 Sj4 Sj16) (lp Pg 79 0) :=
  hooks_ok [(sh_st_dyad_Dot_0, hk_st_dyad_Dot_0 N Sj121 Sj175 Sj18 Sj20 Sj4 Sj16)] (by kernel_rfl) ⟨hk1_st_dyad_Dot_0 _ _ _ _ _ _ _, trivial⟩
theorem eqj94 (N : Nat) (Sj121 : TSj121) (Sj175 : TSj175) (Sj18 : TSj18) (Sj20 : TSj20) (Sj4 : TSj4) (Sj16 : TSj16) (a b : List Fl) (c_ : V -> List Blk -> Bool) : bodyV ⟨Pg, ofList [(124, (Fj121 Sj121)), (126, (Fj175 Sj175)), (127, (Fj18 Sj18)), (125, (orFs (Fj20 Sj20) (Fj4 Sj4) shFj20)), (128, (Fj16 Sj16))], isref, N⟩ (anj94 N Sj121 Sj175 Sj18 Sj20 Sj4 Sj16) 79 (shFj94.args [.fls a, .fls b]) [] c_ = Gj94 N Sj121 Sj175 Sj18 Sj20 Sj4 Sj16 a b (fun r0 r1 r2 => c_ (.tup [.agg [.bool r0, .nil, .int .i64 r1], .int .i64 r2]) []) (fun r0 r1 r2 r3 => c_ (.tup [.agg [.bool r0, .slw 0, .int .i64 r1], .int .i64 r2]) [⟨127, 1, .ints .u32 r3⟩]) := by kernel_rfl
theorem goodj94 (N : Nat) (Sj121 : TSj121) (Sj175 : TSj175) (Sj18 : TSj18) (Sj20 : TSj20) (Sj4 : TSj4) (Sj16 : TSj16) (hj121 : GoodF Pg 124 (Fj121 Sj121)) (hj175 : GoodF Pg 126 (Fj175 Sj175)) (hj18 : GoodF Pg 127 (Fj18 Sj18)) (hj20 : GoodF Pg 125 (Fj20 Sj20)) (hj4 : GoodF Pg 125 (Fj4 Sj4)) (hj16 : GoodF Pg 128 (Fj16 Sj16)) : GoodF Pg 79 (Fj94 (Gj94 N Sj121 Sj175 Sj18 Sj20 Sj4 Sj16)) := by
  refine good_fs (cx := ⟨Pg, ofList [(124, (Fj121 Sj121)), (126, (Fj175 Sj175)), (127, (Fj18 Sj18)), (125, (orFs (Fj20 Sj20) (Fj4 Sj4) shFj20)), (128, (Fj16 Sj16))], isref, N⟩) (ofList_cons hj121 (ofList_cons hj175 (ofList_cons hj18 (ofList_cons (good_or hj20 hj4) (ofList_cons hj16 (ofList_nil _)))))) shFj94 (spj94 (Gj94 N Sj121 Sj175 Sj18 Sj20 Sj4 Sj16)) (anj94 N Sj121 Sj175 Sj18 Sj20 Sj4 Sj16) 1 0 (by kernel_rfl) (fun i_ hi_ => by
    match i_, hi_ with
    | 0, _ => exact ho_dyad_Dot_0 _ _ _ _ _ _ _
    | (q + 1), h => omega) ?_
  intro a k h
  unfold spj94 at h
  split at h
  · exact ⟨[], rfl, rfl, (eqj94 _ _ _ _ _ _ _ _ _ _).trans h⟩
  · cases h

def anj141 (N : Nat) : Nat -> Option Ann := fun b_ => none
theorem eqj141 (N : Nat) (d_0 : Bool) (d_1 : List Int) (d_2 : Int) (c_ : V -> List Blk -> Bool) : bodyV ⟨Pg, ofList [], isref, N⟩ (anj141 N) 132 (shFj141.args [.bool d_0, .ints d_1, .int d_2]) [] c_ = Gj141 N d_0 d_1 d_2 (fun r0 => c_ (.bool r0) []) := by kernel_rfl
theorem goodj141 (N : Nat) : GoodF Pg 132 (Fj141 (Gj141 N)) := by
  refine good_fs (cx := ⟨Pg, ofList [], isref, N⟩) (ofList_nil _) shFj141 (spj141 (Gj141 N)) (anj141 N) 0 0 (by kernel_rfl) (fun i_ hi_ => by omega) ?_
  intro a k h
  unfold spj141 at h
  split at h
  · exact ⟨[], rfl, rfl, (eqj141 _ _ _ _ _).trans h⟩
  · cases h

def anj48 (N : Nat) (Sj119 : TSj119) (Sj0 : TSj0) : Nat -> Option Ann := fun b_ => none
theorem eqj48 (N : Nat) (Sj119 : TSj119) (Sj0 : TSj0) (n : Int) (b : Bool) (c_ : V -> List Blk -> Bool) : bodyZ ⟨Pg, ofList [(204, (Fj119 Sj119)), (170, (Fj0 Sj0))], isref, N⟩ (anj48 N Sj119 Sj0) 172 (shFj48.args [.int n, .bool b]) [⟨164, 1, .cells [.bool b, .nil]⟩] c_ = Gj48 N Sj119 Sj0 n b (fun r0 r1 => c_ (.ptr 0 0) [⟨164, 1, .cells [.bool r0, .roi .u64 r1]⟩]) := by kernel_rfl
theorem goodj48 (N : Nat) (Sj119 : TSj119) (Sj0 : TSj0) (hj119 : GoodF Pg 204 (Fj119 Sj119)) (hj0 : GoodF Pg 170 (Fj0 Sj0)) : GoodF Pg 172 (Fj48 (Gj48 N Sj119 Sj0)) := by
  refine good_fsZ (cx := ⟨Pg, ofList [(204, (Fj119 Sj119)), (170, (Fj0 Sj0))], isref, N⟩) (ofList_cons hj119 (ofList_cons hj0 (ofList_nil _))) shFj48 (spj48 (Gj48 N Sj119 Sj0)) (anj48 N Sj119 Sj0) 0 1 (by kernel_rfl) (fun i_ hi_ => by omega) ?_
  intro a k h
  unfold spj48 at h
  split at h
  · exact ⟨[_], rfl, rfl, (eqj48 _ _ _ _ _ _).trans h⟩
  · cases h

def anj47 (N : Nat) : Nat -> Option Ann := fun b_ => none
theorem eqj47 (N : Nat) (neg : Bool) (abs_0 abs_1 : Nat) (b : Bool) (b_1 b_2 : List Int) (c_ : V -> List Blk -> Bool) : bodyZ ⟨Pg, ofList [], isref, N⟩ (anj47 N) 170 (shFj47.args [.bool neg, .nat abs_0, .nat abs_1, .bool b, .ints b_1, .ints b_2]) [⟨164, 1, .cells [.bool b, .roi .u64 b_1]⟩, ⟨41, 1, .ints .u64 b_2⟩] c_ = Gj47 N neg abs_0 abs_1 b b_1 b_2 (fun r0 => c_ (.ptr 0 0) [⟨164, 1, .cells [.bool r0, .sl 1 abs_0 abs_1]⟩, ⟨41, 1, .ints .u64 b_2⟩]) := by kernel_rfl
theorem goodj47 (N : Nat) : GoodF Pg 170 (Fj47 (Gj47 N)) := by
  refine good_fsZ (cx := ⟨Pg, ofList [], isref, N⟩) (ofList_nil _) shFj47 (spj47 (Gj47 N)) (anj47 N) 0 2 (by kernel_rfl) (fun i_ hi_ => by omega) ?_
  intro a k h
  unfold spj47 at h
  split at h
  · exact ⟨[_, _], rfl, rfl, (eqj47 _ _ _ _ _ _ _ _).trans h⟩
  · cases h

end Go.Proofs.YtccocdgimamdhaaGreatDoor
