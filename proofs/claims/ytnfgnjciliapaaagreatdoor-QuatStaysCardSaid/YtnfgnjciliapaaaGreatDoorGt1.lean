/-
  THE TIES: each printed meaning is what the program does (written by program).
  Conditions: none.
-/
import Derived.Test.YtnfgnjciliapaaaGreatDoorGs
namespace Go.Proofs.YtnfgnjciliapaaaGreatDoor
open Go Go.Mach Go.Proofs
set_option linter.unusedVariables false
set_option maxRecDepth 50000

def sh_st_big_times_2 : StSh := ⟨(.any :: (.roi .u64 :: (.any :: (.any :: (.any :: (.slw 0 :: (.int .i64 :: (.int .u64 :: (.int .u64 :: (sqs 16 (.roi .u64 :: (.int .i64 :: (.int .i64 :: (sqs 4 (.roi .u64 :: (.int .i64 :: (.int .i64 :: (sqs 33 [])))))))))))))))))), [some (22, 1, .ints .u64)]⟩
def sx0_st_big_times_2 : StSh := ⟨(.any :: (.roi .u64 :: (.any :: (.any :: (.any :: (.slw 0 :: (.int .i64 :: (.any :: (.int .u64 :: (sqs 16 (.roi .u64 :: (.int .i64 :: (.int .i64 :: (sqs 40 [])))))))))))))), [some (22, 1, .ints .u64)]⟩
def hk_st_big_times_2 (N : Nat) (SQ102 : TSQ102) (SQ1 : TSQ1) : List Atom -> K -> Bool := fun a_ κ => match a_ with
  | [.ints y_2, .int i, .int a, .int carry, .ints t25_1, .int t26_1, .int t27_1, .ints t32, .int t33, .int t34, .ints z_1] => iterG N (st_big_times_2 N SQ102 SQ1 y_2 i a t25_1 t26_1 t27_1 t32 t33 (fun r2 r6 => κ.ext 2 (sx0_st_big_times_2.build [.ints y_2, .int i, .int r2, .ints t25_1, .int t26_1, .int t27_1, .ints r6]))) (carry, t34, z_1)
  | _ => false
def sh_st_big_times_0 : StSh := ⟨(.any :: (.roi .u64 :: (.any :: (.any :: (.any :: (.slw 0 :: (sqs 19 (.roi .u64 :: (.int .i64 :: (.int .i64 :: (sqs 40 []))))))))))), [some (22, 1, .ints .u64)]⟩
def sx0_st_big_times_0 : StSh := ⟨(sqs 5 (.slw 0 :: (sqs 62 []))), [some (22, 1, .ints .u64)]⟩
def hk_st_big_times_0 (N : Nat) (SQ102 : TSQ102) (SQ1 : TSQ1) : List Atom -> K -> Bool := fun a_ κ => match a_ with
  | [.ints y_1, .ints t25, .int t26, .int t27, .ints z] => iterG N (st_big_times_0 N SQ102 SQ1 y_1 t25 t26 (fun r0 => κ.ext 0 (sx0_st_big_times_0.build [.ints r0]))) (t27, z)
  | _ => false
def anQ130 (N : Nat) (SQ102 : TSQ102) (SQ1 : TSQ1) : Nat -> Option Ann := fun b_ => cond (b_ == 2) (some ⟨⟨[1, 5, 6, 7, 8, 25, 26, 27, 32, 33, 34], [], []⟩, [(2, ⟨[1, 5, 6, 8, 25, 26, 27], [], []⟩)], some ⟨[4], [], []⟩, some (mkHooks [(sh_st_big_times_2, hk_st_big_times_2 N SQ102 SQ1)])⟩) (cond (b_ == 0) (some ⟨⟨[1, 5, 25, 26, 27], [], []⟩, [(0, ⟨[5], [], []⟩)], some ⟨[4], [], []⟩, some (mkHooks [(sh_st_big_times_0, hk_st_big_times_0 N SQ102 SQ1)])⟩) (none))
theorem eq_st_big_times_2 (N : Nat) (SQ102 : TSQ102) (SQ1 : TSQ1) (κ : K) (y_2 : List Int) (i a carry : Int) (t25_1 : List Int) (t26_1 t27_1 : Int) (t32 : List Int) (t33 t34 : Int) (z_1 : List Int) : iter N (fun s k => codeV ⟨Pg, ofList [(181, (FQ102 SQ102)), (167, (FQ1 SQ1))], isref, N⟩ 0 (anQ130 N SQ102 SQ1) (lp Pg 159 1).2 (lp Pg 159 1).1 s (roundK Pg 0 ((anQ130 N SQ102 SQ1) (lp Pg 159 1).1) κ k)) (sh_st_big_times_2.build [.ints y_2, .int i, .int a, .int carry, .ints t25_1, .int t26_1, .int t27_1, .ints t32, .int t33, .int t34, .ints z_1]) = iterG N (st_big_times_2 N SQ102 SQ1 y_2 i a t25_1 t26_1 t27_1 t32 t33 (fun r2 r6 => κ.ext 2 (sx0_st_big_times_2.build [.ints y_2, .int i, .int r2, .ints t25_1, .int t26_1, .int t27_1, .ints r6]))) (carry, t34, z_1) :=
  iter_tr (fun (v_ : Int × Int × List Int) => sh_st_big_times_2.build [.ints y_2, .int i, .int a, .int v_.1, .ints t25_1, .int t26_1, .int t27_1, .ints t32, .int t33, .int v_.2.1, .ints v_.2.2]) (fun v_ K_ => by obtain ⟨carry, t34, z_1⟩ := v_; kernel_rfl) N (carry, t34, z_1)
theorem hk1_st_big_times_2 (N : Nat) (SQ102 : TSQ102) (SQ1 : TSQ1) : HookFor ⟨Pg, ofList [(181, (FQ102 SQ102)), (167, (FQ1 SQ1))], isref, N⟩ 0 (anQ130 N SQ102 SQ1) (lp Pg 159 1) (sh_st_big_times_2, hk_st_big_times_2 N SQ102 SQ1) := by
  intro a κ h
  simp only at h
  unfold hk_st_big_times_2 at h
  split at h
  · exact (eq_st_big_times_2 _ _ _ _ _ _ _ _ _ _ _ _ _ _ _).trans h
  · cases h
theorem eq_st_big_times_0 (N : Nat) (SQ102 : TSQ102) (SQ1 : TSQ1) (κ : K) (y_1 t25 : List Int) (t26 t27 : Int) (z : List Int) : iter N (fun s k => codeV ⟨Pg, ofList [(181, (FQ102 SQ102)), (167, (FQ1 SQ1))], isref, N⟩ 0 (anQ130 N SQ102 SQ1) (lp Pg 159 0).2 (lp Pg 159 0).1 s (roundK Pg 0 ((anQ130 N SQ102 SQ1) (lp Pg 159 0).1) κ k)) (sh_st_big_times_0.build [.ints y_1, .ints t25, .int t26, .int t27, .ints z]) = iterG N (st_big_times_0 N SQ102 SQ1 y_1 t25 t26 (fun r0 => κ.ext 0 (sx0_st_big_times_0.build [.ints r0]))) (t27, z) :=
  iter_tr (fun (v_ : Int × List Int) => sh_st_big_times_0.build [.ints y_1, .ints t25, .int t26, .int v_.1, .ints v_.2]) (fun v_ K_ => by obtain ⟨t27, z⟩ := v_; kernel_rfl) N (t27, z)
theorem hk1_st_big_times_0 (N : Nat) (SQ102 : TSQ102) (SQ1 : TSQ1) : HookFor ⟨Pg, ofList [(181, (FQ102 SQ102)), (167, (FQ1 SQ1))], isref, N⟩ 0 (anQ130 N SQ102 SQ1) (lp Pg 159 0) (sh_st_big_times_0, hk_st_big_times_0 N SQ102 SQ1) := by
  intro a κ h
  simp only at h
  unfold hk_st_big_times_0 at h
  split at h
  · exact (eq_st_big_times_0 _ _ _ _ _ _ _ _ _).trans h
  · cases h
theorem ho_big_times_2 (N : Nat) (SQ102 : TSQ102) (SQ1 : TSQ1) : HookOk ⟨Pg, ofList [(181, (FQ102 SQ102)), (167, (FQ1 SQ1))], isref, N⟩ 0 (anQ130 N SQ102 SQ1) (lp Pg 159 1) :=
  hooks_ok [(sh_st_big_times_2, hk_st_big_times_2 N SQ102 SQ1)] (by kernel_rfl) ⟨hk1_st_big_times_2 _ _ _, trivial⟩
theorem ho_big_times_0 (N : Nat) (SQ102 : TSQ102) (SQ1 : TSQ1) : HookOk ⟨Pg, ofList [(181, (FQ102 SQ102)), (167, (FQ1 SQ1))], isref, N⟩ 0 (anQ130 N SQ102 SQ1) (lp Pg 159 0) :=
  hooks_ok [(sh_st_big_times_0, hk_st_big_times_0 N SQ102 SQ1)] (by kernel_rfl) ⟨hk1_st_big_times_0 _ _ _, trivial⟩
theorem eqQ130 (N : Nat) (SQ102 : TSQ102) (SQ1 : TSQ1) (x y : List Int) (c_ : V -> List Blk -> Bool) : bodyZ ⟨Pg, ofList [(181, (FQ102 SQ102)), (167, (FQ1 SQ1))], isref, N⟩ (anQ130 N SQ102 SQ1) 159 (shFQ130.args [.ints x, .ints y]) [] c_ = GQ130 N SQ102 SQ1 x y (fun r0 => c_ (.roi .u64 r0) []) := by kernel_rfl
theorem goodQ130 (N : Nat) (SQ102 : TSQ102) (SQ1 : TSQ1) (hQ102 : GoodF Pg 181 (FQ102 SQ102)) (hQ1 : GoodF Pg 167 (FQ1 SQ1)) : GoodF Pg 159 (FQ130 (GQ130 N SQ102 SQ1)) := by
  refine good_fsZ (cx := ⟨Pg, ofList [(181, (FQ102 SQ102)), (167, (FQ1 SQ1))], isref, N⟩) (ofList_cons hQ102 (ofList_cons hQ1 (ofList_nil _))) shFQ130 (spQ130 (GQ130 N SQ102 SQ1)) (anQ130 N SQ102 SQ1) 2 0 (by kernel_rfl) (fun i_ hi_ => by
    match i_, hi_ with
    | 0, _ => exact ho_big_times_0 _ _ _
    | 1, _ => exact ho_big_times_2 _ _ _
    | (q + 2), h => omega) ?_
  intro a k h
  unfold spQ130 at h
  split at h
  · exact ⟨[], rfl, rfl, (eqQ130 _ _ _ _ _ _).trans h⟩
  · cases h

def anQ53 (N : Nat) (SQ130 : TSQ130) (SQ0 : TSQ0) : Nat -> Option Ann := fun b_ => none
theorem eqQ53 (N : Nat) (SQ130 : TSQ130) (SQ0 : TSQ0) (b b_1 : Bool) (b_2 : List Int) (b_3 : Bool) (b_4 : List Int) (c_ : V -> List Blk -> Bool) : bodyZ ⟨Pg, ofList [(159, (FQ130 SQ130)), (139, (FQ0 SQ0))], isref, N⟩ (anQ53 N SQ130 SQ0) 131 (shFQ53.args [.bool b, .bool b_1, .ints b_2, .bool b_3, .ints b_4]) [⟨126, 1, .cells [.bool b, .nil]⟩, ⟨126, 1, .cells [.bool b_1, .roi .u64 b_2]⟩, ⟨126, 1, .cells [.bool b_3, .roi .u64 b_4]⟩] c_ = GQ53 N SQ130 SQ0 b b_1 b_2 b_3 b_4 (fun r0 r1 => c_ (.ptr 0 0) [⟨126, 1, .cells [.bool r0, .roi .u64 r1]⟩, ⟨126, 1, .cells [.bool b_1, .roi .u64 b_2]⟩, ⟨126, 1, .cells [.bool b_3, .roi .u64 b_4]⟩]) := by kernel_rfl
theorem goodQ53 (N : Nat) (SQ130 : TSQ130) (SQ0 : TSQ0) (hQ130 : GoodF Pg 159 (FQ130 SQ130)) (hQ0 : GoodF Pg 139 (FQ0 SQ0)) : GoodF Pg 131 (FQ53 (GQ53 N SQ130 SQ0)) := by
  refine good_fsZ (cx := ⟨Pg, ofList [(159, (FQ130 SQ130)), (139, (FQ0 SQ0))], isref, N⟩) (ofList_cons hQ130 (ofList_cons hQ0 (ofList_nil _))) shFQ53 (spQ53 (GQ53 N SQ130 SQ0)) (anQ53 N SQ130 SQ0) 0 3 (by kernel_rfl) (fun i_ hi_ => by omega) ?_
  intro a k h
  unfold spQ53 at h
  split at h
  · exact ⟨[_, _, _], rfl, rfl, (eqQ53 _ _ _ _ _ _ _ _ _).trans h⟩
  · cases h

def anQ19 (N : Nat) (SQ53 : TSQ53) : Nat -> Option Ann := fun b_ => none
theorem eqQ19 (N : Nat) (SQ53 : TSQ53) (x y : Int) (b : Bool) (b_1 : List Int) (b_2 : Bool) (b_3 : List Int) (c_ : V -> List Blk -> Bool) : bodyV ⟨Pg, ofList [(131, (FQ53 SQ53))], isref, N⟩ (anQ19 N SQ53) 87 (shFQ19.args [.int x, .int y, .bool b, .ints b_1, .bool b_2, .ints b_3]) [⟨126, 1, .cells [.bool b, .roi .u64 b_1]⟩, ⟨126, 1, .cells [.bool b_2, .roi .u64 b_3]⟩] c_ = GQ19 N SQ53 x y b b_1 b_2 b_3 (fun r0 r5 r6 => c_ (.agg [.ptr 2 0, .int .i64 r0]) [⟨126, 1, .cells [.bool b, .roi .u64 b_1]⟩, ⟨126, 1, .cells [.bool b_2, .roi .u64 b_3]⟩, ⟨126, 1, .cells [.bool r5, .roi .u64 r6]⟩]) := by kernel_rfl
theorem goodQ19 (N : Nat) (SQ53 : TSQ53) (hQ53 : GoodF Pg 131 (FQ53 SQ53)) : GoodF Pg 87 (FQ19 (GQ19 N SQ53)) := by
  refine good_fs (cx := ⟨Pg, ofList [(131, (FQ53 SQ53))], isref, N⟩) (ofList_cons hQ53 (ofList_nil _)) shFQ19 (spQ19 (GQ19 N SQ53)) (anQ19 N SQ53) 0 2 (by kernel_rfl) (fun i_ hi_ => by omega) ?_
  intro a k h
  unfold spQ19 at h
  split at h
  · exact ⟨[_, _], rfl, rfl, (eqQ19 _ _ _ _ _ _ _ _ _).trans h⟩
  · cases h

def anQ81 (N : Nat) : Nat -> Option Ann := fun b_ => none
theorem eqQ81 (N : Nat) (b : Bool) (c_ : V -> List Blk -> Bool) : bodyZ ⟨Pg, ofList [], isref, N⟩ (anQ81 N) 94 (shFQ81.args [.bool b]) [⟨126, 1, .cells [.bool b, .nil]⟩] c_ = GQ81 N b (fun r0 r2 => c_ (.int .i64 r0) [⟨126, 1, .cells [.bool b, .roi .u64 r2]⟩]) := by kernel_rfl
theorem goodQ81 (N : Nat) : GoodF Pg 94 (FQ81 (GQ81 N)) := by
  refine good_fsZ (cx := ⟨Pg, ofList [], isref, N⟩) (ofList_nil _) shFQ81 (spQ81 (GQ81 N)) (anQ81 N) 0 1 (by kernel_rfl) (fun i_ hi_ => by omega) ?_
  intro a k h
  unfold spQ81 at h
  split at h
  · exact ⟨[_], rfl, rfl, (eqQ81 _ _ _).trans h⟩
  · cases h

def anQ2 (N : Nat) : Nat -> Option Ann := fun b_ => none
theorem eqQ2 (N : Nat) (b : Bool) (b_1 : List Int) (c_ : V -> List Blk -> Bool) : bodyZ ⟨Pg, ofList [], isref, N⟩ (anQ2 N) 94 (shFQ2.args [.bool b, .ints b_1]) [⟨126, 1, .cells [.bool b, .roi .u64 b_1]⟩] c_ = GQ2 N b b_1 (fun r0 => c_ (.int .i64 r0) [⟨126, 1, .cells [.bool b, .roi .u64 b_1]⟩]) := by kernel_rfl
theorem goodQ2 (N : Nat) : GoodF Pg 94 (FQ2 (GQ2 N)) := by
  refine good_fsZ (cx := ⟨Pg, ofList [], isref, N⟩) (ofList_nil _) shFQ2 (spQ2 (GQ2 N)) (anQ2 N) 0 1 (by kernel_rfl) (fun i_ hi_ => by omega) ?_
  intro a k h
  unfold spQ2 at h
  split at h
  · exact ⟨[_], rfl, rfl, (eqQ2 _ _ _ _).trans h⟩
  · cases h

def sh_st_big_left_0 : StSh := ⟨(sqs 5 (.int .i64 :: (.int .u64 :: (.slw 0 :: (sqs 16 (.roi .u64 :: (.int .i64 :: (.int .i64 :: (sqs 28 []))))))))), [some (22, 1, .ints .u64)]⟩
def sx0_st_big_left_0 : StSh := ⟨(sqs 7 (.slw 0 :: (sqs 47 []))), [some (22, 1, .ints .u64)]⟩
def hk_st_big_left_0 (N : Nat) (SQ1 : TSQ1) : List Atom -> K -> Bool := fun a_ κ => match a_ with
  | [.int words, .int rest, .ints t24, .int t25, .int t26, .ints z] => iterG N (st_big_left_0 N SQ1 words rest t24 t25 (fun r0 => κ.ext 0 (sx0_st_big_left_0.build [.ints r0]))) (t26, z)
  | _ => false
def anQ103 (N : Nat) (SQ1 : TSQ1) : Nat -> Option Ann := fun b_ => cond (b_ == 0) (some ⟨⟨[5, 6, 7, 24, 25, 26], [], []⟩, [(0, ⟨[7], [], []⟩)], some ⟨[4], [], []⟩, some (mkHooks [(sh_st_big_left_0, hk_st_big_left_0 N SQ1)])⟩) (none)
theorem eq_st_big_left_0 (N : Nat) (SQ1 : TSQ1) (κ : K) (words rest : Int) (t24 : List Int) (t25 t26 : Int) (z : List Int) : iter N (fun s k => codeV ⟨Pg, ofList [(167, (FQ1 SQ1))], isref, N⟩ 0 (anQ103 N SQ1) (lp Pg 169 0).2 (lp Pg 169 0).1 s (roundK Pg 0 ((anQ103 N SQ1) (lp Pg 169 0).1) κ k)) (sh_st_big_left_0.build [.int words, .int rest, .ints t24, .int t25, .int t26, .ints z]) = iterG N (st_big_left_0 N SQ1 words rest t24 t25 (fun r0 => κ.ext 0 (sx0_st_big_left_0.build [.ints r0]))) (t26, z) :=
  iter_tr (fun (v_ : Int × List Int) => sh_st_big_left_0.build [.int words, .int rest, .ints t24, .int t25, .int v_.1, .ints v_.2]) (fun v_ K_ => by obtain ⟨t26, z⟩ := v_; kernel_rfl) N (t26, z)
theorem hk1_st_big_left_0 (N : Nat) (SQ1 : TSQ1) : HookFor ⟨Pg, ofList [(167, (FQ1 SQ1))], isref, N⟩ 0 (anQ103 N SQ1) (lp Pg 169 0) (sh_st_big_left_0, hk_st_big_left_0 N SQ1) := by
  intro a κ h
  simp only at h
  unfold hk_st_big_left_0 at h
  split at h
  · exact (eq_st_big_left_0 _ _ _ _ _ _ _ _ _).trans h
  · cases h
theorem ho_big_left_0 (N : Nat) (SQ1 : TSQ1) : HookOk ⟨Pg, ofList [(167, (FQ1 SQ1))], isref, N⟩ 0 (anQ103 N SQ1) (lp Pg 169 0) :=
  hooks_ok [(sh_st_big_left_0, hk_st_big_left_0 N SQ1)] (by kernel_rfl) ⟨hk1_st_big_left_0 _ _, trivial⟩
theorem eqQ103 (N : Nat) (SQ1 : TSQ1) (x : List Int) (n : Int) (c_ : V -> List Blk -> Bool) : bodyZ ⟨Pg, ofList [(167, (FQ1 SQ1))], isref, N⟩ (anQ103 N SQ1) 169 (shFQ103.args [.ints x, .int n]) [] c_ = GQ103 N SQ1 x n (fun r0 => c_ (.roi .u64 r0) []) := by kernel_rfl
theorem goodQ103 (N : Nat) (SQ1 : TSQ1) (hQ1 : GoodF Pg 167 (FQ1 SQ1)) : GoodF Pg 169 (FQ103 (GQ103 N SQ1)) := by
  refine good_fsZ (cx := ⟨Pg, ofList [(167, (FQ1 SQ1))], isref, N⟩) (ofList_cons hQ1 (ofList_nil _)) shFQ103 (spQ103 (GQ103 N SQ1)) (anQ103 N SQ1) 1 0 (by kernel_rfl) (fun i_ hi_ => by
    match i_, hi_ with
    | 0, _ => exact ho_big_left_0 _ _
    | (q + 1), h => omega) ?_
  intro a k h
  unfold spQ103 at h
  split at h
  · exact ⟨[], rfl, rfl, (eqQ103 _ _ _ _ _).trans h⟩
  · cases h

def anQ65 (N : Nat) (SQ103 : TSQ103) (SQ0 : TSQ0) : Nat -> Option Ann := fun b_ => none
theorem eqQ65 (N : Nat) (SQ103 : TSQ103) (SQ0 : TSQ0) (n : Int) (b b_1 : Bool) (b_2 : List Int) (c_ : V -> List Blk -> Bool) : bodyZ ⟨Pg, ofList [(169, (FQ103 SQ103)), (139, (FQ0 SQ0))], isref, N⟩ (anQ65 N SQ103 SQ0) 141 (shFQ65.args [.int n, .bool b, .bool b_1, .ints b_2]) [⟨126, 1, .cells [.bool b, .nil]⟩, ⟨126, 1, .cells [.bool b_1, .roi .u64 b_2]⟩] c_ = GQ65 N SQ103 SQ0 n b b_1 b_2 (fun r0 r1 => c_ (.ptr 0 0) [⟨126, 1, .cells [.bool r0, .roi .u64 r1]⟩, ⟨126, 1, .cells [.bool b_1, .roi .u64 b_2]⟩]) := by kernel_rfl
theorem goodQ65 (N : Nat) (SQ103 : TSQ103) (SQ0 : TSQ0) (hQ103 : GoodF Pg 169 (FQ103 SQ103)) (hQ0 : GoodF Pg 139 (FQ0 SQ0)) : GoodF Pg 141 (FQ65 (GQ65 N SQ103 SQ0)) := by
  refine good_fsZ (cx := ⟨Pg, ofList [(169, (FQ103 SQ103)), (139, (FQ0 SQ0))], isref, N⟩) (ofList_cons hQ103 (ofList_cons hQ0 (ofList_nil _))) shFQ65 (spQ65 (GQ65 N SQ103 SQ0)) (anQ65 N SQ103 SQ0) 0 2 (by kernel_rfl) (fun i_ hi_ => by omega) ?_
  intro a k h
  unfold spQ65 at h
  split at h
  · exact ⟨[_, _], rfl, rfl, (eqQ65 _ _ _ _ _ _ _ _).trans h⟩
  · cases h

def anQ36 (N : Nat) (SQ65 : TSQ65) : Nat -> Option Ann := fun b_ => none
theorem eqQ36 (N : Nat) (SQ65 : TSQ65) (x e : Int) (b : Bool) (b_1 : List Int) (c_ : V -> List Blk -> Bool) : bodyV ⟨Pg, ofList [(141, (FQ65 SQ65))], isref, N⟩ (anQ36 N SQ65) 128 (shFQ36.args [.int x, .int e, .bool b, .ints b_1]) [⟨126, 1, .cells [.bool b, .roi .u64 b_1]⟩] c_ = GQ36 N SQ65 x e b b_1 (fun r2 r3 => c_ (.ptr 1 0) [⟨126, 1, .cells [.bool b, .roi .u64 b_1]⟩, ⟨126, 1, .cells [.bool r2, .roi .u64 r3]⟩]) := by kernel_rfl
theorem goodQ36 (N : Nat) (SQ65 : TSQ65) (hQ65 : GoodF Pg 141 (FQ65 SQ65)) : GoodF Pg 128 (FQ36 (GQ36 N SQ65)) := by
  refine good_fs (cx := ⟨Pg, ofList [(141, (FQ65 SQ65))], isref, N⟩) (ofList_cons hQ65 (ofList_nil _)) shFQ36 (spQ36 (GQ36 N SQ65)) (anQ36 N SQ65) 0 1 (by kernel_rfl) (fun i_ hi_ => by omega) ?_
  intro a k h
  unfold spQ36 at h
  split at h
  · exact ⟨[_], rfl, rfl, (eqQ36 _ _ _ _ _ _ _).trans h⟩
  · cases h

def anQ20 (N : Nat) : Nat -> Option Ann := fun b_ => none
theorem eqQ20 (N : Nat) (x : List Int) (i : Int) (c_ : V -> List Blk -> Bool) : bodyZ ⟨Pg, ofList [], isref, N⟩ (anQ20 N) 170 (shFQ20.args [.ints x, .int i]) [] c_ = GQ20 N x i (fun r0 => c_ (.int .u64 r0) []) := by kernel_rfl
theorem goodQ20 (N : Nat) : GoodF Pg 170 (FQ20 (GQ20 N)) := by
  refine good_fsZ (cx := ⟨Pg, ofList [], isref, N⟩) (ofList_nil _) shFQ20 (spQ20 (GQ20 N)) (anQ20 N) 0 0 (by kernel_rfl) (fun i_ hi_ => by omega) ?_
  intro a k h
  unfold spQ20 at h
  split at h
  · exact ⟨[], rfl, rfl, (eqQ20 _ _ _ _).trans h⟩
  · cases h

def sh_st_big_sum_0 : StSh := ⟨(.roi .u64 :: (.roi .u64 :: (.any :: (.any :: (.any :: (.int .i64 :: (.slw 0 :: (.int .u64 :: (sqs 9 (.int .i64 :: (.int .i64 :: (sqs 23 [])))))))))))), [some (22, 1, .ints .u64)]⟩
def sx0_st_big_sum_0 : StSh := ⟨(sqs 5 (.int .i64 :: (.slw 0 :: (.int .u64 :: (sqs 34 []))))), [some (22, 1, .ints .u64)]⟩
def hk_st_big_sum_0 (N : Nat) (SQ20 : TSQ20) (SQ68 : TSQ68) (SQ1 : TSQ1) : List Atom -> K -> Bool := fun a_ κ => match a_ with
  | [.ints x_1, .ints y_1, .int n, .int carry, .int t17, .int t18, .ints z] => iterG N (st_big_sum_0 N SQ20 SQ68 SQ1 x_1 y_1 n t17 (fun r1 r2 => κ.ext 0 (sx0_st_big_sum_0.build [.int n, .int r1, .ints r2]))) (carry, t18, z)
  | _ => false
def anQ145 (N : Nat) (SQ20 : TSQ20) (SQ68 : TSQ68) (SQ1 : TSQ1) : Nat -> Option Ann := fun b_ => cond (b_ == 0) (some ⟨⟨[0, 1, 5, 6, 7, 17, 18], [], []⟩, [(0, ⟨[5, 6, 7], [], []⟩)], some ⟨[4], [], []⟩, some (mkHooks [(sh_st_big_sum_0, hk_st_big_sum_0 N SQ20 SQ68 SQ1)])⟩) (none)
theorem eq_st_big_sum_0 (N : Nat) (SQ20 : TSQ20) (SQ68 : TSQ68) (SQ1 : TSQ1) (κ : K) (x_1 y_1 : List Int) (n carry t17 t18 : Int) (z : List Int) : iter N (fun s k => codeV ⟨Pg, ofList [(170, (FQ20 SQ20)), (183, (FQ68 SQ68)), (167, (FQ1 SQ1))], isref, N⟩ 0 (anQ145 N SQ20 SQ68 SQ1) (lp Pg 166 0).2 (lp Pg 166 0).1 s (roundK Pg 0 ((anQ145 N SQ20 SQ68 SQ1) (lp Pg 166 0).1) κ k)) (sh_st_big_sum_0.build [.ints x_1, .ints y_1, .int n, .int carry, .int t17, .int t18, .ints z]) = iterG N (st_big_sum_0 N SQ20 SQ68 SQ1 x_1 y_1 n t17 (fun r1 r2 => κ.ext 0 (sx0_st_big_sum_0.build [.int n, .int r1, .ints r2]))) (carry, t18, z) :=
  iter_tr (fun (v_ : Int × Int × List Int) => sh_st_big_sum_0.build [.ints x_1, .ints y_1, .int n, .int v_.1, .int t17, .int v_.2.1, .ints v_.2.2]) (fun v_ K_ => by obtain ⟨carry, t18, z⟩ := v_; kernel_rfl) N (carry, t18, z)
theorem hk1_st_big_sum_0 (N : Nat) (SQ20 : TSQ20) (SQ68 : TSQ68) (SQ1 : TSQ1) : HookFor ⟨Pg, ofList [(170, (FQ20 SQ20)), (183, (FQ68 SQ68)), (167, (FQ1 SQ1))], isref, N⟩ 0 (anQ145 N SQ20 SQ68 SQ1) (lp Pg 166 0) (sh_st_big_sum_0, hk_st_big_sum_0 N SQ20 SQ68 SQ1) := by
  intro a κ h
  simp only at h
  unfold hk_st_big_sum_0 at h
  split at h
  · exact (eq_st_big_sum_0 _ _ _ _ _ _ _ _ _ _ _ _).trans h
  · cases h
theorem ho_big_sum_0 (N : Nat) (SQ20 : TSQ20) (SQ68 : TSQ68) (SQ1 : TSQ1) : HookOk ⟨Pg, ofList [(170, (FQ20 SQ20)), (183, (FQ68 SQ68)), (167, (FQ1 SQ1))], isref, N⟩ 0 (anQ145 N SQ20 SQ68 SQ1) (lp Pg 166 0) :=
  hooks_ok [(sh_st_big_sum_0, hk_st_big_sum_0 N SQ20 SQ68 SQ1)] (by kernel_rfl) ⟨hk1_st_big_sum_0 _ _ _ _, trivial⟩
theorem eqQ145 (N : Nat) (SQ20 : TSQ20) (SQ68 : TSQ68) (SQ1 : TSQ1) (x y : List Int) (c_ : V -> List Blk -> Bool) : bodyZ ⟨Pg, ofList [(170, (FQ20 SQ20)), (183, (FQ68 SQ68)), (167, (FQ1 SQ1))], isref, N⟩ (anQ145 N SQ20 SQ68 SQ1) 166 (shFQ145.args [.ints x, .ints y]) [] c_ = GQ145 N SQ20 SQ68 SQ1 x y (fun r0 => c_ (.roi .u64 r0) []) := by kernel_rfl
theorem goodQ145 (N : Nat) (SQ20 : TSQ20) (SQ68 : TSQ68) (SQ1 : TSQ1) (hQ20 : GoodF Pg 170 (FQ20 SQ20)) (hQ68 : GoodF Pg 183 (FQ68 SQ68)) (hQ1 : GoodF Pg 167 (FQ1 SQ1)) : GoodF Pg 166 (FQ145 (GQ145 N SQ20 SQ68 SQ1)) := by
  refine good_fsZ (cx := ⟨Pg, ofList [(170, (FQ20 SQ20)), (183, (FQ68 SQ68)), (167, (FQ1 SQ1))], isref, N⟩) (ofList_cons hQ20 (ofList_cons hQ68 (ofList_cons hQ1 (ofList_nil _)))) shFQ145 (spQ145 (GQ145 N SQ20 SQ68 SQ1)) (anQ145 N SQ20 SQ68 SQ1) 1 0 (by kernel_rfl) (fun i_ hi_ => by
    match i_, hi_ with
    | 0, _ => exact ho_big_sum_0 _ _ _ _
    | (q + 1), h => omega) ?_
  intro a k h
  unfold spQ145 at h
  split at h
  · exact ⟨[], rfl, rfl, (eqQ145 _ _ _ _ _ _ _).trans h⟩
  · cases h

def sh_st_big_compare_0 : StSh := ⟨(.roi .u64 :: (.roi .u64 :: (.any :: (.any :: (.any :: (.int .i64 :: (sqs 35 []))))))), []⟩
def sx0_st_big_compare_0 : StSh := ⟨(sqs 4 (.int .i64 :: (sqs 36 []))), []⟩
def sx1_st_big_compare_0 : StSh := ⟨(sqs 41 []), []⟩
def hk_st_big_compare_0 (N : Nat) : List Atom -> K -> Bool := fun a_ κ => match a_ with
  | [.ints x_1, .ints y_1, .int i] => iterG N (stQ192 N x_1 y_1 (fun r0 => κ.ret (sx0_st_big_compare_0.build [.int r0])) (κ.ext 0 (sx1_st_big_compare_0.build []))) i
  | _ => false
def anQ111 (N : Nat) : Nat -> Option Ann := fun b_ => cond (b_ == 0) (some ⟨⟨[0, 1, 5], [], []⟩, [(0, ⟨[], [], []⟩)], some ⟨[4], [], []⟩, some (mkHooks [(sh_st_big_compare_0, hk_st_big_compare_0 N)])⟩) (none)
theorem eq_st_big_compare_0 (N : Nat) (κ : K) (x_1 y_1 : List Int) (i : Int) : iter N (fun s k => codeV ⟨Pg, ofList [], isref, N⟩ 0 (anQ111 N) (lp Pg 177 0).2 (lp Pg 177 0).1 s (roundK Pg 0 ((anQ111 N) (lp Pg 177 0).1) κ k)) (sh_st_big_compare_0.build [.ints x_1, .ints y_1, .int i]) = iterG N (stQ192 N x_1 y_1 (fun r0 => κ.ret (sx0_st_big_compare_0.build [.int r0])) (κ.ext 0 (sx1_st_big_compare_0.build []))) i :=
  iter_tr (fun v_ => sh_st_big_compare_0.build [.ints x_1, .ints y_1, .int v_]) (fun v_ K_ => by kernel_rfl) N i
theorem hk1_st_big_compare_0 (N : Nat) : HookFor ⟨Pg, ofList [], isref, N⟩ 0 (anQ111 N) (lp Pg 177 0) (sh_st_big_compare_0, hk_st_big_compare_0 N) := by
  intro a κ h
  simp only at h
  unfold hk_st_big_compare_0 at h
  split at h
  · exact (eq_st_big_compare_0 _ _ _ _ _).trans h
  · cases h
theorem ho_big_compare_0 (N : Nat) : HookOk ⟨Pg, ofList [], isref, N⟩ 0 (anQ111 N) (lp Pg 177 0) :=
  hooks_ok [(sh_st_big_compare_0, hk_st_big_compare_0 N)] (by kernel_rfl) ⟨hk1_st_big_compare_0 _, trivial⟩
theorem eqQ111 (N : Nat) (x y : List Int) (c_ : V -> List Blk -> Bool) : bodyZ ⟨Pg, ofList [], isref, N⟩ (anQ111 N) 177 (shFQ111.args [.ints x, .ints y]) [] c_ = GQ111 N x y (fun r0 => c_ (.int .i64 r0) []) := by kernel_rfl
theorem goodQ111 (N : Nat) : GoodF Pg 177 (FQ111 (GQ111 N)) := by
  refine good_fsZ (cx := ⟨Pg, ofList [], isref, N⟩) (ofList_nil _) shFQ111 (spQ111 (GQ111 N)) (anQ111 N) 1 0 (by kernel_rfl) (fun i_ hi_ => by
    match i_, hi_ with
    | 0, _ => exact ho_big_compare_0 _
    | (q + 1), h => omega) ?_
  intro a k h
  unfold spQ111 at h
  split at h
  · exact ⟨[], rfl, rfl, (eqQ111 _ _ _ _).trans h⟩
  · cases h


def sh_st_big_less_0 : StSh := ⟨(.roi .u64 :: (.roi .u64 :: (.any :: (.any :: (.any :: (.slw 0 :: (.int .u64 :: (sqs 5 (.int .i64 :: (.int .i64 :: (sqs 20 []))))))))))), [some (22, 1, .ints .u64)]⟩
def sx0_st_big_less_0 : StSh := ⟨(sqs 5 (.slw 0 :: (sqs 28 []))), [some (22, 1, .ints .u64)]⟩
def hk_st_big_less_0 (N : Nat) (SQ20 : TSQ20) (SQ95 : TSQ95) (SQ1 : TSQ1) : List Atom -> K -> Bool := fun a_ κ => match a_ with
  | [.ints x_1, .ints y_1, .int borrow, .int t12, .int t13, .ints z] => iterG N (st_big_less_0 N SQ20 SQ95 SQ1 x_1 y_1 t12 (fun r0 => κ.ext 0 (sx0_st_big_less_0.build [.ints r0]))) (borrow, t13, z)
  | _ => false
def anQ151 (N : Nat) (SQ20 : TSQ20) (SQ95 : TSQ95) (SQ1 : TSQ1) : Nat -> Option Ann := fun b_ => cond (b_ == 0) (some ⟨⟨[0, 1, 5, 6, 12, 13], [], []⟩, [(0, ⟨[5], [], []⟩)], some ⟨[4], [], []⟩, some (mkHooks [(sh_st_big_less_0, hk_st_big_less_0 N SQ20 SQ95 SQ1)])⟩) (none)
theorem eq_st_big_less_0 (N : Nat) (SQ20 : TSQ20) (SQ95 : TSQ95) (SQ1 : TSQ1) (κ : K) (x_1 y_1 : List Int) (borrow t12 t13 : Int) (z : List Int) : iter N (fun s k => codeV ⟨Pg, ofList [(170, (FQ20 SQ20)), (191, (FQ95 SQ95)), (167, (FQ1 SQ1))], isref, N⟩ 0 (anQ151 N SQ20 SQ95 SQ1) (lp Pg 178 0).2 (lp Pg 178 0).1 s (roundK Pg 0 ((anQ151 N SQ20 SQ95 SQ1) (lp Pg 178 0).1) κ k)) (sh_st_big_less_0.build [.ints x_1, .ints y_1, .int borrow, .int t12, .int t13, .ints z]) = iterG N (st_big_less_0 N SQ20 SQ95 SQ1 x_1 y_1 t12 (fun r0 => κ.ext 0 (sx0_st_big_less_0.build [.ints r0]))) (borrow, t13, z) :=
  iter_tr (fun (v_ : Int × Int × List Int) => sh_st_big_less_0.build [.ints x_1, .ints y_1, .int v_.1, .int t12, .int v_.2.1, .ints v_.2.2]) (fun v_ K_ => by obtain ⟨borrow, t13, z⟩ := v_; kernel_rfl) N (borrow, t13, z)
theorem hk1_st_big_less_0 (N : Nat) (SQ20 : TSQ20) (SQ95 : TSQ95) (SQ1 : TSQ1) : HookFor ⟨Pg, ofList [(170, (FQ20 SQ20)), (191, (FQ95 SQ95)), (167, (FQ1 SQ1))], isref, N⟩ 0 (anQ151 N SQ20 SQ95 SQ1) (lp Pg 178 0) (sh_st_big_less_0, hk_st_big_less_0 N SQ20 SQ95 SQ1) := by
  intro a κ h
  simp only at h
  unfold hk_st_big_less_0 at h
  split at h
  · exact (eq_st_big_less_0 _ _ _ _ _ _ _ _ _ _ _).trans h
  · cases h
theorem ho_big_less_0 (N : Nat) (SQ20 : TSQ20) (SQ95 : TSQ95) (SQ1 : TSQ1) : HookOk ⟨Pg, ofList [(170, (FQ20 SQ20)), (191, (FQ95 SQ95)), (167, (FQ1 SQ1))], isref, N⟩ 0 (anQ151 N SQ20 SQ95 SQ1) (lp Pg 178 0) :=
  hooks_ok [(sh_st_big_less_0, hk_st_big_less_0 N SQ20 SQ95 SQ1)] (by kernel_rfl) ⟨hk1_st_big_less_0 _ _ _ _, trivial⟩
theorem eqQ151 (N : Nat) (SQ20 : TSQ20) (SQ95 : TSQ95) (SQ1 : TSQ1) (x y : List Int) (c_ : V -> List Blk -> Bool) : bodyZ ⟨Pg, ofList [(170, (FQ20 SQ20)), (191, (FQ95 SQ95)), (167, (FQ1 SQ1))], isref, N⟩ (anQ151 N SQ20 SQ95 SQ1) 178 (shFQ151.args [.ints x, .ints y]) [] c_ = GQ151 N SQ20 SQ95 SQ1 x y (fun r0 => c_ (.roi .u64 r0) []) := by kernel_rfl
theorem goodQ151 (N : Nat) (SQ20 : TSQ20) (SQ95 : TSQ95) (SQ1 : TSQ1) (hQ20 : GoodF Pg 170 (FQ20 SQ20)) (hQ95 : GoodF Pg 191 (FQ95 SQ95)) (hQ1 : GoodF Pg 167 (FQ1 SQ1)) : GoodF Pg 178 (FQ151 (GQ151 N SQ20 SQ95 SQ1)) := by
  refine good_fsZ (cx := ⟨Pg, ofList [(170, (FQ20 SQ20)), (191, (FQ95 SQ95)), (167, (FQ1 SQ1))], isref, N⟩) (ofList_cons hQ20 (ofList_cons hQ95 (ofList_cons hQ1 (ofList_nil _)))) shFQ151 (spQ151 (GQ151 N SQ20 SQ95 SQ1)) (anQ151 N SQ20 SQ95 SQ1) 1 0 (by kernel_rfl) (fun i_ hi_ => by
    match i_, hi_ with
    | 0, _ => exact ho_big_less_0 _ _ _ _
    | (q + 1), h => omega) ?_
  intro a k h
  unfold spQ151 at h
  split at h
  · exact ⟨[], rfl, rfl, (eqQ151 _ _ _ _ _ _ _).trans h⟩
  · cases h

def anQ62 (N : Nat) (SQ145 : TSQ145) (SQ0 : TSQ0) (SQ111 : TSQ111) (SQ151 : TSQ151) : Nat -> Option Ann := fun b_ => none
theorem eqQ62 (N : Nat) (SQ145 : TSQ145) (SQ0 : TSQ0) (SQ111 : TSQ111) (SQ151 : TSQ151) (neg : Bool) (y : List Int) (b b_1 : Bool) (b_2 : List Int) (c_ : V -> List Blk -> Bool) : bodyZ ⟨Pg, ofList [(166, (FQ145 SQ145)), (139, (FQ0 SQ0)), (177, (FQ111 SQ111)), (178, (FQ151 SQ151))], isref, N⟩ (anQ62 N SQ145 SQ0 SQ111 SQ151) 156 (shFQ62.args [.bool neg, .ints y, .bool b, .bool b_1, .ints b_2]) [⟨126, 1, .cells [.bool b, .nil]⟩, ⟨126, 1, .cells [.bool b_1, .roi .u64 b_2]⟩] c_ = GQ62 N SQ145 SQ0 SQ111 SQ151 neg y b b_1 b_2 (fun r0 r1 => c_ (.ptr 0 0) [⟨126, 1, .cells [.bool r0, .roi .u64 r1]⟩, ⟨126, 1, .cells [.bool b_1, .roi .u64 b_2]⟩]) := by kernel_rfl
theorem goodQ62 (N : Nat) (SQ145 : TSQ145) (SQ0 : TSQ0) (SQ111 : TSQ111) (SQ151 : TSQ151) (hQ145 : GoodF Pg 166 (FQ145 SQ145)) (hQ0 : GoodF Pg 139 (FQ0 SQ0)) (hQ111 : GoodF Pg 177 (FQ111 SQ111)) (hQ151 : GoodF Pg 178 (FQ151 SQ151)) : GoodF Pg 156 (FQ62 (GQ62 N SQ145 SQ0 SQ111 SQ151)) := by
  refine good_fsZ (cx := ⟨Pg, ofList [(166, (FQ145 SQ145)), (139, (FQ0 SQ0)), (177, (FQ111 SQ111)), (178, (FQ151 SQ151))], isref, N⟩) (ofList_cons hQ145 (ofList_cons hQ0 (ofList_cons hQ111 (ofList_cons hQ151 (ofList_nil _))))) shFQ62 (spQ62 (GQ62 N SQ145 SQ0 SQ111 SQ151)) (anQ62 N SQ145 SQ0 SQ111 SQ151) 0 2 (by kernel_rfl) (fun i_ hi_ => by omega) ?_
  intro a k h
  unfold spQ62 at h
  split at h
  · exact ⟨[_, _], rfl, rfl, (eqQ62 _ _ _ _ _ _ _ _ _ _ _).trans h⟩
  · cases h

def anQ29 (N : Nat) (SQ62 : TSQ62) : Nat -> Option Ann := fun b_ => none
theorem eqQ29 (N : Nat) (SQ62 : TSQ62) (b b_1 : Bool) (b_2 : List Int) (b_3 : Bool) (b_4 : List Int) (c_ : V -> List Blk -> Bool) : bodyZ ⟨Pg, ofList [(156, (FQ62 SQ62))], isref, N⟩ (anQ29 N SQ62) 127 (shFQ29.args [.bool b, .bool b_1, .ints b_2, .bool b_3, .ints b_4]) [⟨126, 1, .cells [.bool b, .nil]⟩, ⟨126, 1, .cells [.bool b_1, .roi .u64 b_2]⟩, ⟨126, 1, .cells [.bool b_3, .roi .u64 b_4]⟩] c_ = GQ29 N SQ62 b b_1 b_2 b_3 b_4 (fun r0 r1 => c_ (.ptr 0 0) [⟨126, 1, .cells [.bool r0, .roi .u64 r1]⟩, ⟨126, 1, .cells [.bool b_1, .roi .u64 b_2]⟩, ⟨126, 1, .cells [.bool b_3, .roi .u64 b_4]⟩]) := by kernel_rfl
theorem goodQ29 (N : Nat) (SQ62 : TSQ62) (hQ62 : GoodF Pg 156 (FQ62 SQ62)) : GoodF Pg 127 (FQ29 (GQ29 N SQ62)) := by
  refine good_fsZ (cx := ⟨Pg, ofList [(156, (FQ62 SQ62))], isref, N⟩) (ofList_cons hQ62 (ofList_nil _)) shFQ29 (spQ29 (GQ29 N SQ62)) (anQ29 N SQ62) 0 3 (by kernel_rfl) (fun i_ hi_ => by omega) ?_
  intro a k h
  unfold spQ29 at h
  split at h
  · exact ⟨[_, _, _], rfl, rfl, (eqQ29 _ _ _ _ _ _ _ _).trans h⟩
  · cases h

def anQ21 (N : Nat) (SQ81 : TSQ81) (SQ2 : TSQ2) (SQ36 : TSQ36) (SQ29 : TSQ29) : Nat -> Option Ann := fun b_ => none
theorem eqQ21 (N : Nat) (SQ81 : TSQ81) (SQ2 : TSQ2) (SQ36 : TSQ36) (SQ29 : TSQ29) (x y : Int) (b b_1 : Bool) (b_2 : List Int) (c_ : V -> List Blk -> Bool) : bodyV ⟨Pg, ofList [(94, (orFs (FQ81 SQ81) (FQ2 SQ2) shFQ81)), (128, (FQ36 SQ36)), (127, (FQ29 SQ29))], isref, N⟩ (anQ21 N SQ81 SQ2 SQ36 SQ29) 85 (shFQ21.args [.int x, .int y, .bool b, .bool b_1, .ints b_2]) [⟨126, 1, .cells [.bool b, .nil]⟩, ⟨126, 1, .cells [.bool b_1, .roi .u64 b_2]⟩] c_ = GQ21 N SQ81 SQ2 SQ36 SQ29 x y b b_1 b_2 (fun r2 => c_ (.agg [.ptr 1 0, .int .i64 y]) [⟨126, 1, .cells [.bool b, .roi .u64 r2]⟩, ⟨126, 1, .cells [.bool b_1, .roi .u64 b_2]⟩]) (fun r2 => c_ (.agg [.ptr 0 0, .int .i64 x]) [⟨126, 1, .cells [.bool b, .roi .u64 r2]⟩, ⟨126, 1, .cells [.bool b_1, .roi .u64 b_2]⟩]) (fun r0 r2 r5 r6 => c_ (.agg [.ptr 2 0, .int .i64 r0]) [⟨126, 1, .cells [.bool b, .roi .u64 r2]⟩, ⟨126, 1, .cells [.bool b_1, .roi .u64 b_2]⟩, ⟨126, 1, .cells [.bool r5, .roi .u64 r6]⟩]) := by kernel_rfl
theorem goodQ21 (N : Nat) (SQ81 : TSQ81) (SQ2 : TSQ2) (SQ36 : TSQ36) (SQ29 : TSQ29) (hQ81 : GoodF Pg 94 (FQ81 SQ81)) (hQ2 : GoodF Pg 94 (FQ2 SQ2)) (hQ36 : GoodF Pg 128 (FQ36 SQ36)) (hQ29 : GoodF Pg 127 (FQ29 SQ29)) : GoodF Pg 85 (FQ21 (GQ21 N SQ81 SQ2 SQ36 SQ29)) := by
  refine good_fs (cx := ⟨Pg, ofList [(94, (orFs (FQ81 SQ81) (FQ2 SQ2) shFQ81)), (128, (FQ36 SQ36)), (127, (FQ29 SQ29))], isref, N⟩) (ofList_cons (good_or hQ81 hQ2) (ofList_cons hQ36 (ofList_cons hQ29 (ofList_nil _)))) shFQ21 (spQ21 (GQ21 N SQ81 SQ2 SQ36 SQ29)) (anQ21 N SQ81 SQ2 SQ36 SQ29) 0 2 (by kernel_rfl) (fun i_ hi_ => by omega) ?_
  intro a k h
  unfold spQ21 at h
  split at h
  · exact ⟨[_, _], rfl, rfl, (eqQ21 _ _ _ _ _ _ _ _ _ _ _).trans h⟩
  · cases h

def anQ3 (N : Nat) (SQ2 : TSQ2) (SQ36 : TSQ36) (SQ29 : TSQ29) : Nat -> Option Ann := fun b_ => none
theorem eqQ3 (N : Nat) (SQ2 : TSQ2) (SQ36 : TSQ36) (SQ29 : TSQ29) (x y : Int) (b : Bool) (b_1 : List Int) (b_2 : Bool) (b_3 : List Int) (c_ : V -> List Blk -> Bool) : bodyV ⟨Pg, ofList [(94, (FQ2 SQ2)), (128, (FQ36 SQ36)), (127, (FQ29 SQ29))], isref, N⟩ (anQ3 N SQ2 SQ36 SQ29) 85 (shFQ3.args [.int x, .int y, .bool b, .ints b_1, .bool b_2, .ints b_3]) [⟨126, 1, .cells [.bool b, .roi .u64 b_1]⟩, ⟨126, 1, .cells [.bool b_2, .roi .u64 b_3]⟩] c_ = GQ3 N SQ2 SQ36 SQ29 x y b b_1 b_2 b_3 (c_ (.agg [.ptr 1 0, .int .i64 y]) [⟨126, 1, .cells [.bool b, .roi .u64 b_1]⟩, ⟨126, 1, .cells [.bool b_2, .roi .u64 b_3]⟩]) (c_ (.agg [.ptr 0 0, .int .i64 x]) [⟨126, 1, .cells [.bool b, .roi .u64 b_1]⟩, ⟨126, 1, .cells [.bool b_2, .roi .u64 b_3]⟩]) (fun r0 r5 r6 => c_ (.agg [.ptr 2 0, .int .i64 r0]) [⟨126, 1, .cells [.bool b, .roi .u64 b_1]⟩, ⟨126, 1, .cells [.bool b_2, .roi .u64 b_3]⟩, ⟨126, 1, .cells [.bool r5, .roi .u64 r6]⟩]) := by kernel_rfl
theorem goodQ3 (N : Nat) (SQ2 : TSQ2) (SQ36 : TSQ36) (SQ29 : TSQ29) (hQ2 : GoodF Pg 94 (FQ2 SQ2)) (hQ36 : GoodF Pg 128 (FQ36 SQ36)) (hQ29 : GoodF Pg 127 (FQ29 SQ29)) : GoodF Pg 85 (FQ3 (GQ3 N SQ2 SQ36 SQ29)) := by
  refine good_fs (cx := ⟨Pg, ofList [(94, (FQ2 SQ2)), (128, (FQ36 SQ36)), (127, (FQ29 SQ29))], isref, N⟩) (ofList_cons hQ2 (ofList_cons hQ36 (ofList_cons hQ29 (ofList_nil _)))) shFQ3 (spQ3 (GQ3 N SQ2 SQ36 SQ29)) (anQ3 N SQ2 SQ36 SQ29) 0 2 (by kernel_rfl) (fun i_ hi_ => by omega) ?_
  intro a k h
  unfold spQ3 at h
  split at h
  · exact ⟨[_, _], rfl, rfl, (eqQ3 _ _ _ _ _ _ _ _ _ _ _).trans h⟩
  · cases h

def anQ37 (N : Nat) (SQ77 : TSQ77) (SQ0 : TSQ0) : Nat -> Option Ann := fun b_ => none
theorem eqQ37 (N : Nat) (SQ77 : TSQ77) (SQ0 : TSQ0) (b b_1 : Bool) (b_2 : List Int) (c_ : V -> List Blk -> Bool) : bodyZ ⟨Pg, ofList [(140, (FQ77 SQ77)), (139, (FQ0 SQ0))], isref, N⟩ (anQ37 N SQ77 SQ0) 160 (shFQ37.args [.bool b, .bool b_1, .ints b_2]) [⟨126, 1, .cells [.bool b, .nil]⟩, ⟨126, 1, .cells [.bool b_1, .roi .u64 b_2]⟩] c_ = GQ37 N SQ77 SQ0 b b_1 b_2 (fun r0 r1 => c_ (.ptr 0 0) [⟨126, 1, .cells [.bool r0, .roi .u64 r1]⟩, ⟨126, 1, .cells [.bool b_1, .roi .u64 b_2]⟩]) := by kernel_rfl
theorem goodQ37 (N : Nat) (SQ77 : TSQ77) (SQ0 : TSQ0) (hQ77 : GoodF Pg 140 (FQ77 SQ77)) (hQ0 : GoodF Pg 139 (FQ0 SQ0)) : GoodF Pg 160 (FQ37 (GQ37 N SQ77 SQ0)) := by
  refine good_fsZ (cx := ⟨Pg, ofList [(140, (FQ77 SQ77)), (139, (FQ0 SQ0))], isref, N⟩) (ofList_cons hQ77 (ofList_cons hQ0 (ofList_nil _))) shFQ37 (spQ37 (GQ37 N SQ77 SQ0)) (anQ37 N SQ77 SQ0) 0 2 (by kernel_rfl) (fun i_ hi_ => by omega) ?_
  intro a k h
  unfold spQ37 at h
  split at h
  · exact ⟨[_, _], rfl, rfl, (eqQ37 _ _ _ _ _ _ _).trans h⟩
  · cases h

def anQ55 (N : Nat) (SQ20 : TSQ20) : Nat -> Option Ann := fun b_ => none
theorem eqQ55 (N : Nat) (SQ20 : TSQ20) (i : Int) (b : Bool) (b_1 : List Int) (c_ : V -> List Blk -> Bool) : bodyZ ⟨Pg, ofList [(170, (FQ20 SQ20))], isref, N⟩ (anQ55 N SQ20) 161 (shFQ55.args [.int i, .bool b, .ints b_1]) [⟨126, 1, .cells [.bool b, .roi .u64 b_1]⟩] c_ = GQ55 N SQ20 i b b_1 (fun r0 => c_ (.int .u64 r0) [⟨126, 1, .cells [.bool b, .roi .u64 b_1]⟩]) := by kernel_rfl
theorem goodQ55 (N : Nat) (SQ20 : TSQ20) (hQ20 : GoodF Pg 170 (FQ20 SQ20)) : GoodF Pg 161 (FQ55 (GQ55 N SQ20)) := by
  refine good_fsZ (cx := ⟨Pg, ofList [(170, (FQ20 SQ20))], isref, N⟩) (ofList_cons hQ20 (ofList_nil _)) shFQ55 (spQ55 (GQ55 N SQ20)) (anQ55 N SQ20) 0 1 (by kernel_rfl) (fun i_ hi_ => by omega) ?_
  intro a k h
  unfold spQ55 at h
  split at h
  · exact ⟨[_], rfl, rfl, (eqQ55 _ _ _ _ _ _).trans h⟩
  · cases h

def sh_st_big_Int_TrailingZeroBits_p0r_0 : StSh := ⟨(sqs 8 (.roi .u64 :: (.int .i64 :: (.int .i64 :: (sqs 13 []))))), [some (126, 1, .cells [.bool, .roi .u64])]⟩
def sx0_st_big_Int_TrailingZeroBits_p0r_0 : StSh := ⟨(.any :: (.any :: (.int .u64 :: (sqs 21 [])))), [some (126, 1, .cells [.bool, .roi .u64])]⟩
def sx1_st_big_Int_TrailingZeroBits_p0r_0 : StSh := ⟨(sqs 24 []), [some (126, 1, .cells [.bool, .roi .u64])]⟩
def hk_st_big_Int_TrailingZeroBits_p0r_0 (N : Nat) (SQ6 : TSQ6) : List Atom -> K -> Bool := fun a_ κ => match a_ with
  | [.ints t8, .int t9, .int t10, .bool b0, .ints b0_1] => iterG N (stQ181 N SQ6 t8 t9 b0 b0_1 (fun r0 => κ.ret (sx0_st_big_Int_TrailingZeroBits_p0r_0.build [.int r0, .bool b0, .ints b0_1])) (κ.ext 0 (sx1_st_big_Int_TrailingZeroBits_p0r_0.build [.bool b0, .ints b0_1]))) t10
  | _ => false
def anQ14 (N : Nat) (SQ6 : TSQ6) : Nat -> Option Ann := fun b_ => cond (b_ == 0) (some ⟨⟨[8, 9, 10], [], []⟩, [(0, ⟨[], [], []⟩)], some ⟨[2], [], []⟩, some (mkHooks [(sh_st_big_Int_TrailingZeroBits_p0r_0, hk_st_big_Int_TrailingZeroBits_p0r_0 N SQ6)])⟩) (none)
theorem eq_st_big_Int_TrailingZeroBits_p0r_0 (N : Nat) (SQ6 : TSQ6) (κ : K) (t8 : List Int) (t9 t10 : Int) (b0 : Bool) (b0_1 : List Int) : iter N (fun s k => codeV ⟨Pg, ofList [(180, (FQ6 SQ6))], isref, N⟩ 1 (anQ14 N SQ6) (lp Pg 162 0).2 (lp Pg 162 0).1 s (roundK Pg 1 ((anQ14 N SQ6) (lp Pg 162 0).1) κ k)) (sh_st_big_Int_TrailingZeroBits_p0r_0.build [.ints t8, .int t9, .int t10, .bool b0, .ints b0_1]) = iterG N (stQ181 N SQ6 t8 t9 b0 b0_1 (fun r0 => κ.ret (sx0_st_big_Int_TrailingZeroBits_p0r_0.build [.int r0, .bool b0, .ints b0_1])) (κ.ext 0 (sx1_st_big_Int_TrailingZeroBits_p0r_0.build [.bool b0, .ints b0_1]))) t10 :=
  iter_tr (fun v_ => sh_st_big_Int_TrailingZeroBits_p0r_0.build [.ints t8, .int t9, .int v_, .bool b0, .ints b0_1]) (fun v_ K_ => by kernel_rfl) N t10
theorem hk1_st_big_Int_TrailingZeroBits_p0r_0 (N : Nat) (SQ6 : TSQ6) : HookFor ⟨Pg, ofList [(180, (FQ6 SQ6))], isref, N⟩ 1 (anQ14 N SQ6) (lp Pg 162 0) (sh_st_big_Int_TrailingZeroBits_p0r_0, hk_st_big_Int_TrailingZeroBits_p0r_0 N SQ6) := by
  intro a κ h
  simp only at h
  unfold hk_st_big_Int_TrailingZeroBits_p0r_0 at h
  split at h
  · exact (eq_st_big_Int_TrailingZeroBits_p0r_0 _ _ _ _ _ _ _ _).trans h
  · cases h
theorem ho_big_Int_TrailingZeroBits_p0r_0 (N : Nat) (SQ6 : TSQ6) : HookOk ⟨Pg, ofList [(180, (FQ6 SQ6))], isref, N⟩ 1 (anQ14 N SQ6) (lp Pg 162 0) :=
  hooks_ok [(sh_st_big_Int_TrailingZeroBits_p0r_0, hk_st_big_Int_TrailingZeroBits_p0r_0 N SQ6)] (by kernel_rfl) ⟨hk1_st_big_Int_TrailingZeroBits_p0r_0 _ _, trivial⟩
theorem eqQ14 (N : Nat) (SQ6 : TSQ6) (b : Bool) (b_1 : List Int) (c_ : V -> List Blk -> Bool) : bodyZ ⟨Pg, ofList [(180, (FQ6 SQ6))], isref, N⟩ (anQ14 N SQ6) 162 (shFQ14.args [.bool b, .ints b_1]) [⟨126, 1, .cells [.bool b, .roi .u64 b_1]⟩] c_ = GQ14 N SQ6 b b_1 (fun r0 => c_ (.int .u64 r0) [⟨126, 1, .cells [.bool b, .roi .u64 b_1]⟩]) := by kernel_rfl
theorem goodQ14 (N : Nat) (SQ6 : TSQ6) (hQ6 : GoodF Pg 180 (FQ6 SQ6)) : GoodF Pg 162 (FQ14 (GQ14 N SQ6)) := by
  refine good_fsZ (cx := ⟨Pg, ofList [(180, (FQ6 SQ6))], isref, N⟩) (ofList_cons hQ6 (ofList_nil _)) shFQ14 (spQ14 (GQ14 N SQ6)) (anQ14 N SQ6) 1 1 (by kernel_rfl) (fun i_ hi_ => by
    match i_, hi_ with
    | 0, _ => exact ho_big_Int_TrailingZeroBits_p0r_0 _ _
    | (q + 1), h => omega) ?_
  intro a k h
  unfold spQ14 at h
  split at h
  · exact ⟨[_], rfl, rfl, (eqQ14 _ _ _ _ _).trans h⟩
  · cases h

def sh_st_big_right_0 : StSh := ⟨(.roi .u64 :: (sqs 5 (.int .i64 :: (.int .u64 :: (.int .u64 :: (sqs 28 (.roi .u64 :: (.int .i64 :: (.int .i64 :: (sqs 42 [])))))))))), []⟩
def sx0_st_big_right_0 : StSh := ⟨(.roi .u64 :: (sqs 5 (.int .i64 :: (.int .u64 :: (.int .u64 :: (sqs 73 [])))))), []⟩
def hk_st_big_right_0 (N : Nat) (SQ20 : TSQ20) (SQ1 : TSQ1) : List Atom -> K -> Bool := fun a_ κ => match a_ with
  | [.ints x_1, .int words, .int rest, .int lost, .ints t37, .int t38, .int t39] => iterG N (st_big_right_0 N SQ20 SQ1 x_1 words rest t37 t38 (fun r3 => κ.ext 0 (sx0_st_big_right_0.build [.ints x_1, .int words, .int rest, .int r3]))) (lost, t39)
  | _ => false
def sh_st_big_right_2 : StSh := ⟨(.roi .u64 :: (sqs 5 (.int .i64 :: (.int .u64 :: (.int .u64 :: (.any :: (.any :: (.slw 0 :: (sqs 41 (.int .i64 :: (.int .i64 :: (sqs 27 [])))))))))))), [some (22, 1, .ints .u64)]⟩
def sx0_st_big_right_2 : StSh := ⟨(sqs 8 (.int .u64 :: (.any :: (.any :: (.slw 0 :: (sqs 70 [])))))), [some (22, 1, .ints .u64)]⟩
def hk_st_big_right_2 (N : Nat) (SQ20 : TSQ20) (SQ1 : TSQ1) : List Atom -> K -> Bool := fun a_ κ => match a_ with
  | [.ints x_2, .int words_1, .int rest_1, .int lost_2, .int t53, .int t54, .ints z] => iterG N (st_big_right_2 N SQ20 SQ1 x_2 words_1 rest_1 lost_2 t53 (fun r1 => κ.ext 2 (sx0_st_big_right_2.build [.int lost_2, .ints r1]))) (t54, z)
  | _ => false
def anQ127 (N : Nat) (SQ20 : TSQ20) (SQ1 : TSQ1) : Nat -> Option Ann := fun b_ => cond (b_ == 0) (some ⟨⟨[0, 6, 7, 8, 37, 38, 39], [], []⟩, [(0, ⟨[0, 6, 7, 8], [], []⟩)], some ⟨[4, 5], [], []⟩, some (mkHooks [(sh_st_big_right_0, hk_st_big_right_0 N SQ20 SQ1)])⟩) (cond (b_ == 2) (some ⟨⟨[0, 6, 7, 8, 11, 53, 54], [], []⟩, [(2, ⟨[8, 11], [], []⟩)], some ⟨[4, 5], [], []⟩, some (mkHooks [(sh_st_big_right_2, hk_st_big_right_2 N SQ20 SQ1)])⟩) (none))
theorem eq_st_big_right_0 (N : Nat) (SQ20 : TSQ20) (SQ1 : TSQ1) (κ : K) (x_1 : List Int) (words rest lost : Int) (t37 : List Int) (t38 t39 : Int) : iter N (fun s k => codeV ⟨Pg, ofList [(170, (FQ20 SQ20)), (167, (FQ1 SQ1))], isref, N⟩ 0 (anQ127 N SQ20 SQ1) (lp Pg 165 0).2 (lp Pg 165 0).1 s (roundK Pg 0 ((anQ127 N SQ20 SQ1) (lp Pg 165 0).1) κ k)) (sh_st_big_right_0.build [.ints x_1, .int words, .int rest, .int lost, .ints t37, .int t38, .int t39]) = iterG N (st_big_right_0 N SQ20 SQ1 x_1 words rest t37 t38 (fun r3 => κ.ext 0 (sx0_st_big_right_0.build [.ints x_1, .int words, .int rest, .int r3]))) (lost, t39) :=
  iter_tr (fun (v_ : Int × Int) => sh_st_big_right_0.build [.ints x_1, .int words, .int rest, .int v_.1, .ints t37, .int t38, .int v_.2]) (fun v_ K_ => by obtain ⟨lost, t39⟩ := v_; kernel_rfl) N (lost, t39)
theorem hk1_st_big_right_0 (N : Nat) (SQ20 : TSQ20) (SQ1 : TSQ1) : HookFor ⟨Pg, ofList [(170, (FQ20 SQ20)), (167, (FQ1 SQ1))], isref, N⟩ 0 (anQ127 N SQ20 SQ1) (lp Pg 165 0) (sh_st_big_right_0, hk_st_big_right_0 N SQ20 SQ1) := by
  intro a κ h
  simp only at h
  unfold hk_st_big_right_0 at h
  split at h
  · exact (eq_st_big_right_0 _ _ _ _ _ _ _ _ _ _ _).trans h
  · cases h
theorem eq_st_big_right_2 (N : Nat) (SQ20 : TSQ20) (SQ1 : TSQ1) (κ : K) (x_2 : List Int) (words_1 rest_1 lost_2 t53 t54 : Int) (z : List Int) : iter N (fun s k => codeV ⟨Pg, ofList [(170, (FQ20 SQ20)), (167, (FQ1 SQ1))], isref, N⟩ 0 (anQ127 N SQ20 SQ1) (lp Pg 165 1).2 (lp Pg 165 1).1 s (roundK Pg 0 ((anQ127 N SQ20 SQ1) (lp Pg 165 1).1) κ k)) (sh_st_big_right_2.build [.ints x_2, .int words_1, .int rest_1, .int lost_2, .int t53, .int t54, .ints z]) = iterG N (st_big_right_2 N SQ20 SQ1 x_2 words_1 rest_1 lost_2 t53 (fun r1 => κ.ext 2 (sx0_st_big_right_2.build [.int lost_2, .ints r1]))) (t54, z) :=
  iter_tr (fun (v_ : Int × List Int) => sh_st_big_right_2.build [.ints x_2, .int words_1, .int rest_1, .int lost_2, .int t53, .int v_.1, .ints v_.2]) (fun v_ K_ => by obtain ⟨t54, z⟩ := v_; kernel_rfl) N (t54, z)
theorem hk1_st_big_right_2 (N : Nat) (SQ20 : TSQ20) (SQ1 : TSQ1) : HookFor ⟨Pg, ofList [(170, (FQ20 SQ20)), (167, (FQ1 SQ1))], isref, N⟩ 0 (anQ127 N SQ20 SQ1) (lp Pg 165 1) (sh_st_big_right_2, hk_st_big_right_2 N SQ20 SQ1) := by
  intro a κ h
  simp only at h
  unfold hk_st_big_right_2 at h
  split at h
  · exact (eq_st_big_right_2 _ _ _ _ _ _ _ _ _ _ _).trans h
  · cases h
theorem ho_big_right_0 (N : Nat) (SQ20 : TSQ20) (SQ1 : TSQ1) : HookOk ⟨Pg, ofList [(170, (FQ20 SQ20)), (167, (FQ1 SQ1))], isref, N⟩ 0 (anQ127 N SQ20 SQ1) (lp Pg 165 0) :=
  hooks_ok [(sh_st_big_right_0, hk_st_big_right_0 N SQ20 SQ1)] (by kernel_rfl) ⟨hk1_st_big_right_0 _ _ _, trivial⟩
theorem ho_big_right_2 (N : Nat) (SQ20 : TSQ20) (SQ1 : TSQ1) : HookOk ⟨Pg, ofList [(170, (FQ20 SQ20)), (167, (FQ1 SQ1))], isref, N⟩ 0 (anQ127 N SQ20 SQ1) (lp Pg 165 1) :=
  hooks_ok [(sh_st_big_right_2, hk_st_big_right_2 N SQ20 SQ1)] (by kernel_rfl) ⟨hk1_st_big_right_2 _ _ _, trivial⟩
theorem eqQ127 (N : Nat) (SQ20 : TSQ20) (SQ1 : TSQ1) (x : List Int) (n : Int) (c_ : V -> List Blk -> Bool) : bodyZ ⟨Pg, ofList [(170, (FQ20 SQ20)), (167, (FQ1 SQ1))], isref, N⟩ (anQ127 N SQ20 SQ1) 165 (shFQ127.args [.ints x, .int n]) [] c_ = GQ127 N SQ20 SQ1 x n (fun r0 r1 => c_ (.tup [.roi .u64 r0, .bool r1]) []) := by kernel_rfl
theorem goodQ127 (N : Nat) (SQ20 : TSQ20) (SQ1 : TSQ1) (hQ20 : GoodF Pg 170 (FQ20 SQ20)) (hQ1 : GoodF Pg 167 (FQ1 SQ1)) : GoodF Pg 165 (FQ127 (GQ127 N SQ20 SQ1)) := by
  refine good_fsZ (cx := ⟨Pg, ofList [(170, (FQ20 SQ20)), (167, (FQ1 SQ1))], isref, N⟩) (ofList_cons hQ20 (ofList_cons hQ1 (ofList_nil _))) shFQ127 (spQ127 (GQ127 N SQ20 SQ1)) (anQ127 N SQ20 SQ1) 2 0 (by kernel_rfl) (fun i_ hi_ => by
    match i_, hi_ with
    | 0, _ => exact ho_big_right_0 _ _ _
    | 1, _ => exact ho_big_right_2 _ _ _
    | (q + 2), h => omega) ?_
  intro a k h
  unfold spQ127 at h
  split at h
  · exact ⟨[], rfl, rfl, (eqQ127 _ _ _ _ _ _).trans h⟩
  · cases h

def anQ18 (N : Nat) (SQ127 : TSQ127) (SQ145 : TSQ145) (SQ35 : TSQ35) : Nat -> Option Ann := fun b_ => none
theorem eqQ18 (N : Nat) (SQ127 : TSQ127) (SQ145 : TSQ145) (SQ35 : TSQ35) (n : Int) (b : Bool) (b_1 : List Int) (c_ : V -> List Blk -> Bool) : bodyZ ⟨Pg, ofList [(165, (FQ127 SQ127)), (166, (FQ145 SQ145)), (139, (FQ35 SQ35))], isref, N⟩ (anQ18 N SQ127 SQ145 SQ35) 136 (shFQ18.args [.int n, .bool b, .ints b_1]) [⟨126, 1, .cells [.bool b, .roi .u64 b_1]⟩] c_ = GQ18 N SQ127 SQ145 SQ35 n b b_1 (fun r0 r1 => c_ (.ptr 0 0) [⟨126, 1, .cells [.bool r0, .roi .u64 r1]⟩]) := by kernel_rfl
theorem goodQ18 (N : Nat) (SQ127 : TSQ127) (SQ145 : TSQ145) (SQ35 : TSQ35) (hQ127 : GoodF Pg 165 (FQ127 SQ127)) (hQ145 : GoodF Pg 166 (FQ145 SQ145)) (hQ35 : GoodF Pg 139 (FQ35 SQ35)) : GoodF Pg 136 (FQ18 (GQ18 N SQ127 SQ145 SQ35)) := by
  refine good_fsZ (cx := ⟨Pg, ofList [(165, (FQ127 SQ127)), (166, (FQ145 SQ145)), (139, (FQ35 SQ35))], isref, N⟩) (ofList_cons hQ127 (ofList_cons hQ145 (ofList_cons hQ35 (ofList_nil _)))) shFQ18 (spQ18 (GQ18 N SQ127 SQ145 SQ35)) (anQ18 N SQ127 SQ145 SQ35) 0 1 (by kernel_rfl) (fun i_ hi_ => by omega) ?_
  intro a k h
  unfold spQ18 at h
  split at h
  · exact ⟨[_], rfl, rfl, (eqQ18 _ _ _ _ _ _ _ _).trans h⟩
  · cases h

def sh_st_v_dyad_exact_halve_p0r_0 : StSh := ⟨(.any :: (.any :: (.ptr 1 0 :: (.ptr 2 0 :: (.int .i64 :: (sqs 28 [])))))), [some (126, 1, .cells [.bool, .roi .u64]), some (128, 1, .cells [.val, .int .i64]), some (126, 1, .cells [.bool, .roi .u64])]⟩
def sx0_st_v_dyad_exact_halve_p0r_0 : StSh := ⟨(.any :: (.any :: (.ptr 1 0 :: (.ptr 2 0 :: (.int .i64 :: (sqs 28 [])))))), [some (126, 1, .cells [.bool, .roi .u64]), some (128, 1, .cells [.val, .int .i64]), some (126, 1, .cells [.bool, .roi .u64])]⟩
def hk_st_v_dyad_exact_halve_p0r_0 (N : Nat) (SQ37 : TSQ37) (SQ2 : TSQ2) (SQ55 : TSQ55) (SQ14 : TSQ14) (SQ18 : TSQ18) : List Atom -> K -> Bool := fun a_ κ => match a_ with
  | [.int e, .bool b0, .ints b0_1, .val t2, .int t2_1, .bool n, .ints n_1] => iterG N (stQ179 N SQ37 SQ2 SQ55 SQ14 SQ18 b0 b0_1 t2 t2_1 (fun r0 r5 r6 => κ.ext 0 (sx0_st_v_dyad_exact_halve_p0r_0.build [.int r0, .bool b0, .ints b0_1, .val t2, .int t2_1, .bool r5, .ints r6]))) (e, n, n_1)
  | _ => false
def anQ22 (N : Nat) (SQ37 : TSQ37) (SQ2 : TSQ2) (SQ55 : TSQ55) (SQ14 : TSQ14) (SQ18 : TSQ18) : Nat -> Option Ann := fun b_ => cond (b_ == 0) (some ⟨⟨[2, 3, 4], [], []⟩, [(0, ⟨[2, 3, 4], [], []⟩)], some ⟨[2], [], []⟩, some (mkHooks [(sh_st_v_dyad_exact_halve_p0r_0, hk_st_v_dyad_exact_halve_p0r_0 N SQ37 SQ2 SQ55 SQ14 SQ18)])⟩) (none)
theorem eq_st_v_dyad_exact_halve_p0r_0 (N : Nat) (SQ37 : TSQ37) (SQ2 : TSQ2) (SQ55 : TSQ55) (SQ14 : TSQ14) (SQ18 : TSQ18) (κ : K) (e : Int) (b0 : Bool) (b0_1 : List Int) (t2 : Value) (t2_1 : Int) (n : Bool) (n_1 : List Int) : iter N (fun s k => codeV ⟨Pg, ofList [(160, (FQ37 SQ37)), (94, (FQ2 SQ2)), (161, (FQ55 SQ55)), (162, (FQ14 SQ14)), (136, (FQ18 SQ18))], isref, N⟩ 1 (anQ22 N SQ37 SQ2 SQ55 SQ14 SQ18) (lp Pg 132 0).2 (lp Pg 132 0).1 s (roundK Pg 1 ((anQ22 N SQ37 SQ2 SQ55 SQ14 SQ18) (lp Pg 132 0).1) κ k)) (sh_st_v_dyad_exact_halve_p0r_0.build [.int e, .bool b0, .ints b0_1, .val t2, .int t2_1, .bool n, .ints n_1]) = iterG N (stQ179 N SQ37 SQ2 SQ55 SQ14 SQ18 b0 b0_1 t2 t2_1 (fun r0 r5 r6 => κ.ext 0 (sx0_st_v_dyad_exact_halve_p0r_0.build [.int r0, .bool b0, .ints b0_1, .val t2, .int t2_1, .bool r5, .ints r6]))) (e, n, n_1) :=
  iter_tr (fun (v_ : Int × Bool × List Int) => sh_st_v_dyad_exact_halve_p0r_0.build [.int v_.1, .bool b0, .ints b0_1, .val t2, .int t2_1, .bool v_.2.1, .ints v_.2.2]) (fun v_ K_ => by obtain ⟨e, n, n_1⟩ := v_; kernel_rfl) N (e, n, n_1)
theorem hk1_st_v_dyad_exact_halve_p0r_0 (N : Nat) (SQ37 : TSQ37) (SQ2 : TSQ2) (SQ55 : TSQ55) (SQ14 : TSQ14) (SQ18 : TSQ18) : HookFor ⟨Pg, ofList [(160, (FQ37 SQ37)), (94, (FQ2 SQ2)), (161, (FQ55 SQ55)), (162, (FQ14 SQ14)), (136, (FQ18 SQ18))], isref, N⟩ 1 (anQ22 N SQ37 SQ2 SQ55 SQ14 SQ18) (lp Pg 132 0) (sh_st_v_dyad_exact_halve_p0r_0, hk_st_v_dyad_exact_halve_p0r_0 N SQ37 SQ2 SQ55 SQ14 SQ18) := by
  intro a κ h
  simp only at h
  unfold hk_st_v_dyad_exact_halve_p0r_0 at h
  split at h
  · exact (eq_st_v_dyad_exact_halve_p0r_0 _ _ _ _ _ _ _ _ _ _ _ _ _ _).trans h
  · cases h
theorem ho_v_dyad_exact_halve_p0r_0 (N : Nat) (SQ37 : TSQ37) (SQ2 : TSQ2) (SQ55 : TSQ55) (SQ14 : TSQ14) (SQ18 : TSQ18) : HookOk ⟨Pg, ofList [(160, (FQ37 SQ37)), (94, (FQ2 SQ2)), (161, (FQ55 SQ55)), (162, (FQ14 SQ14)), (136, (FQ18 SQ18))], isref, N⟩ 1 (anQ22 N SQ37 SQ2 SQ55 SQ14 SQ18) (lp Pg 132 0) :=
  hooks_ok [(sh_st_v_dyad_exact_halve_p0r_0, hk_st_v_dyad_exact_halve_p0r_0 N SQ37 SQ2 SQ55 SQ14 SQ18)] (by kernel_rfl) ⟨hk1_st_v_dyad_exact_halve_p0r_0 _ _ _ _ _ _, trivial⟩
theorem eqQ22 (N : Nat) (SQ37 : TSQ37) (SQ2 : TSQ2) (SQ55 : TSQ55) (SQ14 : TSQ14) (SQ18 : TSQ18) (x : Int) (b : Bool) (b_1 : List Int) (c_ : V -> List Blk -> Bool) : bodyV ⟨Pg, ofList [(160, (FQ37 SQ37)), (94, (FQ2 SQ2)), (161, (FQ55 SQ55)), (162, (FQ14 SQ14)), (136, (FQ18 SQ18))], isref, N⟩ (anQ22 N SQ37 SQ2 SQ55 SQ14 SQ18) 132 (shFQ22.args [.int x, .bool b, .ints b_1]) [⟨126, 1, .cells [.bool b, .roi .u64 b_1]⟩] c_ = GQ22 N SQ37 SQ2 SQ55 SQ14 SQ18 x b b_1 (fun r0 r3 r4 => c_ (.agg [.ptr 1 0, .int .i64 r0]) [⟨126, 1, .cells [.bool b, .roi .u64 b_1]⟩, ⟨126, 1, .cells [.bool r3, .roi .u64 r4]⟩]) := by kernel_rfl
theorem goodQ22 (N : Nat) (SQ37 : TSQ37) (SQ2 : TSQ2) (SQ55 : TSQ55) (SQ14 : TSQ14) (SQ18 : TSQ18) (hQ37 : GoodF Pg 160 (FQ37 SQ37)) (hQ2 : GoodF Pg 94 (FQ2 SQ2)) (hQ55 : GoodF Pg 161 (FQ55 SQ55)) (hQ14 : GoodF Pg 162 (FQ14 SQ14)) (hQ18 : GoodF Pg 136 (FQ18 SQ18)) : GoodF Pg 132 (FQ22 (GQ22 N SQ37 SQ2 SQ55 SQ14 SQ18)) := by
  refine good_fs (cx := ⟨Pg, ofList [(160, (FQ37 SQ37)), (94, (FQ2 SQ2)), (161, (FQ55 SQ55)), (162, (FQ14 SQ14)), (136, (FQ18 SQ18))], isref, N⟩) (ofList_cons hQ37 (ofList_cons hQ2 (ofList_cons hQ55 (ofList_cons hQ14 (ofList_cons hQ18 (ofList_nil _)))))) shFQ22 (spQ22 (GQ22 N SQ37 SQ2 SQ55 SQ14 SQ18)) (anQ22 N SQ37 SQ2 SQ55 SQ14 SQ18) 1 1 (by kernel_rfl) (fun i_ hi_ => by
    match i_, hi_ with
    | 0, _ => exact ho_v_dyad_exact_halve_p0r_0 _ _ _ _ _ _
    | (q + 1), h => omega) ?_
  intro a k h
  unfold spQ22 at h
  split at h
  · exact ⟨[_], rfl, rfl, (eqQ22 _ _ _ _ _ _ _ _ _ _).trans h⟩
  · cases h

def anQ94 (N : Nat) : Nat -> Option Ann := fun b_ => none
def lsQ182 (d_ : List V) (u_ : List (Option Blk)) (x x_2 n_1 : Int) : St := ⟨(.int .u64 x_2 :: ((dq d_ 0) :: (.int .i64 n_1 :: (dqs d_ 1 22 [])))), []⟩
def lsQ180 (d_ : List V) (u_ : List (Option Blk)) (x x_1 n : Int) : St := ⟨(.int .u64 x_1 :: ((dq d_ 0) :: (.int .i64 n :: (dqs d_ 1 22 [])))), []⟩
theorem jnQ182 (N : Nat) (d_ : List V) (u_ : List (Option Blk)) (x x_2 n_1 : Int) (c_ : V -> List Blk -> Bool) : codesV ⟨Pg, ofList [], isref, N⟩ 0 (anQ94 N) ((cds Pg 182).drop 5) 0 (lsQ182 d_ u_ x x_2 n_1) (finV Pg 182 0 c_) = JQ182 N x x_2 n_1 (fun r0 => c_ (.int .i64 r0) []) := by kernel_rfl
theorem hdQ180 (N : Nat) (d_ : List V) (u_ : List (Option Blk)) (x x_1 n : Int) (c_ : V -> List Blk -> Bool) (κn_ : St -> Bool) : codesV ⟨Pg, ofList [], isref, N⟩ 0 (anQ94 N) (sg Pg 182 3 2) 0 (lsQ180 d_ u_ x x_1 n) { (finV Pg 182 0 c_) with nrm := κn_ } = (cond (decide (x_1 >= 65536)) ((fits .i64 (n + 16)) && (κn_ (lsQ182 (dqs d_ 0 5 (.int .u64 x_1 :: (.bool true :: (.int .u64 x_1 :: (.int .u64 (Int.fdiv x_1 (2 ^ 16)) :: (.int .i64 n :: (.int .i64 (n + 16) :: (dqs d_ 11 12 [])))))))) [] x (Int.fdiv x_1 (2 ^ 16)) (n + 16)))) (κn_ (lsQ182 (dqs d_ 0 5 (.int .u64 x_1 :: (.bool false :: (dqs d_ 7 16 [])))) [] x x_1 n))) := by kernel_rfl
theorem jnQ180 (N : Nat) (d_ : List V) (u_ : List (Option Blk)) (x x_1 n : Int) (c_ : V -> List Blk -> Bool) : codesV ⟨Pg, ofList [], isref, N⟩ 0 (anQ94 N) ((cds Pg 182).drop 3) 0 (lsQ180 d_ u_ x x_1 n) (finV Pg 182 0 c_) = JQ180 N x x_1 n (fun r0 => c_ (.int .i64 r0) []) := by
  rw [codesV_cut 3 2 5 rfl]
  refine (hdQ180 N d_ u_ x x_1 n c_ _).trans ?_
  simp only [jnQ182]
  kernel_rfl
theorem hd_m_bits_Len64_w (N : Nat) (x : Int) (c_ : V -> List Blk -> Bool) (κn_ : St -> Bool) : codesV ⟨Pg, ofList [], isref, N⟩ 0 (anQ94 N) (sg Pg 182 0 3) 0 (st0 Pg 182 (shFQ94.args [.int x]) []) { (finV Pg 182 0 c_) with nrm := κn_ } = (cond (decide (x >= 4294967296)) (κn_ (lsQ180 [.any, .int .u64 x, .bool true, .int .u64 x, .int .u64 (Int.fdiv x (2 ^ 32)), .any, .any, .any, .any, .any, .any, .any, .any, .any, .any, .any, .any, .any, .any, .any, .any, .any, .any] [] x (Int.fdiv x (2 ^ 32)) 32)) (κn_ (lsQ180 [.any, .int .u64 x, .bool false, .any, .any, .any, .any, .any, .any, .any, .any, .any, .any, .any, .any, .any, .any, .any, .any, .any, .any, .any, .any] [] x x 0))) := by kernel_rfl
theorem jn_m_bits_Len64_w (N : Nat) (x : Int) (c_ : V -> List Blk -> Bool) : codesV ⟨Pg, ofList [], isref, N⟩ 0 (anQ94 N) ((cds Pg 182).drop 0) 0 (st0 Pg 182 (shFQ94.args [.int x]) []) (finV Pg 182 0 c_) = GQ94 N x (fun r0 => c_ (.int .i64 r0) []) := by
  rw [codesV_cut 0 3 3 rfl]
  refine (hd_m_bits_Len64_w N x c_ _).trans ?_
  simp only [jnQ180]
  kernel_rfl
theorem eqQ94 (N : Nat) (x : Int) (c_ : V -> List Blk -> Bool) : bodyV ⟨Pg, ofList [], isref, N⟩ (anQ94 N) 182 (shFQ94.args [.int x]) [] c_ = GQ94 N x (fun r0 => c_ (.int .i64 r0) []) :=
  (bodyV_codes (by kernel_rfl)).trans (jn_m_bits_Len64_w N x c_)
theorem goodQ94 (N : Nat) : GoodF Pg 182 (FQ94 (GQ94 N)) := by
  refine good_fs (cx := ⟨Pg, ofList [], isref, N⟩) (ofList_nil _) shFQ94 (spQ94 (GQ94 N)) (anQ94 N) 0 0 (by kernel_rfl) (fun i_ hi_ => by omega) ?_
  intro a k h
  unfold spQ94 at h
  split at h
  · exact ⟨[], rfl, rfl, (eqQ94 _ _ _).trans h⟩
  · cases h

def anQ129 (N : Nat) (SQ94 : TSQ94) : Nat -> Option Ann := fun b_ => none
theorem eqQ129 (N : Nat) (SQ94 : TSQ94) (x : List Int) (c_ : V -> List Blk -> Bool) : bodyZ ⟨Pg, ofList [(182, (FQ94 SQ94))], isref, N⟩ (anQ129 N SQ94) 163 (shFQ129.args [.ints x]) [] c_ = GQ129 N SQ94 x (fun r0 => c_ (.int .i64 r0) []) := by kernel_rfl
theorem goodQ129 (N : Nat) (SQ94 : TSQ94) (hQ94 : GoodF Pg 182 (FQ94 SQ94)) : GoodF Pg 163 (FQ129 (GQ129 N SQ94)) := by
  refine good_fsZ (cx := ⟨Pg, ofList [(182, (FQ94 SQ94))], isref, N⟩) (ofList_cons hQ94 (ofList_nil _)) shFQ129 (spQ129 (GQ129 N SQ94)) (anQ129 N SQ94) 0 0 (by kernel_rfl) (fun i_ hi_ => by omega) ?_
  intro a k h
  unfold spQ129 at h
  split at h
  · exact ⟨[], rfl, rfl, (eqQ129 _ _ _ _).trans h⟩
  · cases h

def anQ39 (N : Nat) (SQ129 : TSQ129) : Nat -> Option Ann := fun b_ => none
theorem eqQ39 (N : Nat) (SQ129 : TSQ129) (b : Bool) (b_1 : List Int) (c_ : V -> List Blk -> Bool) : bodyZ ⟨Pg, ofList [(163, (FQ129 SQ129))], isref, N⟩ (anQ39 N SQ129) 133 (shFQ39.args [.bool b, .ints b_1]) [⟨126, 1, .cells [.bool b, .roi .u64 b_1]⟩] c_ = GQ39 N SQ129 b b_1 (fun r0 => c_ (.int .i64 r0) [⟨126, 1, .cells [.bool b, .roi .u64 b_1]⟩]) := by kernel_rfl
theorem goodQ39 (N : Nat) (SQ129 : TSQ129) (hQ129 : GoodF Pg 163 (FQ129 SQ129)) : GoodF Pg 133 (FQ39 (GQ39 N SQ129)) := by
  refine good_fsZ (cx := ⟨Pg, ofList [(163, (FQ129 SQ129))], isref, N⟩) (ofList_cons hQ129 (ofList_nil _)) shFQ39 (spQ39 (GQ39 N SQ129)) (anQ39 N SQ129) 0 1 (by kernel_rfl) (fun i_ hi_ => by omega) ?_
  intro a k h
  unfold spQ39 at h
  split at h
  · exact ⟨[_], rfl, rfl, (eqQ39 _ _ _ _ _).trans h⟩
  · cases h

def anQ58 (N : Nat) (SQ124 : TSQ124) (SQ0 : TSQ0) : Nat -> Option Ann := fun b_ => none
theorem eqQ58 (N : Nat) (SQ124 : TSQ124) (SQ0 : TSQ0) (n : Int) (b : Bool) (c_ : V -> List Blk -> Bool) : bodyZ ⟨Pg, ofList [(158, (FQ124 SQ124)), (139, (FQ0 SQ0))], isref, N⟩ (anQ58 N SQ124 SQ0) 164 (shFQ58.args [.int n, .bool b]) [⟨126, 1, .cells [.bool b, .nil]⟩] c_ = GQ58 N SQ124 SQ0 n b (fun r0 r1 => c_ (.ptr 0 0) [⟨126, 1, .cells [.bool r0, .roi .u64 r1]⟩]) := by kernel_rfl
theorem goodQ58 (N : Nat) (SQ124 : TSQ124) (SQ0 : TSQ0) (hQ124 : GoodF Pg 158 (FQ124 SQ124)) (hQ0 : GoodF Pg 139 (FQ0 SQ0)) : GoodF Pg 164 (FQ58 (GQ58 N SQ124 SQ0)) := by
  refine good_fsZ (cx := ⟨Pg, ofList [(158, (FQ124 SQ124)), (139, (FQ0 SQ0))], isref, N⟩) (ofList_cons hQ124 (ofList_cons hQ0 (ofList_nil _))) shFQ58 (spQ58 (GQ58 N SQ124 SQ0)) (anQ58 N SQ124 SQ0) 0 1 (by kernel_rfl) (fun i_ hi_ => by omega) ?_
  intro a k h
  unfold spQ58 at h
  split at h
  · exact ⟨[_], rfl, rfl, (eqQ58 _ _ _ _ _ _).trans h⟩
  · cases h

def anQ61 (N : Nat) (SQ58 : TSQ58) : Nat -> Option Ann := fun b_ => none
theorem eqQ61 (N : Nat) (SQ58 : TSQ58) (n : Int) (c_ : V -> List Blk -> Bool) : bodyZ ⟨Pg, ofList [(164, (FQ58 SQ58))], isref, N⟩ (anQ61 N SQ58) 134 (shFQ61.args [.int n]) [] c_ = GQ61 N SQ58 n (fun r0 r1 => c_ (.ptr 0 0) [⟨126, 1, .cells [.bool r0, .roi .u64 r1]⟩]) := by kernel_rfl
theorem goodQ61 (N : Nat) (SQ58 : TSQ58) (hQ58 : GoodF Pg 164 (FQ58 SQ58)) : GoodF Pg 134 (FQ61 (GQ61 N SQ58)) := by
  refine good_fsZ (cx := ⟨Pg, ofList [(164, (FQ58 SQ58))], isref, N⟩) (ofList_cons hQ58 (ofList_nil _)) shFQ61 (spQ61 (GQ61 N SQ58)) (anQ61 N SQ58) 0 0 (by kernel_rfl) (fun i_ hi_ => by omega) ?_
  intro a k h
  unfold spQ61 at h
  split at h
  · exact ⟨[], rfl, rfl, (eqQ61 _ _ _ _).trans h⟩
  · cases h

def anQ38 (N : Nat) (SQ77 : TSQ77) (SQ0 : TSQ0) : Nat -> Option Ann := fun b_ => none
theorem eqQ38 (N : Nat) (SQ77 : TSQ77) (SQ0 : TSQ0) (b b_1 : Bool) (b_2 : List Int) (c_ : V -> List Blk -> Bool) : bodyZ ⟨Pg, ofList [(140, (FQ77 SQ77)), (139, (FQ0 SQ0))], isref, N⟩ (anQ38 N SQ77 SQ0) 135 (shFQ38.args [.bool b, .bool b_1, .ints b_2]) [⟨126, 1, .cells [.bool b, .nil]⟩, ⟨126, 1, .cells [.bool b_1, .roi .u64 b_2]⟩] c_ = GQ38 N SQ77 SQ0 b b_1 b_2 (fun r0 r1 => c_ (.ptr 0 0) [⟨126, 1, .cells [.bool r0, .roi .u64 r1]⟩, ⟨126, 1, .cells [.bool b_1, .roi .u64 b_2]⟩]) := by kernel_rfl
theorem goodQ38 (N : Nat) (SQ77 : TSQ77) (SQ0 : TSQ0) (hQ77 : GoodF Pg 140 (FQ77 SQ77)) (hQ0 : GoodF Pg 139 (FQ0 SQ0)) : GoodF Pg 135 (FQ38 (GQ38 N SQ77 SQ0)) := by
  refine good_fsZ (cx := ⟨Pg, ofList [(140, (FQ77 SQ77)), (139, (FQ0 SQ0))], isref, N⟩) (ofList_cons hQ77 (ofList_cons hQ0 (ofList_nil _))) shFQ38 (spQ38 (GQ38 N SQ77 SQ0)) (anQ38 N SQ77 SQ0) 0 2 (by kernel_rfl) (fun i_ hi_ => by omega) ?_
  intro a k h
  unfold spQ38 at h
  split at h
  · exact ⟨[_, _], rfl, rfl, (eqQ38 _ _ _ _ _ _ _).trans h⟩
  · cases h

def anQ45 (N : Nat) : Nat -> Option Ann := fun b_ => none
theorem eqQ45 (N : Nat) (neg : Bool) (abs_0 abs_1 : Nat) (b : Bool) (b_1 : List Int) (c_ : V -> List Blk -> Bool) : bodyZ ⟨Pg, ofList [], isref, N⟩ (anQ45 N) 139 (shFQ45.args [.bool neg, .nat abs_0, .nat abs_1, .bool b, .ints b_1]) [⟨126, 1, .cells [.bool b, .nil]⟩, ⟨22, 1, .ints .u64 b_1⟩] c_ = GQ45 N neg abs_0 abs_1 b b_1 (fun r0 => c_ (.ptr 0 0) [⟨126, 1, .cells [.bool r0, .sl 1 abs_0 abs_1]⟩, ⟨22, 1, .ints .u64 b_1⟩]) := by kernel_rfl
theorem goodQ45 (N : Nat) : GoodF Pg 139 (FQ45 (GQ45 N)) := by
  refine good_fsZ (cx := ⟨Pg, ofList [], isref, N⟩) (ofList_nil _) shFQ45 (spQ45 (GQ45 N)) (anQ45 N) 0 2 (by kernel_rfl) (fun i_ hi_ => by omega) ?_
  intro a k h
  unfold spQ45 at h
  split at h
  · exact ⟨[_, _], rfl, rfl, (eqQ45 _ _ _ _ _ _ _).trans h⟩
  · cases h

def sh_st_big_Int_And_p0p1p2nrr_0 : StSh := ⟨(.ptr 0 0 :: (.ptr 1 0 :: (.ptr 2 0 :: (sqs 4 (.slw 3 :: (sqs 14 (.int .i64 :: (.int .i64 :: (sqs 25 []))))))))), [some (126, 1, .cells [.bool, .nil]), some (126, 1, .cells [.bool, .roi .u64]), some (126, 1, .cells [.bool, .roi .u64]), some (22, 1, .ints .u64)]⟩
def sx0_st_big_Int_And_p0p1p2nrr_0 : StSh := ⟨(.ptr 0 0 :: (sqs 6 (.slw 3 :: (sqs 41 [])))), [some (126, 1, .cells [.bool, .nil]), some (126, 1, .cells [.bool, .roi .u64]), some (126, 1, .cells [.bool, .roi .u64]), some (22, 1, .ints .u64)]⟩
def hk_st_big_Int_And_p0p1p2nrr_0 (N : Nat) (SQ1 : TSQ1) (SQ45 : TSQ45) : List Atom -> K -> Bool := fun a_ κ => match a_ with
  | [.int t22, .int t23, .bool z, .bool x, .ints x_1, .bool y, .ints y_1, .ints r] => iterG N (stQ185 N SQ1 SQ45 t22 z x x_1 y y_1 (fun r5 => κ.ext 0 (sx0_st_big_Int_And_p0p1p2nrr_0.build [.bool z, .bool x, .ints x_1, .bool y, .ints y_1, .ints r5]))) (t23, r)
  | _ => false
def anQ25 (N : Nat) (SQ1 : TSQ1) (SQ45 : TSQ45) : Nat -> Option Ann := fun b_ => cond (b_ == 0) (some ⟨⟨[0, 1, 2, 7, 22, 23], [], []⟩, [(0, ⟨[0, 7], [], []⟩)], some ⟨[6], [], []⟩, some (mkHooks [(sh_st_big_Int_And_p0p1p2nrr_0, hk_st_big_Int_And_p0p1p2nrr_0 N SQ1 SQ45)])⟩) (none)
theorem eq_st_big_Int_And_p0p1p2nrr_0 (N : Nat) (SQ1 : TSQ1) (SQ45 : TSQ45) (κ : K) (t22 t23 : Int) (z x : Bool) (x_1 : List Int) (y : Bool) (y_1 r : List Int) : iter N (fun s k => codeV ⟨Pg, ofList [(167, (FQ1 SQ1)), (139, (FQ45 SQ45))], isref, N⟩ 3 (anQ25 N SQ1 SQ45) (lp Pg 137 0).2 (lp Pg 137 0).1 s (roundK Pg 3 ((anQ25 N SQ1 SQ45) (lp Pg 137 0).1) κ k)) (sh_st_big_Int_And_p0p1p2nrr_0.build [.int t22, .int t23, .bool z, .bool x, .ints x_1, .bool y, .ints y_1, .ints r]) = iterG N (stQ185 N SQ1 SQ45 t22 z x x_1 y y_1 (fun r5 => κ.ext 0 (sx0_st_big_Int_And_p0p1p2nrr_0.build [.bool z, .bool x, .ints x_1, .bool y, .ints y_1, .ints r5]))) (t23, r) :=
  iter_tr (fun (v_ : Int × List Int) => sh_st_big_Int_And_p0p1p2nrr_0.build [.int t22, .int v_.1, .bool z, .bool x, .ints x_1, .bool y, .ints y_1, .ints v_.2]) (fun v_ K_ => by obtain ⟨t23, r⟩ := v_; kernel_rfl) N (t23, r)
theorem hk1_st_big_Int_And_p0p1p2nrr_0 (N : Nat) (SQ1 : TSQ1) (SQ45 : TSQ45) : HookFor ⟨Pg, ofList [(167, (FQ1 SQ1)), (139, (FQ45 SQ45))], isref, N⟩ 3 (anQ25 N SQ1 SQ45) (lp Pg 137 0) (sh_st_big_Int_And_p0p1p2nrr_0, hk_st_big_Int_And_p0p1p2nrr_0 N SQ1 SQ45) := by
  intro a κ h
  simp only at h
  unfold hk_st_big_Int_And_p0p1p2nrr_0 at h
  split at h
  · exact (eq_st_big_Int_And_p0p1p2nrr_0 _ _ _ _ _ _ _ _ _ _ _ _).trans h
  · cases h
theorem ho_big_Int_And_p0p1p2nrr_0 (N : Nat) (SQ1 : TSQ1) (SQ45 : TSQ45) : HookOk ⟨Pg, ofList [(167, (FQ1 SQ1)), (139, (FQ45 SQ45))], isref, N⟩ 3 (anQ25 N SQ1 SQ45) (lp Pg 137 0) :=
  hooks_ok [(sh_st_big_Int_And_p0p1p2nrr_0, hk_st_big_Int_And_p0p1p2nrr_0 N SQ1 SQ45)] (by kernel_rfl) ⟨hk1_st_big_Int_And_p0p1p2nrr_0 _ _ _, trivial⟩
theorem eqQ25 (N : Nat) (SQ1 : TSQ1) (SQ45 : TSQ45) (b b_1 : Bool) (b_2 : List Int) (b_3 : Bool) (b_4 : List Int) (c_ : V -> List Blk -> Bool) : bodyZ ⟨Pg, ofList [(167, (FQ1 SQ1)), (139, (FQ45 SQ45))], isref, N⟩ (anQ25 N SQ1 SQ45) 137 (shFQ25.args [.bool b, .bool b_1, .ints b_2, .bool b_3, .ints b_4]) [⟨126, 1, .cells [.bool b, .nil]⟩, ⟨126, 1, .cells [.bool b_1, .roi .u64 b_2]⟩, ⟨126, 1, .cells [.bool b_3, .roi .u64 b_4]⟩] c_ = GQ25 N SQ1 SQ45 b b_1 b_2 b_3 b_4 (fun r0 r1 => c_ (.ptr 0 0) [⟨126, 1, .cells [.bool r0, .roi .u64 r1]⟩, ⟨126, 1, .cells [.bool b_1, .roi .u64 b_2]⟩, ⟨126, 1, .cells [.bool b_3, .roi .u64 b_4]⟩]) := by kernel_rfl
theorem goodQ25 (N : Nat) (SQ1 : TSQ1) (SQ45 : TSQ45) (hQ1 : GoodF Pg 167 (FQ1 SQ1)) (hQ45 : GoodF Pg 139 (FQ45 SQ45)) : GoodF Pg 137 (FQ25 (GQ25 N SQ1 SQ45)) := by
  refine good_fsZ (cx := ⟨Pg, ofList [(167, (FQ1 SQ1)), (139, (FQ45 SQ45))], isref, N⟩) (ofList_cons hQ1 (ofList_cons hQ45 (ofList_nil _))) shFQ25 (spQ25 (GQ25 N SQ1 SQ45)) (anQ25 N SQ1 SQ45) 1 3 (by kernel_rfl) (fun i_ hi_ => by
    match i_, hi_ with
    | 0, _ => exact ho_big_Int_And_p0p1p2nrr_0 _ _ _
    | (q + 1), h => omega) ?_
  intro a k h
  unfold spQ25 at h
  split at h
  · exact ⟨[_, _, _], rfl, rfl, (eqQ25 _ _ _ _ _ _ _ _ _).trans h⟩
  · cases h

def anQ173 (N : Nat) (SQ20 : TSQ20) : Nat -> Option Ann := fun b_ => none
theorem eqQ173 (N : Nat) (SQ20 : TSQ20) (x : List Int) (c_ : V -> List Blk -> Bool) : bodyZ ⟨Pg, ofList [(170, (FQ20 SQ20))], isref, N⟩ (anQ173 N SQ20) 168 (shFQ173.args [.ints x]) [] c_ = GQ173 N SQ20 x (fun r0 => c_ (.int .u64 r0) []) := by kernel_rfl
theorem goodQ173 (N : Nat) (SQ20 : TSQ20) (hQ20 : GoodF Pg 170 (FQ20 SQ20)) : GoodF Pg 168 (FQ173 (GQ173 N SQ20)) := by
  refine good_fsZ (cx := ⟨Pg, ofList [(170, (FQ20 SQ20))], isref, N⟩) (ofList_cons hQ20 (ofList_nil _)) shFQ173 (spQ173 (GQ173 N SQ20)) (anQ173 N SQ20) 0 0 (by kernel_rfl) (fun i_ hi_ => by omega) ?_
  intro a k h
  unfold spQ173 at h
  split at h
  · exact ⟨[], rfl, rfl, (eqQ173 _ _ _ _).trans h⟩
  · cases h

def anQ40 (N : Nat) (SQ173 : TSQ173) : Nat -> Option Ann := fun b_ => none
theorem eqQ40 (N : Nat) (SQ173 : TSQ173) (b : Bool) (b_1 : List Int) (c_ : V -> List Blk -> Bool) : bodyZ ⟨Pg, ofList [(168, (FQ173 SQ173))], isref, N⟩ (anQ40 N SQ173) 138 (shFQ40.args [.bool b, .ints b_1]) [⟨126, 1, .cells [.bool b, .roi .u64 b_1]⟩] c_ = GQ40 N SQ173 b b_1 (fun r0 => c_ (.int .u64 r0) [⟨126, 1, .cells [.bool b, .roi .u64 b_1]⟩]) := by kernel_rfl
theorem goodQ40 (N : Nat) (SQ173 : TSQ173) (hQ173 : GoodF Pg 168 (FQ173 SQ173)) : GoodF Pg 138 (FQ40 (GQ40 N SQ173)) := by
  refine good_fsZ (cx := ⟨Pg, ofList [(168, (FQ173 SQ173))], isref, N⟩) (ofList_cons hQ173 (ofList_nil _)) shFQ40 (spQ40 (GQ40 N SQ173)) (anQ40 N SQ173) 0 1 (by kernel_rfl) (fun i_ hi_ => by omega) ?_
  intro a k h
  unfold spQ40 at h
  split at h
  · exact ⟨[_], rfl, rfl, (eqQ40 _ _ _ _ _).trans h⟩
  · cases h

end Go.Proofs.YtnfgnjciliapaaaGreatDoor
