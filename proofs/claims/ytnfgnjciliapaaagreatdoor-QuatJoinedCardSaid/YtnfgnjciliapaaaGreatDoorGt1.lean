/-
  THE TIES: each printed meaning is what the program does (written by program).
  Conditions: none.
-/
import Derived.Test.YtnfgnjciliapaaaGreatDoorGs
namespace Go.Proofs.YtnfgnjciliapaaaGreatDoor
open Go Go.Mach Go.Proofs
set_option linter.unusedVariables false
set_option maxRecDepth 50000

def sh_st_big_times_2 : StSh := ⟨(.any :: (.roi .u64 :: (.any :: (.any :: (.any :: (.slw 0 :: (.int .i64 :: (.int .u64 :: (.int .u64 :: (sqs 16 (.roi .u64 :: (.int .i64 :: (.int .i64 :: (sqs 4 (.roi .u64 :: (.int .i64 :: (.int .i64 :: (sqs 33 [])))))))))))))))))), [some (22, 1, .ints .u64)]⟩
def sx0_st_big_times_2 : StSh := ⟨(.any :: (.roi .u64 :: (.any :: (.any :: (.any :: (.slw 0 :: (.int .i64 :: (.any :: (.int .u64 :: (sqs 16 (.roi .u64 :: (.int .i64 :: (.int .i64 :: (sqs 40 [])))))))))))))), [some (22, 1, .ints .u64)]⟩
def hk_st_big_times_2 (N : Nat) (SQ88 : TSQ88) (SQ1 : TSQ1) : List Atom -> K -> Bool := fun a_ κ => match a_ with
  | [.ints y_2, .int i, .int a, .int carry, .ints t25_1, .int t26_1, .int t27_1, .ints t32, .int t33, .int t34, .ints z_1] => iterG N (st_big_times_2 N SQ88 SQ1 y_2 i a t25_1 t26_1 t27_1 t32 t33 (fun r2 r6 => κ.ext 2 (sx0_st_big_times_2.build [.ints y_2, .int i, .int r2, .ints t25_1, .int t26_1, .int t27_1, .ints r6]))) (carry, t34, z_1)
  | _ => false
def sh_st_big_times_0 : StSh := ⟨(.any :: (.roi .u64 :: (.any :: (.any :: (.any :: (.slw 0 :: (sqs 19 (.roi .u64 :: (.int .i64 :: (.int .i64 :: (sqs 40 []))))))))))), [some (22, 1, .ints .u64)]⟩
def sx0_st_big_times_0 : StSh := ⟨(sqs 5 (.slw 0 :: (sqs 62 []))), [some (22, 1, .ints .u64)]⟩
def hk_st_big_times_0 (N : Nat) (SQ88 : TSQ88) (SQ1 : TSQ1) : List Atom -> K -> Bool := fun a_ κ => match a_ with
  | [.ints y_1, .ints t25, .int t26, .int t27, .ints z] => iterG N (st_big_times_0 N SQ88 SQ1 y_1 t25 t26 (fun r0 => κ.ext 0 (sx0_st_big_times_0.build [.ints r0]))) (t27, z)
  | _ => false
def anQ119 (N : Nat) (SQ88 : TSQ88) (SQ1 : TSQ1) : Nat -> Option Ann := fun b_ => cond (b_ == 2) (some ⟨⟨[1, 5, 6, 7, 8, 25, 26, 27, 32, 33, 34], [], []⟩, [(2, ⟨[1, 5, 6, 8, 25, 26, 27], [], []⟩)], some ⟨[4], [], []⟩, some (mkHooks [(sh_st_big_times_2, hk_st_big_times_2 N SQ88 SQ1)])⟩) (cond (b_ == 0) (some ⟨⟨[1, 5, 25, 26, 27], [], []⟩, [(0, ⟨[5], [], []⟩)], some ⟨[4], [], []⟩, some (mkHooks [(sh_st_big_times_0, hk_st_big_times_0 N SQ88 SQ1)])⟩) (none))
theorem eq_st_big_times_2 (N : Nat) (SQ88 : TSQ88) (SQ1 : TSQ1) (κ : K) (y_2 : List Int) (i a carry : Int) (t25_1 : List Int) (t26_1 t27_1 : Int) (t32 : List Int) (t33 t34 : Int) (z_1 : List Int) : iter N (fun s k => codeV ⟨Pg, ofList [(181, (FQ88 SQ88)), (167, (FQ1 SQ1))], isref, N⟩ 0 (anQ119 N SQ88 SQ1) (lp Pg 159 1).2 (lp Pg 159 1).1 s (roundK Pg 0 ((anQ119 N SQ88 SQ1) (lp Pg 159 1).1) κ k)) (sh_st_big_times_2.build [.ints y_2, .int i, .int a, .int carry, .ints t25_1, .int t26_1, .int t27_1, .ints t32, .int t33, .int t34, .ints z_1]) = iterG N (st_big_times_2 N SQ88 SQ1 y_2 i a t25_1 t26_1 t27_1 t32 t33 (fun r2 r6 => κ.ext 2 (sx0_st_big_times_2.build [.ints y_2, .int i, .int r2, .ints t25_1, .int t26_1, .int t27_1, .ints r6]))) (carry, t34, z_1) :=
  iter_tr (fun (v_ : Int × Int × List Int) => sh_st_big_times_2.build [.ints y_2, .int i, .int a, .int v_.1, .ints t25_1, .int t26_1, .int t27_1, .ints t32, .int t33, .int v_.2.1, .ints v_.2.2]) (fun v_ K_ => by obtain ⟨carry, t34, z_1⟩ := v_; kernel_rfl) N (carry, t34, z_1)
theorem hk1_st_big_times_2 (N : Nat) (SQ88 : TSQ88) (SQ1 : TSQ1) : HookFor ⟨Pg, ofList [(181, (FQ88 SQ88)), (167, (FQ1 SQ1))], isref, N⟩ 0 (anQ119 N SQ88 SQ1) (lp Pg 159 1) (sh_st_big_times_2, hk_st_big_times_2 N SQ88 SQ1) := by
  intro a κ h
  simp only at h
  unfold hk_st_big_times_2 at h
  split at h
  · exact (eq_st_big_times_2 _ _ _ _ _ _ _ _ _ _ _ _ _ _ _).trans h
  · cases h
theorem eq_st_big_times_0 (N : Nat) (SQ88 : TSQ88) (SQ1 : TSQ1) (κ : K) (y_1 t25 : List Int) (t26 t27 : Int) (z : List Int) : iter N (fun s k => codeV ⟨Pg, ofList [(181, (FQ88 SQ88)), (167, (FQ1 SQ1))], isref, N⟩ 0 (anQ119 N SQ88 SQ1) (lp Pg 159 0).2 (lp Pg 159 0).1 s (roundK Pg 0 ((anQ119 N SQ88 SQ1) (lp Pg 159 0).1) κ k)) (sh_st_big_times_0.build [.ints y_1, .ints t25, .int t26, .int t27, .ints z]) = iterG N (st_big_times_0 N SQ88 SQ1 y_1 t25 t26 (fun r0 => κ.ext 0 (sx0_st_big_times_0.build [.ints r0]))) (t27, z) :=
  iter_tr (fun (v_ : Int × List Int) => sh_st_big_times_0.build [.ints y_1, .ints t25, .int t26, .int v_.1, .ints v_.2]) (fun v_ K_ => by obtain ⟨t27, z⟩ := v_; kernel_rfl) N (t27, z)
theorem hk1_st_big_times_0 (N : Nat) (SQ88 : TSQ88) (SQ1 : TSQ1) : HookFor ⟨Pg, ofList [(181, (FQ88 SQ88)), (167, (FQ1 SQ1))], isref, N⟩ 0 (anQ119 N SQ88 SQ1) (lp Pg 159 0) (sh_st_big_times_0, hk_st_big_times_0 N SQ88 SQ1) := by
  intro a κ h
  simp only at h
  unfold hk_st_big_times_0 at h
  split at h
  · exact (eq_st_big_times_0 _ _ _ _ _ _ _ _ _).trans h
  · cases h
theorem ho_big_times_2 (N : Nat) (SQ88 : TSQ88) (SQ1 : TSQ1) : HookOk ⟨Pg, ofList [(181, (FQ88 SQ88)), (167, (FQ1 SQ1))], isref, N⟩ 0 (anQ119 N SQ88 SQ1) (lp Pg 159 1) :=
  hooks_ok [(sh_st_big_times_2, hk_st_big_times_2 N SQ88 SQ1)] (by kernel_rfl) ⟨hk1_st_big_times_2 _ _ _, trivial⟩
theorem ho_big_times_0 (N : Nat) (SQ88 : TSQ88) (SQ1 : TSQ1) : HookOk ⟨Pg, ofList [(181, (FQ88 SQ88)), (167, (FQ1 SQ1))], isref, N⟩ 0 (anQ119 N SQ88 SQ1) (lp Pg 159 0) :=
  hooks_ok [(sh_st_big_times_0, hk_st_big_times_0 N SQ88 SQ1)] (by kernel_rfl) ⟨hk1_st_big_times_0 _ _ _, trivial⟩
theorem eqQ119 (N : Nat) (SQ88 : TSQ88) (SQ1 : TSQ1) (x y : List Int) (c_ : V -> List Blk -> Bool) : bodyZ ⟨Pg, ofList [(181, (FQ88 SQ88)), (167, (FQ1 SQ1))], isref, N⟩ (anQ119 N SQ88 SQ1) 159 (shFQ119.args [.ints x, .ints y]) [] c_ = GQ119 N SQ88 SQ1 x y (fun r0 => c_ (.roi .u64 r0) []) := by kernel_rfl
theorem goodQ119 (N : Nat) (SQ88 : TSQ88) (SQ1 : TSQ1) (hQ88 : GoodF Pg 181 (FQ88 SQ88)) (hQ1 : GoodF Pg 167 (FQ1 SQ1)) : GoodF Pg 159 (FQ119 (GQ119 N SQ88 SQ1)) := by
  refine good_fsZ (cx := ⟨Pg, ofList [(181, (FQ88 SQ88)), (167, (FQ1 SQ1))], isref, N⟩) (ofList_cons hQ88 (ofList_cons hQ1 (ofList_nil _))) shFQ119 (spQ119 (GQ119 N SQ88 SQ1)) (anQ119 N SQ88 SQ1) 2 0 (by kernel_rfl) (fun i_ hi_ => by
    match i_, hi_ with
    | 0, _ => exact ho_big_times_0 _ _ _
    | 1, _ => exact ho_big_times_2 _ _ _
    | (q + 2), h => omega) ?_
  intro a k h
  unfold spQ119 at h
  split at h
  · exact ⟨[], rfl, rfl, (eqQ119 _ _ _ _ _ _).trans h⟩
  · cases h

def anQ49 (N : Nat) (SQ119 : TSQ119) (SQ0 : TSQ0) : Nat -> Option Ann := fun b_ => none
theorem eqQ49 (N : Nat) (SQ119 : TSQ119) (SQ0 : TSQ0) (b b_1 : Bool) (b_2 : List Int) (b_3 : Bool) (b_4 : List Int) (c_ : V -> List Blk -> Bool) : bodyZ ⟨Pg, ofList [(159, (FQ119 SQ119)), (139, (FQ0 SQ0))], isref, N⟩ (anQ49 N SQ119 SQ0) 131 (shFQ49.args [.bool b, .bool b_1, .ints b_2, .bool b_3, .ints b_4]) [⟨126, 1, .cells [.bool b, .nil]⟩, ⟨126, 1, .cells [.bool b_1, .roi .u64 b_2]⟩, ⟨126, 1, .cells [.bool b_3, .roi .u64 b_4]⟩] c_ = GQ49 N SQ119 SQ0 b b_1 b_2 b_3 b_4 (fun r0 r1 => c_ (.ptr 0 0) [⟨126, 1, .cells [.bool r0, .roi .u64 r1]⟩, ⟨126, 1, .cells [.bool b_1, .roi .u64 b_2]⟩, ⟨126, 1, .cells [.bool b_3, .roi .u64 b_4]⟩]) := by kernel_rfl
theorem goodQ49 (N : Nat) (SQ119 : TSQ119) (SQ0 : TSQ0) (hQ119 : GoodF Pg 159 (FQ119 SQ119)) (hQ0 : GoodF Pg 139 (FQ0 SQ0)) : GoodF Pg 131 (FQ49 (GQ49 N SQ119 SQ0)) := by
  refine good_fsZ (cx := ⟨Pg, ofList [(159, (FQ119 SQ119)), (139, (FQ0 SQ0))], isref, N⟩) (ofList_cons hQ119 (ofList_cons hQ0 (ofList_nil _))) shFQ49 (spQ49 (GQ49 N SQ119 SQ0)) (anQ49 N SQ119 SQ0) 0 3 (by kernel_rfl) (fun i_ hi_ => by omega) ?_
  intro a k h
  unfold spQ49 at h
  split at h
  · exact ⟨[_, _, _], rfl, rfl, (eqQ49 _ _ _ _ _ _ _ _ _).trans h⟩
  · cases h

def anQ13 (N : Nat) (SQ49 : TSQ49) : Nat -> Option Ann := fun b_ => none
theorem eqQ13 (N : Nat) (SQ49 : TSQ49) (x y : Int) (b : Bool) (b_1 : List Int) (b_2 : Bool) (b_3 : List Int) (c_ : V -> List Blk -> Bool) : bodyV ⟨Pg, ofList [(131, (FQ49 SQ49))], isref, N⟩ (anQ13 N SQ49) 87 (shFQ13.args [.int x, .int y, .bool b, .ints b_1, .bool b_2, .ints b_3]) [⟨126, 1, .cells [.bool b, .roi .u64 b_1]⟩, ⟨126, 1, .cells [.bool b_2, .roi .u64 b_3]⟩] c_ = GQ13 N SQ49 x y b b_1 b_2 b_3 (fun r0 r5 r6 => c_ (.agg [.ptr 2 0, .int .i64 r0]) [⟨126, 1, .cells [.bool b, .roi .u64 b_1]⟩, ⟨126, 1, .cells [.bool b_2, .roi .u64 b_3]⟩, ⟨126, 1, .cells [.bool r5, .roi .u64 r6]⟩]) := by kernel_rfl
theorem goodQ13 (N : Nat) (SQ49 : TSQ49) (hQ49 : GoodF Pg 131 (FQ49 SQ49)) : GoodF Pg 87 (FQ13 (GQ13 N SQ49)) := by
  refine good_fs (cx := ⟨Pg, ofList [(131, (FQ49 SQ49))], isref, N⟩) (ofList_cons hQ49 (ofList_nil _)) shFQ13 (spQ13 (GQ13 N SQ49)) (anQ13 N SQ49) 0 2 (by kernel_rfl) (fun i_ hi_ => by omega) ?_
  intro a k h
  unfold spQ13 at h
  split at h
  · exact ⟨[_, _], rfl, rfl, (eqQ13 _ _ _ _ _ _ _ _ _).trans h⟩
  · cases h

def anQ69 (N : Nat) : Nat -> Option Ann := fun b_ => none
theorem eqQ69 (N : Nat) (b : Bool) (c_ : V -> List Blk -> Bool) : bodyZ ⟨Pg, ofList [], isref, N⟩ (anQ69 N) 94 (shFQ69.args [.bool b]) [⟨126, 1, .cells [.bool b, .nil]⟩] c_ = GQ69 N b (fun r0 r2 => c_ (.int .i64 r0) [⟨126, 1, .cells [.bool b, .roi .u64 r2]⟩]) := by kernel_rfl
theorem goodQ69 (N : Nat) : GoodF Pg 94 (FQ69 (GQ69 N)) := by
  refine good_fsZ (cx := ⟨Pg, ofList [], isref, N⟩) (ofList_nil _) shFQ69 (spQ69 (GQ69 N)) (anQ69 N) 0 1 (by kernel_rfl) (fun i_ hi_ => by omega) ?_
  intro a k h
  unfold spQ69 at h
  split at h
  · exact ⟨[_], rfl, rfl, (eqQ69 _ _ _).trans h⟩
  · cases h

def anQ4 (N : Nat) : Nat -> Option Ann := fun b_ => none
theorem eqQ4 (N : Nat) (b : Bool) (b_1 : List Int) (c_ : V -> List Blk -> Bool) : bodyZ ⟨Pg, ofList [], isref, N⟩ (anQ4 N) 94 (shFQ4.args [.bool b, .ints b_1]) [⟨126, 1, .cells [.bool b, .roi .u64 b_1]⟩] c_ = GQ4 N b b_1 (fun r0 => c_ (.int .i64 r0) [⟨126, 1, .cells [.bool b, .roi .u64 b_1]⟩]) := by kernel_rfl
theorem goodQ4 (N : Nat) : GoodF Pg 94 (FQ4 (GQ4 N)) := by
  refine good_fsZ (cx := ⟨Pg, ofList [], isref, N⟩) (ofList_nil _) shFQ4 (spQ4 (GQ4 N)) (anQ4 N) 0 1 (by kernel_rfl) (fun i_ hi_ => by omega) ?_
  intro a k h
  unfold spQ4 at h
  split at h
  · exact ⟨[_], rfl, rfl, (eqQ4 _ _ _ _).trans h⟩
  · cases h

def sh_st_big_left_0 : StSh := ⟨(sqs 5 (.int .i64 :: (.int .u64 :: (.slw 0 :: (sqs 16 (.roi .u64 :: (.int .i64 :: (.int .i64 :: (sqs 28 []))))))))), [some (22, 1, .ints .u64)]⟩
def sx0_st_big_left_0 : StSh := ⟨(sqs 7 (.slw 0 :: (sqs 47 []))), [some (22, 1, .ints .u64)]⟩
def hk_st_big_left_0 (N : Nat) (SQ1 : TSQ1) : List Atom -> K -> Bool := fun a_ κ => match a_ with
  | [.int words, .int rest, .ints t24, .int t25, .int t26, .ints z] => iterG N (st_big_left_0 N SQ1 words rest t24 t25 (fun r0 => κ.ext 0 (sx0_st_big_left_0.build [.ints r0]))) (t26, z)
  | _ => false
def anQ89 (N : Nat) (SQ1 : TSQ1) : Nat -> Option Ann := fun b_ => cond (b_ == 0) (some ⟨⟨[5, 6, 7, 24, 25, 26], [], []⟩, [(0, ⟨[7], [], []⟩)], some ⟨[4], [], []⟩, some (mkHooks [(sh_st_big_left_0, hk_st_big_left_0 N SQ1)])⟩) (none)
theorem eq_st_big_left_0 (N : Nat) (SQ1 : TSQ1) (κ : K) (words rest : Int) (t24 : List Int) (t25 t26 : Int) (z : List Int) : iter N (fun s k => codeV ⟨Pg, ofList [(167, (FQ1 SQ1))], isref, N⟩ 0 (anQ89 N SQ1) (lp Pg 169 0).2 (lp Pg 169 0).1 s (roundK Pg 0 ((anQ89 N SQ1) (lp Pg 169 0).1) κ k)) (sh_st_big_left_0.build [.int words, .int rest, .ints t24, .int t25, .int t26, .ints z]) = iterG N (st_big_left_0 N SQ1 words rest t24 t25 (fun r0 => κ.ext 0 (sx0_st_big_left_0.build [.ints r0]))) (t26, z) :=
  iter_tr (fun (v_ : Int × List Int) => sh_st_big_left_0.build [.int words, .int rest, .ints t24, .int t25, .int v_.1, .ints v_.2]) (fun v_ K_ => by obtain ⟨t26, z⟩ := v_; kernel_rfl) N (t26, z)
theorem hk1_st_big_left_0 (N : Nat) (SQ1 : TSQ1) : HookFor ⟨Pg, ofList [(167, (FQ1 SQ1))], isref, N⟩ 0 (anQ89 N SQ1) (lp Pg 169 0) (sh_st_big_left_0, hk_st_big_left_0 N SQ1) := by
  intro a κ h
  simp only at h
  unfold hk_st_big_left_0 at h
  split at h
  · exact (eq_st_big_left_0 _ _ _ _ _ _ _ _ _).trans h
  · cases h
theorem ho_big_left_0 (N : Nat) (SQ1 : TSQ1) : HookOk ⟨Pg, ofList [(167, (FQ1 SQ1))], isref, N⟩ 0 (anQ89 N SQ1) (lp Pg 169 0) :=
  hooks_ok [(sh_st_big_left_0, hk_st_big_left_0 N SQ1)] (by kernel_rfl) ⟨hk1_st_big_left_0 _ _, trivial⟩
theorem eqQ89 (N : Nat) (SQ1 : TSQ1) (x : List Int) (n : Int) (c_ : V -> List Blk -> Bool) : bodyZ ⟨Pg, ofList [(167, (FQ1 SQ1))], isref, N⟩ (anQ89 N SQ1) 169 (shFQ89.args [.ints x, .int n]) [] c_ = GQ89 N SQ1 x n (fun r0 => c_ (.roi .u64 r0) []) := by kernel_rfl
theorem goodQ89 (N : Nat) (SQ1 : TSQ1) (hQ1 : GoodF Pg 167 (FQ1 SQ1)) : GoodF Pg 169 (FQ89 (GQ89 N SQ1)) := by
  refine good_fsZ (cx := ⟨Pg, ofList [(167, (FQ1 SQ1))], isref, N⟩) (ofList_cons hQ1 (ofList_nil _)) shFQ89 (spQ89 (GQ89 N SQ1)) (anQ89 N SQ1) 1 0 (by kernel_rfl) (fun i_ hi_ => by
    match i_, hi_ with
    | 0, _ => exact ho_big_left_0 _ _
    | (q + 1), h => omega) ?_
  intro a k h
  unfold spQ89 at h
  split at h
  · exact ⟨[], rfl, rfl, (eqQ89 _ _ _ _ _).trans h⟩
  · cases h

def anQ58 (N : Nat) (SQ89 : TSQ89) (SQ0 : TSQ0) : Nat -> Option Ann := fun b_ => none
theorem eqQ58 (N : Nat) (SQ89 : TSQ89) (SQ0 : TSQ0) (n : Int) (b b_1 : Bool) (b_2 : List Int) (c_ : V -> List Blk -> Bool) : bodyZ ⟨Pg, ofList [(169, (FQ89 SQ89)), (139, (FQ0 SQ0))], isref, N⟩ (anQ58 N SQ89 SQ0) 141 (shFQ58.args [.int n, .bool b, .bool b_1, .ints b_2]) [⟨126, 1, .cells [.bool b, .nil]⟩, ⟨126, 1, .cells [.bool b_1, .roi .u64 b_2]⟩] c_ = GQ58 N SQ89 SQ0 n b b_1 b_2 (fun r0 r1 => c_ (.ptr 0 0) [⟨126, 1, .cells [.bool r0, .roi .u64 r1]⟩, ⟨126, 1, .cells [.bool b_1, .roi .u64 b_2]⟩]) := by kernel_rfl
theorem goodQ58 (N : Nat) (SQ89 : TSQ89) (SQ0 : TSQ0) (hQ89 : GoodF Pg 169 (FQ89 SQ89)) (hQ0 : GoodF Pg 139 (FQ0 SQ0)) : GoodF Pg 141 (FQ58 (GQ58 N SQ89 SQ0)) := by
  refine good_fsZ (cx := ⟨Pg, ofList [(169, (FQ89 SQ89)), (139, (FQ0 SQ0))], isref, N⟩) (ofList_cons hQ89 (ofList_cons hQ0 (ofList_nil _))) shFQ58 (spQ58 (GQ58 N SQ89 SQ0)) (anQ58 N SQ89 SQ0) 0 2 (by kernel_rfl) (fun i_ hi_ => by omega) ?_
  intro a k h
  unfold spQ58 at h
  split at h
  · exact ⟨[_, _], rfl, rfl, (eqQ58 _ _ _ _ _ _ _ _).trans h⟩
  · cases h

def anQ30 (N : Nat) (SQ58 : TSQ58) : Nat -> Option Ann := fun b_ => none
theorem eqQ30 (N : Nat) (SQ58 : TSQ58) (x e : Int) (b : Bool) (b_1 : List Int) (c_ : V -> List Blk -> Bool) : bodyV ⟨Pg, ofList [(141, (FQ58 SQ58))], isref, N⟩ (anQ30 N SQ58) 128 (shFQ30.args [.int x, .int e, .bool b, .ints b_1]) [⟨126, 1, .cells [.bool b, .roi .u64 b_1]⟩] c_ = GQ30 N SQ58 x e b b_1 (fun r2 r3 => c_ (.ptr 1 0) [⟨126, 1, .cells [.bool b, .roi .u64 b_1]⟩, ⟨126, 1, .cells [.bool r2, .roi .u64 r3]⟩]) := by kernel_rfl
theorem goodQ30 (N : Nat) (SQ58 : TSQ58) (hQ58 : GoodF Pg 141 (FQ58 SQ58)) : GoodF Pg 128 (FQ30 (GQ30 N SQ58)) := by
  refine good_fs (cx := ⟨Pg, ofList [(141, (FQ58 SQ58))], isref, N⟩) (ofList_cons hQ58 (ofList_nil _)) shFQ30 (spQ30 (GQ30 N SQ58)) (anQ30 N SQ58) 0 1 (by kernel_rfl) (fun i_ hi_ => by omega) ?_
  intro a k h
  unfold spQ30 at h
  split at h
  · exact ⟨[_], rfl, rfl, (eqQ30 _ _ _ _ _ _ _).trans h⟩
  · cases h

def anQ14 (N : Nat) : Nat -> Option Ann := fun b_ => none
theorem eqQ14 (N : Nat) (x : List Int) (i : Int) (c_ : V -> List Blk -> Bool) : bodyZ ⟨Pg, ofList [], isref, N⟩ (anQ14 N) 170 (shFQ14.args [.ints x, .int i]) [] c_ = GQ14 N x i (fun r0 => c_ (.int .u64 r0) []) := by kernel_rfl
theorem goodQ14 (N : Nat) : GoodF Pg 170 (FQ14 (GQ14 N)) := by
  refine good_fsZ (cx := ⟨Pg, ofList [], isref, N⟩) (ofList_nil _) shFQ14 (spQ14 (GQ14 N)) (anQ14 N) 0 0 (by kernel_rfl) (fun i_ hi_ => by omega) ?_
  intro a k h
  unfold spQ14 at h
  split at h
  · exact ⟨[], rfl, rfl, (eqQ14 _ _ _ _).trans h⟩
  · cases h

def sh_st_big_sum_0 : StSh := ⟨(.roi .u64 :: (.roi .u64 :: (.any :: (.any :: (.any :: (.int .i64 :: (.slw 0 :: (.int .u64 :: (sqs 9 (.int .i64 :: (.int .i64 :: (sqs 23 [])))))))))))), [some (22, 1, .ints .u64)]⟩
def sx0_st_big_sum_0 : StSh := ⟨(sqs 5 (.int .i64 :: (.slw 0 :: (.int .u64 :: (sqs 34 []))))), [some (22, 1, .ints .u64)]⟩
def hk_st_big_sum_0 (N : Nat) (SQ14 : TSQ14) (SQ61 : TSQ61) (SQ1 : TSQ1) : List Atom -> K -> Bool := fun a_ κ => match a_ with
  | [.ints x_1, .ints y_1, .int n, .int carry, .int t17, .int t18, .ints z] => iterG N (st_big_sum_0 N SQ14 SQ61 SQ1 x_1 y_1 n t17 (fun r1 r2 => κ.ext 0 (sx0_st_big_sum_0.build [.int n, .int r1, .ints r2]))) (carry, t18, z)
  | _ => false
def anQ126 (N : Nat) (SQ14 : TSQ14) (SQ61 : TSQ61) (SQ1 : TSQ1) : Nat -> Option Ann := fun b_ => cond (b_ == 0) (some ⟨⟨[0, 1, 5, 6, 7, 17, 18], [], []⟩, [(0, ⟨[5, 6, 7], [], []⟩)], some ⟨[4], [], []⟩, some (mkHooks [(sh_st_big_sum_0, hk_st_big_sum_0 N SQ14 SQ61 SQ1)])⟩) (none)
theorem eq_st_big_sum_0 (N : Nat) (SQ14 : TSQ14) (SQ61 : TSQ61) (SQ1 : TSQ1) (κ : K) (x_1 y_1 : List Int) (n carry t17 t18 : Int) (z : List Int) : iter N (fun s k => codeV ⟨Pg, ofList [(170, (FQ14 SQ14)), (183, (FQ61 SQ61)), (167, (FQ1 SQ1))], isref, N⟩ 0 (anQ126 N SQ14 SQ61 SQ1) (lp Pg 166 0).2 (lp Pg 166 0).1 s (roundK Pg 0 ((anQ126 N SQ14 SQ61 SQ1) (lp Pg 166 0).1) κ k)) (sh_st_big_sum_0.build [.ints x_1, .ints y_1, .int n, .int carry, .int t17, .int t18, .ints z]) = iterG N (st_big_sum_0 N SQ14 SQ61 SQ1 x_1 y_1 n t17 (fun r1 r2 => κ.ext 0 (sx0_st_big_sum_0.build [.int n, .int r1, .ints r2]))) (carry, t18, z) :=
  iter_tr (fun (v_ : Int × Int × List Int) => sh_st_big_sum_0.build [.ints x_1, .ints y_1, .int n, .int v_.1, .int t17, .int v_.2.1, .ints v_.2.2]) (fun v_ K_ => by obtain ⟨carry, t18, z⟩ := v_; kernel_rfl) N (carry, t18, z)
theorem hk1_st_big_sum_0 (N : Nat) (SQ14 : TSQ14) (SQ61 : TSQ61) (SQ1 : TSQ1) : HookFor ⟨Pg, ofList [(170, (FQ14 SQ14)), (183, (FQ61 SQ61)), (167, (FQ1 SQ1))], isref, N⟩ 0 (anQ126 N SQ14 SQ61 SQ1) (lp Pg 166 0) (sh_st_big_sum_0, hk_st_big_sum_0 N SQ14 SQ61 SQ1) := by
  intro a κ h
  simp only at h
  unfold hk_st_big_sum_0 at h
  split at h
  · exact (eq_st_big_sum_0 _ _ _ _ _ _ _ _ _ _ _ _).trans h
  · cases h
theorem ho_big_sum_0 (N : Nat) (SQ14 : TSQ14) (SQ61 : TSQ61) (SQ1 : TSQ1) : HookOk ⟨Pg, ofList [(170, (FQ14 SQ14)), (183, (FQ61 SQ61)), (167, (FQ1 SQ1))], isref, N⟩ 0 (anQ126 N SQ14 SQ61 SQ1) (lp Pg 166 0) :=
  hooks_ok [(sh_st_big_sum_0, hk_st_big_sum_0 N SQ14 SQ61 SQ1)] (by kernel_rfl) ⟨hk1_st_big_sum_0 _ _ _ _, trivial⟩
theorem eqQ126 (N : Nat) (SQ14 : TSQ14) (SQ61 : TSQ61) (SQ1 : TSQ1) (x y : List Int) (c_ : V -> List Blk -> Bool) : bodyZ ⟨Pg, ofList [(170, (FQ14 SQ14)), (183, (FQ61 SQ61)), (167, (FQ1 SQ1))], isref, N⟩ (anQ126 N SQ14 SQ61 SQ1) 166 (shFQ126.args [.ints x, .ints y]) [] c_ = GQ126 N SQ14 SQ61 SQ1 x y (fun r0 => c_ (.roi .u64 r0) []) := by kernel_rfl
theorem goodQ126 (N : Nat) (SQ14 : TSQ14) (SQ61 : TSQ61) (SQ1 : TSQ1) (hQ14 : GoodF Pg 170 (FQ14 SQ14)) (hQ61 : GoodF Pg 183 (FQ61 SQ61)) (hQ1 : GoodF Pg 167 (FQ1 SQ1)) : GoodF Pg 166 (FQ126 (GQ126 N SQ14 SQ61 SQ1)) := by
  refine good_fsZ (cx := ⟨Pg, ofList [(170, (FQ14 SQ14)), (183, (FQ61 SQ61)), (167, (FQ1 SQ1))], isref, N⟩) (ofList_cons hQ14 (ofList_cons hQ61 (ofList_cons hQ1 (ofList_nil _)))) shFQ126 (spQ126 (GQ126 N SQ14 SQ61 SQ1)) (anQ126 N SQ14 SQ61 SQ1) 1 0 (by kernel_rfl) (fun i_ hi_ => by
    match i_, hi_ with
    | 0, _ => exact ho_big_sum_0 _ _ _ _
    | (q + 1), h => omega) ?_
  intro a k h
  unfold spQ126 at h
  split at h
  · exact ⟨[], rfl, rfl, (eqQ126 _ _ _ _ _ _ _).trans h⟩
  · cases h

def sh_st_big_compare_0 : StSh := ⟨(.roi .u64 :: (.roi .u64 :: (.any :: (.any :: (.any :: (.int .i64 :: (sqs 35 []))))))), []⟩
def sx0_st_big_compare_0 : StSh := ⟨(sqs 4 (.int .i64 :: (sqs 36 []))), []⟩
def sx1_st_big_compare_0 : StSh := ⟨(sqs 41 []), []⟩
def hk_st_big_compare_0 (N : Nat) : List Atom -> K -> Bool := fun a_ κ => match a_ with
  | [.ints x_1, .ints y_1, .int i] => iterG N (stQ162 N x_1 y_1 (fun r0 => κ.ret (sx0_st_big_compare_0.build [.int r0])) (κ.ext 0 (sx1_st_big_compare_0.build []))) i
  | _ => false
def anQ98 (N : Nat) : Nat -> Option Ann := fun b_ => cond (b_ == 0) (some ⟨⟨[0, 1, 5], [], []⟩, [(0, ⟨[], [], []⟩)], some ⟨[4], [], []⟩, some (mkHooks [(sh_st_big_compare_0, hk_st_big_compare_0 N)])⟩) (none)
theorem eq_st_big_compare_0 (N : Nat) (κ : K) (x_1 y_1 : List Int) (i : Int) : iter N (fun s k => codeV ⟨Pg, ofList [], isref, N⟩ 0 (anQ98 N) (lp Pg 177 0).2 (lp Pg 177 0).1 s (roundK Pg 0 ((anQ98 N) (lp Pg 177 0).1) κ k)) (sh_st_big_compare_0.build [.ints x_1, .ints y_1, .int i]) = iterG N (stQ162 N x_1 y_1 (fun r0 => κ.ret (sx0_st_big_compare_0.build [.int r0])) (κ.ext 0 (sx1_st_big_compare_0.build []))) i :=
  iter_tr (fun v_ => sh_st_big_compare_0.build [.ints x_1, .ints y_1, .int v_]) (fun v_ K_ => by kernel_rfl) N i
theorem hk1_st_big_compare_0 (N : Nat) : HookFor ⟨Pg, ofList [], isref, N⟩ 0 (anQ98 N) (lp Pg 177 0) (sh_st_big_compare_0, hk_st_big_compare_0 N) := by
  intro a κ h
  simp only at h
  unfold hk_st_big_compare_0 at h
  split at h
  · exact (eq_st_big_compare_0 _ _ _ _ _).trans h
  · cases h
theorem ho_big_compare_0 (N : Nat) : HookOk ⟨Pg, ofList [], isref, N⟩ 0 (anQ98 N) (lp Pg 177 0) :=
  hooks_ok [(sh_st_big_compare_0, hk_st_big_compare_0 N)] (by kernel_rfl) ⟨hk1_st_big_compare_0 _, trivial⟩
theorem eqQ98 (N : Nat) (x y : List Int) (c_ : V -> List Blk -> Bool) : bodyZ ⟨Pg, ofList [], isref, N⟩ (anQ98 N) 177 (shFQ98.args [.ints x, .ints y]) [] c_ = GQ98 N x y (fun r0 => c_ (.int .i64 r0) []) := by kernel_rfl
theorem goodQ98 (N : Nat) : GoodF Pg 177 (FQ98 (GQ98 N)) := by
  refine good_fsZ (cx := ⟨Pg, ofList [], isref, N⟩) (ofList_nil _) shFQ98 (spQ98 (GQ98 N)) (anQ98 N) 1 0 (by kernel_rfl) (fun i_ hi_ => by
    match i_, hi_ with
    | 0, _ => exact ho_big_compare_0 _
    | (q + 1), h => omega) ?_
  intro a k h
  unfold spQ98 at h
  split at h
  · exact ⟨[], rfl, rfl, (eqQ98 _ _ _ _).trans h⟩
  · cases h


def sh_st_big_less_0 : StSh := ⟨(.roi .u64 :: (.roi .u64 :: (.any :: (.any :: (.any :: (.slw 0 :: (.int .u64 :: (sqs 5 (.int .i64 :: (.int .i64 :: (sqs 20 []))))))))))), [some (22, 1, .ints .u64)]⟩
def sx0_st_big_less_0 : StSh := ⟨(sqs 5 (.slw 0 :: (sqs 28 []))), [some (22, 1, .ints .u64)]⟩
def hk_st_big_less_0 (N : Nat) (SQ14 : TSQ14) (SQ81 : TSQ81) (SQ1 : TSQ1) : List Atom -> K -> Bool := fun a_ κ => match a_ with
  | [.ints x_1, .ints y_1, .int borrow, .int t12, .int t13, .ints z] => iterG N (st_big_less_0 N SQ14 SQ81 SQ1 x_1 y_1 t12 (fun r0 => κ.ext 0 (sx0_st_big_less_0.build [.ints r0]))) (borrow, t13, z)
  | _ => false
def anQ130 (N : Nat) (SQ14 : TSQ14) (SQ81 : TSQ81) (SQ1 : TSQ1) : Nat -> Option Ann := fun b_ => cond (b_ == 0) (some ⟨⟨[0, 1, 5, 6, 12, 13], [], []⟩, [(0, ⟨[5], [], []⟩)], some ⟨[4], [], []⟩, some (mkHooks [(sh_st_big_less_0, hk_st_big_less_0 N SQ14 SQ81 SQ1)])⟩) (none)
theorem eq_st_big_less_0 (N : Nat) (SQ14 : TSQ14) (SQ81 : TSQ81) (SQ1 : TSQ1) (κ : K) (x_1 y_1 : List Int) (borrow t12 t13 : Int) (z : List Int) : iter N (fun s k => codeV ⟨Pg, ofList [(170, (FQ14 SQ14)), (191, (FQ81 SQ81)), (167, (FQ1 SQ1))], isref, N⟩ 0 (anQ130 N SQ14 SQ81 SQ1) (lp Pg 178 0).2 (lp Pg 178 0).1 s (roundK Pg 0 ((anQ130 N SQ14 SQ81 SQ1) (lp Pg 178 0).1) κ k)) (sh_st_big_less_0.build [.ints x_1, .ints y_1, .int borrow, .int t12, .int t13, .ints z]) = iterG N (st_big_less_0 N SQ14 SQ81 SQ1 x_1 y_1 t12 (fun r0 => κ.ext 0 (sx0_st_big_less_0.build [.ints r0]))) (borrow, t13, z) :=
  iter_tr (fun (v_ : Int × Int × List Int) => sh_st_big_less_0.build [.ints x_1, .ints y_1, .int v_.1, .int t12, .int v_.2.1, .ints v_.2.2]) (fun v_ K_ => by obtain ⟨borrow, t13, z⟩ := v_; kernel_rfl) N (borrow, t13, z)
theorem hk1_st_big_less_0 (N : Nat) (SQ14 : TSQ14) (SQ81 : TSQ81) (SQ1 : TSQ1) : HookFor ⟨Pg, ofList [(170, (FQ14 SQ14)), (191, (FQ81 SQ81)), (167, (FQ1 SQ1))], isref, N⟩ 0 (anQ130 N SQ14 SQ81 SQ1) (lp Pg 178 0) (sh_st_big_less_0, hk_st_big_less_0 N SQ14 SQ81 SQ1) := by
  intro a κ h
  simp only at h
  unfold hk_st_big_less_0 at h
  split at h
  · exact (eq_st_big_less_0 _ _ _ _ _ _ _ _ _ _ _).trans h
  · cases h
theorem ho_big_less_0 (N : Nat) (SQ14 : TSQ14) (SQ81 : TSQ81) (SQ1 : TSQ1) : HookOk ⟨Pg, ofList [(170, (FQ14 SQ14)), (191, (FQ81 SQ81)), (167, (FQ1 SQ1))], isref, N⟩ 0 (anQ130 N SQ14 SQ81 SQ1) (lp Pg 178 0) :=
  hooks_ok [(sh_st_big_less_0, hk_st_big_less_0 N SQ14 SQ81 SQ1)] (by kernel_rfl) ⟨hk1_st_big_less_0 _ _ _ _, trivial⟩
theorem eqQ130 (N : Nat) (SQ14 : TSQ14) (SQ81 : TSQ81) (SQ1 : TSQ1) (x y : List Int) (c_ : V -> List Blk -> Bool) : bodyZ ⟨Pg, ofList [(170, (FQ14 SQ14)), (191, (FQ81 SQ81)), (167, (FQ1 SQ1))], isref, N⟩ (anQ130 N SQ14 SQ81 SQ1) 178 (shFQ130.args [.ints x, .ints y]) [] c_ = GQ130 N SQ14 SQ81 SQ1 x y (fun r0 => c_ (.roi .u64 r0) []) := by kernel_rfl
theorem goodQ130 (N : Nat) (SQ14 : TSQ14) (SQ81 : TSQ81) (SQ1 : TSQ1) (hQ14 : GoodF Pg 170 (FQ14 SQ14)) (hQ81 : GoodF Pg 191 (FQ81 SQ81)) (hQ1 : GoodF Pg 167 (FQ1 SQ1)) : GoodF Pg 178 (FQ130 (GQ130 N SQ14 SQ81 SQ1)) := by
  refine good_fsZ (cx := ⟨Pg, ofList [(170, (FQ14 SQ14)), (191, (FQ81 SQ81)), (167, (FQ1 SQ1))], isref, N⟩) (ofList_cons hQ14 (ofList_cons hQ81 (ofList_cons hQ1 (ofList_nil _)))) shFQ130 (spQ130 (GQ130 N SQ14 SQ81 SQ1)) (anQ130 N SQ14 SQ81 SQ1) 1 0 (by kernel_rfl) (fun i_ hi_ => by
    match i_, hi_ with
    | 0, _ => exact ho_big_less_0 _ _ _ _
    | (q + 1), h => omega) ?_
  intro a k h
  unfold spQ130 at h
  split at h
  · exact ⟨[], rfl, rfl, (eqQ130 _ _ _ _ _ _ _).trans h⟩
  · cases h

def anQ56 (N : Nat) (SQ126 : TSQ126) (SQ0 : TSQ0) (SQ98 : TSQ98) (SQ130 : TSQ130) : Nat -> Option Ann := fun b_ => none
theorem eqQ56 (N : Nat) (SQ126 : TSQ126) (SQ0 : TSQ0) (SQ98 : TSQ98) (SQ130 : TSQ130) (neg : Bool) (y : List Int) (b b_1 : Bool) (b_2 : List Int) (c_ : V -> List Blk -> Bool) : bodyZ ⟨Pg, ofList [(166, (FQ126 SQ126)), (139, (FQ0 SQ0)), (177, (FQ98 SQ98)), (178, (FQ130 SQ130))], isref, N⟩ (anQ56 N SQ126 SQ0 SQ98 SQ130) 156 (shFQ56.args [.bool neg, .ints y, .bool b, .bool b_1, .ints b_2]) [⟨126, 1, .cells [.bool b, .nil]⟩, ⟨126, 1, .cells [.bool b_1, .roi .u64 b_2]⟩] c_ = GQ56 N SQ126 SQ0 SQ98 SQ130 neg y b b_1 b_2 (fun r0 r1 => c_ (.ptr 0 0) [⟨126, 1, .cells [.bool r0, .roi .u64 r1]⟩, ⟨126, 1, .cells [.bool b_1, .roi .u64 b_2]⟩]) := by kernel_rfl
theorem goodQ56 (N : Nat) (SQ126 : TSQ126) (SQ0 : TSQ0) (SQ98 : TSQ98) (SQ130 : TSQ130) (hQ126 : GoodF Pg 166 (FQ126 SQ126)) (hQ0 : GoodF Pg 139 (FQ0 SQ0)) (hQ98 : GoodF Pg 177 (FQ98 SQ98)) (hQ130 : GoodF Pg 178 (FQ130 SQ130)) : GoodF Pg 156 (FQ56 (GQ56 N SQ126 SQ0 SQ98 SQ130)) := by
  refine good_fsZ (cx := ⟨Pg, ofList [(166, (FQ126 SQ126)), (139, (FQ0 SQ0)), (177, (FQ98 SQ98)), (178, (FQ130 SQ130))], isref, N⟩) (ofList_cons hQ126 (ofList_cons hQ0 (ofList_cons hQ98 (ofList_cons hQ130 (ofList_nil _))))) shFQ56 (spQ56 (GQ56 N SQ126 SQ0 SQ98 SQ130)) (anQ56 N SQ126 SQ0 SQ98 SQ130) 0 2 (by kernel_rfl) (fun i_ hi_ => by omega) ?_
  intro a k h
  unfold spQ56 at h
  split at h
  · exact ⟨[_, _], rfl, rfl, (eqQ56 _ _ _ _ _ _ _ _ _ _ _).trans h⟩
  · cases h

def anQ23 (N : Nat) (SQ56 : TSQ56) : Nat -> Option Ann := fun b_ => none
theorem eqQ23 (N : Nat) (SQ56 : TSQ56) (b b_1 : Bool) (b_2 : List Int) (b_3 : Bool) (b_4 : List Int) (c_ : V -> List Blk -> Bool) : bodyZ ⟨Pg, ofList [(156, (FQ56 SQ56))], isref, N⟩ (anQ23 N SQ56) 127 (shFQ23.args [.bool b, .bool b_1, .ints b_2, .bool b_3, .ints b_4]) [⟨126, 1, .cells [.bool b, .nil]⟩, ⟨126, 1, .cells [.bool b_1, .roi .u64 b_2]⟩, ⟨126, 1, .cells [.bool b_3, .roi .u64 b_4]⟩] c_ = GQ23 N SQ56 b b_1 b_2 b_3 b_4 (fun r0 r1 => c_ (.ptr 0 0) [⟨126, 1, .cells [.bool r0, .roi .u64 r1]⟩, ⟨126, 1, .cells [.bool b_1, .roi .u64 b_2]⟩, ⟨126, 1, .cells [.bool b_3, .roi .u64 b_4]⟩]) := by kernel_rfl
theorem goodQ23 (N : Nat) (SQ56 : TSQ56) (hQ56 : GoodF Pg 156 (FQ56 SQ56)) : GoodF Pg 127 (FQ23 (GQ23 N SQ56)) := by
  refine good_fsZ (cx := ⟨Pg, ofList [(156, (FQ56 SQ56))], isref, N⟩) (ofList_cons hQ56 (ofList_nil _)) shFQ23 (spQ23 (GQ23 N SQ56)) (anQ23 N SQ56) 0 3 (by kernel_rfl) (fun i_ hi_ => by omega) ?_
  intro a k h
  unfold spQ23 at h
  split at h
  · exact ⟨[_, _, _], rfl, rfl, (eqQ23 _ _ _ _ _ _ _ _).trans h⟩
  · cases h

def anQ15 (N : Nat) (SQ69 : TSQ69) (SQ4 : TSQ4) (SQ30 : TSQ30) (SQ23 : TSQ23) : Nat -> Option Ann := fun b_ => none
theorem eqQ15 (N : Nat) (SQ69 : TSQ69) (SQ4 : TSQ4) (SQ30 : TSQ30) (SQ23 : TSQ23) (x y : Int) (b b_1 : Bool) (b_2 : List Int) (c_ : V -> List Blk -> Bool) : bodyV ⟨Pg, ofList [(94, (orFs (FQ69 SQ69) (FQ4 SQ4) shFQ69)), (128, (FQ30 SQ30)), (127, (FQ23 SQ23))], isref, N⟩ (anQ15 N SQ69 SQ4 SQ30 SQ23) 85 (shFQ15.args [.int x, .int y, .bool b, .bool b_1, .ints b_2]) [⟨126, 1, .cells [.bool b, .nil]⟩, ⟨126, 1, .cells [.bool b_1, .roi .u64 b_2]⟩] c_ = GQ15 N SQ69 SQ4 SQ30 SQ23 x y b b_1 b_2 (fun r2 => c_ (.agg [.ptr 1 0, .int .i64 y]) [⟨126, 1, .cells [.bool b, .roi .u64 r2]⟩, ⟨126, 1, .cells [.bool b_1, .roi .u64 b_2]⟩]) (fun r2 => c_ (.agg [.ptr 0 0, .int .i64 x]) [⟨126, 1, .cells [.bool b, .roi .u64 r2]⟩, ⟨126, 1, .cells [.bool b_1, .roi .u64 b_2]⟩]) (fun r0 r2 r5 r6 => c_ (.agg [.ptr 2 0, .int .i64 r0]) [⟨126, 1, .cells [.bool b, .roi .u64 r2]⟩, ⟨126, 1, .cells [.bool b_1, .roi .u64 b_2]⟩, ⟨126, 1, .cells [.bool r5, .roi .u64 r6]⟩]) := by kernel_rfl
theorem goodQ15 (N : Nat) (SQ69 : TSQ69) (SQ4 : TSQ4) (SQ30 : TSQ30) (SQ23 : TSQ23) (hQ69 : GoodF Pg 94 (FQ69 SQ69)) (hQ4 : GoodF Pg 94 (FQ4 SQ4)) (hQ30 : GoodF Pg 128 (FQ30 SQ30)) (hQ23 : GoodF Pg 127 (FQ23 SQ23)) : GoodF Pg 85 (FQ15 (GQ15 N SQ69 SQ4 SQ30 SQ23)) := by
  refine good_fs (cx := ⟨Pg, ofList [(94, (orFs (FQ69 SQ69) (FQ4 SQ4) shFQ69)), (128, (FQ30 SQ30)), (127, (FQ23 SQ23))], isref, N⟩) (ofList_cons (good_or hQ69 hQ4) (ofList_cons hQ30 (ofList_cons hQ23 (ofList_nil _)))) shFQ15 (spQ15 (GQ15 N SQ69 SQ4 SQ30 SQ23)) (anQ15 N SQ69 SQ4 SQ30 SQ23) 0 2 (by kernel_rfl) (fun i_ hi_ => by omega) ?_
  intro a k h
  unfold spQ15 at h
  split at h
  · exact ⟨[_, _], rfl, rfl, (eqQ15 _ _ _ _ _ _ _ _ _ _ _).trans h⟩
  · cases h

def anQ5 (N : Nat) (SQ4 : TSQ4) (SQ30 : TSQ30) (SQ23 : TSQ23) : Nat -> Option Ann := fun b_ => none
theorem eqQ5 (N : Nat) (SQ4 : TSQ4) (SQ30 : TSQ30) (SQ23 : TSQ23) (x y : Int) (b : Bool) (b_1 : List Int) (b_2 : Bool) (b_3 : List Int) (c_ : V -> List Blk -> Bool) : bodyV ⟨Pg, ofList [(94, (FQ4 SQ4)), (128, (FQ30 SQ30)), (127, (FQ23 SQ23))], isref, N⟩ (anQ5 N SQ4 SQ30 SQ23) 85 (shFQ5.args [.int x, .int y, .bool b, .ints b_1, .bool b_2, .ints b_3]) [⟨126, 1, .cells [.bool b, .roi .u64 b_1]⟩, ⟨126, 1, .cells [.bool b_2, .roi .u64 b_3]⟩] c_ = GQ5 N SQ4 SQ30 SQ23 x y b b_1 b_2 b_3 (c_ (.agg [.ptr 1 0, .int .i64 y]) [⟨126, 1, .cells [.bool b, .roi .u64 b_1]⟩, ⟨126, 1, .cells [.bool b_2, .roi .u64 b_3]⟩]) (c_ (.agg [.ptr 0 0, .int .i64 x]) [⟨126, 1, .cells [.bool b, .roi .u64 b_1]⟩, ⟨126, 1, .cells [.bool b_2, .roi .u64 b_3]⟩]) (fun r0 r5 r6 => c_ (.agg [.ptr 2 0, .int .i64 r0]) [⟨126, 1, .cells [.bool b, .roi .u64 b_1]⟩, ⟨126, 1, .cells [.bool b_2, .roi .u64 b_3]⟩, ⟨126, 1, .cells [.bool r5, .roi .u64 r6]⟩]) := by kernel_rfl
theorem goodQ5 (N : Nat) (SQ4 : TSQ4) (SQ30 : TSQ30) (SQ23 : TSQ23) (hQ4 : GoodF Pg 94 (FQ4 SQ4)) (hQ30 : GoodF Pg 128 (FQ30 SQ30)) (hQ23 : GoodF Pg 127 (FQ23 SQ23)) : GoodF Pg 85 (FQ5 (GQ5 N SQ4 SQ30 SQ23)) := by
  refine good_fs (cx := ⟨Pg, ofList [(94, (FQ4 SQ4)), (128, (FQ30 SQ30)), (127, (FQ23 SQ23))], isref, N⟩) (ofList_cons hQ4 (ofList_cons hQ30 (ofList_cons hQ23 (ofList_nil _)))) shFQ5 (spQ5 (GQ5 N SQ4 SQ30 SQ23)) (anQ5 N SQ4 SQ30 SQ23) 0 2 (by kernel_rfl) (fun i_ hi_ => by omega) ?_
  intro a k h
  unfold spQ5 at h
  split at h
  · exact ⟨[_, _], rfl, rfl, (eqQ5 _ _ _ _ _ _ _ _ _ _ _).trans h⟩
  · cases h

def anQ32 (N : Nat) (SQ65 : TSQ65) (SQ0 : TSQ0) : Nat -> Option Ann := fun b_ => none
theorem eqQ32 (N : Nat) (SQ65 : TSQ65) (SQ0 : TSQ0) (b b_1 : Bool) (b_2 : List Int) (c_ : V -> List Blk -> Bool) : bodyZ ⟨Pg, ofList [(140, (FQ65 SQ65)), (139, (FQ0 SQ0))], isref, N⟩ (anQ32 N SQ65 SQ0) 160 (shFQ32.args [.bool b, .bool b_1, .ints b_2]) [⟨126, 1, .cells [.bool b, .nil]⟩, ⟨126, 1, .cells [.bool b_1, .roi .u64 b_2]⟩] c_ = GQ32 N SQ65 SQ0 b b_1 b_2 (fun r0 r1 => c_ (.ptr 0 0) [⟨126, 1, .cells [.bool r0, .roi .u64 r1]⟩, ⟨126, 1, .cells [.bool b_1, .roi .u64 b_2]⟩]) := by kernel_rfl
theorem goodQ32 (N : Nat) (SQ65 : TSQ65) (SQ0 : TSQ0) (hQ65 : GoodF Pg 140 (FQ65 SQ65)) (hQ0 : GoodF Pg 139 (FQ0 SQ0)) : GoodF Pg 160 (FQ32 (GQ32 N SQ65 SQ0)) := by
  refine good_fsZ (cx := ⟨Pg, ofList [(140, (FQ65 SQ65)), (139, (FQ0 SQ0))], isref, N⟩) (ofList_cons hQ65 (ofList_cons hQ0 (ofList_nil _))) shFQ32 (spQ32 (GQ32 N SQ65 SQ0)) (anQ32 N SQ65 SQ0) 0 2 (by kernel_rfl) (fun i_ hi_ => by omega) ?_
  intro a k h
  unfold spQ32 at h
  split at h
  · exact ⟨[_, _], rfl, rfl, (eqQ32 _ _ _ _ _ _ _).trans h⟩
  · cases h

def anQ50 (N : Nat) (SQ14 : TSQ14) : Nat -> Option Ann := fun b_ => none
theorem eqQ50 (N : Nat) (SQ14 : TSQ14) (i : Int) (b : Bool) (b_1 : List Int) (c_ : V -> List Blk -> Bool) : bodyZ ⟨Pg, ofList [(170, (FQ14 SQ14))], isref, N⟩ (anQ50 N SQ14) 161 (shFQ50.args [.int i, .bool b, .ints b_1]) [⟨126, 1, .cells [.bool b, .roi .u64 b_1]⟩] c_ = GQ50 N SQ14 i b b_1 (fun r0 => c_ (.int .u64 r0) [⟨126, 1, .cells [.bool b, .roi .u64 b_1]⟩]) := by kernel_rfl
theorem goodQ50 (N : Nat) (SQ14 : TSQ14) (hQ14 : GoodF Pg 170 (FQ14 SQ14)) : GoodF Pg 161 (FQ50 (GQ50 N SQ14)) := by
  refine good_fsZ (cx := ⟨Pg, ofList [(170, (FQ14 SQ14))], isref, N⟩) (ofList_cons hQ14 (ofList_nil _)) shFQ50 (spQ50 (GQ50 N SQ14)) (anQ50 N SQ14) 0 1 (by kernel_rfl) (fun i_ hi_ => by omega) ?_
  intro a k h
  unfold spQ50 at h
  split at h
  · exact ⟨[_], rfl, rfl, (eqQ50 _ _ _ _ _ _).trans h⟩
  · cases h

def sh_st_big_Int_TrailingZeroBits_p0r_0 : StSh := ⟨(sqs 8 (.roi .u64 :: (.int .i64 :: (.int .i64 :: (sqs 13 []))))), [some (126, 1, .cells [.bool, .roi .u64])]⟩
def sx0_st_big_Int_TrailingZeroBits_p0r_0 : StSh := ⟨(.any :: (.any :: (.int .u64 :: (sqs 21 [])))), [some (126, 1, .cells [.bool, .roi .u64])]⟩
def sx1_st_big_Int_TrailingZeroBits_p0r_0 : StSh := ⟨(sqs 24 []), [some (126, 1, .cells [.bool, .roi .u64])]⟩
def hk_st_big_Int_TrailingZeroBits_p0r_0 (N : Nat) (SQ6 : TSQ6) : List Atom -> K -> Bool := fun a_ κ => match a_ with
  | [.ints t8, .int t9, .int t10, .bool b0, .ints b0_1] => iterG N (stQ153 N SQ6 t8 t9 b0 b0_1 (fun r0 => κ.ret (sx0_st_big_Int_TrailingZeroBits_p0r_0.build [.int r0, .bool b0, .ints b0_1])) (κ.ext 0 (sx1_st_big_Int_TrailingZeroBits_p0r_0.build [.bool b0, .ints b0_1]))) t10
  | _ => false
def anQ8 (N : Nat) (SQ6 : TSQ6) : Nat -> Option Ann := fun b_ => cond (b_ == 0) (some ⟨⟨[8, 9, 10], [], []⟩, [(0, ⟨[], [], []⟩)], some ⟨[2], [], []⟩, some (mkHooks [(sh_st_big_Int_TrailingZeroBits_p0r_0, hk_st_big_Int_TrailingZeroBits_p0r_0 N SQ6)])⟩) (none)
theorem eq_st_big_Int_TrailingZeroBits_p0r_0 (N : Nat) (SQ6 : TSQ6) (κ : K) (t8 : List Int) (t9 t10 : Int) (b0 : Bool) (b0_1 : List Int) : iter N (fun s k => codeV ⟨Pg, ofList [(180, (FQ6 SQ6))], isref, N⟩ 1 (anQ8 N SQ6) (lp Pg 162 0).2 (lp Pg 162 0).1 s (roundK Pg 1 ((anQ8 N SQ6) (lp Pg 162 0).1) κ k)) (sh_st_big_Int_TrailingZeroBits_p0r_0.build [.ints t8, .int t9, .int t10, .bool b0, .ints b0_1]) = iterG N (stQ153 N SQ6 t8 t9 b0 b0_1 (fun r0 => κ.ret (sx0_st_big_Int_TrailingZeroBits_p0r_0.build [.int r0, .bool b0, .ints b0_1])) (κ.ext 0 (sx1_st_big_Int_TrailingZeroBits_p0r_0.build [.bool b0, .ints b0_1]))) t10 :=
  iter_tr (fun v_ => sh_st_big_Int_TrailingZeroBits_p0r_0.build [.ints t8, .int t9, .int v_, .bool b0, .ints b0_1]) (fun v_ K_ => by kernel_rfl) N t10
theorem hk1_st_big_Int_TrailingZeroBits_p0r_0 (N : Nat) (SQ6 : TSQ6) : HookFor ⟨Pg, ofList [(180, (FQ6 SQ6))], isref, N⟩ 1 (anQ8 N SQ6) (lp Pg 162 0) (sh_st_big_Int_TrailingZeroBits_p0r_0, hk_st_big_Int_TrailingZeroBits_p0r_0 N SQ6) := by
  intro a κ h
  simp only at h
  unfold hk_st_big_Int_TrailingZeroBits_p0r_0 at h
  split at h
  · exact (eq_st_big_Int_TrailingZeroBits_p0r_0 _ _ _ _ _ _ _ _).trans h
  · cases h
theorem ho_big_Int_TrailingZeroBits_p0r_0 (N : Nat) (SQ6 : TSQ6) : HookOk ⟨Pg, ofList [(180, (FQ6 SQ6))], isref, N⟩ 1 (anQ8 N SQ6) (lp Pg 162 0) :=
  hooks_ok [(sh_st_big_Int_TrailingZeroBits_p0r_0, hk_st_big_Int_TrailingZeroBits_p0r_0 N SQ6)] (by kernel_rfl) ⟨hk1_st_big_Int_TrailingZeroBits_p0r_0 _ _, trivial⟩
theorem eqQ8 (N : Nat) (SQ6 : TSQ6) (b : Bool) (b_1 : List Int) (c_ : V -> List Blk -> Bool) : bodyZ ⟨Pg, ofList [(180, (FQ6 SQ6))], isref, N⟩ (anQ8 N SQ6) 162 (shFQ8.args [.bool b, .ints b_1]) [⟨126, 1, .cells [.bool b, .roi .u64 b_1]⟩] c_ = GQ8 N SQ6 b b_1 (fun r0 => c_ (.int .u64 r0) [⟨126, 1, .cells [.bool b, .roi .u64 b_1]⟩]) := by kernel_rfl
theorem goodQ8 (N : Nat) (SQ6 : TSQ6) (hQ6 : GoodF Pg 180 (FQ6 SQ6)) : GoodF Pg 162 (FQ8 (GQ8 N SQ6)) := by
  refine good_fsZ (cx := ⟨Pg, ofList [(180, (FQ6 SQ6))], isref, N⟩) (ofList_cons hQ6 (ofList_nil _)) shFQ8 (spQ8 (GQ8 N SQ6)) (anQ8 N SQ6) 1 1 (by kernel_rfl) (fun i_ hi_ => by
    match i_, hi_ with
    | 0, _ => exact ho_big_Int_TrailingZeroBits_p0r_0 _ _
    | (q + 1), h => omega) ?_
  intro a k h
  unfold spQ8 at h
  split at h
  · exact ⟨[_], rfl, rfl, (eqQ8 _ _ _ _ _).trans h⟩
  · cases h

def sh_st_big_right_0 : StSh := ⟨(.roi .u64 :: (sqs 5 (.int .i64 :: (.int .u64 :: (.int .u64 :: (sqs 28 (.roi .u64 :: (.int .i64 :: (.int .i64 :: (sqs 42 [])))))))))), []⟩
def sx0_st_big_right_0 : StSh := ⟨(.roi .u64 :: (sqs 5 (.int .i64 :: (.int .u64 :: (.int .u64 :: (sqs 73 [])))))), []⟩
def hk_st_big_right_0 (N : Nat) (SQ14 : TSQ14) (SQ1 : TSQ1) : List Atom -> K -> Bool := fun a_ κ => match a_ with
  | [.ints x_1, .int words, .int rest, .int lost, .ints t37, .int t38, .int t39] => iterG N (st_big_right_0 N SQ14 SQ1 x_1 words rest t37 t38 (fun r3 => κ.ext 0 (sx0_st_big_right_0.build [.ints x_1, .int words, .int rest, .int r3]))) (lost, t39)
  | _ => false
def sh_st_big_right_2 : StSh := ⟨(.roi .u64 :: (sqs 5 (.int .i64 :: (.int .u64 :: (.int .u64 :: (.any :: (.any :: (.slw 0 :: (sqs 41 (.int .i64 :: (.int .i64 :: (sqs 27 [])))))))))))), [some (22, 1, .ints .u64)]⟩
def sx0_st_big_right_2 : StSh := ⟨(sqs 8 (.int .u64 :: (.any :: (.any :: (.slw 0 :: (sqs 70 [])))))), [some (22, 1, .ints .u64)]⟩
def hk_st_big_right_2 (N : Nat) (SQ14 : TSQ14) (SQ1 : TSQ1) : List Atom -> K -> Bool := fun a_ κ => match a_ with
  | [.ints x_2, .int words_1, .int rest_1, .int lost_2, .int t53, .int t54, .ints z] => iterG N (st_big_right_2 N SQ14 SQ1 x_2 words_1 rest_1 lost_2 t53 (fun r1 => κ.ext 2 (sx0_st_big_right_2.build [.int lost_2, .ints r1]))) (t54, z)
  | _ => false
def anQ116 (N : Nat) (SQ14 : TSQ14) (SQ1 : TSQ1) : Nat -> Option Ann := fun b_ => cond (b_ == 0) (some ⟨⟨[0, 6, 7, 8, 37, 38, 39], [], []⟩, [(0, ⟨[0, 6, 7, 8], [], []⟩)], some ⟨[4, 5], [], []⟩, some (mkHooks [(sh_st_big_right_0, hk_st_big_right_0 N SQ14 SQ1)])⟩) (cond (b_ == 2) (some ⟨⟨[0, 6, 7, 8, 11, 53, 54], [], []⟩, [(2, ⟨[8, 11], [], []⟩)], some ⟨[4, 5], [], []⟩, some (mkHooks [(sh_st_big_right_2, hk_st_big_right_2 N SQ14 SQ1)])⟩) (none))
theorem eq_st_big_right_0 (N : Nat) (SQ14 : TSQ14) (SQ1 : TSQ1) (κ : K) (x_1 : List Int) (words rest lost : Int) (t37 : List Int) (t38 t39 : Int) : iter N (fun s k => codeV ⟨Pg, ofList [(170, (FQ14 SQ14)), (167, (FQ1 SQ1))], isref, N⟩ 0 (anQ116 N SQ14 SQ1) (lp Pg 165 0).2 (lp Pg 165 0).1 s (roundK Pg 0 ((anQ116 N SQ14 SQ1) (lp Pg 165 0).1) κ k)) (sh_st_big_right_0.build [.ints x_1, .int words, .int rest, .int lost, .ints t37, .int t38, .int t39]) = iterG N (st_big_right_0 N SQ14 SQ1 x_1 words rest t37 t38 (fun r3 => κ.ext 0 (sx0_st_big_right_0.build [.ints x_1, .int words, .int rest, .int r3]))) (lost, t39) :=
  iter_tr (fun (v_ : Int × Int) => sh_st_big_right_0.build [.ints x_1, .int words, .int rest, .int v_.1, .ints t37, .int t38, .int v_.2]) (fun v_ K_ => by obtain ⟨lost, t39⟩ := v_; kernel_rfl) N (lost, t39)
theorem hk1_st_big_right_0 (N : Nat) (SQ14 : TSQ14) (SQ1 : TSQ1) : HookFor ⟨Pg, ofList [(170, (FQ14 SQ14)), (167, (FQ1 SQ1))], isref, N⟩ 0 (anQ116 N SQ14 SQ1) (lp Pg 165 0) (sh_st_big_right_0, hk_st_big_right_0 N SQ14 SQ1) := by
  intro a κ h
  simp only at h
  unfold hk_st_big_right_0 at h
  split at h
  · exact (eq_st_big_right_0 _ _ _ _ _ _ _ _ _ _ _).trans h
  · cases h
theorem eq_st_big_right_2 (N : Nat) (SQ14 : TSQ14) (SQ1 : TSQ1) (κ : K) (x_2 : List Int) (words_1 rest_1 lost_2 t53 t54 : Int) (z : List Int) : iter N (fun s k => codeV ⟨Pg, ofList [(170, (FQ14 SQ14)), (167, (FQ1 SQ1))], isref, N⟩ 0 (anQ116 N SQ14 SQ1) (lp Pg 165 1).2 (lp Pg 165 1).1 s (roundK Pg 0 ((anQ116 N SQ14 SQ1) (lp Pg 165 1).1) κ k)) (sh_st_big_right_2.build [.ints x_2, .int words_1, .int rest_1, .int lost_2, .int t53, .int t54, .ints z]) = iterG N (st_big_right_2 N SQ14 SQ1 x_2 words_1 rest_1 lost_2 t53 (fun r1 => κ.ext 2 (sx0_st_big_right_2.build [.int lost_2, .ints r1]))) (t54, z) :=
  iter_tr (fun (v_ : Int × List Int) => sh_st_big_right_2.build [.ints x_2, .int words_1, .int rest_1, .int lost_2, .int t53, .int v_.1, .ints v_.2]) (fun v_ K_ => by obtain ⟨t54, z⟩ := v_; kernel_rfl) N (t54, z)
theorem hk1_st_big_right_2 (N : Nat) (SQ14 : TSQ14) (SQ1 : TSQ1) : HookFor ⟨Pg, ofList [(170, (FQ14 SQ14)), (167, (FQ1 SQ1))], isref, N⟩ 0 (anQ116 N SQ14 SQ1) (lp Pg 165 1) (sh_st_big_right_2, hk_st_big_right_2 N SQ14 SQ1) := by
  intro a κ h
  simp only at h
  unfold hk_st_big_right_2 at h
  split at h
  · exact (eq_st_big_right_2 _ _ _ _ _ _ _ _ _ _ _).trans h
  · cases h
theorem ho_big_right_0 (N : Nat) (SQ14 : TSQ14) (SQ1 : TSQ1) : HookOk ⟨Pg, ofList [(170, (FQ14 SQ14)), (167, (FQ1 SQ1))], isref, N⟩ 0 (anQ116 N SQ14 SQ1) (lp Pg 165 0) :=
  hooks_ok [(sh_st_big_right_0, hk_st_big_right_0 N SQ14 SQ1)] (by kernel_rfl) ⟨hk1_st_big_right_0 _ _ _, trivial⟩
theorem ho_big_right_2 (N : Nat) (SQ14 : TSQ14) (SQ1 : TSQ1) : HookOk ⟨Pg, ofList [(170, (FQ14 SQ14)), (167, (FQ1 SQ1))], isref, N⟩ 0 (anQ116 N SQ14 SQ1) (lp Pg 165 1) :=
  hooks_ok [(sh_st_big_right_2, hk_st_big_right_2 N SQ14 SQ1)] (by kernel_rfl) ⟨hk1_st_big_right_2 _ _ _, trivial⟩
theorem eqQ116 (N : Nat) (SQ14 : TSQ14) (SQ1 : TSQ1) (x : List Int) (n : Int) (c_ : V -> List Blk -> Bool) : bodyZ ⟨Pg, ofList [(170, (FQ14 SQ14)), (167, (FQ1 SQ1))], isref, N⟩ (anQ116 N SQ14 SQ1) 165 (shFQ116.args [.ints x, .int n]) [] c_ = GQ116 N SQ14 SQ1 x n (fun r0 r1 => c_ (.tup [.roi .u64 r0, .bool r1]) []) := by kernel_rfl
theorem goodQ116 (N : Nat) (SQ14 : TSQ14) (SQ1 : TSQ1) (hQ14 : GoodF Pg 170 (FQ14 SQ14)) (hQ1 : GoodF Pg 167 (FQ1 SQ1)) : GoodF Pg 165 (FQ116 (GQ116 N SQ14 SQ1)) := by
  refine good_fsZ (cx := ⟨Pg, ofList [(170, (FQ14 SQ14)), (167, (FQ1 SQ1))], isref, N⟩) (ofList_cons hQ14 (ofList_cons hQ1 (ofList_nil _))) shFQ116 (spQ116 (GQ116 N SQ14 SQ1)) (anQ116 N SQ14 SQ1) 2 0 (by kernel_rfl) (fun i_ hi_ => by
    match i_, hi_ with
    | 0, _ => exact ho_big_right_0 _ _ _
    | 1, _ => exact ho_big_right_2 _ _ _
    | (q + 2), h => omega) ?_
  intro a k h
  unfold spQ116 at h
  split at h
  · exact ⟨[], rfl, rfl, (eqQ116 _ _ _ _ _ _).trans h⟩
  · cases h

def anQ11 (N : Nat) (SQ116 : TSQ116) (SQ126 : TSQ126) (SQ28 : TSQ28) : Nat -> Option Ann := fun b_ => none
theorem eqQ11 (N : Nat) (SQ116 : TSQ116) (SQ126 : TSQ126) (SQ28 : TSQ28) (n : Int) (b : Bool) (b_1 : List Int) (c_ : V -> List Blk -> Bool) : bodyZ ⟨Pg, ofList [(165, (FQ116 SQ116)), (166, (FQ126 SQ126)), (139, (FQ28 SQ28))], isref, N⟩ (anQ11 N SQ116 SQ126 SQ28) 136 (shFQ11.args [.int n, .bool b, .ints b_1]) [⟨126, 1, .cells [.bool b, .roi .u64 b_1]⟩] c_ = GQ11 N SQ116 SQ126 SQ28 n b b_1 (fun r0 r1 => c_ (.ptr 0 0) [⟨126, 1, .cells [.bool r0, .roi .u64 r1]⟩]) := by kernel_rfl
theorem goodQ11 (N : Nat) (SQ116 : TSQ116) (SQ126 : TSQ126) (SQ28 : TSQ28) (hQ116 : GoodF Pg 165 (FQ116 SQ116)) (hQ126 : GoodF Pg 166 (FQ126 SQ126)) (hQ28 : GoodF Pg 139 (FQ28 SQ28)) : GoodF Pg 136 (FQ11 (GQ11 N SQ116 SQ126 SQ28)) := by
  refine good_fsZ (cx := ⟨Pg, ofList [(165, (FQ116 SQ116)), (166, (FQ126 SQ126)), (139, (FQ28 SQ28))], isref, N⟩) (ofList_cons hQ116 (ofList_cons hQ126 (ofList_cons hQ28 (ofList_nil _)))) shFQ11 (spQ11 (GQ11 N SQ116 SQ126 SQ28)) (anQ11 N SQ116 SQ126 SQ28) 0 1 (by kernel_rfl) (fun i_ hi_ => by omega) ?_
  intro a k h
  unfold spQ11 at h
  split at h
  · exact ⟨[_], rfl, rfl, (eqQ11 _ _ _ _ _ _ _ _).trans h⟩
  · cases h

def sh_st_v_dyad_exact_halve_p0r_0 : StSh := ⟨(.any :: (.any :: (.ptr 1 0 :: (.ptr 2 0 :: (.int .i64 :: (sqs 28 [])))))), [some (126, 1, .cells [.bool, .roi .u64]), some (128, 1, .cells [.val, .int .i64]), some (126, 1, .cells [.bool, .roi .u64])]⟩
def sx0_st_v_dyad_exact_halve_p0r_0 : StSh := ⟨(.any :: (.any :: (.ptr 1 0 :: (.ptr 2 0 :: (.int .i64 :: (sqs 28 [])))))), [some (126, 1, .cells [.bool, .roi .u64]), some (128, 1, .cells [.val, .int .i64]), some (126, 1, .cells [.bool, .roi .u64])]⟩
def hk_st_v_dyad_exact_halve_p0r_0 (N : Nat) (SQ32 : TSQ32) (SQ4 : TSQ4) (SQ50 : TSQ50) (SQ8 : TSQ8) (SQ11 : TSQ11) : List Atom -> K -> Bool := fun a_ κ => match a_ with
  | [.int e, .bool b0, .ints b0_1, .val t2, .int t2_1, .bool n, .ints n_1] => iterG N (stQ151 N SQ32 SQ4 SQ50 SQ8 SQ11 b0 b0_1 t2 t2_1 (fun r0 r5 r6 => κ.ext 0 (sx0_st_v_dyad_exact_halve_p0r_0.build [.int r0, .bool b0, .ints b0_1, .val t2, .int t2_1, .bool r5, .ints r6]))) (e, n, n_1)
  | _ => false
def anQ17 (N : Nat) (SQ32 : TSQ32) (SQ4 : TSQ4) (SQ50 : TSQ50) (SQ8 : TSQ8) (SQ11 : TSQ11) : Nat -> Option Ann := fun b_ => cond (b_ == 0) (some ⟨⟨[2, 3, 4], [], []⟩, [(0, ⟨[2, 3, 4], [], []⟩)], some ⟨[2], [], []⟩, some (mkHooks [(sh_st_v_dyad_exact_halve_p0r_0, hk_st_v_dyad_exact_halve_p0r_0 N SQ32 SQ4 SQ50 SQ8 SQ11)])⟩) (none)
theorem eq_st_v_dyad_exact_halve_p0r_0 (N : Nat) (SQ32 : TSQ32) (SQ4 : TSQ4) (SQ50 : TSQ50) (SQ8 : TSQ8) (SQ11 : TSQ11) (κ : K) (e : Int) (b0 : Bool) (b0_1 : List Int) (t2 : Value) (t2_1 : Int) (n : Bool) (n_1 : List Int) : iter N (fun s k => codeV ⟨Pg, ofList [(160, (FQ32 SQ32)), (94, (FQ4 SQ4)), (161, (FQ50 SQ50)), (162, (FQ8 SQ8)), (136, (FQ11 SQ11))], isref, N⟩ 1 (anQ17 N SQ32 SQ4 SQ50 SQ8 SQ11) (lp Pg 132 0).2 (lp Pg 132 0).1 s (roundK Pg 1 ((anQ17 N SQ32 SQ4 SQ50 SQ8 SQ11) (lp Pg 132 0).1) κ k)) (sh_st_v_dyad_exact_halve_p0r_0.build [.int e, .bool b0, .ints b0_1, .val t2, .int t2_1, .bool n, .ints n_1]) = iterG N (stQ151 N SQ32 SQ4 SQ50 SQ8 SQ11 b0 b0_1 t2 t2_1 (fun r0 r5 r6 => κ.ext 0 (sx0_st_v_dyad_exact_halve_p0r_0.build [.int r0, .bool b0, .ints b0_1, .val t2, .int t2_1, .bool r5, .ints r6]))) (e, n, n_1) :=
  iter_tr (fun (v_ : Int × Bool × List Int) => sh_st_v_dyad_exact_halve_p0r_0.build [.int v_.1, .bool b0, .ints b0_1, .val t2, .int t2_1, .bool v_.2.1, .ints v_.2.2]) (fun v_ K_ => by obtain ⟨e, n, n_1⟩ := v_; kernel_rfl) N (e, n, n_1)
theorem hk1_st_v_dyad_exact_halve_p0r_0 (N : Nat) (SQ32 : TSQ32) (SQ4 : TSQ4) (SQ50 : TSQ50) (SQ8 : TSQ8) (SQ11 : TSQ11) : HookFor ⟨Pg, ofList [(160, (FQ32 SQ32)), (94, (FQ4 SQ4)), (161, (FQ50 SQ50)), (162, (FQ8 SQ8)), (136, (FQ11 SQ11))], isref, N⟩ 1 (anQ17 N SQ32 SQ4 SQ50 SQ8 SQ11) (lp Pg 132 0) (sh_st_v_dyad_exact_halve_p0r_0, hk_st_v_dyad_exact_halve_p0r_0 N SQ32 SQ4 SQ50 SQ8 SQ11) := by
  intro a κ h
  simp only at h
  unfold hk_st_v_dyad_exact_halve_p0r_0 at h
  split at h
  · exact (eq_st_v_dyad_exact_halve_p0r_0 _ _ _ _ _ _ _ _ _ _ _ _ _ _).trans h
  · cases h
theorem ho_v_dyad_exact_halve_p0r_0 (N : Nat) (SQ32 : TSQ32) (SQ4 : TSQ4) (SQ50 : TSQ50) (SQ8 : TSQ8) (SQ11 : TSQ11) : HookOk ⟨Pg, ofList [(160, (FQ32 SQ32)), (94, (FQ4 SQ4)), (161, (FQ50 SQ50)), (162, (FQ8 SQ8)), (136, (FQ11 SQ11))], isref, N⟩ 1 (anQ17 N SQ32 SQ4 SQ50 SQ8 SQ11) (lp Pg 132 0) :=
  hooks_ok [(sh_st_v_dyad_exact_halve_p0r_0, hk_st_v_dyad_exact_halve_p0r_0 N SQ32 SQ4 SQ50 SQ8 SQ11)] (by kernel_rfl) ⟨hk1_st_v_dyad_exact_halve_p0r_0 _ _ _ _ _ _, trivial⟩
theorem eqQ17 (N : Nat) (SQ32 : TSQ32) (SQ4 : TSQ4) (SQ50 : TSQ50) (SQ8 : TSQ8) (SQ11 : TSQ11) (x : Int) (b : Bool) (b_1 : List Int) (c_ : V -> List Blk -> Bool) : bodyV ⟨Pg, ofList [(160, (FQ32 SQ32)), (94, (FQ4 SQ4)), (161, (FQ50 SQ50)), (162, (FQ8 SQ8)), (136, (FQ11 SQ11))], isref, N⟩ (anQ17 N SQ32 SQ4 SQ50 SQ8 SQ11) 132 (shFQ17.args [.int x, .bool b, .ints b_1]) [⟨126, 1, .cells [.bool b, .roi .u64 b_1]⟩] c_ = GQ17 N SQ32 SQ4 SQ50 SQ8 SQ11 x b b_1 (fun r0 r3 r4 => c_ (.agg [.ptr 1 0, .int .i64 r0]) [⟨126, 1, .cells [.bool b, .roi .u64 b_1]⟩, ⟨126, 1, .cells [.bool r3, .roi .u64 r4]⟩]) := by kernel_rfl
theorem goodQ17 (N : Nat) (SQ32 : TSQ32) (SQ4 : TSQ4) (SQ50 : TSQ50) (SQ8 : TSQ8) (SQ11 : TSQ11) (hQ32 : GoodF Pg 160 (FQ32 SQ32)) (hQ4 : GoodF Pg 94 (FQ4 SQ4)) (hQ50 : GoodF Pg 161 (FQ50 SQ50)) (hQ8 : GoodF Pg 162 (FQ8 SQ8)) (hQ11 : GoodF Pg 136 (FQ11 SQ11)) : GoodF Pg 132 (FQ17 (GQ17 N SQ32 SQ4 SQ50 SQ8 SQ11)) := by
  refine good_fs (cx := ⟨Pg, ofList [(160, (FQ32 SQ32)), (94, (FQ4 SQ4)), (161, (FQ50 SQ50)), (162, (FQ8 SQ8)), (136, (FQ11 SQ11))], isref, N⟩) (ofList_cons hQ32 (ofList_cons hQ4 (ofList_cons hQ50 (ofList_cons hQ8 (ofList_cons hQ11 (ofList_nil _)))))) shFQ17 (spQ17 (GQ17 N SQ32 SQ4 SQ50 SQ8 SQ11)) (anQ17 N SQ32 SQ4 SQ50 SQ8 SQ11) 1 1 (by kernel_rfl) (fun i_ hi_ => by
    match i_, hi_ with
    | 0, _ => exact ho_v_dyad_exact_halve_p0r_0 _ _ _ _ _ _
    | (q + 1), h => omega) ?_
  intro a k h
  unfold spQ17 at h
  split at h
  · exact ⟨[_], rfl, rfl, (eqQ17 _ _ _ _ _ _ _ _ _ _).trans h⟩
  · cases h

def anQ80 (N : Nat) : Nat -> Option Ann := fun b_ => none
def lsQ154 (d_ : List V) (u_ : List (Option Blk)) (x x_2 n_1 : Int) : St := ⟨(.int .u64 x_2 :: ((dq d_ 0) :: (.int .i64 n_1 :: (dqs d_ 1 22 [])))), []⟩
def lsQ152 (d_ : List V) (u_ : List (Option Blk)) (x x_1 n : Int) : St := ⟨(.int .u64 x_1 :: ((dq d_ 0) :: (.int .i64 n :: (dqs d_ 1 22 [])))), []⟩
theorem jnQ154 (N : Nat) (d_ : List V) (u_ : List (Option Blk)) (x x_2 n_1 : Int) (c_ : V -> List Blk -> Bool) : codesV ⟨Pg, ofList [], isref, N⟩ 0 (anQ80 N) ((cds Pg 182).drop 5) 0 (lsQ154 d_ u_ x x_2 n_1) (finV Pg 182 0 c_) = JQ154 N x x_2 n_1 (fun r0 => c_ (.int .i64 r0) []) := by kernel_rfl
theorem hdQ152 (N : Nat) (d_ : List V) (u_ : List (Option Blk)) (x x_1 n : Int) (c_ : V -> List Blk -> Bool) (κn_ : St -> Bool) : codesV ⟨Pg, ofList [], isref, N⟩ 0 (anQ80 N) (sg Pg 182 3 2) 0 (lsQ152 d_ u_ x x_1 n) { (finV Pg 182 0 c_) with nrm := κn_ } = (cond (decide (x_1 >= 65536)) ((fits .i64 (n + 16)) && (κn_ (lsQ154 (dqs d_ 0 5 (.int .u64 x_1 :: (.bool true :: (.int .u64 x_1 :: (.int .u64 (Int.fdiv x_1 (2 ^ 16)) :: (.int .i64 n :: (.int .i64 (n + 16) :: (dqs d_ 11 12 [])))))))) [] x (Int.fdiv x_1 (2 ^ 16)) (n + 16)))) (κn_ (lsQ154 (dqs d_ 0 5 (.int .u64 x_1 :: (.bool false :: (dqs d_ 7 16 [])))) [] x x_1 n))) := by kernel_rfl
theorem jnQ152 (N : Nat) (d_ : List V) (u_ : List (Option Blk)) (x x_1 n : Int) (c_ : V -> List Blk -> Bool) : codesV ⟨Pg, ofList [], isref, N⟩ 0 (anQ80 N) ((cds Pg 182).drop 3) 0 (lsQ152 d_ u_ x x_1 n) (finV Pg 182 0 c_) = JQ152 N x x_1 n (fun r0 => c_ (.int .i64 r0) []) := by
  rw [codesV_cut 3 2 5 rfl]
  refine (hdQ152 N d_ u_ x x_1 n c_ _).trans ?_
  simp only [jnQ154]
  kernel_rfl
theorem hd_m_bits_Len64_w (N : Nat) (x : Int) (c_ : V -> List Blk -> Bool) (κn_ : St -> Bool) : codesV ⟨Pg, ofList [], isref, N⟩ 0 (anQ80 N) (sg Pg 182 0 3) 0 (st0 Pg 182 (shFQ80.args [.int x]) []) { (finV Pg 182 0 c_) with nrm := κn_ } = (cond (decide (x >= 4294967296)) (κn_ (lsQ152 [.any, .int .u64 x, .bool true, .int .u64 x, .int .u64 (Int.fdiv x (2 ^ 32)), .any, .any, .any, .any, .any, .any, .any, .any, .any, .any, .any, .any, .any, .any, .any, .any, .any, .any] [] x (Int.fdiv x (2 ^ 32)) 32)) (κn_ (lsQ152 [.any, .int .u64 x, .bool false, .any, .any, .any, .any, .any, .any, .any, .any, .any, .any, .any, .any, .any, .any, .any, .any, .any, .any, .any, .any] [] x x 0))) := by kernel_rfl
theorem jn_m_bits_Len64_w (N : Nat) (x : Int) (c_ : V -> List Blk -> Bool) : codesV ⟨Pg, ofList [], isref, N⟩ 0 (anQ80 N) ((cds Pg 182).drop 0) 0 (st0 Pg 182 (shFQ80.args [.int x]) []) (finV Pg 182 0 c_) = GQ80 N x (fun r0 => c_ (.int .i64 r0) []) := by
  rw [codesV_cut 0 3 3 rfl]
  refine (hd_m_bits_Len64_w N x c_ _).trans ?_
  simp only [jnQ152]
  kernel_rfl
theorem eqQ80 (N : Nat) (x : Int) (c_ : V -> List Blk -> Bool) : bodyV ⟨Pg, ofList [], isref, N⟩ (anQ80 N) 182 (shFQ80.args [.int x]) [] c_ = GQ80 N x (fun r0 => c_ (.int .i64 r0) []) :=
  (bodyV_codes (by kernel_rfl)).trans (jn_m_bits_Len64_w N x c_)
theorem goodQ80 (N : Nat) : GoodF Pg 182 (FQ80 (GQ80 N)) := by
  refine good_fs (cx := ⟨Pg, ofList [], isref, N⟩) (ofList_nil _) shFQ80 (spQ80 (GQ80 N)) (anQ80 N) 0 0 (by kernel_rfl) (fun i_ hi_ => by omega) ?_
  intro a k h
  unfold spQ80 at h
  split at h
  · exact ⟨[], rfl, rfl, (eqQ80 _ _ _).trans h⟩
  · cases h

def anQ117 (N : Nat) (SQ80 : TSQ80) : Nat -> Option Ann := fun b_ => none
theorem eqQ117 (N : Nat) (SQ80 : TSQ80) (x : List Int) (c_ : V -> List Blk -> Bool) : bodyZ ⟨Pg, ofList [(182, (FQ80 SQ80))], isref, N⟩ (anQ117 N SQ80) 163 (shFQ117.args [.ints x]) [] c_ = GQ117 N SQ80 x (fun r0 => c_ (.int .i64 r0) []) := by kernel_rfl
theorem goodQ117 (N : Nat) (SQ80 : TSQ80) (hQ80 : GoodF Pg 182 (FQ80 SQ80)) : GoodF Pg 163 (FQ117 (GQ117 N SQ80)) := by
  refine good_fsZ (cx := ⟨Pg, ofList [(182, (FQ80 SQ80))], isref, N⟩) (ofList_cons hQ80 (ofList_nil _)) shFQ117 (spQ117 (GQ117 N SQ80)) (anQ117 N SQ80) 0 0 (by kernel_rfl) (fun i_ hi_ => by omega) ?_
  intro a k h
  unfold spQ117 at h
  split at h
  · exact ⟨[], rfl, rfl, (eqQ117 _ _ _ _).trans h⟩
  · cases h

def anQ34 (N : Nat) (SQ117 : TSQ117) : Nat -> Option Ann := fun b_ => none
theorem eqQ34 (N : Nat) (SQ117 : TSQ117) (b : Bool) (b_1 : List Int) (c_ : V -> List Blk -> Bool) : bodyZ ⟨Pg, ofList [(163, (FQ117 SQ117))], isref, N⟩ (anQ34 N SQ117) 133 (shFQ34.args [.bool b, .ints b_1]) [⟨126, 1, .cells [.bool b, .roi .u64 b_1]⟩] c_ = GQ34 N SQ117 b b_1 (fun r0 => c_ (.int .i64 r0) [⟨126, 1, .cells [.bool b, .roi .u64 b_1]⟩]) := by kernel_rfl
theorem goodQ34 (N : Nat) (SQ117 : TSQ117) (hQ117 : GoodF Pg 163 (FQ117 SQ117)) : GoodF Pg 133 (FQ34 (GQ34 N SQ117)) := by
  refine good_fsZ (cx := ⟨Pg, ofList [(163, (FQ117 SQ117))], isref, N⟩) (ofList_cons hQ117 (ofList_nil _)) shFQ34 (spQ34 (GQ34 N SQ117)) (anQ34 N SQ117) 0 1 (by kernel_rfl) (fun i_ hi_ => by omega) ?_
  intro a k h
  unfold spQ34 at h
  split at h
  · exact ⟨[_], rfl, rfl, (eqQ34 _ _ _ _ _).trans h⟩
  · cases h

def anQ54 (N : Nat) (SQ112 : TSQ112) (SQ0 : TSQ0) : Nat -> Option Ann := fun b_ => none
theorem eqQ54 (N : Nat) (SQ112 : TSQ112) (SQ0 : TSQ0) (n : Int) (b : Bool) (c_ : V -> List Blk -> Bool) : bodyZ ⟨Pg, ofList [(158, (FQ112 SQ112)), (139, (FQ0 SQ0))], isref, N⟩ (anQ54 N SQ112 SQ0) 164 (shFQ54.args [.int n, .bool b]) [⟨126, 1, .cells [.bool b, .nil]⟩] c_ = GQ54 N SQ112 SQ0 n b (fun r0 r1 => c_ (.ptr 0 0) [⟨126, 1, .cells [.bool r0, .roi .u64 r1]⟩]) := by kernel_rfl
theorem goodQ54 (N : Nat) (SQ112 : TSQ112) (SQ0 : TSQ0) (hQ112 : GoodF Pg 158 (FQ112 SQ112)) (hQ0 : GoodF Pg 139 (FQ0 SQ0)) : GoodF Pg 164 (FQ54 (GQ54 N SQ112 SQ0)) := by
  refine good_fsZ (cx := ⟨Pg, ofList [(158, (FQ112 SQ112)), (139, (FQ0 SQ0))], isref, N⟩) (ofList_cons hQ112 (ofList_cons hQ0 (ofList_nil _))) shFQ54 (spQ54 (GQ54 N SQ112 SQ0)) (anQ54 N SQ112 SQ0) 0 1 (by kernel_rfl) (fun i_ hi_ => by omega) ?_
  intro a k h
  unfold spQ54 at h
  split at h
  · exact ⟨[_], rfl, rfl, (eqQ54 _ _ _ _ _ _).trans h⟩
  · cases h

def anQ55 (N : Nat) (SQ54 : TSQ54) : Nat -> Option Ann := fun b_ => none
theorem eqQ55 (N : Nat) (SQ54 : TSQ54) (n : Int) (c_ : V -> List Blk -> Bool) : bodyZ ⟨Pg, ofList [(164, (FQ54 SQ54))], isref, N⟩ (anQ55 N SQ54) 134 (shFQ55.args [.int n]) [] c_ = GQ55 N SQ54 n (fun r0 r1 => c_ (.ptr 0 0) [⟨126, 1, .cells [.bool r0, .roi .u64 r1]⟩]) := by kernel_rfl
theorem goodQ55 (N : Nat) (SQ54 : TSQ54) (hQ54 : GoodF Pg 164 (FQ54 SQ54)) : GoodF Pg 134 (FQ55 (GQ55 N SQ54)) := by
  refine good_fsZ (cx := ⟨Pg, ofList [(164, (FQ54 SQ54))], isref, N⟩) (ofList_cons hQ54 (ofList_nil _)) shFQ55 (spQ55 (GQ55 N SQ54)) (anQ55 N SQ54) 0 0 (by kernel_rfl) (fun i_ hi_ => by omega) ?_
  intro a k h
  unfold spQ55 at h
  split at h
  · exact ⟨[], rfl, rfl, (eqQ55 _ _ _ _).trans h⟩
  · cases h

def anQ33 (N : Nat) (SQ65 : TSQ65) (SQ0 : TSQ0) : Nat -> Option Ann := fun b_ => none
theorem eqQ33 (N : Nat) (SQ65 : TSQ65) (SQ0 : TSQ0) (b b_1 : Bool) (b_2 : List Int) (c_ : V -> List Blk -> Bool) : bodyZ ⟨Pg, ofList [(140, (FQ65 SQ65)), (139, (FQ0 SQ0))], isref, N⟩ (anQ33 N SQ65 SQ0) 135 (shFQ33.args [.bool b, .bool b_1, .ints b_2]) [⟨126, 1, .cells [.bool b, .nil]⟩, ⟨126, 1, .cells [.bool b_1, .roi .u64 b_2]⟩] c_ = GQ33 N SQ65 SQ0 b b_1 b_2 (fun r0 r1 => c_ (.ptr 0 0) [⟨126, 1, .cells [.bool r0, .roi .u64 r1]⟩, ⟨126, 1, .cells [.bool b_1, .roi .u64 b_2]⟩]) := by kernel_rfl
theorem goodQ33 (N : Nat) (SQ65 : TSQ65) (SQ0 : TSQ0) (hQ65 : GoodF Pg 140 (FQ65 SQ65)) (hQ0 : GoodF Pg 139 (FQ0 SQ0)) : GoodF Pg 135 (FQ33 (GQ33 N SQ65 SQ0)) := by
  refine good_fsZ (cx := ⟨Pg, ofList [(140, (FQ65 SQ65)), (139, (FQ0 SQ0))], isref, N⟩) (ofList_cons hQ65 (ofList_cons hQ0 (ofList_nil _))) shFQ33 (spQ33 (GQ33 N SQ65 SQ0)) (anQ33 N SQ65 SQ0) 0 2 (by kernel_rfl) (fun i_ hi_ => by omega) ?_
  intro a k h
  unfold spQ33 at h
  split at h
  · exact ⟨[_, _], rfl, rfl, (eqQ33 _ _ _ _ _ _ _).trans h⟩
  · cases h

def anQ39 (N : Nat) : Nat -> Option Ann := fun b_ => none
theorem eqQ39 (N : Nat) (neg : Bool) (abs_0 abs_1 : Nat) (b : Bool) (b_1 : List Int) (c_ : V -> List Blk -> Bool) : bodyZ ⟨Pg, ofList [], isref, N⟩ (anQ39 N) 139 (shFQ39.args [.bool neg, .nat abs_0, .nat abs_1, .bool b, .ints b_1]) [⟨126, 1, .cells [.bool b, .nil]⟩, ⟨22, 1, .ints .u64 b_1⟩] c_ = GQ39 N neg abs_0 abs_1 b b_1 (fun r0 => c_ (.ptr 0 0) [⟨126, 1, .cells [.bool r0, .sl 1 abs_0 abs_1]⟩, ⟨22, 1, .ints .u64 b_1⟩]) := by kernel_rfl
theorem goodQ39 (N : Nat) : GoodF Pg 139 (FQ39 (GQ39 N)) := by
  refine good_fsZ (cx := ⟨Pg, ofList [], isref, N⟩) (ofList_nil _) shFQ39 (spQ39 (GQ39 N)) (anQ39 N) 0 2 (by kernel_rfl) (fun i_ hi_ => by omega) ?_
  intro a k h
  unfold spQ39 at h
  split at h
  · exact ⟨[_, _], rfl, rfl, (eqQ39 _ _ _ _ _ _ _).trans h⟩
  · cases h

def sh_st_big_Int_And_p0p1p2nrr_0 : StSh := ⟨(.ptr 0 0 :: (.ptr 1 0 :: (.ptr 2 0 :: (sqs 4 (.slw 3 :: (sqs 14 (.int .i64 :: (.int .i64 :: (sqs 25 []))))))))), [some (126, 1, .cells [.bool, .nil]), some (126, 1, .cells [.bool, .roi .u64]), some (126, 1, .cells [.bool, .roi .u64]), some (22, 1, .ints .u64)]⟩
def sx0_st_big_Int_And_p0p1p2nrr_0 : StSh := ⟨(.ptr 0 0 :: (sqs 6 (.slw 3 :: (sqs 41 [])))), [some (126, 1, .cells [.bool, .nil]), some (126, 1, .cells [.bool, .roi .u64]), some (126, 1, .cells [.bool, .roi .u64]), some (22, 1, .ints .u64)]⟩
def hk_st_big_Int_And_p0p1p2nrr_0 (N : Nat) (SQ1 : TSQ1) (SQ39 : TSQ39) : List Atom -> K -> Bool := fun a_ κ => match a_ with
  | [.int t22, .int t23, .bool z, .bool x, .ints x_1, .bool y, .ints y_1, .ints r] => iterG N (stQ156 N SQ1 SQ39 t22 z x x_1 y y_1 (fun r5 => κ.ext 0 (sx0_st_big_Int_And_p0p1p2nrr_0.build [.bool z, .bool x, .ints x_1, .bool y, .ints y_1, .ints r5]))) (t23, r)
  | _ => false
def anQ19 (N : Nat) (SQ1 : TSQ1) (SQ39 : TSQ39) : Nat -> Option Ann := fun b_ => cond (b_ == 0) (some ⟨⟨[0, 1, 2, 7, 22, 23], [], []⟩, [(0, ⟨[0, 7], [], []⟩)], some ⟨[6], [], []⟩, some (mkHooks [(sh_st_big_Int_And_p0p1p2nrr_0, hk_st_big_Int_And_p0p1p2nrr_0 N SQ1 SQ39)])⟩) (none)
theorem eq_st_big_Int_And_p0p1p2nrr_0 (N : Nat) (SQ1 : TSQ1) (SQ39 : TSQ39) (κ : K) (t22 t23 : Int) (z x : Bool) (x_1 : List Int) (y : Bool) (y_1 r : List Int) : iter N (fun s k => codeV ⟨Pg, ofList [(167, (FQ1 SQ1)), (139, (FQ39 SQ39))], isref, N⟩ 3 (anQ19 N SQ1 SQ39) (lp Pg 137 0).2 (lp Pg 137 0).1 s (roundK Pg 3 ((anQ19 N SQ1 SQ39) (lp Pg 137 0).1) κ k)) (sh_st_big_Int_And_p0p1p2nrr_0.build [.int t22, .int t23, .bool z, .bool x, .ints x_1, .bool y, .ints y_1, .ints r]) = iterG N (stQ156 N SQ1 SQ39 t22 z x x_1 y y_1 (fun r5 => κ.ext 0 (sx0_st_big_Int_And_p0p1p2nrr_0.build [.bool z, .bool x, .ints x_1, .bool y, .ints y_1, .ints r5]))) (t23, r) :=
  iter_tr (fun (v_ : Int × List Int) => sh_st_big_Int_And_p0p1p2nrr_0.build [.int t22, .int v_.1, .bool z, .bool x, .ints x_1, .bool y, .ints y_1, .ints v_.2]) (fun v_ K_ => by obtain ⟨t23, r⟩ := v_; kernel_rfl) N (t23, r)
theorem hk1_st_big_Int_And_p0p1p2nrr_0 (N : Nat) (SQ1 : TSQ1) (SQ39 : TSQ39) : HookFor ⟨Pg, ofList [(167, (FQ1 SQ1)), (139, (FQ39 SQ39))], isref, N⟩ 3 (anQ19 N SQ1 SQ39) (lp Pg 137 0) (sh_st_big_Int_And_p0p1p2nrr_0, hk_st_big_Int_And_p0p1p2nrr_0 N SQ1 SQ39) := by
  intro a κ h
  simp only at h
  unfold hk_st_big_Int_And_p0p1p2nrr_0 at h
  split at h
  · exact (eq_st_big_Int_And_p0p1p2nrr_0 _ _ _ _ _ _ _ _ _ _ _ _).trans h
  · cases h
theorem ho_big_Int_And_p0p1p2nrr_0 (N : Nat) (SQ1 : TSQ1) (SQ39 : TSQ39) : HookOk ⟨Pg, ofList [(167, (FQ1 SQ1)), (139, (FQ39 SQ39))], isref, N⟩ 3 (anQ19 N SQ1 SQ39) (lp Pg 137 0) :=
  hooks_ok [(sh_st_big_Int_And_p0p1p2nrr_0, hk_st_big_Int_And_p0p1p2nrr_0 N SQ1 SQ39)] (by kernel_rfl) ⟨hk1_st_big_Int_And_p0p1p2nrr_0 _ _ _, trivial⟩
theorem eqQ19 (N : Nat) (SQ1 : TSQ1) (SQ39 : TSQ39) (b b_1 : Bool) (b_2 : List Int) (b_3 : Bool) (b_4 : List Int) (c_ : V -> List Blk -> Bool) : bodyZ ⟨Pg, ofList [(167, (FQ1 SQ1)), (139, (FQ39 SQ39))], isref, N⟩ (anQ19 N SQ1 SQ39) 137 (shFQ19.args [.bool b, .bool b_1, .ints b_2, .bool b_3, .ints b_4]) [⟨126, 1, .cells [.bool b, .nil]⟩, ⟨126, 1, .cells [.bool b_1, .roi .u64 b_2]⟩, ⟨126, 1, .cells [.bool b_3, .roi .u64 b_4]⟩] c_ = GQ19 N SQ1 SQ39 b b_1 b_2 b_3 b_4 (fun r0 r1 => c_ (.ptr 0 0) [⟨126, 1, .cells [.bool r0, .roi .u64 r1]⟩, ⟨126, 1, .cells [.bool b_1, .roi .u64 b_2]⟩, ⟨126, 1, .cells [.bool b_3, .roi .u64 b_4]⟩]) := by kernel_rfl
theorem goodQ19 (N : Nat) (SQ1 : TSQ1) (SQ39 : TSQ39) (hQ1 : GoodF Pg 167 (FQ1 SQ1)) (hQ39 : GoodF Pg 139 (FQ39 SQ39)) : GoodF Pg 137 (FQ19 (GQ19 N SQ1 SQ39)) := by
  refine good_fsZ (cx := ⟨Pg, ofList [(167, (FQ1 SQ1)), (139, (FQ39 SQ39))], isref, N⟩) (ofList_cons hQ1 (ofList_cons hQ39 (ofList_nil _))) shFQ19 (spQ19 (GQ19 N SQ1 SQ39)) (anQ19 N SQ1 SQ39) 1 3 (by kernel_rfl) (fun i_ hi_ => by
    match i_, hi_ with
    | 0, _ => exact ho_big_Int_And_p0p1p2nrr_0 _ _ _
    | (q + 1), h => omega) ?_
  intro a k h
  unfold spQ19 at h
  split at h
  · exact ⟨[_, _, _], rfl, rfl, (eqQ19 _ _ _ _ _ _ _ _ _).trans h⟩
  · cases h

def anQ144 (N : Nat) (SQ14 : TSQ14) : Nat -> Option Ann := fun b_ => none
theorem eqQ144 (N : Nat) (SQ14 : TSQ14) (x : List Int) (c_ : V -> List Blk -> Bool) : bodyZ ⟨Pg, ofList [(170, (FQ14 SQ14))], isref, N⟩ (anQ144 N SQ14) 168 (shFQ144.args [.ints x]) [] c_ = GQ144 N SQ14 x (fun r0 => c_ (.int .u64 r0) []) := by kernel_rfl
theorem goodQ144 (N : Nat) (SQ14 : TSQ14) (hQ14 : GoodF Pg 170 (FQ14 SQ14)) : GoodF Pg 168 (FQ144 (GQ144 N SQ14)) := by
  refine good_fsZ (cx := ⟨Pg, ofList [(170, (FQ14 SQ14))], isref, N⟩) (ofList_cons hQ14 (ofList_nil _)) shFQ144 (spQ144 (GQ144 N SQ14)) (anQ144 N SQ14) 0 0 (by kernel_rfl) (fun i_ hi_ => by omega) ?_
  intro a k h
  unfold spQ144 at h
  split at h
  · exact ⟨[], rfl, rfl, (eqQ144 _ _ _ _).trans h⟩
  · cases h

def anQ35 (N : Nat) (SQ144 : TSQ144) : Nat -> Option Ann := fun b_ => none
theorem eqQ35 (N : Nat) (SQ144 : TSQ144) (b : Bool) (b_1 : List Int) (c_ : V -> List Blk -> Bool) : bodyZ ⟨Pg, ofList [(168, (FQ144 SQ144))], isref, N⟩ (anQ35 N SQ144) 138 (shFQ35.args [.bool b, .ints b_1]) [⟨126, 1, .cells [.bool b, .roi .u64 b_1]⟩] c_ = GQ35 N SQ144 b b_1 (fun r0 => c_ (.int .u64 r0) [⟨126, 1, .cells [.bool b, .roi .u64 b_1]⟩]) := by kernel_rfl
theorem goodQ35 (N : Nat) (SQ144 : TSQ144) (hQ144 : GoodF Pg 168 (FQ144 SQ144)) : GoodF Pg 138 (FQ35 (GQ35 N SQ144)) := by
  refine good_fsZ (cx := ⟨Pg, ofList [(168, (FQ144 SQ144))], isref, N⟩) (ofList_cons hQ144 (ofList_nil _)) shFQ35 (spQ35 (GQ35 N SQ144)) (anQ35 N SQ144) 0 1 (by kernel_rfl) (fun i_ hi_ => by omega) ?_
  intro a k h
  unfold spQ35 at h
  split at h
  · exact ⟨[_], rfl, rfl, (eqQ35 _ _ _ _ _).trans h⟩
  · cases h

end Go.Proofs.YtnfgnjciliapaaaGreatDoor
