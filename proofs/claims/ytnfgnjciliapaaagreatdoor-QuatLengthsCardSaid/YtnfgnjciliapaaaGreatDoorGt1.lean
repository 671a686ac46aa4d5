/-
  THE TIES: each printed meaning is what the program does (written by program).
  Conditions: none.
-/
import Derived.Test.YtnfgnjciliapaaaGreatDoorGs
namespace Go.Proofs.YtnfgnjciliapaaaGreatDoor
open Go Go.Mach Go.Proofs
set_option linter.unusedVariables false
set_option maxRecDepth 50000

def sh_st_big_times_2 : StSh := ⟨(.any :: (.roi .u64 :: (.any :: (.any :: (.any :: (.slw 0 :: (.int .i64 :: (.int .u64 :: (.int .u64 :: (sqs 16 (.roi .u64 :: (.int .i64 :: (.int .i64 :: (sqs 4 (.roi .u64 :: (.int .i64 :: (.int .i64 :: (sqs 33 [])))))))))))))))))), [some (22, 1, .ints .u64)]⟩
def sx0_st_big_times_2 : StSh := ⟨(.any :: (.roi .u64 :: (.any :: (.any :: (.any :: (.slw 0 :: (.int .i64 :: (.any :: (.int .u64 :: (sqs 16 (.roi .u64 :: (.int .i64 :: (.int .i64 :: (sqs 40 [])))))))))))))), [some (22, 1, .ints .u64)]⟩
def hk_st_big_times_2 (N : Nat) (SQ83 : TSQ83) (SQ1 : TSQ1) : List Atom -> K -> Bool := fun a_ κ => match a_ with
  | [.ints y_2, .int i, .int a, .int carry, .ints t25_1, .int t26_1, .int t27_1, .ints t32, .int t33, .int t34, .ints z_1] => iterG N (st_big_times_2 N SQ83 SQ1 y_2 i a t25_1 t26_1 t27_1 t32 t33 (fun r2 r6 => κ.ext 2 (sx0_st_big_times_2.build [.ints y_2, .int i, .int r2, .ints t25_1, .int t26_1, .int t27_1, .ints r6]))) (carry, t34, z_1)
  | _ => false
def sh_st_big_times_0 : StSh := ⟨(.any :: (.roi .u64 :: (.any :: (.any :: (.any :: (.slw 0 :: (sqs 19 (.roi .u64 :: (.int .i64 :: (.int .i64 :: (sqs 40 []))))))))))), [some (22, 1, .ints .u64)]⟩
def sx0_st_big_times_0 : StSh := ⟨(sqs 5 (.slw 0 :: (sqs 62 []))), [some (22, 1, .ints .u64)]⟩
def hk_st_big_times_0 (N : Nat) (SQ83 : TSQ83) (SQ1 : TSQ1) : List Atom -> K -> Bool := fun a_ κ => match a_ with
  | [.ints y_1, .ints t25, .int t26, .int t27, .ints z] => iterG N (st_big_times_0 N SQ83 SQ1 y_1 t25 t26 (fun r0 => κ.ext 0 (sx0_st_big_times_0.build [.ints r0]))) (t27, z)
  | _ => false
def anQ110 (N : Nat) (SQ83 : TSQ83) (SQ1 : TSQ1) : Nat -> Option Ann := fun b_ => cond (b_ == 2) (some ⟨⟨[1, 5, 6, 7, 8, 25, 26, 27, 32, 33, 34], [], []⟩, [(2, ⟨[1, 5, 6, 8, 25, 26, 27], [], []⟩)], some ⟨[4], [], []⟩, some (mkHooks [(sh_st_big_times_2, hk_st_big_times_2 N SQ83 SQ1)])⟩) (cond (b_ == 0) (some ⟨⟨[1, 5, 25, 26, 27], [], []⟩, [(0, ⟨[5], [], []⟩)], some ⟨[4], [], []⟩, some (mkHooks [(sh_st_big_times_0, hk_st_big_times_0 N SQ83 SQ1)])⟩) (none))
theorem eq_st_big_times_2 (N : Nat) (SQ83 : TSQ83) (SQ1 : TSQ1) (κ : K) (y_2 : List Int) (i a carry : Int) (t25_1 : List Int) (t26_1 t27_1 : Int) (t32 : List Int) (t33 t34 : Int) (z_1 : List Int) : iter N (fun s k => codeV ⟨Pg, ofList [(181, (FQ83 SQ83)), (167, (FQ1 SQ1))], isref, N⟩ 0 (anQ110 N SQ83 SQ1) (lp Pg 159 1).2 (lp Pg 159 1).1 s (roundK Pg 0 ((anQ110 N SQ83 SQ1) (lp Pg 159 1).1) κ k)) (sh_st_big_times_2.build [.ints y_2, .int i, .int a, .int carry, .ints t25_1, .int t26_1, .int t27_1, .ints t32, .int t33, .int t34, .ints z_1]) = iterG N (st_big_times_2 N SQ83 SQ1 y_2 i a t25_1 t26_1 t27_1 t32 t33 (fun r2 r6 => κ.ext 2 (sx0_st_big_times_2.build [.ints y_2, .int i, .int r2, .ints t25_1, .int t26_1, .int t27_1, .ints r6]))) (carry, t34, z_1) :=
  iter_tr (fun (v_ : Int × Int × List Int) => sh_st_big_times_2.build [.ints y_2, .int i, .int a, .int v_.1, .ints t25_1, .int t26_1, .int t27_1, .ints t32, .int t33, .int v_.2.1, .ints v_.2.2]) (fun v_ K_ => by obtain ⟨carry, t34, z_1⟩ := v_; kernel_rfl) N (carry, t34, z_1)
theorem hk1_st_big_times_2 (N : Nat) (SQ83 : TSQ83) (SQ1 : TSQ1) : HookFor ⟨Pg, ofList [(181, (FQ83 SQ83)), (167, (FQ1 SQ1))], isref, N⟩ 0 (anQ110 N SQ83 SQ1) (lp Pg 159 1) (sh_st_big_times_2, hk_st_big_times_2 N SQ83 SQ1) := by
  intro a κ h
  simp only at h
  unfold hk_st_big_times_2 at h
  split at h
  · exact (eq_st_big_times_2 _ _ _ _ _ _ _ _ _ _ _ _ _ _ _).trans h
  · cases h
theorem eq_st_big_times_0 (N : Nat) (SQ83 : TSQ83) (SQ1 : TSQ1) (κ : K) (y_1 t25 : List Int) (t26 t27 : Int) (z : List Int) : iter N (fun s k => codeV ⟨Pg, ofList [(181, (FQ83 SQ83)), (167, (FQ1 SQ1))], isref, N⟩ 0 (anQ110 N SQ83 SQ1) (lp Pg 159 0).2 (lp Pg 159 0).1 s (roundK Pg 0 ((anQ110 N SQ83 SQ1) (lp Pg 159 0).1) κ k)) (sh_st_big_times_0.build [.ints y_1, .ints t25, .int t26, .int t27, .ints z]) = iterG N (st_big_times_0 N SQ83 SQ1 y_1 t25 t26 (fun r0 => κ.ext 0 (sx0_st_big_times_0.build [.ints r0]))) (t27, z) :=
  iter_tr (fun (v_ : Int × List Int) => sh_st_big_times_0.build [.ints y_1, .ints t25, .int t26, .int v_.1, .ints v_.2]) (fun v_ K_ => by obtain ⟨t27, z⟩ := v_; kernel_rfl) N (t27, z)
theorem hk1_st_big_times_0 (N : Nat) (SQ83 : TSQ83) (SQ1 : TSQ1) : HookFor ⟨Pg, ofList [(181, (FQ83 SQ83)), (167, (FQ1 SQ1))], isref, N⟩ 0 (anQ110 N SQ83 SQ1) (lp Pg 159 0) (sh_st_big_times_0, hk_st_big_times_0 N SQ83 SQ1) := by
  intro a κ h
  simp only at h
  unfold hk_st_big_times_0 at h
  split at h
  · exact (eq_st_big_times_0 _ _ _ _ _ _ _ _ _).trans h
  · cases h
theorem ho_big_times_2 (N : Nat) (SQ83 : TSQ83) (SQ1 : TSQ1) : HookOk ⟨Pg, ofList [(181, (FQ83 SQ83)), (167, (FQ1 SQ1))], isref, N⟩ 0 (anQ110 N SQ83 SQ1) (lp Pg 159 1) :=
  hooks_ok [(sh_st_big_times_2, hk_st_big_times_2 N SQ83 SQ1)] (by kernel_rfl) ⟨hk1_st_big_times_2 _ _ _, trivial⟩
theorem ho_big_times_0 (N : Nat) (SQ83 : TSQ83) (SQ1 : TSQ1) : HookOk ⟨Pg, ofList [(181, (FQ83 SQ83)), (167, (FQ1 SQ1))], isref, N⟩ 0 (anQ110 N SQ83 SQ1) (lp Pg 159 0) :=
  hooks_ok [(sh_st_big_times_0, hk_st_big_times_0 N SQ83 SQ1)] (by kernel_rfl) ⟨hk1_st_big_times_0 _ _ _, trivial⟩
theorem eqQ110 (N : Nat) (SQ83 : TSQ83) (SQ1 : TSQ1) (x y : List Int) (c_ : V -> List Blk -> Bool) : bodyZ ⟨Pg, ofList [(181, (FQ83 SQ83)), (167, (FQ1 SQ1))], isref, N⟩ (anQ110 N SQ83 SQ1) 159 (shFQ110.args [.ints x, .ints y]) [] c_ = GQ110 N SQ83 SQ1 x y (fun r0 => c_ (.roi .u64 r0) []) := by kernel_rfl
theorem goodQ110 (N : Nat) (SQ83 : TSQ83) (SQ1 : TSQ1) (hQ83 : GoodF Pg 181 (FQ83 SQ83)) (hQ1 : GoodF Pg 167 (FQ1 SQ1)) : GoodF Pg 159 (FQ110 (GQ110 N SQ83 SQ1)) := by
  refine good_fsZ (cx := ⟨Pg, ofList [(181, (FQ83 SQ83)), (167, (FQ1 SQ1))], isref, N⟩) (ofList_cons hQ83 (ofList_cons hQ1 (ofList_nil _))) shFQ110 (spQ110 (GQ110 N SQ83 SQ1)) (anQ110 N SQ83 SQ1) 2 0 (by kernel_rfl) (fun i_ hi_ => by
    match i_, hi_ with
    | 0, _ => exact ho_big_times_0 _ _ _
    | 1, _ => exact ho_big_times_2 _ _ _
    | (q + 2), h => omega) ?_
  intro a k h
  unfold spQ110 at h
  split at h
  · exact ⟨[], rfl, rfl, (eqQ110 _ _ _ _ _ _).trans h⟩
  · cases h

def anQ47 (N : Nat) (SQ110 : TSQ110) (SQ0 : TSQ0) : Nat -> Option Ann := fun b_ => none
theorem eqQ47 (N : Nat) (SQ110 : TSQ110) (SQ0 : TSQ0) (b b_1 : Bool) (b_2 : List Int) (b_3 : Bool) (b_4 : List Int) (c_ : V -> List Blk -> Bool) : bodyZ ⟨Pg, ofList [(159, (FQ110 SQ110)), (139, (FQ0 SQ0))], isref, N⟩ (anQ47 N SQ110 SQ0) 131 (shFQ47.args [.bool b, .bool b_1, .ints b_2, .bool b_3, .ints b_4]) [⟨126, 1, .cells [.bool b, .nil]⟩, ⟨126, 1, .cells [.bool b_1, .roi .u64 b_2]⟩, ⟨126, 1, .cells [.bool b_3, .roi .u64 b_4]⟩] c_ = GQ47 N SQ110 SQ0 b b_1 b_2 b_3 b_4 (fun r0 r1 => c_ (.ptr 0 0) [⟨126, 1, .cells [.bool r0, .roi .u64 r1]⟩, ⟨126, 1, .cells [.bool b_1, .roi .u64 b_2]⟩, ⟨126, 1, .cells [.bool b_3, .roi .u64 b_4]⟩]) := by kernel_rfl
theorem goodQ47 (N : Nat) (SQ110 : TSQ110) (SQ0 : TSQ0) (hQ110 : GoodF Pg 159 (FQ110 SQ110)) (hQ0 : GoodF Pg 139 (FQ0 SQ0)) : GoodF Pg 131 (FQ47 (GQ47 N SQ110 SQ0)) := by
  refine good_fsZ (cx := ⟨Pg, ofList [(159, (FQ110 SQ110)), (139, (FQ0 SQ0))], isref, N⟩) (ofList_cons hQ110 (ofList_cons hQ0 (ofList_nil _))) shFQ47 (spQ47 (GQ47 N SQ110 SQ0)) (anQ47 N SQ110 SQ0) 0 3 (by kernel_rfl) (fun i_ hi_ => by omega) ?_
  intro a k h
  unfold spQ47 at h
  split at h
  · exact ⟨[_, _, _], rfl, rfl, (eqQ47 _ _ _ _ _ _ _ _ _).trans h⟩
  · cases h

def anQ12 (N : Nat) (SQ47 : TSQ47) : Nat -> Option Ann := fun b_ => none
theorem eqQ12 (N : Nat) (SQ47 : TSQ47) (x y : Int) (b : Bool) (b_1 : List Int) (b_2 : Bool) (b_3 : List Int) (c_ : V -> List Blk -> Bool) : bodyV ⟨Pg, ofList [(131, (FQ47 SQ47))], isref, N⟩ (anQ12 N SQ47) 87 (shFQ12.args [.int x, .int y, .bool b, .ints b_1, .bool b_2, .ints b_3]) [⟨126, 1, .cells [.bool b, .roi .u64 b_1]⟩, ⟨126, 1, .cells [.bool b_2, .roi .u64 b_3]⟩] c_ = GQ12 N SQ47 x y b b_1 b_2 b_3 (fun r0 r5 r6 => c_ (.agg [.ptr 2 0, .int .i64 r0]) [⟨126, 1, .cells [.bool b, .roi .u64 b_1]⟩, ⟨126, 1, .cells [.bool b_2, .roi .u64 b_3]⟩, ⟨126, 1, .cells [.bool r5, .roi .u64 r6]⟩]) := by kernel_rfl
theorem goodQ12 (N : Nat) (SQ47 : TSQ47) (hQ47 : GoodF Pg 131 (FQ47 SQ47)) : GoodF Pg 87 (FQ12 (GQ12 N SQ47)) := by
  refine good_fs (cx := ⟨Pg, ofList [(131, (FQ47 SQ47))], isref, N⟩) (ofList_cons hQ47 (ofList_nil _)) shFQ12 (spQ12 (GQ12 N SQ47)) (anQ12 N SQ47) 0 2 (by kernel_rfl) (fun i_ hi_ => by omega) ?_
  intro a k h
  unfold spQ12 at h
  split at h
  · exact ⟨[_, _], rfl, rfl, (eqQ12 _ _ _ _ _ _ _ _ _).trans h⟩
  · cases h

def anQ67 (N : Nat) : Nat -> Option Ann := fun b_ => none
theorem eqQ67 (N : Nat) (b : Bool) (c_ : V -> List Blk -> Bool) : bodyZ ⟨Pg, ofList [], isref, N⟩ (anQ67 N) 94 (shFQ67.args [.bool b]) [⟨126, 1, .cells [.bool b, .nil]⟩] c_ = GQ67 N b (fun r0 r2 => c_ (.int .i64 r0) [⟨126, 1, .cells [.bool b, .roi .u64 r2]⟩]) := by kernel_rfl
theorem goodQ67 (N : Nat) : GoodF Pg 94 (FQ67 (GQ67 N)) := by
  refine good_fsZ (cx := ⟨Pg, ofList [], isref, N⟩) (ofList_nil _) shFQ67 (spQ67 (GQ67 N)) (anQ67 N) 0 1 (by kernel_rfl) (fun i_ hi_ => by omega) ?_
  intro a k h
  unfold spQ67 at h
  split at h
  · exact ⟨[_], rfl, rfl, (eqQ67 _ _ _).trans h⟩
  · cases h

def anQ4 (N : Nat) : Nat -> Option Ann := fun b_ => none
theorem eqQ4 (N : Nat) (b : Bool) (b_1 : List Int) (c_ : V -> List Blk -> Bool) : bodyZ ⟨Pg, ofList [], isref, N⟩ (anQ4 N) 94 (shFQ4.args [.bool b, .ints b_1]) [⟨126, 1, .cells [.bool b, .roi .u64 b_1]⟩] c_ = GQ4 N b b_1 (fun r0 => c_ (.int .i64 r0) [⟨126, 1, .cells [.bool b, .roi .u64 b_1]⟩]) := by kernel_rfl
theorem goodQ4 (N : Nat) : GoodF Pg 94 (FQ4 (GQ4 N)) := by
  refine good_fsZ (cx := ⟨Pg, ofList [], isref, N⟩) (ofList_nil _) shFQ4 (spQ4 (GQ4 N)) (anQ4 N) 0 1 (by kernel_rfl) (fun i_ hi_ => by omega) ?_
  intro a k h
  unfold spQ4 at h
  split at h
  · exact ⟨[_], rfl, rfl, (eqQ4 _ _ _ _).trans h⟩
  · cases h

def sh_st_big_left_0 : StSh := ⟨(sqs 5 (.int .i64 :: (.int .u64 :: (.slw 0 :: (sqs 16 (.roi .u64 :: (.int .i64 :: (.int .i64 :: (sqs 28 []))))))))), [some (22, 1, .ints .u64)]⟩
def sx0_st_big_left_0 : StSh := ⟨(sqs 7 (.slw 0 :: (sqs 47 []))), [some (22, 1, .ints .u64)]⟩
def hk_st_big_left_0 (N : Nat) (SQ1 : TSQ1) : List Atom -> K -> Bool := fun a_ κ => match a_ with
  | [.int words, .int rest, .ints t24, .int t25, .int t26, .ints z] => iterG N (st_big_left_0 N SQ1 words rest t24 t25 (fun r0 => κ.ext 0 (sx0_st_big_left_0.build [.ints r0]))) (t26, z)
  | _ => false
def anQ84 (N : Nat) (SQ1 : TSQ1) : Nat -> Option Ann := fun b_ => cond (b_ == 0) (some ⟨⟨[5, 6, 7, 24, 25, 26], [], []⟩, [(0, ⟨[7], [], []⟩)], some ⟨[4], [], []⟩, some (mkHooks [(sh_st_big_left_0, hk_st_big_left_0 N SQ1)])⟩) (none)
theorem eq_st_big_left_0 (N : Nat) (SQ1 : TSQ1) (κ : K) (words rest : Int) (t24 : List Int) (t25 t26 : Int) (z : List Int) : iter N (fun s k => codeV ⟨Pg, ofList [(167, (FQ1 SQ1))], isref, N⟩ 0 (anQ84 N SQ1) (lp Pg 169 0).2 (lp Pg 169 0).1 s (roundK Pg 0 ((anQ84 N SQ1) (lp Pg 169 0).1) κ k)) (sh_st_big_left_0.build [.int words, .int rest, .ints t24, .int t25, .int t26, .ints z]) = iterG N (st_big_left_0 N SQ1 words rest t24 t25 (fun r0 => κ.ext 0 (sx0_st_big_left_0.build [.ints r0]))) (t26, z) :=
  iter_tr (fun (v_ : Int × List Int) => sh_st_big_left_0.build [.int words, .int rest, .ints t24, .int t25, .int v_.1, .ints v_.2]) (fun v_ K_ => by obtain ⟨t26, z⟩ := v_; kernel_rfl) N (t26, z)
theorem hk1_st_big_left_0 (N : Nat) (SQ1 : TSQ1) : HookFor ⟨Pg, ofList [(167, (FQ1 SQ1))], isref, N⟩ 0 (anQ84 N SQ1) (lp Pg 169 0) (sh_st_big_left_0, hk_st_big_left_0 N SQ1) := by
  intro a κ h
  simp only at h
  unfold hk_st_big_left_0 at h
  split at h
  · exact (eq_st_big_left_0 _ _ _ _ _ _ _ _ _).trans h
  · cases h
theorem ho_big_left_0 (N : Nat) (SQ1 : TSQ1) : HookOk ⟨Pg, ofList [(167, (FQ1 SQ1))], isref, N⟩ 0 (anQ84 N SQ1) (lp Pg 169 0) :=
  hooks_ok [(sh_st_big_left_0, hk_st_big_left_0 N SQ1)] (by kernel_rfl) ⟨hk1_st_big_left_0 _ _, trivial⟩
theorem eqQ84 (N : Nat) (SQ1 : TSQ1) (x : List Int) (n : Int) (c_ : V -> List Blk -> Bool) : bodyZ ⟨Pg, ofList [(167, (FQ1 SQ1))], isref, N⟩ (anQ84 N SQ1) 169 (shFQ84.args [.ints x, .int n]) [] c_ = GQ84 N SQ1 x n (fun r0 => c_ (.roi .u64 r0) []) := by kernel_rfl
theorem goodQ84 (N : Nat) (SQ1 : TSQ1) (hQ1 : GoodF Pg 167 (FQ1 SQ1)) : GoodF Pg 169 (FQ84 (GQ84 N SQ1)) := by
  refine good_fsZ (cx := ⟨Pg, ofList [(167, (FQ1 SQ1))], isref, N⟩) (ofList_cons hQ1 (ofList_nil _)) shFQ84 (spQ84 (GQ84 N SQ1)) (anQ84 N SQ1) 1 0 (by kernel_rfl) (fun i_ hi_ => by
    match i_, hi_ with
    | 0, _ => exact ho_big_left_0 _ _
    | (q + 1), h => omega) ?_
  intro a k h
  unfold spQ84 at h
  split at h
  · exact ⟨[], rfl, rfl, (eqQ84 _ _ _ _ _).trans h⟩
  · cases h

def anQ56 (N : Nat) (SQ84 : TSQ84) (SQ0 : TSQ0) : Nat -> Option Ann := fun b_ => none
theorem eqQ56 (N : Nat) (SQ84 : TSQ84) (SQ0 : TSQ0) (n : Int) (b b_1 : Bool) (b_2 : List Int) (c_ : V -> List Blk -> Bool) : bodyZ ⟨Pg, ofList [(169, (FQ84 SQ84)), (139, (FQ0 SQ0))], isref, N⟩ (anQ56 N SQ84 SQ0) 141 (shFQ56.args [.int n, .bool b, .bool b_1, .ints b_2]) [⟨126, 1, .cells [.bool b, .nil]⟩, ⟨126, 1, .cells [.bool b_1, .roi .u64 b_2]⟩] c_ = GQ56 N SQ84 SQ0 n b b_1 b_2 (fun r0 r1 => c_ (.ptr 0 0) [⟨126, 1, .cells [.bool r0, .roi .u64 r1]⟩, ⟨126, 1, .cells [.bool b_1, .roi .u64 b_2]⟩]) := by kernel_rfl
theorem goodQ56 (N : Nat) (SQ84 : TSQ84) (SQ0 : TSQ0) (hQ84 : GoodF Pg 169 (FQ84 SQ84)) (hQ0 : GoodF Pg 139 (FQ0 SQ0)) : GoodF Pg 141 (FQ56 (GQ56 N SQ84 SQ0)) := by
  refine good_fsZ (cx := ⟨Pg, ofList [(169, (FQ84 SQ84)), (139, (FQ0 SQ0))], isref, N⟩) (ofList_cons hQ84 (ofList_cons hQ0 (ofList_nil _))) shFQ56 (spQ56 (GQ56 N SQ84 SQ0)) (anQ56 N SQ84 SQ0) 0 2 (by kernel_rfl) (fun i_ hi_ => by omega) ?_
  intro a k h
  unfold spQ56 at h
  split at h
  · exact ⟨[_, _], rfl, rfl, (eqQ56 _ _ _ _ _ _ _ _).trans h⟩
  · cases h

def anQ28 (N : Nat) (SQ56 : TSQ56) : Nat -> Option Ann := fun b_ => none
theorem eqQ28 (N : Nat) (SQ56 : TSQ56) (x e : Int) (b : Bool) (b_1 : List Int) (c_ : V -> List Blk -> Bool) : bodyV ⟨Pg, ofList [(141, (FQ56 SQ56))], isref, N⟩ (anQ28 N SQ56) 128 (shFQ28.args [.int x, .int e, .bool b, .ints b_1]) [⟨126, 1, .cells [.bool b, .roi .u64 b_1]⟩] c_ = GQ28 N SQ56 x e b b_1 (fun r2 r3 => c_ (.ptr 1 0) [⟨126, 1, .cells [.bool b, .roi .u64 b_1]⟩, ⟨126, 1, .cells [.bool r2, .roi .u64 r3]⟩]) := by kernel_rfl
theorem goodQ28 (N : Nat) (SQ56 : TSQ56) (hQ56 : GoodF Pg 141 (FQ56 SQ56)) : GoodF Pg 128 (FQ28 (GQ28 N SQ56)) := by
  refine good_fs (cx := ⟨Pg, ofList [(141, (FQ56 SQ56))], isref, N⟩) (ofList_cons hQ56 (ofList_nil _)) shFQ28 (spQ28 (GQ28 N SQ56)) (anQ28 N SQ56) 0 1 (by kernel_rfl) (fun i_ hi_ => by omega) ?_
  intro a k h
  unfold spQ28 at h
  split at h
  · exact ⟨[_], rfl, rfl, (eqQ28 _ _ _ _ _ _ _).trans h⟩
  · cases h

def anQ13 (N : Nat) : Nat -> Option Ann := fun b_ => none
theorem eqQ13 (N : Nat) (x : List Int) (i : Int) (c_ : V -> List Blk -> Bool) : bodyZ ⟨Pg, ofList [], isref, N⟩ (anQ13 N) 170 (shFQ13.args [.ints x, .int i]) [] c_ = GQ13 N x i (fun r0 => c_ (.int .u64 r0) []) := by kernel_rfl
theorem goodQ13 (N : Nat) : GoodF Pg 170 (FQ13 (GQ13 N)) := by
  refine good_fsZ (cx := ⟨Pg, ofList [], isref, N⟩) (ofList_nil _) shFQ13 (spQ13 (GQ13 N)) (anQ13 N) 0 0 (by kernel_rfl) (fun i_ hi_ => by omega) ?_
  intro a k h
  unfold spQ13 at h
  split at h
  · exact ⟨[], rfl, rfl, (eqQ13 _ _ _ _).trans h⟩
  · cases h

def sh_st_big_sum_0 : StSh := ⟨(.roi .u64 :: (.roi .u64 :: (.any :: (.any :: (.any :: (.int .i64 :: (.slw 0 :: (.int .u64 :: (sqs 9 (.int .i64 :: (.int .i64 :: (sqs 23 [])))))))))))), [some (22, 1, .ints .u64)]⟩
def sx0_st_big_sum_0 : StSh := ⟨(sqs 5 (.int .i64 :: (.slw 0 :: (.int .u64 :: (sqs 34 []))))), [some (22, 1, .ints .u64)]⟩
def hk_st_big_sum_0 (N : Nat) (SQ13 : TSQ13) (SQ59 : TSQ59) (SQ1 : TSQ1) : List Atom -> K -> Bool := fun a_ κ => match a_ with
  | [.ints x_1, .ints y_1, .int n, .int carry, .int t17, .int t18, .ints z] => iterG N (st_big_sum_0 N SQ13 SQ59 SQ1 x_1 y_1 n t17 (fun r1 r2 => κ.ext 0 (sx0_st_big_sum_0.build [.int n, .int r1, .ints r2]))) (carry, t18, z)
  | _ => false
def anQ119 (N : Nat) (SQ13 : TSQ13) (SQ59 : TSQ59) (SQ1 : TSQ1) : Nat -> Option Ann := fun b_ => cond (b_ == 0) (some ⟨⟨[0, 1, 5, 6, 7, 17, 18], [], []⟩, [(0, ⟨[5, 6, 7], [], []⟩)], some ⟨[4], [], []⟩, some (mkHooks [(sh_st_big_sum_0, hk_st_big_sum_0 N SQ13 SQ59 SQ1)])⟩) (none)
theorem eq_st_big_sum_0 (N : Nat) (SQ13 : TSQ13) (SQ59 : TSQ59) (SQ1 : TSQ1) (κ : K) (x_1 y_1 : List Int) (n carry t17 t18 : Int) (z : List Int) : iter N (fun s k => codeV ⟨Pg, ofList [(170, (FQ13 SQ13)), (183, (FQ59 SQ59)), (167, (FQ1 SQ1))], isref, N⟩ 0 (anQ119 N SQ13 SQ59 SQ1) (lp Pg 166 0).2 (lp Pg 166 0).1 s (roundK Pg 0 ((anQ119 N SQ13 SQ59 SQ1) (lp Pg 166 0).1) κ k)) (sh_st_big_sum_0.build [.ints x_1, .ints y_1, .int n, .int carry, .int t17, .int t18, .ints z]) = iterG N (st_big_sum_0 N SQ13 SQ59 SQ1 x_1 y_1 n t17 (fun r1 r2 => κ.ext 0 (sx0_st_big_sum_0.build [.int n, .int r1, .ints r2]))) (carry, t18, z) :=
  iter_tr (fun (v_ : Int × Int × List Int) => sh_st_big_sum_0.build [.ints x_1, .ints y_1, .int n, .int v_.1, .int t17, .int v_.2.1, .ints v_.2.2]) (fun v_ K_ => by obtain ⟨carry, t18, z⟩ := v_; kernel_rfl) N (carry, t18, z)
theorem hk1_st_big_sum_0 (N : Nat) (SQ13 : TSQ13) (SQ59 : TSQ59) (SQ1 : TSQ1) : HookFor ⟨Pg, ofList [(170, (FQ13 SQ13)), (183, (FQ59 SQ59)), (167, (FQ1 SQ1))], isref, N⟩ 0 (anQ119 N SQ13 SQ59 SQ1) (lp Pg 166 0) (sh_st_big_sum_0, hk_st_big_sum_0 N SQ13 SQ59 SQ1) := by
  intro a κ h
  simp only at h
  unfold hk_st_big_sum_0 at h
  split at h
  · exact (eq_st_big_sum_0 _ _ _ _ _ _ _ _ _ _ _ _).trans h
  · cases h
theorem ho_big_sum_0 (N : Nat) (SQ13 : TSQ13) (SQ59 : TSQ59) (SQ1 : TSQ1) : HookOk ⟨Pg, ofList [(170, (FQ13 SQ13)), (183, (FQ59 SQ59)), (167, (FQ1 SQ1))], isref, N⟩ 0 (anQ119 N SQ13 SQ59 SQ1) (lp Pg 166 0) :=
  hooks_ok [(sh_st_big_sum_0, hk_st_big_sum_0 N SQ13 SQ59 SQ1)] (by kernel_rfl) ⟨hk1_st_big_sum_0 _ _ _ _, trivial⟩
theorem eqQ119 (N : Nat) (SQ13 : TSQ13) (SQ59 : TSQ59) (SQ1 : TSQ1) (x y : List Int) (c_ : V -> List Blk -> Bool) : bodyZ ⟨Pg, ofList [(170, (FQ13 SQ13)), (183, (FQ59 SQ59)), (167, (FQ1 SQ1))], isref, N⟩ (anQ119 N SQ13 SQ59 SQ1) 166 (shFQ119.args [.ints x, .ints y]) [] c_ = GQ119 N SQ13 SQ59 SQ1 x y (fun r0 => c_ (.roi .u64 r0) []) := by kernel_rfl
theorem goodQ119 (N : Nat) (SQ13 : TSQ13) (SQ59 : TSQ59) (SQ1 : TSQ1) (hQ13 : GoodF Pg 170 (FQ13 SQ13)) (hQ59 : GoodF Pg 183 (FQ59 SQ59)) (hQ1 : GoodF Pg 167 (FQ1 SQ1)) : GoodF Pg 166 (FQ119 (GQ119 N SQ13 SQ59 SQ1)) := by
  refine good_fsZ (cx := ⟨Pg, ofList [(170, (FQ13 SQ13)), (183, (FQ59 SQ59)), (167, (FQ1 SQ1))], isref, N⟩) (ofList_cons hQ13 (ofList_cons hQ59 (ofList_cons hQ1 (ofList_nil _)))) shFQ119 (spQ119 (GQ119 N SQ13 SQ59 SQ1)) (anQ119 N SQ13 SQ59 SQ1) 1 0 (by kernel_rfl) (fun i_ hi_ => by
    match i_, hi_ with
    | 0, _ => exact ho_big_sum_0 _ _ _ _
    | (q + 1), h => omega) ?_
  intro a k h
  unfold spQ119 at h
  split at h
  · exact ⟨[], rfl, rfl, (eqQ119 _ _ _ _ _ _ _).trans h⟩
  · cases h

def sh_st_big_compare_0 : StSh := ⟨(.roi .u64 :: (.roi .u64 :: (.any :: (.any :: (.any :: (.int .i64 :: (sqs 35 []))))))), []⟩
def sx0_st_big_compare_0 : StSh := ⟨(sqs 4 (.int .i64 :: (sqs 36 []))), []⟩
def sx1_st_big_compare_0 : StSh := ⟨(sqs 41 []), []⟩
def hk_st_big_compare_0 (N : Nat) : List Atom -> K -> Bool := fun a_ κ => match a_ with
  | [.ints x_1, .ints y_1, .int i] => iterG N (stQ157 N x_1 y_1 (fun r0 => κ.ret (sx0_st_big_compare_0.build [.int r0])) (κ.ext 0 (sx1_st_big_compare_0.build []))) i
  | _ => false
def anQ92 (N : Nat) : Nat -> Option Ann := fun b_ => cond (b_ == 0) (some ⟨⟨[0, 1, 5], [], []⟩, [(0, ⟨[], [], []⟩)], some ⟨[4], [], []⟩, some (mkHooks [(sh_st_big_compare_0, hk_st_big_compare_0 N)])⟩) (none)
theorem eq_st_big_compare_0 (N : Nat) (κ : K) (x_1 y_1 : List Int) (i : Int) : iter N (fun s k => codeV ⟨Pg, ofList [], isref, N⟩ 0 (anQ92 N) (lp Pg 177 0).2 (lp Pg 177 0).1 s (roundK Pg 0 ((anQ92 N) (lp Pg 177 0).1) κ k)) (sh_st_big_compare_0.build [.ints x_1, .ints y_1, .int i]) = iterG N (stQ157 N x_1 y_1 (fun r0 => κ.ret (sx0_st_big_compare_0.build [.int r0])) (κ.ext 0 (sx1_st_big_compare_0.build []))) i :=
  iter_tr (fun v_ => sh_st_big_compare_0.build [.ints x_1, .ints y_1, .int v_]) (fun v_ K_ => by kernel_rfl) N i
theorem hk1_st_big_compare_0 (N : Nat) : HookFor ⟨Pg, ofList [], isref, N⟩ 0 (anQ92 N) (lp Pg 177 0) (sh_st_big_compare_0, hk_st_big_compare_0 N) := by
  intro a κ h
  simp only at h
  unfold hk_st_big_compare_0 at h
  split at h
  · exact (eq_st_big_compare_0 _ _ _ _ _).trans h
  · cases h
theorem ho_big_compare_0 (N : Nat) : HookOk ⟨Pg, ofList [], isref, N⟩ 0 (anQ92 N) (lp Pg 177 0) :=
  hooks_ok [(sh_st_big_compare_0, hk_st_big_compare_0 N)] (by kernel_rfl) ⟨hk1_st_big_compare_0 _, trivial⟩
theorem eqQ92 (N : Nat) (x y : List Int) (c_ : V -> List Blk -> Bool) : bodyZ ⟨Pg, ofList [], isref, N⟩ (anQ92 N) 177 (shFQ92.args [.ints x, .ints y]) [] c_ = GQ92 N x y (fun r0 => c_ (.int .i64 r0) []) := by kernel_rfl
theorem goodQ92 (N : Nat) : GoodF Pg 177 (FQ92 (GQ92 N)) := by
  refine good_fsZ (cx := ⟨Pg, ofList [], isref, N⟩) (ofList_nil _) shFQ92 (spQ92 (GQ92 N)) (anQ92 N) 1 0 (by kernel_rfl) (fun i_ hi_ => by
    match i_, hi_ with
    | 0, _ => exact ho_big_compare_0 _
    | (q + 1), h => omega) ?_
  intro a k h
  unfold spQ92 at h
  split at h
  · exact ⟨[], rfl, rfl, (eqQ92 _ _ _ _).trans h⟩
  · cases h


def sh_st_big_less_0 : StSh := ⟨(.roi .u64 :: (.roi .u64 :: (.any :: (.any :: (.any :: (.slw 0 :: (.int .u64 :: (sqs 5 (.int .i64 :: (.int .i64 :: (sqs 20 []))))))))))), [some (22, 1, .ints .u64)]⟩
def sx0_st_big_less_0 : StSh := ⟨(sqs 5 (.slw 0 :: (sqs 28 []))), [some (22, 1, .ints .u64)]⟩
def hk_st_big_less_0 (N : Nat) (SQ13 : TSQ13) (SQ78 : TSQ78) (SQ1 : TSQ1) : List Atom -> K -> Bool := fun a_ κ => match a_ with
  | [.ints x_1, .ints y_1, .int borrow, .int t12, .int t13, .ints z] => iterG N (st_big_less_0 N SQ13 SQ78 SQ1 x_1 y_1 t12 (fun r0 => κ.ext 0 (sx0_st_big_less_0.build [.ints r0]))) (borrow, t13, z)
  | _ => false
def anQ123 (N : Nat) (SQ13 : TSQ13) (SQ78 : TSQ78) (SQ1 : TSQ1) : Nat -> Option Ann := fun b_ => cond (b_ == 0) (some ⟨⟨[0, 1, 5, 6, 12, 13], [], []⟩, [(0, ⟨[5], [], []⟩)], some ⟨[4], [], []⟩, some (mkHooks [(sh_st_big_less_0, hk_st_big_less_0 N SQ13 SQ78 SQ1)])⟩) (none)
theorem eq_st_big_less_0 (N : Nat) (SQ13 : TSQ13) (SQ78 : TSQ78) (SQ1 : TSQ1) (κ : K) (x_1 y_1 : List Int) (borrow t12 t13 : Int) (z : List Int) : iter N (fun s k => codeV ⟨Pg, ofList [(170, (FQ13 SQ13)), (191, (FQ78 SQ78)), (167, (FQ1 SQ1))], isref, N⟩ 0 (anQ123 N SQ13 SQ78 SQ1) (lp Pg 178 0).2 (lp Pg 178 0).1 s (roundK Pg 0 ((anQ123 N SQ13 SQ78 SQ1) (lp Pg 178 0).1) κ k)) (sh_st_big_less_0.build [.ints x_1, .ints y_1, .int borrow, .int t12, .int t13, .ints z]) = iterG N (st_big_less_0 N SQ13 SQ78 SQ1 x_1 y_1 t12 (fun r0 => κ.ext 0 (sx0_st_big_less_0.build [.ints r0]))) (borrow, t13, z) :=
  iter_tr (fun (v_ : Int × Int × List Int) => sh_st_big_less_0.build [.ints x_1, .ints y_1, .int v_.1, .int t12, .int v_.2.1, .ints v_.2.2]) (fun v_ K_ => by obtain ⟨borrow, t13, z⟩ := v_; kernel_rfl) N (borrow, t13, z)
theorem hk1_st_big_less_0 (N : Nat) (SQ13 : TSQ13) (SQ78 : TSQ78) (SQ1 : TSQ1) : HookFor ⟨Pg, ofList [(170, (FQ13 SQ13)), (191, (FQ78 SQ78)), (167, (FQ1 SQ1))], isref, N⟩ 0 (anQ123 N SQ13 SQ78 SQ1) (lp Pg 178 0) (sh_st_big_less_0, hk_st_big_less_0 N SQ13 SQ78 SQ1) := by
  intro a κ h
  simp only at h
  unfold hk_st_big_less_0 at h
  split at h
  · exact (eq_st_big_less_0 _ _ _ _ _ _ _ _ _ _ _).trans h
  · cases h
theorem ho_big_less_0 (N : Nat) (SQ13 : TSQ13) (SQ78 : TSQ78) (SQ1 : TSQ1) : HookOk ⟨Pg, ofList [(170, (FQ13 SQ13)), (191, (FQ78 SQ78)), (167, (FQ1 SQ1))], isref, N⟩ 0 (anQ123 N SQ13 SQ78 SQ1) (lp Pg 178 0) :=
  hooks_ok [(sh_st_big_less_0, hk_st_big_less_0 N SQ13 SQ78 SQ1)] (by kernel_rfl) ⟨hk1_st_big_less_0 _ _ _ _, trivial⟩
theorem eqQ123 (N : Nat) (SQ13 : TSQ13) (SQ78 : TSQ78) (SQ1 : TSQ1) (x y : List Int) (c_ : V -> List Blk -> Bool) : bodyZ ⟨Pg, ofList [(170, (FQ13 SQ13)), (191, (FQ78 SQ78)), (167, (FQ1 SQ1))], isref, N⟩ (anQ123 N SQ13 SQ78 SQ1) 178 (shFQ123.args [.ints x, .ints y]) [] c_ = GQ123 N SQ13 SQ78 SQ1 x y (fun r0 => c_ (.roi .u64 r0) []) := by kernel_rfl
theorem goodQ123 (N : Nat) (SQ13 : TSQ13) (SQ78 : TSQ78) (SQ1 : TSQ1) (hQ13 : GoodF Pg 170 (FQ13 SQ13)) (hQ78 : GoodF Pg 191 (FQ78 SQ78)) (hQ1 : GoodF Pg 167 (FQ1 SQ1)) : GoodF Pg 178 (FQ123 (GQ123 N SQ13 SQ78 SQ1)) := by
  refine good_fsZ (cx := ⟨Pg, ofList [(170, (FQ13 SQ13)), (191, (FQ78 SQ78)), (167, (FQ1 SQ1))], isref, N⟩) (ofList_cons hQ13 (ofList_cons hQ78 (ofList_cons hQ1 (ofList_nil _)))) shFQ123 (spQ123 (GQ123 N SQ13 SQ78 SQ1)) (anQ123 N SQ13 SQ78 SQ1) 1 0 (by kernel_rfl) (fun i_ hi_ => by
    match i_, hi_ with
    | 0, _ => exact ho_big_less_0 _ _ _ _
    | (q + 1), h => omega) ?_
  intro a k h
  unfold spQ123 at h
  split at h
  · exact ⟨[], rfl, rfl, (eqQ123 _ _ _ _ _ _ _).trans h⟩
  · cases h

def anQ54 (N : Nat) (SQ119 : TSQ119) (SQ0 : TSQ0) (SQ92 : TSQ92) (SQ123 : TSQ123) : Nat -> Option Ann := fun b_ => none
theorem eqQ54 (N : Nat) (SQ119 : TSQ119) (SQ0 : TSQ0) (SQ92 : TSQ92) (SQ123 : TSQ123) (neg : Bool) (y : List Int) (b b_1 : Bool) (b_2 : List Int) (c_ : V -> List Blk -> Bool) : bodyZ ⟨Pg, ofList [(166, (FQ119 SQ119)), (139, (FQ0 SQ0)), (177, (FQ92 SQ92)), (178, (FQ123 SQ123))], isref, N⟩ (anQ54 N SQ119 SQ0 SQ92 SQ123) 156 (shFQ54.args [.bool neg, .ints y, .bool b, .bool b_1, .ints b_2]) [⟨126, 1, .cells [.bool b, .nil]⟩, ⟨126, 1, .cells [.bool b_1, .roi .u64 b_2]⟩] c_ = GQ54 N SQ119 SQ0 SQ92 SQ123 neg y b b_1 b_2 (fun r0 r1 => c_ (.ptr 0 0) [⟨126, 1, .cells [.bool r0, .roi .u64 r1]⟩, ⟨126, 1, .cells [.bool b_1, .roi .u64 b_2]⟩]) := by kernel_rfl
theorem goodQ54 (N : Nat) (SQ119 : TSQ119) (SQ0 : TSQ0) (SQ92 : TSQ92) (SQ123 : TSQ123) (hQ119 : GoodF Pg 166 (FQ119 SQ119)) (hQ0 : GoodF Pg 139 (FQ0 SQ0)) (hQ92 : GoodF Pg 177 (FQ92 SQ92)) (hQ123 : GoodF Pg 178 (FQ123 SQ123)) : GoodF Pg 156 (FQ54 (GQ54 N SQ119 SQ0 SQ92 SQ123)) := by
  refine good_fsZ (cx := ⟨Pg, ofList [(166, (FQ119 SQ119)), (139, (FQ0 SQ0)), (177, (FQ92 SQ92)), (178, (FQ123 SQ123))], isref, N⟩) (ofList_cons hQ119 (ofList_cons hQ0 (ofList_cons hQ92 (ofList_cons hQ123 (ofList_nil _))))) shFQ54 (spQ54 (GQ54 N SQ119 SQ0 SQ92 SQ123)) (anQ54 N SQ119 SQ0 SQ92 SQ123) 0 2 (by kernel_rfl) (fun i_ hi_ => by omega) ?_
  intro a k h
  unfold spQ54 at h
  split at h
  · exact ⟨[_, _], rfl, rfl, (eqQ54 _ _ _ _ _ _ _ _ _ _ _).trans h⟩
  · cases h

def anQ22 (N : Nat) (SQ54 : TSQ54) : Nat -> Option Ann := fun b_ => none
theorem eqQ22 (N : Nat) (SQ54 : TSQ54) (b b_1 : Bool) (b_2 : List Int) (b_3 : Bool) (b_4 : List Int) (c_ : V -> List Blk -> Bool) : bodyZ ⟨Pg, ofList [(156, (FQ54 SQ54))], isref, N⟩ (anQ22 N SQ54) 127 (shFQ22.args [.bool b, .bool b_1, .ints b_2, .bool b_3, .ints b_4]) [⟨126, 1, .cells [.bool b, .nil]⟩, ⟨126, 1, .cells [.bool b_1, .roi .u64 b_2]⟩, ⟨126, 1, .cells [.bool b_3, .roi .u64 b_4]⟩] c_ = GQ22 N SQ54 b b_1 b_2 b_3 b_4 (fun r0 r1 => c_ (.ptr 0 0) [⟨126, 1, .cells [.bool r0, .roi .u64 r1]⟩, ⟨126, 1, .cells [.bool b_1, .roi .u64 b_2]⟩, ⟨126, 1, .cells [.bool b_3, .roi .u64 b_4]⟩]) := by kernel_rfl
theorem goodQ22 (N : Nat) (SQ54 : TSQ54) (hQ54 : GoodF Pg 156 (FQ54 SQ54)) : GoodF Pg 127 (FQ22 (GQ22 N SQ54)) := by
  refine good_fsZ (cx := ⟨Pg, ofList [(156, (FQ54 SQ54))], isref, N⟩) (ofList_cons hQ54 (ofList_nil _)) shFQ22 (spQ22 (GQ22 N SQ54)) (anQ22 N SQ54) 0 3 (by kernel_rfl) (fun i_ hi_ => by omega) ?_
  intro a k h
  unfold spQ22 at h
  split at h
  · exact ⟨[_, _, _], rfl, rfl, (eqQ22 _ _ _ _ _ _ _ _).trans h⟩
  · cases h

def anQ14 (N : Nat) (SQ67 : TSQ67) (SQ4 : TSQ4) (SQ28 : TSQ28) (SQ22 : TSQ22) : Nat -> Option Ann := fun b_ => none
theorem eqQ14 (N : Nat) (SQ67 : TSQ67) (SQ4 : TSQ4) (SQ28 : TSQ28) (SQ22 : TSQ22) (x y : Int) (b b_1 : Bool) (b_2 : List Int) (c_ : V -> List Blk -> Bool) : bodyV ⟨Pg, ofList [(94, (orFs (FQ67 SQ67) (FQ4 SQ4) shFQ67)), (128, (FQ28 SQ28)), (127, (FQ22 SQ22))], isref, N⟩ (anQ14 N SQ67 SQ4 SQ28 SQ22) 85 (shFQ14.args [.int x, .int y, .bool b, .bool b_1, .ints b_2]) [⟨126, 1, .cells [.bool b, .nil]⟩, ⟨126, 1, .cells [.bool b_1, .roi .u64 b_2]⟩] c_ = GQ14 N SQ67 SQ4 SQ28 SQ22 x y b b_1 b_2 (fun r2 => c_ (.agg [.ptr 1 0, .int .i64 y]) [⟨126, 1, .cells [.bool b, .roi .u64 r2]⟩, ⟨126, 1, .cells [.bool b_1, .roi .u64 b_2]⟩]) (fun r2 => c_ (.agg [.ptr 0 0, .int .i64 x]) [⟨126, 1, .cells [.bool b, .roi .u64 r2]⟩, ⟨126, 1, .cells [.bool b_1, .roi .u64 b_2]⟩]) (fun r0 r2 r5 r6 => c_ (.agg [.ptr 2 0, .int .i64 r0]) [⟨126, 1, .cells [.bool b, .roi .u64 r2]⟩, ⟨126, 1, .cells [.bool b_1, .roi .u64 b_2]⟩, ⟨126, 1, .cells [.bool r5, .roi .u64 r6]⟩]) := by kernel_rfl
theorem goodQ14 (N : Nat) (SQ67 : TSQ67) (SQ4 : TSQ4) (SQ28 : TSQ28) (SQ22 : TSQ22) (hQ67 : GoodF Pg 94 (FQ67 SQ67)) (hQ4 : GoodF Pg 94 (FQ4 SQ4)) (hQ28 : GoodF Pg 128 (FQ28 SQ28)) (hQ22 : GoodF Pg 127 (FQ22 SQ22)) : GoodF Pg 85 (FQ14 (GQ14 N SQ67 SQ4 SQ28 SQ22)) := by
  refine good_fs (cx := ⟨Pg, ofList [(94, (orFs (FQ67 SQ67) (FQ4 SQ4) shFQ67)), (128, (FQ28 SQ28)), (127, (FQ22 SQ22))], isref, N⟩) (ofList_cons (good_or hQ67 hQ4) (ofList_cons hQ28 (ofList_cons hQ22 (ofList_nil _)))) shFQ14 (spQ14 (GQ14 N SQ67 SQ4 SQ28 SQ22)) (anQ14 N SQ67 SQ4 SQ28 SQ22) 0 2 (by kernel_rfl) (fun i_ hi_ => by omega) ?_
  intro a k h
  unfold spQ14 at h
  split at h
  · exact ⟨[_, _], rfl, rfl, (eqQ14 _ _ _ _ _ _ _ _ _ _ _).trans h⟩
  · cases h

def anQ5 (N : Nat) (SQ4 : TSQ4) (SQ28 : TSQ28) (SQ22 : TSQ22) : Nat -> Option Ann := fun b_ => none
theorem eqQ5 (N : Nat) (SQ4 : TSQ4) (SQ28 : TSQ28) (SQ22 : TSQ22) (x y : Int) (b : Bool) (b_1 : List Int) (b_2 : Bool) (b_3 : List Int) (c_ : V -> List Blk -> Bool) : bodyV ⟨Pg, ofList [(94, (FQ4 SQ4)), (128, (FQ28 SQ28)), (127, (FQ22 SQ22))], isref, N⟩ (anQ5 N SQ4 SQ28 SQ22) 85 (shFQ5.args [.int x, .int y, .bool b, .ints b_1, .bool b_2, .ints b_3]) [⟨126, 1, .cells [.bool b, .roi .u64 b_1]⟩, ⟨126, 1, .cells [.bool b_2, .roi .u64 b_3]⟩] c_ = GQ5 N SQ4 SQ28 SQ22 x y b b_1 b_2 b_3 (c_ (.agg [.ptr 1 0, .int .i64 y]) [⟨126, 1, .cells [.bool b, .roi .u64 b_1]⟩, ⟨126, 1, .cells [.bool b_2, .roi .u64 b_3]⟩]) (c_ (.agg [.ptr 0 0, .int .i64 x]) [⟨126, 1, .cells [.bool b, .roi .u64 b_1]⟩, ⟨126, 1, .cells [.bool b_2, .roi .u64 b_3]⟩]) (fun r0 r5 r6 => c_ (.agg [.ptr 2 0, .int .i64 r0]) [⟨126, 1, .cells [.bool b, .roi .u64 b_1]⟩, ⟨126, 1, .cells [.bool b_2, .roi .u64 b_3]⟩, ⟨126, 1, .cells [.bool r5, .roi .u64 r6]⟩]) := by kernel_rfl
theorem goodQ5 (N : Nat) (SQ4 : TSQ4) (SQ28 : TSQ28) (SQ22 : TSQ22) (hQ4 : GoodF Pg 94 (FQ4 SQ4)) (hQ28 : GoodF Pg 128 (FQ28 SQ28)) (hQ22 : GoodF Pg 127 (FQ22 SQ22)) : GoodF Pg 85 (FQ5 (GQ5 N SQ4 SQ28 SQ22)) := by
  refine good_fs (cx := ⟨Pg, ofList [(94, (FQ4 SQ4)), (128, (FQ28 SQ28)), (127, (FQ22 SQ22))], isref, N⟩) (ofList_cons hQ4 (ofList_cons hQ28 (ofList_cons hQ22 (ofList_nil _)))) shFQ5 (spQ5 (GQ5 N SQ4 SQ28 SQ22)) (anQ5 N SQ4 SQ28 SQ22) 0 2 (by kernel_rfl) (fun i_ hi_ => by omega) ?_
  intro a k h
  unfold spQ5 at h
  split at h
  · exact ⟨[_, _], rfl, rfl, (eqQ5 _ _ _ _ _ _ _ _ _ _ _).trans h⟩
  · cases h

def anQ29 (N : Nat) (SQ63 : TSQ63) (SQ0 : TSQ0) : Nat -> Option Ann := fun b_ => none
theorem eqQ29 (N : Nat) (SQ63 : TSQ63) (SQ0 : TSQ0) (b b_1 : Bool) (b_2 : List Int) (c_ : V -> List Blk -> Bool) : bodyZ ⟨Pg, ofList [(140, (FQ63 SQ63)), (139, (FQ0 SQ0))], isref, N⟩ (anQ29 N SQ63 SQ0) 160 (shFQ29.args [.bool b, .bool b_1, .ints b_2]) [⟨126, 1, .cells [.bool b, .nil]⟩, ⟨126, 1, .cells [.bool b_1, .roi .u64 b_2]⟩] c_ = GQ29 N SQ63 SQ0 b b_1 b_2 (fun r0 r1 => c_ (.ptr 0 0) [⟨126, 1, .cells [.bool r0, .roi .u64 r1]⟩, ⟨126, 1, .cells [.bool b_1, .roi .u64 b_2]⟩]) := by kernel_rfl
theorem goodQ29 (N : Nat) (SQ63 : TSQ63) (SQ0 : TSQ0) (hQ63 : GoodF Pg 140 (FQ63 SQ63)) (hQ0 : GoodF Pg 139 (FQ0 SQ0)) : GoodF Pg 160 (FQ29 (GQ29 N SQ63 SQ0)) := by
  refine good_fsZ (cx := ⟨Pg, ofList [(140, (FQ63 SQ63)), (139, (FQ0 SQ0))], isref, N⟩) (ofList_cons hQ63 (ofList_cons hQ0 (ofList_nil _))) shFQ29 (spQ29 (GQ29 N SQ63 SQ0)) (anQ29 N SQ63 SQ0) 0 2 (by kernel_rfl) (fun i_ hi_ => by omega) ?_
  intro a k h
  unfold spQ29 at h
  split at h
  · exact ⟨[_, _], rfl, rfl, (eqQ29 _ _ _ _ _ _ _).trans h⟩
  · cases h

def anQ48 (N : Nat) (SQ13 : TSQ13) : Nat -> Option Ann := fun b_ => none
theorem eqQ48 (N : Nat) (SQ13 : TSQ13) (i : Int) (b : Bool) (b_1 : List Int) (c_ : V -> List Blk -> Bool) : bodyZ ⟨Pg, ofList [(170, (FQ13 SQ13))], isref, N⟩ (anQ48 N SQ13) 161 (shFQ48.args [.int i, .bool b, .ints b_1]) [⟨126, 1, .cells [.bool b, .roi .u64 b_1]⟩] c_ = GQ48 N SQ13 i b b_1 (fun r0 => c_ (.int .u64 r0) [⟨126, 1, .cells [.bool b, .roi .u64 b_1]⟩]) := by kernel_rfl
theorem goodQ48 (N : Nat) (SQ13 : TSQ13) (hQ13 : GoodF Pg 170 (FQ13 SQ13)) : GoodF Pg 161 (FQ48 (GQ48 N SQ13)) := by
  refine good_fsZ (cx := ⟨Pg, ofList [(170, (FQ13 SQ13))], isref, N⟩) (ofList_cons hQ13 (ofList_nil _)) shFQ48 (spQ48 (GQ48 N SQ13)) (anQ48 N SQ13) 0 1 (by kernel_rfl) (fun i_ hi_ => by omega) ?_
  intro a k h
  unfold spQ48 at h
  split at h
  · exact ⟨[_], rfl, rfl, (eqQ48 _ _ _ _ _ _).trans h⟩
  · cases h

def sh_st_big_Int_TrailingZeroBits_p0r_0 : StSh := ⟨(sqs 8 (.roi .u64 :: (.int .i64 :: (.int .i64 :: (sqs 13 []))))), [some (126, 1, .cells [.bool, .roi .u64])]⟩
def sx0_st_big_Int_TrailingZeroBits_p0r_0 : StSh := ⟨(.any :: (.any :: (.int .u64 :: (sqs 21 [])))), [some (126, 1, .cells [.bool, .roi .u64])]⟩
def sx1_st_big_Int_TrailingZeroBits_p0r_0 : StSh := ⟨(sqs 24 []), [some (126, 1, .cells [.bool, .roi .u64])]⟩
def hk_st_big_Int_TrailingZeroBits_p0r_0 (N : Nat) (SQ6 : TSQ6) : List Atom -> K -> Bool := fun a_ κ => match a_ with
  | [.ints t8, .int t9, .int t10, .bool b0, .ints b0_1] => iterG N (stQ148 N SQ6 t8 t9 b0 b0_1 (fun r0 => κ.ret (sx0_st_big_Int_TrailingZeroBits_p0r_0.build [.int r0, .bool b0, .ints b0_1])) (κ.ext 0 (sx1_st_big_Int_TrailingZeroBits_p0r_0.build [.bool b0, .ints b0_1]))) t10
  | _ => false
def anQ7 (N : Nat) (SQ6 : TSQ6) : Nat -> Option Ann := fun b_ => cond (b_ == 0) (some ⟨⟨[8, 9, 10], [], []⟩, [(0, ⟨[], [], []⟩)], some ⟨[2], [], []⟩, some (mkHooks [(sh_st_big_Int_TrailingZeroBits_p0r_0, hk_st_big_Int_TrailingZeroBits_p0r_0 N SQ6)])⟩) (none)
theorem eq_st_big_Int_TrailingZeroBits_p0r_0 (N : Nat) (SQ6 : TSQ6) (κ : K) (t8 : List Int) (t9 t10 : Int) (b0 : Bool) (b0_1 : List Int) : iter N (fun s k => codeV ⟨Pg, ofList [(180, (FQ6 SQ6))], isref, N⟩ 1 (anQ7 N SQ6) (lp Pg 162 0).2 (lp Pg 162 0).1 s (roundK Pg 1 ((anQ7 N SQ6) (lp Pg 162 0).1) κ k)) (sh_st_big_Int_TrailingZeroBits_p0r_0.build [.ints t8, .int t9, .int t10, .bool b0, .ints b0_1]) = iterG N (stQ148 N SQ6 t8 t9 b0 b0_1 (fun r0 => κ.ret (sx0_st_big_Int_TrailingZeroBits_p0r_0.build [.int r0, .bool b0, .ints b0_1])) (κ.ext 0 (sx1_st_big_Int_TrailingZeroBits_p0r_0.build [.bool b0, .ints b0_1]))) t10 :=
  iter_tr (fun v_ => sh_st_big_Int_TrailingZeroBits_p0r_0.build [.ints t8, .int t9, .int v_, .bool b0, .ints b0_1]) (fun v_ K_ => by kernel_rfl) N t10
theorem hk1_st_big_Int_TrailingZeroBits_p0r_0 (N : Nat) (SQ6 : TSQ6) : HookFor ⟨Pg, ofList [(180, (FQ6 SQ6))], isref, N⟩ 1 (anQ7 N SQ6) (lp Pg 162 0) (sh_st_big_Int_TrailingZeroBits_p0r_0, hk_st_big_Int_TrailingZeroBits_p0r_0 N SQ6) := by
  intro a κ h
  simp only at h
  unfold hk_st_big_Int_TrailingZeroBits_p0r_0 at h
  split at h
  · exact (eq_st_big_Int_TrailingZeroBits_p0r_0 _ _ _ _ _ _ _ _).trans h
  · cases h
theorem ho_big_Int_TrailingZeroBits_p0r_0 (N : Nat) (SQ6 : TSQ6) : HookOk ⟨Pg, ofList [(180, (FQ6 SQ6))], isref, N⟩ 1 (anQ7 N SQ6) (lp Pg 162 0) :=
  hooks_ok [(sh_st_big_Int_TrailingZeroBits_p0r_0, hk_st_big_Int_TrailingZeroBits_p0r_0 N SQ6)] (by kernel_rfl) ⟨hk1_st_big_Int_TrailingZeroBits_p0r_0 _ _, trivial⟩
theorem eqQ7 (N : Nat) (SQ6 : TSQ6) (b : Bool) (b_1 : List Int) (c_ : V -> List Blk -> Bool) : bodyZ ⟨Pg, ofList [(180, (FQ6 SQ6))], isref, N⟩ (anQ7 N SQ6) 162 (shFQ7.args [.bool b, .ints b_1]) [⟨126, 1, .cells [.bool b, .roi .u64 b_1]⟩] c_ = GQ7 N SQ6 b b_1 (fun r0 => c_ (.int .u64 r0) [⟨126, 1, .cells [.bool b, .roi .u64 b_1]⟩]) := by kernel_rfl
theorem goodQ7 (N : Nat) (SQ6 : TSQ6) (hQ6 : GoodF Pg 180 (FQ6 SQ6)) : GoodF Pg 162 (FQ7 (GQ7 N SQ6)) := by
  refine good_fsZ (cx := ⟨Pg, ofList [(180, (FQ6 SQ6))], isref, N⟩) (ofList_cons hQ6 (ofList_nil _)) shFQ7 (spQ7 (GQ7 N SQ6)) (anQ7 N SQ6) 1 1 (by kernel_rfl) (fun i_ hi_ => by
    match i_, hi_ with
    | 0, _ => exact ho_big_Int_TrailingZeroBits_p0r_0 _ _
    | (q + 1), h => omega) ?_
  intro a k h
  unfold spQ7 at h
  split at h
  · exact ⟨[_], rfl, rfl, (eqQ7 _ _ _ _ _).trans h⟩
  · cases h

def sh_st_big_right_0 : StSh := ⟨(.roi .u64 :: (sqs 5 (.int .i64 :: (.int .u64 :: (.int .u64 :: (sqs 28 (.roi .u64 :: (.int .i64 :: (.int .i64 :: (sqs 42 [])))))))))), []⟩
def sx0_st_big_right_0 : StSh := ⟨(.roi .u64 :: (sqs 5 (.int .i64 :: (.int .u64 :: (.int .u64 :: (sqs 73 [])))))), []⟩
def hk_st_big_right_0 (N : Nat) (SQ13 : TSQ13) (SQ1 : TSQ1) : List Atom -> K -> Bool := fun a_ κ => match a_ with
  | [.ints x_1, .int words, .int rest, .int lost, .ints t37, .int t38, .int t39] => iterG N (st_big_right_0 N SQ13 SQ1 x_1 words rest t37 t38 (fun r3 => κ.ext 0 (sx0_st_big_right_0.build [.ints x_1, .int words, .int rest, .int r3]))) (lost, t39)
  | _ => false
def sh_st_big_right_2 : StSh := ⟨(.roi .u64 :: (sqs 5 (.int .i64 :: (.int .u64 :: (.int .u64 :: (.any :: (.any :: (.slw 0 :: (sqs 41 (.int .i64 :: (.int .i64 :: (sqs 27 [])))))))))))), [some (22, 1, .ints .u64)]⟩
def sx0_st_big_right_2 : StSh := ⟨(sqs 8 (.int .u64 :: (.any :: (.any :: (.slw 0 :: (sqs 70 [])))))), [some (22, 1, .ints .u64)]⟩
def hk_st_big_right_2 (N : Nat) (SQ13 : TSQ13) (SQ1 : TSQ1) : List Atom -> K -> Bool := fun a_ κ => match a_ with
  | [.ints x_2, .int words_1, .int rest_1, .int lost_2, .int t53, .int t54, .ints z] => iterG N (st_big_right_2 N SQ13 SQ1 x_2 words_1 rest_1 lost_2 t53 (fun r1 => κ.ext 2 (sx0_st_big_right_2.build [.int lost_2, .ints r1]))) (t54, z)
  | _ => false
def anQ108 (N : Nat) (SQ13 : TSQ13) (SQ1 : TSQ1) : Nat -> Option Ann := fun b_ => cond (b_ == 0) (some ⟨⟨[0, 6, 7, 8, 37, 38, 39], [], []⟩, [(0, ⟨[0, 6, 7, 8], [], []⟩)], some ⟨[4, 5], [], []⟩, some (mkHooks [(sh_st_big_right_0, hk_st_big_right_0 N SQ13 SQ1)])⟩) (cond (b_ == 2) (some ⟨⟨[0, 6, 7, 8, 11, 53, 54], [], []⟩, [(2, ⟨[8, 11], [], []⟩)], some ⟨[4, 5], [], []⟩, some (mkHooks [(sh_st_big_right_2, hk_st_big_right_2 N SQ13 SQ1)])⟩) (none))
theorem eq_st_big_right_0 (N : Nat) (SQ13 : TSQ13) (SQ1 : TSQ1) (κ : K) (x_1 : List Int) (words rest lost : Int) (t37 : List Int) (t38 t39 : Int) : iter N (fun s k => codeV ⟨Pg, ofList [(170, (FQ13 SQ13)), (167, (FQ1 SQ1))], isref, N⟩ 0 (anQ108 N SQ13 SQ1) (lp Pg 165 0).2 (lp Pg 165 0).1 s (roundK Pg 0 ((anQ108 N SQ13 SQ1) (lp Pg 165 0).1) κ k)) (sh_st_big_right_0.build [.ints x_1, .int words, .int rest, .int lost, .ints t37, .int t38, .int t39]) = iterG N (st_big_right_0 N SQ13 SQ1 x_1 words rest t37 t38 (fun r3 => κ.ext 0 (sx0_st_big_right_0.build [.ints x_1, .int words, .int rest, .int r3]))) (lost, t39) :=
  iter_tr (fun (v_ : Int × Int) => sh_st_big_right_0.build [.ints x_1, .int words, .int rest, .int v_.1, .ints t37, .int t38, .int v_.2]) (fun v_ K_ => by obtain ⟨lost, t39⟩ := v_; kernel_rfl) N (lost, t39)
theorem hk1_st_big_right_0 (N : Nat) (SQ13 : TSQ13) (SQ1 : TSQ1) : HookFor ⟨Pg, ofList [(170, (FQ13 SQ13)), (167, (FQ1 SQ1))], isref, N⟩ 0 (anQ108 N SQ13 SQ1) (lp Pg 165 0) (sh_st_big_right_0, hk_st_big_right_0 N SQ13 SQ1) := by
  intro a κ h
  simp only at h
  unfold hk_st_big_right_0 at h
  split at h
  · exact (eq_st_big_right_0 _ _ _ _ _ _ _ _ _ _ _).trans h
  · cases h
theorem eq_st_big_right_2 (N : Nat) (SQ13 : TSQ13) (SQ1 : TSQ1) (κ : K) (x_2 : List Int) (words_1 rest_1 lost_2 t53 t54 : Int) (z : List Int) : iter N (fun s k => codeV ⟨Pg, ofList [(170, (FQ13 SQ13)), (167, (FQ1 SQ1))], isref, N⟩ 0 (anQ108 N SQ13 SQ1) (lp Pg 165 1).2 (lp Pg 165 1).1 s (roundK Pg 0 ((anQ108 N SQ13 SQ1) (lp Pg 165 1).1) κ k)) (sh_st_big_right_2.build [.ints x_2, .int words_1, .int rest_1, .int lost_2, .int t53, .int t54, .ints z]) = iterG N (st_big_right_2 N SQ13 SQ1 x_2 words_1 rest_1 lost_2 t53 (fun r1 => κ.ext 2 (sx0_st_big_right_2.build [.int lost_2, .ints r1]))) (t54, z) :=
  iter_tr (fun (v_ : Int × List Int) => sh_st_big_right_2.build [.ints x_2, .int words_1, .int rest_1, .int lost_2, .int t53, .int v_.1, .ints v_.2]) (fun v_ K_ => by obtain ⟨t54, z⟩ := v_; kernel_rfl) N (t54, z)
theorem hk1_st_big_right_2 (N : Nat) (SQ13 : TSQ13) (SQ1 : TSQ1) : HookFor ⟨Pg, ofList [(170, (FQ13 SQ13)), (167, (FQ1 SQ1))], isref, N⟩ 0 (anQ108 N SQ13 SQ1) (lp Pg 165 1) (sh_st_big_right_2, hk_st_big_right_2 N SQ13 SQ1) := by
  intro a κ h
  simp only at h
  unfold hk_st_big_right_2 at h
  split at h
  · exact (eq_st_big_right_2 _ _ _ _ _ _ _ _ _ _ _).trans h
  · cases h
theorem ho_big_right_0 (N : Nat) (SQ13 : TSQ13) (SQ1 : TSQ1) : HookOk ⟨Pg, ofList [(170, (FQ13 SQ13)), (167, (FQ1 SQ1))], isref, N⟩ 0 (anQ108 N SQ13 SQ1) (lp Pg 165 0) :=
  hooks_ok [(sh_st_big_right_0, hk_st_big_right_0 N SQ13 SQ1)] (by kernel_rfl) ⟨hk1_st_big_right_0 _ _ _, trivial⟩
theorem ho_big_right_2 (N : Nat) (SQ13 : TSQ13) (SQ1 : TSQ1) : HookOk ⟨Pg, ofList [(170, (FQ13 SQ13)), (167, (FQ1 SQ1))], isref, N⟩ 0 (anQ108 N SQ13 SQ1) (lp Pg 165 1) :=
  hooks_ok [(sh_st_big_right_2, hk_st_big_right_2 N SQ13 SQ1)] (by kernel_rfl) ⟨hk1_st_big_right_2 _ _ _, trivial⟩
theorem eqQ108 (N : Nat) (SQ13 : TSQ13) (SQ1 : TSQ1) (x : List Int) (n : Int) (c_ : V -> List Blk -> Bool) : bodyZ ⟨Pg, ofList [(170, (FQ13 SQ13)), (167, (FQ1 SQ1))], isref, N⟩ (anQ108 N SQ13 SQ1) 165 (shFQ108.args [.ints x, .int n]) [] c_ = GQ108 N SQ13 SQ1 x n (fun r0 r1 => c_ (.tup [.roi .u64 r0, .bool r1]) []) := by kernel_rfl
theorem goodQ108 (N : Nat) (SQ13 : TSQ13) (SQ1 : TSQ1) (hQ13 : GoodF Pg 170 (FQ13 SQ13)) (hQ1 : GoodF Pg 167 (FQ1 SQ1)) : GoodF Pg 165 (FQ108 (GQ108 N SQ13 SQ1)) := by
  refine good_fsZ (cx := ⟨Pg, ofList [(170, (FQ13 SQ13)), (167, (FQ1 SQ1))], isref, N⟩) (ofList_cons hQ13 (ofList_cons hQ1 (ofList_nil _))) shFQ108 (spQ108 (GQ108 N SQ13 SQ1)) (anQ108 N SQ13 SQ1) 2 0 (by kernel_rfl) (fun i_ hi_ => by
    match i_, hi_ with
    | 0, _ => exact ho_big_right_0 _ _ _
    | 1, _ => exact ho_big_right_2 _ _ _
    | (q + 2), h => omega) ?_
  intro a k h
  unfold spQ108 at h
  split at h
  · exact ⟨[], rfl, rfl, (eqQ108 _ _ _ _ _ _).trans h⟩
  · cases h

def anQ11 (N : Nat) (SQ108 : TSQ108) (SQ119 : TSQ119) (SQ27 : TSQ27) : Nat -> Option Ann := fun b_ => none
theorem eqQ11 (N : Nat) (SQ108 : TSQ108) (SQ119 : TSQ119) (SQ27 : TSQ27) (n : Int) (b : Bool) (b_1 : List Int) (c_ : V -> List Blk -> Bool) : bodyZ ⟨Pg, ofList [(165, (FQ108 SQ108)), (166, (FQ119 SQ119)), (139, (FQ27 SQ27))], isref, N⟩ (anQ11 N SQ108 SQ119 SQ27) 136 (shFQ11.args [.int n, .bool b, .ints b_1]) [⟨126, 1, .cells [.bool b, .roi .u64 b_1]⟩] c_ = GQ11 N SQ108 SQ119 SQ27 n b b_1 (fun r0 r1 => c_ (.ptr 0 0) [⟨126, 1, .cells [.bool r0, .roi .u64 r1]⟩]) := by kernel_rfl
theorem goodQ11 (N : Nat) (SQ108 : TSQ108) (SQ119 : TSQ119) (SQ27 : TSQ27) (hQ108 : GoodF Pg 165 (FQ108 SQ108)) (hQ119 : GoodF Pg 166 (FQ119 SQ119)) (hQ27 : GoodF Pg 139 (FQ27 SQ27)) : GoodF Pg 136 (FQ11 (GQ11 N SQ108 SQ119 SQ27)) := by
  refine good_fsZ (cx := ⟨Pg, ofList [(165, (FQ108 SQ108)), (166, (FQ119 SQ119)), (139, (FQ27 SQ27))], isref, N⟩) (ofList_cons hQ108 (ofList_cons hQ119 (ofList_cons hQ27 (ofList_nil _)))) shFQ11 (spQ11 (GQ11 N SQ108 SQ119 SQ27)) (anQ11 N SQ108 SQ119 SQ27) 0 1 (by kernel_rfl) (fun i_ hi_ => by omega) ?_
  intro a k h
  unfold spQ11 at h
  split at h
  · exact ⟨[_], rfl, rfl, (eqQ11 _ _ _ _ _ _ _ _).trans h⟩
  · cases h

def sh_st_v_dyad_exact_halve_p0r_0 : StSh := ⟨(.any :: (.any :: (.ptr 1 0 :: (.ptr 2 0 :: (.int .i64 :: (sqs 28 [])))))), [some (126, 1, .cells [.bool, .roi .u64]), some (128, 1, .cells [.val, .int .i64]), some (126, 1, .cells [.bool, .roi .u64])]⟩
def sx0_st_v_dyad_exact_halve_p0r_0 : StSh := ⟨(.any :: (.any :: (.ptr 1 0 :: (.ptr 2 0 :: (.int .i64 :: (sqs 28 [])))))), [some (126, 1, .cells [.bool, .roi .u64]), some (128, 1, .cells [.val, .int .i64]), some (126, 1, .cells [.bool, .roi .u64])]⟩
def hk_st_v_dyad_exact_halve_p0r_0 (N : Nat) (SQ29 : TSQ29) (SQ4 : TSQ4) (SQ48 : TSQ48) (SQ7 : TSQ7) (SQ11 : TSQ11) : List Atom -> K -> Bool := fun a_ κ => match a_ with
  | [.int e, .bool b0, .ints b0_1, .val t2, .int t2_1, .bool n, .ints n_1] => iterG N (stQ146 N SQ29 SQ4 SQ48 SQ7 SQ11 b0 b0_1 t2 t2_1 (fun r0 r5 r6 => κ.ext 0 (sx0_st_v_dyad_exact_halve_p0r_0.build [.int r0, .bool b0, .ints b0_1, .val t2, .int t2_1, .bool r5, .ints r6]))) (e, n, n_1)
  | _ => false
def anQ15 (N : Nat) (SQ29 : TSQ29) (SQ4 : TSQ4) (SQ48 : TSQ48) (SQ7 : TSQ7) (SQ11 : TSQ11) : Nat -> Option Ann := fun b_ => cond (b_ == 0) (some ⟨⟨[2, 3, 4], [], []⟩, [(0, ⟨[2, 3, 4], [], []⟩)], some ⟨[2], [], []⟩, some (mkHooks [(sh_st_v_dyad_exact_halve_p0r_0, hk_st_v_dyad_exact_halve_p0r_0 N SQ29 SQ4 SQ48 SQ7 SQ11)])⟩) (none)
theorem eq_st_v_dyad_exact_halve_p0r_0 (N : Nat) (SQ29 : TSQ29) (SQ4 : TSQ4) (SQ48 : TSQ48) (SQ7 : TSQ7) (SQ11 : TSQ11) (κ : K) (e : Int) (b0 : Bool) (b0_1 : List Int) (t2 : Value) (t2_1 : Int) (n : Bool) (n_1 : List Int) : iter N (fun s k => codeV ⟨Pg, ofList [(160, (FQ29 SQ29)), (94, (FQ4 SQ4)), (161, (FQ48 SQ48)), (162, (FQ7 SQ7)), (136, (FQ11 SQ11))], isref, N⟩ 1 (anQ15 N SQ29 SQ4 SQ48 SQ7 SQ11) (lp Pg 132 0).2 (lp Pg 132 0).1 s (roundK Pg 1 ((anQ15 N SQ29 SQ4 SQ48 SQ7 SQ11) (lp Pg 132 0).1) κ k)) (sh_st_v_dyad_exact_halve_p0r_0.build [.int e, .bool b0, .ints b0_1, .val t2, .int t2_1, .bool n, .ints n_1]) = iterG N (stQ146 N SQ29 SQ4 SQ48 SQ7 SQ11 b0 b0_1 t2 t2_1 (fun r0 r5 r6 => κ.ext 0 (sx0_st_v_dyad_exact_halve_p0r_0.build [.int r0, .bool b0, .ints b0_1, .val t2, .int t2_1, .bool r5, .ints r6]))) (e, n, n_1) :=
  iter_tr (fun (v_ : Int × Bool × List Int) => sh_st_v_dyad_exact_halve_p0r_0.build [.int v_.1, .bool b0, .ints b0_1, .val t2, .int t2_1, .bool v_.2.1, .ints v_.2.2]) (fun v_ K_ => by obtain ⟨e, n, n_1⟩ := v_; kernel_rfl) N (e, n, n_1)
theorem hk1_st_v_dyad_exact_halve_p0r_0 (N : Nat) (SQ29 : TSQ29) (SQ4 : TSQ4) (SQ48 : TSQ48) (SQ7 : TSQ7) (SQ11 : TSQ11) : HookFor ⟨Pg, ofList [(160, (FQ29 SQ29)), (94, (FQ4 SQ4)), (161, (FQ48 SQ48)), (162, (FQ7 SQ7)), (136, (FQ11 SQ11))], isref, N⟩ 1 (anQ15 N SQ29 SQ4 SQ48 SQ7 SQ11) (lp Pg 132 0) (sh_st_v_dyad_exact_halve_p0r_0, hk_st_v_dyad_exact_halve_p0r_0 N SQ29 SQ4 SQ48 SQ7 SQ11) := by
  intro a κ h
  simp only at h
  unfold hk_st_v_dyad_exact_halve_p0r_0 at h
  split at h
  · exact (eq_st_v_dyad_exact_halve_p0r_0 _ _ _ _ _ _ _ _ _ _ _ _ _ _).trans h
  · cases h
theorem ho_v_dyad_exact_halve_p0r_0 (N : Nat) (SQ29 : TSQ29) (SQ4 : TSQ4) (SQ48 : TSQ48) (SQ7 : TSQ7) (SQ11 : TSQ11) : HookOk ⟨Pg, ofList [(160, (FQ29 SQ29)), (94, (FQ4 SQ4)), (161, (FQ48 SQ48)), (162, (FQ7 SQ7)), (136, (FQ11 SQ11))], isref, N⟩ 1 (anQ15 N SQ29 SQ4 SQ48 SQ7 SQ11) (lp Pg 132 0) :=
  hooks_ok [(sh_st_v_dyad_exact_halve_p0r_0, hk_st_v_dyad_exact_halve_p0r_0 N SQ29 SQ4 SQ48 SQ7 SQ11)] (by kernel_rfl) ⟨hk1_st_v_dyad_exact_halve_p0r_0 _ _ _ _ _ _, trivial⟩
theorem eqQ15 (N : Nat) (SQ29 : TSQ29) (SQ4 : TSQ4) (SQ48 : TSQ48) (SQ7 : TSQ7) (SQ11 : TSQ11) (x : Int) (b : Bool) (b_1 : List Int) (c_ : V -> List Blk -> Bool) : bodyV ⟨Pg, ofList [(160, (FQ29 SQ29)), (94, (FQ4 SQ4)), (161, (FQ48 SQ48)), (162, (FQ7 SQ7)), (136, (FQ11 SQ11))], isref, N⟩ (anQ15 N SQ29 SQ4 SQ48 SQ7 SQ11) 132 (shFQ15.args [.int x, .bool b, .ints b_1]) [⟨126, 1, .cells [.bool b, .roi .u64 b_1]⟩] c_ = GQ15 N SQ29 SQ4 SQ48 SQ7 SQ11 x b b_1 (fun r0 r3 r4 => c_ (.agg [.ptr 1 0, .int .i64 r0]) [⟨126, 1, .cells [.bool b, .roi .u64 b_1]⟩, ⟨126, 1, .cells [.bool r3, .roi .u64 r4]⟩]) := by kernel_rfl
theorem goodQ15 (N : Nat) (SQ29 : TSQ29) (SQ4 : TSQ4) (SQ48 : TSQ48) (SQ7 : TSQ7) (SQ11 : TSQ11) (hQ29 : GoodF Pg 160 (FQ29 SQ29)) (hQ4 : GoodF Pg 94 (FQ4 SQ4)) (hQ48 : GoodF Pg 161 (FQ48 SQ48)) (hQ7 : GoodF Pg 162 (FQ7 SQ7)) (hQ11 : GoodF Pg 136 (FQ11 SQ11)) : GoodF Pg 132 (FQ15 (GQ15 N SQ29 SQ4 SQ48 SQ7 SQ11)) := by
  refine good_fs (cx := ⟨Pg, ofList [(160, (FQ29 SQ29)), (94, (FQ4 SQ4)), (161, (FQ48 SQ48)), (162, (FQ7 SQ7)), (136, (FQ11 SQ11))], isref, N⟩) (ofList_cons hQ29 (ofList_cons hQ4 (ofList_cons hQ48 (ofList_cons hQ7 (ofList_cons hQ11 (ofList_nil _)))))) shFQ15 (spQ15 (GQ15 N SQ29 SQ4 SQ48 SQ7 SQ11)) (anQ15 N SQ29 SQ4 SQ48 SQ7 SQ11) 1 1 (by kernel_rfl) (fun i_ hi_ => by
    match i_, hi_ with
    | 0, _ => exact ho_v_dyad_exact_halve_p0r_0 _ _ _ _ _ _
    | (q + 1), h => omega) ?_
  intro a k h
  unfold spQ15 at h
  split at h
  · exact ⟨[_], rfl, rfl, (eqQ15 _ _ _ _ _ _ _ _ _ _).trans h⟩
  · cases h

def anQ77 (N : Nat) : Nat -> Option Ann := fun b_ => none
def lsQ149 (d_ : List V) (u_ : List (Option Blk)) (x x_2 n_1 : Int) : St := ⟨(.int .u64 x_2 :: ((dq d_ 0) :: (.int .i64 n_1 :: (dqs d_ 1 22 [])))), []⟩
def lsQ147 (d_ : List V) (u_ : List (Option Blk)) (x x_1 n : Int) : St := ⟨(.int .u64 x_1 :: ((dq d_ 0) :: (.int .i64 n :: (dqs d_ 1 22 [])))), []⟩
theorem jnQ149 (N : Nat) (d_ : List V) (u_ : List (Option Blk)) (x x_2 n_1 : Int) (c_ : V -> List Blk -> Bool) : codesV ⟨Pg, ofList [], isref, N⟩ 0 (anQ77 N) ((cds Pg 182).drop 5) 0 (lsQ149 d_ u_ x x_2 n_1) (finV Pg 182 0 c_) = JQ149 N x x_2 n_1 (fun r0 => c_ (.int .i64 r0) []) := by kernel_rfl
theorem hdQ147 (N : Nat) (d_ : List V) (u_ : List (Option Blk)) (x x_1 n : Int) (c_ : V -> List Blk -> Bool) (κn_ : St -> Bool) : codesV ⟨Pg, ofList [], isref, N⟩ 0 (anQ77 N) (sg Pg 182 3 2) 0 (lsQ147 d_ u_ x x_1 n) { (finV Pg 182 0 c_) with nrm := κn_ } = (cond (decide (x_1 >= 65536)) ((fits .i64 (n + 16)) && (κn_ (lsQ149 (dqs d_ 0 5 (.int .u64 x_1 :: (.bool true :: (.int .u64 x_1 :: (.int .u64 (Int.fdiv x_1 (2 ^ 16)) :: (.int .i64 n :: (.int .i64 (n + 16) :: (dqs d_ 11 12 [])))))))) [] x (Int.fdiv x_1 (2 ^ 16)) (n + 16)))) (κn_ (lsQ149 (dqs d_ 0 5 (.int .u64 x_1 :: (.bool false :: (dqs d_ 7 16 [])))) [] x x_1 n))) := by kernel_rfl
theorem jnQ147 (N : Nat) (d_ : List V) (u_ : List (Option Blk)) (x x_1 n : Int) (c_ : V -> List Blk -> Bool) : codesV ⟨Pg, ofList [], isref, N⟩ 0 (anQ77 N) ((cds Pg 182).drop 3) 0 (lsQ147 d_ u_ x x_1 n) (finV Pg 182 0 c_) = JQ147 N x x_1 n (fun r0 => c_ (.int .i64 r0) []) := by
  rw [codesV_cut 3 2 5 rfl]
  refine (hdQ147 N d_ u_ x x_1 n c_ _).trans ?_
  simp only [jnQ149]
  kernel_rfl
theorem hd_m_bits_Len64_w (N : Nat) (x : Int) (c_ : V -> List Blk -> Bool) (κn_ : St -> Bool) : codesV ⟨Pg, ofList [], isref, N⟩ 0 (anQ77 N) (sg Pg 182 0 3) 0 (st0 Pg 182 (shFQ77.args [.int x]) []) { (finV Pg 182 0 c_) with nrm := κn_ } = (cond (decide (x >= 4294967296)) (κn_ (lsQ147 [.any, .int .u64 x, .bool true, .int .u64 x, .int .u64 (Int.fdiv x (2 ^ 32)), .any, .any, .any, .any, .any, .any, .any, .any, .any, .any, .any, .any, .any, .any, .any, .any, .any, .any] [] x (Int.fdiv x (2 ^ 32)) 32)) (κn_ (lsQ147 [.any, .int .u64 x, .bool false, .any, .any, .any, .any, .any, .any, .any, .any, .any, .any, .any, .any, .any, .any, .any, .any, .any, .any, .any, .any] [] x x 0))) := by kernel_rfl
theorem jn_m_bits_Len64_w (N : Nat) (x : Int) (c_ : V -> List Blk -> Bool) : codesV ⟨Pg, ofList [], isref, N⟩ 0 (anQ77 N) ((cds Pg 182).drop 0) 0 (st0 Pg 182 (shFQ77.args [.int x]) []) (finV Pg 182 0 c_) = GQ77 N x (fun r0 => c_ (.int .i64 r0) []) := by
  rw [codesV_cut 0 3 3 rfl]
  refine (hd_m_bits_Len64_w N x c_ _).trans ?_
  simp only [jnQ147]
  kernel_rfl
theorem eqQ77 (N : Nat) (x : Int) (c_ : V -> List Blk -> Bool) : bodyV ⟨Pg, ofList [], isref, N⟩ (anQ77 N) 182 (shFQ77.args [.int x]) [] c_ = GQ77 N x (fun r0 => c_ (.int .i64 r0) []) :=
  (bodyV_codes (by kernel_rfl)).trans (jn_m_bits_Len64_w N x c_)
theorem goodQ77 (N : Nat) : GoodF Pg 182 (FQ77 (GQ77 N)) := by
  refine good_fs (cx := ⟨Pg, ofList [], isref, N⟩) (ofList_nil _) shFQ77 (spQ77 (GQ77 N)) (anQ77 N) 0 0 (by kernel_rfl) (fun i_ hi_ => by omega) ?_
  intro a k h
  unfold spQ77 at h
  split at h
  · exact ⟨[], rfl, rfl, (eqQ77 _ _ _).trans h⟩
  · cases h

def anQ109 (N : Nat) (SQ77 : TSQ77) : Nat -> Option Ann := fun b_ => none
theorem eqQ109 (N : Nat) (SQ77 : TSQ77) (x : List Int) (c_ : V -> List Blk -> Bool) : bodyZ ⟨Pg, ofList [(182, (FQ77 SQ77))], isref, N⟩ (anQ109 N SQ77) 163 (shFQ109.args [.ints x]) [] c_ = GQ109 N SQ77 x (fun r0 => c_ (.int .i64 r0) []) := by kernel_rfl
theorem goodQ109 (N : Nat) (SQ77 : TSQ77) (hQ77 : GoodF Pg 182 (FQ77 SQ77)) : GoodF Pg 163 (FQ109 (GQ109 N SQ77)) := by
  refine good_fsZ (cx := ⟨Pg, ofList [(182, (FQ77 SQ77))], isref, N⟩) (ofList_cons hQ77 (ofList_nil _)) shFQ109 (spQ109 (GQ109 N SQ77)) (anQ109 N SQ77) 0 0 (by kernel_rfl) (fun i_ hi_ => by omega) ?_
  intro a k h
  unfold spQ109 at h
  split at h
  · exact ⟨[], rfl, rfl, (eqQ109 _ _ _ _).trans h⟩
  · cases h

def anQ31 (N : Nat) (SQ109 : TSQ109) : Nat -> Option Ann := fun b_ => none
theorem eqQ31 (N : Nat) (SQ109 : TSQ109) (b : Bool) (b_1 : List Int) (c_ : V -> List Blk -> Bool) : bodyZ ⟨Pg, ofList [(163, (FQ109 SQ109))], isref, N⟩ (anQ31 N SQ109) 133 (shFQ31.args [.bool b, .ints b_1]) [⟨126, 1, .cells [.bool b, .roi .u64 b_1]⟩] c_ = GQ31 N SQ109 b b_1 (fun r0 => c_ (.int .i64 r0) [⟨126, 1, .cells [.bool b, .roi .u64 b_1]⟩]) := by kernel_rfl
theorem goodQ31 (N : Nat) (SQ109 : TSQ109) (hQ109 : GoodF Pg 163 (FQ109 SQ109)) : GoodF Pg 133 (FQ31 (GQ31 N SQ109)) := by
  refine good_fsZ (cx := ⟨Pg, ofList [(163, (FQ109 SQ109))], isref, N⟩) (ofList_cons hQ109 (ofList_nil _)) shFQ31 (spQ31 (GQ31 N SQ109)) (anQ31 N SQ109) 0 1 (by kernel_rfl) (fun i_ hi_ => by omega) ?_
  intro a k h
  unfold spQ31 at h
  split at h
  · exact ⟨[_], rfl, rfl, (eqQ31 _ _ _ _ _).trans h⟩
  · cases h

def anQ51 (N : Nat) (SQ104 : TSQ104) (SQ0 : TSQ0) : Nat -> Option Ann := fun b_ => none
theorem eqQ51 (N : Nat) (SQ104 : TSQ104) (SQ0 : TSQ0) (n : Int) (b : Bool) (c_ : V -> List Blk -> Bool) : bodyZ ⟨Pg, ofList [(158, (FQ104 SQ104)), (139, (FQ0 SQ0))], isref, N⟩ (anQ51 N SQ104 SQ0) 164 (shFQ51.args [.int n, .bool b]) [⟨126, 1, .cells [.bool b, .nil]⟩] c_ = GQ51 N SQ104 SQ0 n b (fun r0 r1 => c_ (.ptr 0 0) [⟨126, 1, .cells [.bool r0, .roi .u64 r1]⟩]) := by kernel_rfl
theorem goodQ51 (N : Nat) (SQ104 : TSQ104) (SQ0 : TSQ0) (hQ104 : GoodF Pg 158 (FQ104 SQ104)) (hQ0 : GoodF Pg 139 (FQ0 SQ0)) : GoodF Pg 164 (FQ51 (GQ51 N SQ104 SQ0)) := by
  refine good_fsZ (cx := ⟨Pg, ofList [(158, (FQ104 SQ104)), (139, (FQ0 SQ0))], isref, N⟩) (ofList_cons hQ104 (ofList_cons hQ0 (ofList_nil _))) shFQ51 (spQ51 (GQ51 N SQ104 SQ0)) (anQ51 N SQ104 SQ0) 0 1 (by kernel_rfl) (fun i_ hi_ => by omega) ?_
  intro a k h
  unfold spQ51 at h
  split at h
  · exact ⟨[_], rfl, rfl, (eqQ51 _ _ _ _ _ _).trans h⟩
  · cases h

def anQ53 (N : Nat) (SQ51 : TSQ51) : Nat -> Option Ann := fun b_ => none
theorem eqQ53 (N : Nat) (SQ51 : TSQ51) (n : Int) (c_ : V -> List Blk -> Bool) : bodyZ ⟨Pg, ofList [(164, (FQ51 SQ51))], isref, N⟩ (anQ53 N SQ51) 134 (shFQ53.args [.int n]) [] c_ = GQ53 N SQ51 n (fun r0 r1 => c_ (.ptr 0 0) [⟨126, 1, .cells [.bool r0, .roi .u64 r1]⟩]) := by kernel_rfl
theorem goodQ53 (N : Nat) (SQ51 : TSQ51) (hQ51 : GoodF Pg 164 (FQ51 SQ51)) : GoodF Pg 134 (FQ53 (GQ53 N SQ51)) := by
  refine good_fsZ (cx := ⟨Pg, ofList [(164, (FQ51 SQ51))], isref, N⟩) (ofList_cons hQ51 (ofList_nil _)) shFQ53 (spQ53 (GQ53 N SQ51)) (anQ53 N SQ51) 0 0 (by kernel_rfl) (fun i_ hi_ => by omega) ?_
  intro a k h
  unfold spQ53 at h
  split at h
  · exact ⟨[], rfl, rfl, (eqQ53 _ _ _ _).trans h⟩
  · cases h

def anQ30 (N : Nat) (SQ63 : TSQ63) (SQ0 : TSQ0) : Nat -> Option Ann := fun b_ => none
theorem eqQ30 (N : Nat) (SQ63 : TSQ63) (SQ0 : TSQ0) (b b_1 : Bool) (b_2 : List Int) (c_ : V -> List Blk -> Bool) : bodyZ ⟨Pg, ofList [(140, (FQ63 SQ63)), (139, (FQ0 SQ0))], isref, N⟩ (anQ30 N SQ63 SQ0) 135 (shFQ30.args [.bool b, .bool b_1, .ints b_2]) [⟨126, 1, .cells [.bool b, .nil]⟩, ⟨126, 1, .cells [.bool b_1, .roi .u64 b_2]⟩] c_ = GQ30 N SQ63 SQ0 b b_1 b_2 (fun r0 r1 => c_ (.ptr 0 0) [⟨126, 1, .cells [.bool r0, .roi .u64 r1]⟩, ⟨126, 1, .cells [.bool b_1, .roi .u64 b_2]⟩]) := by kernel_rfl
theorem goodQ30 (N : Nat) (SQ63 : TSQ63) (SQ0 : TSQ0) (hQ63 : GoodF Pg 140 (FQ63 SQ63)) (hQ0 : GoodF Pg 139 (FQ0 SQ0)) : GoodF Pg 135 (FQ30 (GQ30 N SQ63 SQ0)) := by
  refine good_fsZ (cx := ⟨Pg, ofList [(140, (FQ63 SQ63)), (139, (FQ0 SQ0))], isref, N⟩) (ofList_cons hQ63 (ofList_cons hQ0 (ofList_nil _))) shFQ30 (spQ30 (GQ30 N SQ63 SQ0)) (anQ30 N SQ63 SQ0) 0 2 (by kernel_rfl) (fun i_ hi_ => by omega) ?_
  intro a k h
  unfold spQ30 at h
  split at h
  · exact ⟨[_, _], rfl, rfl, (eqQ30 _ _ _ _ _ _ _).trans h⟩
  · cases h

def anQ35 (N : Nat) : Nat -> Option Ann := fun b_ => none
theorem eqQ35 (N : Nat) (neg : Bool) (abs_0 abs_1 : Nat) (b : Bool) (b_1 : List Int) (c_ : V -> List Blk -> Bool) : bodyZ ⟨Pg, ofList [], isref, N⟩ (anQ35 N) 139 (shFQ35.args [.bool neg, .nat abs_0, .nat abs_1, .bool b, .ints b_1]) [⟨126, 1, .cells [.bool b, .nil]⟩, ⟨22, 1, .ints .u64 b_1⟩] c_ = GQ35 N neg abs_0 abs_1 b b_1 (fun r0 => c_ (.ptr 0 0) [⟨126, 1, .cells [.bool r0, .sl 1 abs_0 abs_1]⟩, ⟨22, 1, .ints .u64 b_1⟩]) := by kernel_rfl
theorem goodQ35 (N : Nat) : GoodF Pg 139 (FQ35 (GQ35 N)) := by
  refine good_fsZ (cx := ⟨Pg, ofList [], isref, N⟩) (ofList_nil _) shFQ35 (spQ35 (GQ35 N)) (anQ35 N) 0 2 (by kernel_rfl) (fun i_ hi_ => by omega) ?_
  intro a k h
  unfold spQ35 at h
  split at h
  · exact ⟨[_, _], rfl, rfl, (eqQ35 _ _ _ _ _ _ _).trans h⟩
  · cases h

def sh_st_big_Int_And_p0p1p2nrr_0 : StSh := ⟨(.ptr 0 0 :: (.ptr 1 0 :: (.ptr 2 0 :: (sqs 4 (.slw 3 :: (sqs 14 (.int .i64 :: (.int .i64 :: (sqs 25 []))))))))), [some (126, 1, .cells [.bool, .nil]), some (126, 1, .cells [.bool, .roi .u64]), some (126, 1, .cells [.bool, .roi .u64]), some (22, 1, .ints .u64)]⟩
def sx0_st_big_Int_And_p0p1p2nrr_0 : StSh := ⟨(.ptr 0 0 :: (sqs 6 (.slw 3 :: (sqs 41 [])))), [some (126, 1, .cells [.bool, .nil]), some (126, 1, .cells [.bool, .roi .u64]), some (126, 1, .cells [.bool, .roi .u64]), some (22, 1, .ints .u64)]⟩
def hk_st_big_Int_And_p0p1p2nrr_0 (N : Nat) (SQ1 : TSQ1) (SQ35 : TSQ35) : List Atom -> K -> Bool := fun a_ κ => match a_ with
  | [.int t22, .int t23, .bool z, .bool x, .ints x_1, .bool y, .ints y_1, .ints r] => iterG N (stQ151 N SQ1 SQ35 t22 z x x_1 y y_1 (fun r5 => κ.ext 0 (sx0_st_big_Int_And_p0p1p2nrr_0.build [.bool z, .bool x, .ints x_1, .bool y, .ints y_1, .ints r5]))) (t23, r)
  | _ => false
def anQ18 (N : Nat) (SQ1 : TSQ1) (SQ35 : TSQ35) : Nat -> Option Ann := fun b_ => cond (b_ == 0) (some ⟨⟨[0, 1, 2, 7, 22, 23], [], []⟩, [(0, ⟨[0, 7], [], []⟩)], some ⟨[6], [], []⟩, some (mkHooks [(sh_st_big_Int_And_p0p1p2nrr_0, hk_st_big_Int_And_p0p1p2nrr_0 N SQ1 SQ35)])⟩) (none)
theorem eq_st_big_Int_And_p0p1p2nrr_0 (N : Nat) (SQ1 : TSQ1) (SQ35 : TSQ35) (κ : K) (t22 t23 : Int) (z x : Bool) (x_1 : List Int) (y : Bool) (y_1 r : List Int) : iter N (fun s k => codeV ⟨Pg, ofList [(167, (FQ1 SQ1)), (139, (FQ35 SQ35))], isref, N⟩ 3 (anQ18 N SQ1 SQ35) (lp Pg 137 0).2 (lp Pg 137 0).1 s (roundK Pg 3 ((anQ18 N SQ1 SQ35) (lp Pg 137 0).1) κ k)) (sh_st_big_Int_And_p0p1p2nrr_0.build [.int t22, .int t23, .bool z, .bool x, .ints x_1, .bool y, .ints y_1, .ints r]) = iterG N (stQ151 N SQ1 SQ35 t22 z x x_1 y y_1 (fun r5 => κ.ext 0 (sx0_st_big_Int_And_p0p1p2nrr_0.build [.bool z, .bool x, .ints x_1, .bool y, .ints y_1, .ints r5]))) (t23, r) :=
  iter_tr (fun (v_ : Int × List Int) => sh_st_big_Int_And_p0p1p2nrr_0.build [.int t22, .int v_.1, .bool z, .bool x, .ints x_1, .bool y, .ints y_1, .ints v_.2]) (fun v_ K_ => by obtain ⟨t23, r⟩ := v_; kernel_rfl) N (t23, r)
theorem hk1_st_big_Int_And_p0p1p2nrr_0 (N : Nat) (SQ1 : TSQ1) (SQ35 : TSQ35) : HookFor ⟨Pg, ofList [(167, (FQ1 SQ1)), (139, (FQ35 SQ35))], isref, N⟩ 3 (anQ18 N SQ1 SQ35) (lp Pg 137 0) (sh_st_big_Int_And_p0p1p2nrr_0, hk_st_big_Int_And_p0p1p2nrr_0 N SQ1 SQ35) := by
  intro a κ h
  simp only at h
  unfold hk_st_big_Int_And_p0p1p2nrr_0 at h
  split at h
  · exact (eq_st_big_Int_And_p0p1p2nrr_0 _ _ _ _ _ _ _ _ _ _ _ _).trans h
  · cases h
theorem ho_big_Int_And_p0p1p2nrr_0 (N : Nat) (SQ1 : TSQ1) (SQ35 : TSQ35) : HookOk ⟨Pg, ofList [(167, (FQ1 SQ1)), (139, (FQ35 SQ35))], isref, N⟩ 3 (anQ18 N SQ1 SQ35) (lp Pg 137 0) :=
  hooks_ok [(sh_st_big_Int_And_p0p1p2nrr_0, hk_st_big_Int_And_p0p1p2nrr_0 N SQ1 SQ35)] (by kernel_rfl) ⟨hk1_st_big_Int_And_p0p1p2nrr_0 _ _ _, trivial⟩
theorem eqQ18 (N : Nat) (SQ1 : TSQ1) (SQ35 : TSQ35) (b b_1 : Bool) (b_2 : List Int) (b_3 : Bool) (b_4 : List Int) (c_ : V -> List Blk -> Bool) : bodyZ ⟨Pg, ofList [(167, (FQ1 SQ1)), (139, (FQ35 SQ35))], isref, N⟩ (anQ18 N SQ1 SQ35) 137 (shFQ18.args [.bool b, .bool b_1, .ints b_2, .bool b_3, .ints b_4]) [⟨126, 1, .cells [.bool b, .nil]⟩, ⟨126, 1, .cells [.bool b_1, .roi .u64 b_2]⟩, ⟨126, 1, .cells [.bool b_3, .roi .u64 b_4]⟩] c_ = GQ18 N SQ1 SQ35 b b_1 b_2 b_3 b_4 (fun r0 r1 => c_ (.ptr 0 0) [⟨126, 1, .cells [.bool r0, .roi .u64 r1]⟩, ⟨126, 1, .cells [.bool b_1, .roi .u64 b_2]⟩, ⟨126, 1, .cells [.bool b_3, .roi .u64 b_4]⟩]) := by kernel_rfl
theorem goodQ18 (N : Nat) (SQ1 : TSQ1) (SQ35 : TSQ35) (hQ1 : GoodF Pg 167 (FQ1 SQ1)) (hQ35 : GoodF Pg 139 (FQ35 SQ35)) : GoodF Pg 137 (FQ18 (GQ18 N SQ1 SQ35)) := by
  refine good_fsZ (cx := ⟨Pg, ofList [(167, (FQ1 SQ1)), (139, (FQ35 SQ35))], isref, N⟩) (ofList_cons hQ1 (ofList_cons hQ35 (ofList_nil _))) shFQ18 (spQ18 (GQ18 N SQ1 SQ35)) (anQ18 N SQ1 SQ35) 1 3 (by kernel_rfl) (fun i_ hi_ => by
    match i_, hi_ with
    | 0, _ => exact ho_big_Int_And_p0p1p2nrr_0 _ _ _
    | (q + 1), h => omega) ?_
  intro a k h
  unfold spQ18 at h
  split at h
  · exact ⟨[_, _, _], rfl, rfl, (eqQ18 _ _ _ _ _ _ _ _ _).trans h⟩
  · cases h

def anQ139 (N : Nat) (SQ13 : TSQ13) : Nat -> Option Ann := fun b_ => none
theorem eqQ139 (N : Nat) (SQ13 : TSQ13) (x : List Int) (c_ : V -> List Blk -> Bool) : bodyZ ⟨Pg, ofList [(170, (FQ13 SQ13))], isref, N⟩ (anQ139 N SQ13) 168 (shFQ139.args [.ints x]) [] c_ = GQ139 N SQ13 x (fun r0 => c_ (.int .u64 r0) []) := by kernel_rfl
theorem goodQ139 (N : Nat) (SQ13 : TSQ13) (hQ13 : GoodF Pg 170 (FQ13 SQ13)) : GoodF Pg 168 (FQ139 (GQ139 N SQ13)) := by
  refine good_fsZ (cx := ⟨Pg, ofList [(170, (FQ13 SQ13))], isref, N⟩) (ofList_cons hQ13 (ofList_nil _)) shFQ139 (spQ139 (GQ139 N SQ13)) (anQ139 N SQ13) 0 0 (by kernel_rfl) (fun i_ hi_ => by omega) ?_
  intro a k h
  unfold spQ139 at h
  split at h
  · exact ⟨[], rfl, rfl, (eqQ139 _ _ _ _).trans h⟩
  · cases h

def anQ32 (N : Nat) (SQ139 : TSQ139) : Nat -> Option Ann := fun b_ => none
theorem eqQ32 (N : Nat) (SQ139 : TSQ139) (b : Bool) (b_1 : List Int) (c_ : V -> List Blk -> Bool) : bodyZ ⟨Pg, ofList [(168, (FQ139 SQ139))], isref, N⟩ (anQ32 N SQ139) 138 (shFQ32.args [.bool b, .ints b_1]) [⟨126, 1, .cells [.bool b, .roi .u64 b_1]⟩] c_ = GQ32 N SQ139 b b_1 (fun r0 => c_ (.int .u64 r0) [⟨126, 1, .cells [.bool b, .roi .u64 b_1]⟩]) := by kernel_rfl
theorem goodQ32 (N : Nat) (SQ139 : TSQ139) (hQ139 : GoodF Pg 168 (FQ139 SQ139)) : GoodF Pg 138 (FQ32 (GQ32 N SQ139)) := by
  refine good_fsZ (cx := ⟨Pg, ofList [(168, (FQ139 SQ139))], isref, N⟩) (ofList_cons hQ139 (ofList_nil _)) shFQ32 (spQ32 (GQ32 N SQ139)) (anQ32 N SQ139) 0 1 (by kernel_rfl) (fun i_ hi_ => by omega) ?_
  intro a k h
  unfold spQ32 at h
  split at h
  · exact ⟨[_], rfl, rfl, (eqQ32 _ _ _ _ _).trans h⟩
  · cases h

end Go.Proofs.YtnfgnjciliapaaaGreatDoor
