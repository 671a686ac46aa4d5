/-
  THE TIES: each printed meaning is what the program does (written by program).
  Conditions: none.
-/
import Derived.Test.YtnfgnjciliapaaaGreatDoorGs
namespace Go.Proofs.YtnfgnjciliapaaaGreatDoor
open Go Go.Mach Go.Proofs
set_option linter.unusedVariables false
set_option maxRecDepth 50000
def sh_st_big_times_2 : StSh := ⟨(.any :: (.roi .u64 :: (.any :: (.any :: (.any :: (.slw 0 :: (.int .i64 :: (.int .u64 :: (.int .u64 :: (sqs 16 (.roi .u64 :: (.int .i64 :: (.int .i64 :: (sqs 4 (.roi .u64 :: (.int .i64 :: (.int .i64 :: (sqs 33 [])))))))))))))))))), [some (22, 1, .ints .u64)]⟩
def sx0_st_big_times_2 : StSh := ⟨(.any :: (.roi .u64 :: (.any :: (.any :: (.any :: (.slw 0 :: (.int .i64 :: (.any :: (.int .u64 :: (sqs 16 (.roi .u64 :: (.int .i64 :: (.int .i64 :: (sqs 40 [])))))))))))))), [some (22, 1, .ints .u64)]⟩
def hk_st_big_times_2 (N : Nat) (SZ96 : TSZ96) (SZ5 : TSZ5) : List Atom -> K -> Bool := fun a_ κ => match a_ with
 | [.ints y_2, .int i, .int a, .int carry, .ints t25_1, .int t26_1, .int t27_1, .ints t32, .int t33, .int t34, .ints z_1] => iterG N (st_big_times_2 N SZ96 SZ5 y_2 i a t25_1 t26_1 t27_1 t32 t33 (fun r2 r6 => κ.ext 2 (sx0_st_big_times_2.build [.ints y_2, .int i, .int r2, .ints t25_1, .int t26_1, .int t27_1, .ints r6]))) (carry, t34, z_1)
 | _ => false
def sh_st_big_times_0 : StSh := ⟨(.any :: (.roi .u64 :: (.any :: (.any :: (.any :: (.slw 0 :: (sqs 19 (.roi .u64 :: (.int .i64 :: (.int .i64 :: (sqs 40 []))))))))))), [some (22, 1, .ints .u64)]⟩
def sx0_st_big_times_0 : StSh := ⟨(sqs 5 (.slw 0 :: (sqs 62 []))), [some (22, 1, .ints .u64)]⟩
def hk_st_big_times_0 (N : Nat) (SZ96 : TSZ96) (SZ5 : TSZ5) : List Atom -> K -> Bool := fun a_ κ => match a_ with
 | [.ints y_1, .ints t25, .int t26, .int t27, .ints z] => iterG N (st_big_times_0 N SZ96 SZ5 y_1 t25 t26 (fun r0 => κ.ext 0 (sx0_st_big_times_0.build [.ints r0]))) (t27, z)
 | _ => false
def anZ121 (N : Nat) (SZ96 : TSZ96) (SZ5 : TSZ5) : Nat -> Option Ann := fun b_ => cond (b_ == 2) (some ⟨⟨[1, 5, 6, 7, 8, 25, 26, 27, 32, 33, 34], [], []⟩, [(2, ⟨[1, 5, 6, 8, 25, 26, 27], [], []⟩)], some ⟨[4], [], []⟩, some (mkHooks [(sh_st_big_times_2, hk_st_big_times_2 N SZ96 SZ5)])⟩) (cond (b_ == 0) (some ⟨⟨[1, 5, 25, 26, 27], [], []⟩, [(0, ⟨[5], [], []⟩)], some ⟨[4], [], []⟩, some (mkHooks [(sh_st_big_times_0, hk_st_big_times_0 N SZ96 SZ5)])⟩) (none))
theorem eq_st_big_times_2 (N : Nat) (SZ96 : TSZ96) (SZ5 : TSZ5) (κ : K) (y_2 : List Int) (i a carry : Int) (t25_1 : List Int) (t26_1 t27_1 : Int) (t32 : List Int) (t33 t34 : Int) (z_1 : List Int) : iter N (fun s k => codeV ⟨Pg, ofList [(181, (FZ96 SZ96)), (167, (FZ5 SZ5))], isref, N⟩ 0 (anZ121 N SZ96 SZ5) (lp Pg 159 1).2 (lp Pg 159 1).1 s (roundK Pg 0 ((anZ121 N SZ96 SZ5) (lp Pg 159 1).1) κ k)) (sh_st_big_times_2.build [.ints y_2, .int i, .int a, .int carry, .ints t25_1, .int t26_1, .int t27_1, .ints t32, .int t33, .int t34, .ints z_1]) = iterG N (st_big_times_2 N SZ96 SZ5 y_2 i a t25_1 t26_1 t27_1 t32 t33 (fun r2 r6 => κ.ext 2 (sx0_st_big_times_2.build [.ints y_2, .int i, .int r2, .ints t25_1, .int t26_1, .int t27_1, .ints r6]))) (carry, t34, z_1) :=
 iter_tr (fun (v_ : Int × Int × List Int) => sh_st_big_times_2.build [.ints y_2, .int i, .int a, .int v_.1, .ints t25_1, .int t26_1, .int t27_1, .ints t32, .int t33, .int v_.2.1, .ints v_.2.2]) (fun v_ K_ => by obtain ⟨carry, t34, z_1⟩ := v_; kernel_rfl) N (carry, t34, z_1)
theorem hk1_st_big_times_2 (N : Nat) (SZ96 : TSZ96) (SZ5 : TSZ5) : HookFor ⟨Pg, ofList [(181, (FZ96 SZ96)), (167, (FZ5 SZ5))], isref, N⟩ 0 (anZ121 N SZ96 SZ5) (lp Pg 159 1) (sh_st_big_times_2, hk_st_big_times_2 N SZ96 SZ5) := by
 intro a κ h
 simp only at h
 unfold hk_st_big_times_2 at h
 split at h
 ·exact (eq_st_big_times_2 _ _ _ _ _ _ _ _ _ _ _ _ _ _ _).trans h
 ·cases h
theorem eq_st_big_times_0 (N : Nat) (SZ96 : TSZ96) (SZ5 : TSZ5) (κ : K) (y_1 t25 : List Int) (t26 t27 : Int) (z : List Int) : iter N (fun s k => codeV ⟨Pg, ofList [(181, (FZ96 SZ96)), (167, (FZ5 SZ5))], isref, N⟩ 0 (anZ121 N SZ96 SZ5) (lp Pg 159 0).2 (lp Pg 159 0).1 s (roundK Pg 0 ((anZ121 N SZ96 SZ5) (lp Pg 159 0).1) κ k)) (sh_st_big_times_0.build [.ints y_1, .ints t25, .int t26, .int t27, .ints z]) = iterG N (st_big_times_0 N SZ96 SZ5 y_1 t25 t26 (fun r0 => κ.ext 0 (sx0_st_big_times_0.build [.ints r0]))) (t27, z) :=
 iter_tr (fun (v_ : Int × List Int) => sh_st_big_times_0.build [.ints y_1, .ints t25, .int t26, .int v_.1, .ints v_.2]) (fun v_ K_ => by obtain ⟨t27, z⟩ := v_; kernel_rfl) N (t27, z)
theorem hk1_st_big_times_0 (N : Nat) (SZ96 : TSZ96) (SZ5 : TSZ5) : HookFor ⟨Pg, ofList [(181, (FZ96 SZ96)), (167, (FZ5 SZ5))], isref, N⟩ 0 (anZ121 N SZ96 SZ5) (lp Pg 159 0) (sh_st_big_times_0, hk_st_big_times_0 N SZ96 SZ5) := by
 intro a κ h
 simp only at h
 unfold hk_st_big_times_0 at h
 split at h
 ·exact (eq_st_big_times_0 _ _ _ _ _ _ _ _ _).trans h
 ·cases h
theorem ho_big_times_2 (N : Nat) (SZ96 : TSZ96) (SZ5 : TSZ5) : HookOk ⟨Pg, ofList [(181, (FZ96 SZ96)), (167, (FZ5 SZ5))], isref, N⟩ 0 (anZ121 N SZ96 SZ5) (lp Pg 159 1) :=
 hooks_ok [(sh_st_big_times_2, hk_st_big_times_2 N SZ96 SZ5)] (by kernel_rfl) ⟨hk1_st_big_times_2 _ _ _, trivial⟩
theorem ho_big_times_0 (N : Nat) (SZ96 : TSZ96) (SZ5 : TSZ5) : HookOk ⟨Pg, ofList [(181, (FZ96 SZ96)), (167, (FZ5 SZ5))], isref, N⟩ 0 (anZ121 N SZ96 SZ5) (lp Pg 159 0) :=
 hooks_ok [(sh_st_big_times_0, hk_st_big_times_0 N SZ96 SZ5)] (by kernel_rfl) ⟨hk1_st_big_times_0 _ _ _, trivial⟩
theorem eqZ121 (N : Nat) (SZ96 : TSZ96) (SZ5 : TSZ5) (x y : List Int) (c_ : V -> List Blk -> Bool) : bodyZ ⟨Pg, ofList [(181, (FZ96 SZ96)), (167, (FZ5 SZ5))], isref, N⟩ (anZ121 N SZ96 SZ5) 159 (shFZ121.args [.ints x, .ints y]) [] c_ = GZ121 N SZ96 SZ5 x y (fun r0 => c_ (.roi .u64 r0) []) := by kernel_rfl
theorem goodZ121 (N : Nat) (SZ96 : TSZ96) (SZ5 : TSZ5) (hZ96 : GoodF Pg 181 (FZ96 SZ96)) (hZ5 : GoodF Pg 167 (FZ5 SZ5)) : GoodF Pg 159 (FZ121 (GZ121 N SZ96 SZ5)) := by
 refine good_fsZ (cx := ⟨Pg, ofList [(181, (FZ96 SZ96)), (167, (FZ5 SZ5))], isref, N⟩) (ofList_cons hZ96 (ofList_cons hZ5 (ofList_nil _))) shFZ121 (spZ121 (GZ121 N SZ96 SZ5)) (anZ121 N SZ96 SZ5) 2 0 (by kernel_rfl) (fun i_ hi_ => by
  match i_, hi_ with
  | 0, _ => exact ho_big_times_0 _ _ _
  | 1, _ => exact ho_big_times_2 _ _ _
  | (q + 2), h => omega) ?_
 intro a k h
 unfold spZ121 at h
 split at h
 ·exact ⟨[], rfl, rfl, (eqZ121 _ _ _ _ _ _).trans h⟩
 ·cases h
def anZ47 (N : Nat) (SZ121 : TSZ121) (SZ4 : TSZ4) : Nat -> Option Ann := fun b_ => none
theorem eqZ47 (N : Nat) (SZ121 : TSZ121) (SZ4 : TSZ4) (b b_1 : Bool) (b_2 : List Int) (b_3 : Bool) (b_4 : List Int) (c_ : V -> List Blk -> Bool) : bodyZ ⟨Pg, ofList [(159, (FZ121 SZ121)), (139, (FZ4 SZ4))], isref, N⟩ (anZ47 N SZ121 SZ4) 131 (shFZ47.args [.bool b, .bool b_1, .ints b_2, .bool b_3, .ints b_4]) [⟨126, 1, .cells [.bool b, .nil]⟩, ⟨126, 1, .cells [.bool b_1, .roi .u64 b_2]⟩, ⟨126, 1, .cells [.bool b_3, .roi .u64 b_4]⟩] c_ = GZ47 N SZ121 SZ4 b b_1 b_2 b_3 b_4 (fun r0 r1 => c_ (.ptr 0 0) [⟨126, 1, .cells [.bool r0, .roi .u64 r1]⟩, ⟨126, 1, .cells [.bool b_1, .roi .u64 b_2]⟩, ⟨126, 1, .cells [.bool b_3, .roi .u64 b_4]⟩]) := by kernel_rfl
theorem goodZ47 (N : Nat) (SZ121 : TSZ121) (SZ4 : TSZ4) (hZ121 : GoodF Pg 159 (FZ121 SZ121)) (hZ4 : GoodF Pg 139 (FZ4 SZ4)) : GoodF Pg 131 (FZ47 (GZ47 N SZ121 SZ4)) := by
 refine good_fsZ (cx := ⟨Pg, ofList [(159, (FZ121 SZ121)), (139, (FZ4 SZ4))], isref, N⟩) (ofList_cons hZ121 (ofList_cons hZ4 (ofList_nil _))) shFZ47 (spZ47 (GZ47 N SZ121 SZ4)) (anZ47 N SZ121 SZ4) 0 3 (by kernel_rfl) (fun i_ hi_ => by omega) ?_
 intro a k h
 unfold spZ47 at h
 split at h
 ·exact ⟨[_, _, _], rfl, rfl, (eqZ47 _ _ _ _ _ _ _ _ _).trans h⟩
 ·cases h
def anZ17 (N : Nat) (SZ47 : TSZ47) : Nat -> Option Ann := fun b_ => none
theorem eqZ17 (N : Nat) (SZ47 : TSZ47) (x y : Int) (b : Bool) (b_1 : List Int) (b_2 : Bool) (b_3 : List Int) (c_ : V -> List Blk -> Bool) : bodyV ⟨Pg, ofList [(131, (FZ47 SZ47))], isref, N⟩ (anZ17 N SZ47) 87 (shFZ17.args [.int x, .int y, .bool b, .ints b_1, .bool b_2, .ints b_3]) [⟨126, 1, .cells [.bool b, .roi .u64 b_1]⟩, ⟨126, 1, .cells [.bool b_2, .roi .u64 b_3]⟩] c_ = GZ17 N SZ47 x y b b_1 b_2 b_3 (fun r0 r5 r6 => c_ (.agg [.ptr 2 0, .int .i64 r0]) [⟨126, 1, .cells [.bool b, .roi .u64 b_1]⟩, ⟨126, 1, .cells [.bool b_2, .roi .u64 b_3]⟩, ⟨126, 1, .cells [.bool r5, .roi .u64 r6]⟩]) := by kernel_rfl
theorem goodZ17 (N : Nat) (SZ47 : TSZ47) (hZ47 : GoodF Pg 131 (FZ47 SZ47)) : GoodF Pg 87 (FZ17 (GZ17 N SZ47)) := by
 refine good_fs (cx := ⟨Pg, ofList [(131, (FZ47 SZ47))], isref, N⟩) (ofList_cons hZ47 (ofList_nil _)) shFZ17 (spZ17 (GZ17 N SZ47)) (anZ17 N SZ47) 0 2 (by kernel_rfl) (fun i_ hi_ => by omega) ?_
 intro a k h
 unfold spZ17 at h
 split at h
 ·exact ⟨[_, _], rfl, rfl, (eqZ17 _ _ _ _ _ _ _ _ _).trans h⟩
 ·cases h
def anZ78 (N : Nat) : Nat -> Option Ann := fun b_ => none
theorem eqZ78 (N : Nat) (b : Bool) (c_ : V -> List Blk -> Bool) : bodyZ ⟨Pg, ofList [], isref, N⟩ (anZ78 N) 94 (shFZ78.args [.bool b]) [⟨126, 1, .cells [.bool b, .nil]⟩] c_ = GZ78 N b (fun r0 r2 => c_ (.int .i64 r0) [⟨126, 1, .cells [.bool b, .roi .u64 r2]⟩]) := by kernel_rfl
theorem goodZ78 (N : Nat) : GoodF Pg 94 (FZ78 (GZ78 N)) := by
 refine good_fsZ (cx := ⟨Pg, ofList [], isref, N⟩) (ofList_nil _) shFZ78 (spZ78 (GZ78 N)) (anZ78 N) 0 1 (by kernel_rfl) (fun i_ hi_ => by omega) ?_
 intro a k h
 unfold spZ78 at h
 split at h
 ·exact ⟨[_], rfl, rfl, (eqZ78 _ _ _).trans h⟩
 ·cases h
def anZ7 (N : Nat) : Nat -> Option Ann := fun b_ => none
theorem eqZ7 (N : Nat) (b : Bool) (b_1 : List Int) (c_ : V -> List Blk -> Bool) : bodyZ ⟨Pg, ofList [], isref, N⟩ (anZ7 N) 94 (shFZ7.args [.bool b, .ints b_1]) [⟨126, 1, .cells [.bool b, .roi .u64 b_1]⟩] c_ = GZ7 N b b_1 (fun r0 => c_ (.int .i64 r0) [⟨126, 1, .cells [.bool b, .roi .u64 b_1]⟩]) := by kernel_rfl
theorem goodZ7 (N : Nat) : GoodF Pg 94 (FZ7 (GZ7 N)) := by
 refine good_fsZ (cx := ⟨Pg, ofList [], isref, N⟩) (ofList_nil _) shFZ7 (spZ7 (GZ7 N)) (anZ7 N) 0 1 (by kernel_rfl) (fun i_ hi_ => by omega) ?_
 intro a k h
 unfold spZ7 at h
 split at h
 ·exact ⟨[_], rfl, rfl, (eqZ7 _ _ _ _).trans h⟩
 ·cases h
def sh_st_big_left_0 : StSh := ⟨(sqs 5 (.int .i64 :: (.int .u64 :: (.slw 0 :: (sqs 16 (.roi .u64 :: (.int .i64 :: (.int .i64 :: (sqs 28 []))))))))), [some (22, 1, .ints .u64)]⟩
def sx0_st_big_left_0 : StSh := ⟨(sqs 7 (.slw 0 :: (sqs 47 []))), [some (22, 1, .ints .u64)]⟩
def hk_st_big_left_0 (N : Nat) (SZ5 : TSZ5) : List Atom -> K -> Bool := fun a_ κ => match a_ with
 | [.int words, .int rest, .ints t24, .int t25, .int t26, .ints z] => iterG N (st_big_left_0 N SZ5 words rest t24 t25 (fun r0 => κ.ext 0 (sx0_st_big_left_0.build [.ints r0]))) (t26, z)
 | _ => false
def anZ97 (N : Nat) (SZ5 : TSZ5) : Nat -> Option Ann := fun b_ => cond (b_ == 0) (some ⟨⟨[5, 6, 7, 24, 25, 26], [], []⟩, [(0, ⟨[7], [], []⟩)], some ⟨[4], [], []⟩, some (mkHooks [(sh_st_big_left_0, hk_st_big_left_0 N SZ5)])⟩) (none)
theorem eq_st_big_left_0 (N : Nat) (SZ5 : TSZ5) (κ : K) (words rest : Int) (t24 : List Int) (t25 t26 : Int) (z : List Int) : iter N (fun s k => codeV ⟨Pg, ofList [(167, (FZ5 SZ5))], isref, N⟩ 0 (anZ97 N SZ5) (lp Pg 169 0).2 (lp Pg 169 0).1 s (roundK Pg 0 ((anZ97 N SZ5) (lp Pg 169 0).1) κ k)) (sh_st_big_left_0.build [.int words, .int rest, .ints t24, .int t25, .int t26, .ints z]) = iterG N (st_big_left_0 N SZ5 words rest t24 t25 (fun r0 => κ.ext 0 (sx0_st_big_left_0.build [.ints r0]))) (t26, z) :=
 iter_tr (fun (v_ : Int × List Int) => sh_st_big_left_0.build [.int words, .int rest, .ints t24, .int t25, .int v_.1, .ints v_.2]) (fun v_ K_ => by obtain ⟨t26, z⟩ := v_; kernel_rfl) N (t26, z)
theorem hk1_st_big_left_0 (N : Nat) (SZ5 : TSZ5) : HookFor ⟨Pg, ofList [(167, (FZ5 SZ5))], isref, N⟩ 0 (anZ97 N SZ5) (lp Pg 169 0) (sh_st_big_left_0, hk_st_big_left_0 N SZ5) := by
 intro a κ h
 simp only at h
 unfold hk_st_big_left_0 at h
 split at h
 ·exact (eq_st_big_left_0 _ _ _ _ _ _ _ _ _).trans h
 ·cases h
theorem ho_big_left_0 (N : Nat) (SZ5 : TSZ5) : HookOk ⟨Pg, ofList [(167, (FZ5 SZ5))], isref, N⟩ 0 (anZ97 N SZ5) (lp Pg 169 0) :=
 hooks_ok [(sh_st_big_left_0, hk_st_big_left_0 N SZ5)] (by kernel_rfl) ⟨hk1_st_big_left_0 _ _, trivial⟩
theorem eqZ97 (N : Nat) (SZ5 : TSZ5) (x : List Int) (n : Int) (c_ : V -> List Blk -> Bool) : bodyZ ⟨Pg, ofList [(167, (FZ5 SZ5))], isref, N⟩ (anZ97 N SZ5) 169 (shFZ97.args [.ints x, .int n]) [] c_ = GZ97 N SZ5 x n (fun r0 => c_ (.roi .u64 r0) []) := by kernel_rfl
theorem goodZ97 (N : Nat) (SZ5 : TSZ5) (hZ5 : GoodF Pg 167 (FZ5 SZ5)) : GoodF Pg 169 (FZ97 (GZ97 N SZ5)) := by
 refine good_fsZ (cx := ⟨Pg, ofList [(167, (FZ5 SZ5))], isref, N⟩) (ofList_cons hZ5 (ofList_nil _)) shFZ97 (spZ97 (GZ97 N SZ5)) (anZ97 N SZ5) 1 0 (by kernel_rfl) (fun i_ hi_ => by
  match i_, hi_ with
  | 0, _ => exact ho_big_left_0 _ _
  | (q + 1), h => omega) ?_
 intro a k h
 unfold spZ97 at h
 split at h
 ·exact ⟨[], rfl, rfl, (eqZ97 _ _ _ _ _).trans h⟩
 ·cases h
def anZ60 (N : Nat) (SZ97 : TSZ97) (SZ4 : TSZ4) : Nat -> Option Ann := fun b_ => none
theorem eqZ60 (N : Nat) (SZ97 : TSZ97) (SZ4 : TSZ4) (n : Int) (b b_1 : Bool) (b_2 : List Int) (c_ : V -> List Blk -> Bool) : bodyZ ⟨Pg, ofList [(169, (FZ97 SZ97)), (139, (FZ4 SZ4))], isref, N⟩ (anZ60 N SZ97 SZ4) 141 (shFZ60.args [.int n, .bool b, .bool b_1, .ints b_2]) [⟨126, 1, .cells [.bool b, .nil]⟩, ⟨126, 1, .cells [.bool b_1, .roi .u64 b_2]⟩] c_ = GZ60 N SZ97 SZ4 n b b_1 b_2 (fun r0 r1 => c_ (.ptr 0 0) [⟨126, 1, .cells [.bool r0, .roi .u64 r1]⟩, ⟨126, 1, .cells [.bool b_1, .roi .u64 b_2]⟩]) := by kernel_rfl
theorem goodZ60 (N : Nat) (SZ97 : TSZ97) (SZ4 : TSZ4) (hZ97 : GoodF Pg 169 (FZ97 SZ97)) (hZ4 : GoodF Pg 139 (FZ4 SZ4)) : GoodF Pg 141 (FZ60 (GZ60 N SZ97 SZ4)) := by
 refine good_fsZ (cx := ⟨Pg, ofList [(169, (FZ97 SZ97)), (139, (FZ4 SZ4))], isref, N⟩) (ofList_cons hZ97 (ofList_cons hZ4 (ofList_nil _))) shFZ60 (spZ60 (GZ60 N SZ97 SZ4)) (anZ60 N SZ97 SZ4) 0 2 (by kernel_rfl) (fun i_ hi_ => by omega) ?_
 intro a k h
 unfold spZ60 at h
 split at h
 ·exact ⟨[_, _], rfl, rfl, (eqZ60 _ _ _ _ _ _ _ _).trans h⟩
 ·cases h
def anZ33 (N : Nat) (SZ60 : TSZ60) : Nat -> Option Ann := fun b_ => none
theorem eqZ33 (N : Nat) (SZ60 : TSZ60) (x e : Int) (b : Bool) (b_1 : List Int) (c_ : V -> List Blk -> Bool) : bodyV ⟨Pg, ofList [(141, (FZ60 SZ60))], isref, N⟩ (anZ33 N SZ60) 128 (shFZ33.args [.int x, .int e, .bool b, .ints b_1]) [⟨126, 1, .cells [.bool b, .roi .u64 b_1]⟩] c_ = GZ33 N SZ60 x e b b_1 (fun r2 r3 => c_ (.ptr 1 0) [⟨126, 1, .cells [.bool b, .roi .u64 b_1]⟩, ⟨126, 1, .cells [.bool r2, .roi .u64 r3]⟩]) := by kernel_rfl
theorem goodZ33 (N : Nat) (SZ60 : TSZ60) (hZ60 : GoodF Pg 141 (FZ60 SZ60)) : GoodF Pg 128 (FZ33 (GZ33 N SZ60)) := by
 refine good_fs (cx := ⟨Pg, ofList [(141, (FZ60 SZ60))], isref, N⟩) (ofList_cons hZ60 (ofList_nil _)) shFZ33 (spZ33 (GZ33 N SZ60)) (anZ33 N SZ60) 0 1 (by kernel_rfl) (fun i_ hi_ => by omega) ?_
 intro a k h
 unfold spZ33 at h
 split at h
 ·exact ⟨[_], rfl, rfl, (eqZ33 _ _ _ _ _ _ _).trans h⟩
 ·cases h
def anZ18 (N : Nat) : Nat -> Option Ann := fun b_ => none
theorem eqZ18 (N : Nat) (x : List Int) (i : Int) (c_ : V -> List Blk -> Bool) : bodyZ ⟨Pg, ofList [], isref, N⟩ (anZ18 N) 170 (shFZ18.args [.ints x, .int i]) [] c_ = GZ18 N x i (fun r0 => c_ (.int .u64 r0) []) := by kernel_rfl
theorem goodZ18 (N : Nat) : GoodF Pg 170 (FZ18 (GZ18 N)) := by
 refine good_fsZ (cx := ⟨Pg, ofList [], isref, N⟩) (ofList_nil _) shFZ18 (spZ18 (GZ18 N)) (anZ18 N) 0 0 (by kernel_rfl) (fun i_ hi_ => by omega) ?_
 intro a k h
 unfold spZ18 at h
 split at h
 ·exact ⟨[], rfl, rfl, (eqZ18 _ _ _ _).trans h⟩
 ·cases h
def sh_st_big_sum_0 : StSh := ⟨(.roi .u64 :: (.roi .u64 :: (.any :: (.any :: (.any :: (.int .i64 :: (.slw 0 :: (.int .u64 :: (sqs 9 (.int .i64 :: (.int .i64 :: (sqs 23 [])))))))))))), [some (22, 1, .ints .u64)]⟩
def sx0_st_big_sum_0 : StSh := ⟨(sqs 5 (.int .i64 :: (.slw 0 :: (.int .u64 :: (sqs 34 []))))), [some (22, 1, .ints .u64)]⟩
def hk_st_big_sum_0 (N : Nat) (SZ18 : TSZ18) (SZ65 : TSZ65) (SZ5 : TSZ5) : List Atom -> K -> Bool := fun a_ κ => match a_ with
 | [.ints x_1, .ints y_1, .int n, .int carry, .int t17, .int t18, .ints z] => iterG N (st_big_sum_0 N SZ18 SZ65 SZ5 x_1 y_1 n t17 (fun r1 r2 => κ.ext 0 (sx0_st_big_sum_0.build [.int n, .int r1, .ints r2]))) (carry, t18, z)
 | _ => false
def anZ134 (N : Nat) (SZ18 : TSZ18) (SZ65 : TSZ65) (SZ5 : TSZ5) : Nat -> Option Ann := fun b_ => cond (b_ == 0) (some ⟨⟨[0, 1, 5, 6, 7, 17, 18], [], []⟩, [(0, ⟨[5, 6, 7], [], []⟩)], some ⟨[4], [], []⟩, some (mkHooks [(sh_st_big_sum_0, hk_st_big_sum_0 N SZ18 SZ65 SZ5)])⟩) (none)
theorem eq_st_big_sum_0 (N : Nat) (SZ18 : TSZ18) (SZ65 : TSZ65) (SZ5 : TSZ5) (κ : K) (x_1 y_1 : List Int) (n carry t17 t18 : Int) (z : List Int) : iter N (fun s k => codeV ⟨Pg, ofList [(170, (FZ18 SZ18)), (183, (FZ65 SZ65)), (167, (FZ5 SZ5))], isref, N⟩ 0 (anZ134 N SZ18 SZ65 SZ5) (lp Pg 166 0).2 (lp Pg 166 0).1 s (roundK Pg 0 ((anZ134 N SZ18 SZ65 SZ5) (lp Pg 166 0).1) κ k)) (sh_st_big_sum_0.build [.ints x_1, .ints y_1, .int n, .int carry, .int t17, .int t18, .ints z]) = iterG N (st_big_sum_0 N SZ18 SZ65 SZ5 x_1 y_1 n t17 (fun r1 r2 => κ.ext 0 (sx0_st_big_sum_0.build [.int n, .int r1, .ints r2]))) (carry, t18, z) :=
 iter_tr (fun (v_ : Int × Int × List Int) => sh_st_big_sum_0.build [.ints x_1, .ints y_1, .int n, .int v_.1, .int t17, .int v_.2.1, .ints v_.2.2]) (fun v_ K_ => by obtain ⟨carry, t18, z⟩ := v_; kernel_rfl) N (carry, t18, z)
theorem hk1_st_big_sum_0 (N : Nat) (SZ18 : TSZ18) (SZ65 : TSZ65) (SZ5 : TSZ5) : HookFor ⟨Pg, ofList [(170, (FZ18 SZ18)), (183, (FZ65 SZ65)), (167, (FZ5 SZ5))], isref, N⟩ 0 (anZ134 N SZ18 SZ65 SZ5) (lp Pg 166 0) (sh_st_big_sum_0, hk_st_big_sum_0 N SZ18 SZ65 SZ5) := by
 intro a κ h
 simp only at h
 unfold hk_st_big_sum_0 at h
 split at h
 ·exact (eq_st_big_sum_0 _ _ _ _ _ _ _ _ _ _ _ _).trans h
 ·cases h
theorem ho_big_sum_0 (N : Nat) (SZ18 : TSZ18) (SZ65 : TSZ65) (SZ5 : TSZ5) : HookOk ⟨Pg, ofList [(170, (FZ18 SZ18)), (183, (FZ65 SZ65)), (167, (FZ5 SZ5))], isref, N⟩ 0 (anZ134 N SZ18 SZ65 SZ5) (lp Pg 166 0) :=
 hooks_ok [(sh_st_big_sum_0, hk_st_big_sum_0 N SZ18 SZ65 SZ5)] (by kernel_rfl) ⟨hk1_st_big_sum_0 _ _ _ _, trivial⟩
theorem eqZ134 (N : Nat) (SZ18 : TSZ18) (SZ65 : TSZ65) (SZ5 : TSZ5) (x y : List Int) (c_ : V -> List Blk -> Bool) : bodyZ ⟨Pg, ofList [(170, (FZ18 SZ18)), (183, (FZ65 SZ65)), (167, (FZ5 SZ5))], isref, N⟩ (anZ134 N SZ18 SZ65 SZ5) 166 (shFZ134.args [.ints x, .ints y]) [] c_ = GZ134 N SZ18 SZ65 SZ5 x y (fun r0 => c_ (.roi .u64 r0) []) := by kernel_rfl
theorem goodZ134 (N : Nat) (SZ18 : TSZ18) (SZ65 : TSZ65) (SZ5 : TSZ5) (hZ18 : GoodF Pg 170 (FZ18 SZ18)) (hZ65 : GoodF Pg 183 (FZ65 SZ65)) (hZ5 : GoodF Pg 167 (FZ5 SZ5)) : GoodF Pg 166 (FZ134 (GZ134 N SZ18 SZ65 SZ5)) := by
 refine good_fsZ (cx := ⟨Pg, ofList [(170, (FZ18 SZ18)), (183, (FZ65 SZ65)), (167, (FZ5 SZ5))], isref, N⟩) (ofList_cons hZ18 (ofList_cons hZ65 (ofList_cons hZ5 (ofList_nil _)))) shFZ134 (spZ134 (GZ134 N SZ18 SZ65 SZ5)) (anZ134 N SZ18 SZ65 SZ5) 1 0 (by kernel_rfl) (fun i_ hi_ => by
  match i_, hi_ with
  | 0, _ => exact ho_big_sum_0 _ _ _ _
  | (q + 1), h => omega) ?_
 intro a k h
 unfold spZ134 at h
 split at h
 ·exact ⟨[], rfl, rfl, (eqZ134 _ _ _ _ _ _ _).trans h⟩
 ·cases h
def sh_st_big_compare_0 : StSh := ⟨(.roi .u64 :: (.roi .u64 :: (.any :: (.any :: (.any :: (.int .i64 :: (sqs 35 []))))))), []⟩
def sx0_st_big_compare_0 : StSh := ⟨(sqs 4 (.int .i64 :: (sqs 36 []))), []⟩
def sx1_st_big_compare_0 : StSh := ⟨(sqs 41 []), []⟩
def hk_st_big_compare_0 (N : Nat) : List Atom -> K -> Bool := fun a_ κ => match a_ with
 | [.ints x_1, .ints y_1, .int i] => iterG N (stZ172 N x_1 y_1 (fun r0 => κ.ret (sx0_st_big_compare_0.build [.int r0])) (κ.ext 0 (sx1_st_big_compare_0.build []))) i
 | _ => false
def anZ102 (N : Nat) : Nat -> Option Ann := fun b_ => cond (b_ == 0) (some ⟨⟨[0, 1, 5], [], []⟩, [(0, ⟨[], [], []⟩)], some ⟨[4], [], []⟩, some (mkHooks [(sh_st_big_compare_0, hk_st_big_compare_0 N)])⟩) (none)
theorem eq_st_big_compare_0 (N : Nat) (κ : K) (x_1 y_1 : List Int) (i : Int) : iter N (fun s k => codeV ⟨Pg, ofList [], isref, N⟩ 0 (anZ102 N) (lp Pg 177 0).2 (lp Pg 177 0).1 s (roundK Pg 0 ((anZ102 N) (lp Pg 177 0).1) κ k)) (sh_st_big_compare_0.build [.ints x_1, .ints y_1, .int i]) = iterG N (stZ172 N x_1 y_1 (fun r0 => κ.ret (sx0_st_big_compare_0.build [.int r0])) (κ.ext 0 (sx1_st_big_compare_0.build []))) i :=
 iter_tr (fun v_ => sh_st_big_compare_0.build [.ints x_1, .ints y_1, .int v_]) (fun v_ K_ => by kernel_rfl) N i
theorem hk1_st_big_compare_0 (N : Nat) : HookFor ⟨Pg, ofList [], isref, N⟩ 0 (anZ102 N) (lp Pg 177 0) (sh_st_big_compare_0, hk_st_big_compare_0 N) := by
 intro a κ h
 simp only at h
 unfold hk_st_big_compare_0 at h
 split at h
 ·exact (eq_st_big_compare_0 _ _ _ _ _).trans h
 ·cases h
theorem ho_big_compare_0 (N : Nat) : HookOk ⟨Pg, ofList [], isref, N⟩ 0 (anZ102 N) (lp Pg 177 0) :=
 hooks_ok [(sh_st_big_compare_0, hk_st_big_compare_0 N)] (by kernel_rfl) ⟨hk1_st_big_compare_0 _, trivial⟩
theorem eqZ102 (N : Nat) (x y : List Int) (c_ : V -> List Blk -> Bool) : bodyZ ⟨Pg, ofList [], isref, N⟩ (anZ102 N) 177 (shFZ102.args [.ints x, .ints y]) [] c_ = GZ102 N x y (fun r0 => c_ (.int .i64 r0) []) := by kernel_rfl
theorem goodZ102 (N : Nat) : GoodF Pg 177 (FZ102 (GZ102 N)) := by
 refine good_fsZ (cx := ⟨Pg, ofList [], isref, N⟩) (ofList_nil _) shFZ102 (spZ102 (GZ102 N)) (anZ102 N) 1 0 (by kernel_rfl) (fun i_ hi_ => by
  match i_, hi_ with
  | 0, _ => exact ho_big_compare_0 _
  | (q + 1), h => omega) ?_
 intro a k h
 unfold spZ102 at h
 split at h
 ·exact ⟨[], rfl, rfl, (eqZ102 _ _ _ _).trans h⟩
 ·cases h
def sh_st_big_less_0 : StSh := ⟨(.roi .u64 :: (.roi .u64 :: (.any :: (.any :: (.any :: (.slw 0 :: (.int .u64 :: (sqs 5 (.int .i64 :: (.int .i64 :: (sqs 20 []))))))))))), [some (22, 1, .ints .u64)]⟩
def sx0_st_big_less_0 : StSh := ⟨(sqs 5 (.slw 0 :: (sqs 28 []))), [some (22, 1, .ints .u64)]⟩
def hk_st_big_less_0 (N : Nat) (SZ18 : TSZ18) (SZ91 : TSZ91) (SZ5 : TSZ5) : List Atom -> K -> Bool := fun a_ κ => match a_ with
 | [.ints x_1, .ints y_1, .int borrow, .int t12, .int t13, .ints z] => iterG N (st_big_less_0 N SZ18 SZ91 SZ5 x_1 y_1 t12 (fun r0 => κ.ext 0 (sx0_st_big_less_0.build [.ints r0]))) (borrow, t13, z)
 | _ => false
def anZ140 (N : Nat) (SZ18 : TSZ18) (SZ91 : TSZ91) (SZ5 : TSZ5) : Nat -> Option Ann := fun b_ => cond (b_ == 0) (some ⟨⟨[0, 1, 5, 6, 12, 13], [], []⟩, [(0, ⟨[5], [], []⟩)], some ⟨[4], [], []⟩, some (mkHooks [(sh_st_big_less_0, hk_st_big_less_0 N SZ18 SZ91 SZ5)])⟩) (none)
theorem eq_st_big_less_0 (N : Nat) (SZ18 : TSZ18) (SZ91 : TSZ91) (SZ5 : TSZ5) (κ : K) (x_1 y_1 : List Int) (borrow t12 t13 : Int) (z : List Int) : iter N (fun s k => codeV ⟨Pg, ofList [(170, (FZ18 SZ18)), (191, (FZ91 SZ91)), (167, (FZ5 SZ5))], isref, N⟩ 0 (anZ140 N SZ18 SZ91 SZ5) (lp Pg 178 0).2 (lp Pg 178 0).1 s (roundK Pg 0 ((anZ140 N SZ18 SZ91 SZ5) (lp Pg 178 0).1) κ k)) (sh_st_big_less_0.build [.ints x_1, .ints y_1, .int borrow, .int t12, .int t13, .ints z]) = iterG N (st_big_less_0 N SZ18 SZ91 SZ5 x_1 y_1 t12 (fun r0 => κ.ext 0 (sx0_st_big_less_0.build [.ints r0]))) (borrow, t13, z) :=
 iter_tr (fun (v_ : Int × Int × List Int) => sh_st_big_less_0.build [.ints x_1, .ints y_1, .int v_.1, .int t12, .int v_.2.1, .ints v_.2.2]) (fun v_ K_ => by obtain ⟨borrow, t13, z⟩ := v_; kernel_rfl) N (borrow, t13, z)
theorem hk1_st_big_less_0 (N : Nat) (SZ18 : TSZ18) (SZ91 : TSZ91) (SZ5 : TSZ5) : HookFor ⟨Pg, ofList [(170, (FZ18 SZ18)), (191, (FZ91 SZ91)), (167, (FZ5 SZ5))], isref, N⟩ 0 (anZ140 N SZ18 SZ91 SZ5) (lp Pg 178 0) (sh_st_big_less_0, hk_st_big_less_0 N SZ18 SZ91 SZ5) := by
 intro a κ h
 simp only at h
 unfold hk_st_big_less_0 at h
 split at h
 ·exact (eq_st_big_less_0 _ _ _ _ _ _ _ _ _ _ _).trans h
 ·cases h
theorem ho_big_less_0 (N : Nat) (SZ18 : TSZ18) (SZ91 : TSZ91) (SZ5 : TSZ5) : HookOk ⟨Pg, ofList [(170, (FZ18 SZ18)), (191, (FZ91 SZ91)), (167, (FZ5 SZ5))], isref, N⟩ 0 (anZ140 N SZ18 SZ91 SZ5) (lp Pg 178 0) :=
 hooks_ok [(sh_st_big_less_0, hk_st_big_less_0 N SZ18 SZ91 SZ5)] (by kernel_rfl) ⟨hk1_st_big_less_0 _ _ _ _, trivial⟩
theorem eqZ140 (N : Nat) (SZ18 : TSZ18) (SZ91 : TSZ91) (SZ5 : TSZ5) (x y : List Int) (c_ : V -> List Blk -> Bool) : bodyZ ⟨Pg, ofList [(170, (FZ18 SZ18)), (191, (FZ91 SZ91)), (167, (FZ5 SZ5))], isref, N⟩ (anZ140 N SZ18 SZ91 SZ5) 178 (shFZ140.args [.ints x, .ints y]) [] c_ = GZ140 N SZ18 SZ91 SZ5 x y (fun r0 => c_ (.roi .u64 r0) []) := by kernel_rfl
theorem goodZ140 (N : Nat) (SZ18 : TSZ18) (SZ91 : TSZ91) (SZ5 : TSZ5) (hZ18 : GoodF Pg 170 (FZ18 SZ18)) (hZ91 : GoodF Pg 191 (FZ91 SZ91)) (hZ5 : GoodF Pg 167 (FZ5 SZ5)) : GoodF Pg 178 (FZ140 (GZ140 N SZ18 SZ91 SZ5)) := by
 refine good_fsZ (cx := ⟨Pg, ofList [(170, (FZ18 SZ18)), (191, (FZ91 SZ91)), (167, (FZ5 SZ5))], isref, N⟩) (ofList_cons hZ18 (ofList_cons hZ91 (ofList_cons hZ5 (ofList_nil _)))) shFZ140 (spZ140 (GZ140 N SZ18 SZ91 SZ5)) (anZ140 N SZ18 SZ91 SZ5) 1 0 (by kernel_rfl) (fun i_ hi_ => by
  match i_, hi_ with
  | 0, _ => exact ho_big_less_0 _ _ _ _
  | (q + 1), h => omega) ?_
 intro a k h
 unfold spZ140 at h
 split at h
 ·exact ⟨[], rfl, rfl, (eqZ140 _ _ _ _ _ _ _).trans h⟩
 ·cases h
def anZ56 (N : Nat) (SZ134 : TSZ134) (SZ4 : TSZ4) (SZ102 : TSZ102) (SZ140 : TSZ140) : Nat -> Option Ann := fun b_ => none
theorem eqZ56 (N : Nat) (SZ134 : TSZ134) (SZ4 : TSZ4) (SZ102 : TSZ102) (SZ140 : TSZ140) (neg : Bool) (y : List Int) (b b_1 : Bool) (b_2 : List Int) (c_ : V -> List Blk -> Bool) : bodyZ ⟨Pg, ofList [(166, (FZ134 SZ134)), (139, (FZ4 SZ4)), (177, (FZ102 SZ102)), (178, (FZ140 SZ140))], isref, N⟩ (anZ56 N SZ134 SZ4 SZ102 SZ140) 156 (shFZ56.args [.bool neg, .ints y, .bool b, .bool b_1, .ints b_2]) [⟨126, 1, .cells [.bool b, .nil]⟩, ⟨126, 1, .cells [.bool b_1, .roi .u64 b_2]⟩] c_ = GZ56 N SZ134 SZ4 SZ102 SZ140 neg y b b_1 b_2 (fun r0 r1 => c_ (.ptr 0 0) [⟨126, 1, .cells [.bool r0, .roi .u64 r1]⟩, ⟨126, 1, .cells [.bool b_1, .roi .u64 b_2]⟩]) := by kernel_rfl
theorem goodZ56 (N : Nat) (SZ134 : TSZ134) (SZ4 : TSZ4) (SZ102 : TSZ102) (SZ140 : TSZ140) (hZ134 : GoodF Pg 166 (FZ134 SZ134)) (hZ4 : GoodF Pg 139 (FZ4 SZ4)) (hZ102 : GoodF Pg 177 (FZ102 SZ102)) (hZ140 : GoodF Pg 178 (FZ140 SZ140)) : GoodF Pg 156 (FZ56 (GZ56 N SZ134 SZ4 SZ102 SZ140)) := by
 refine good_fsZ (cx := ⟨Pg, ofList [(166, (FZ134 SZ134)), (139, (FZ4 SZ4)), (177, (FZ102 SZ102)), (178, (FZ140 SZ140))], isref, N⟩) (ofList_cons hZ134 (ofList_cons hZ4 (ofList_cons hZ102 (ofList_cons hZ140 (ofList_nil _))))) shFZ56 (spZ56 (GZ56 N SZ134 SZ4 SZ102 SZ140)) (anZ56 N SZ134 SZ4 SZ102 SZ140) 0 2 (by kernel_rfl) (fun i_ hi_ => by omega) ?_
 intro a k h
 unfold spZ56 at h
 split at h
 ·exact ⟨[_, _], rfl, rfl, (eqZ56 _ _ _ _ _ _ _ _ _ _ _).trans h⟩
 ·cases h
def anZ26 (N : Nat) (SZ56 : TSZ56) : Nat -> Option Ann := fun b_ => none
theorem eqZ26 (N : Nat) (SZ56 : TSZ56) (b b_1 : Bool) (b_2 : List Int) (b_3 : Bool) (b_4 : List Int) (c_ : V -> List Blk -> Bool) : bodyZ ⟨Pg, ofList [(156, (FZ56 SZ56))], isref, N⟩ (anZ26 N SZ56) 127 (shFZ26.args [.bool b, .bool b_1, .ints b_2, .bool b_3, .ints b_4]) [⟨126, 1, .cells [.bool b, .nil]⟩, ⟨126, 1, .cells [.bool b_1, .roi .u64 b_2]⟩, ⟨126, 1, .cells [.bool b_3, .roi .u64 b_4]⟩] c_ = GZ26 N SZ56 b b_1 b_2 b_3 b_4 (fun r0 r1 => c_ (.ptr 0 0) [⟨126, 1, .cells [.bool r0, .roi .u64 r1]⟩, ⟨126, 1, .cells [.bool b_1, .roi .u64 b_2]⟩, ⟨126, 1, .cells [.bool b_3, .roi .u64 b_4]⟩]) := by kernel_rfl
theorem goodZ26 (N : Nat) (SZ56 : TSZ56) (hZ56 : GoodF Pg 156 (FZ56 SZ56)) : GoodF Pg 127 (FZ26 (GZ26 N SZ56)) := by
 refine good_fsZ (cx := ⟨Pg, ofList [(156, (FZ56 SZ56))], isref, N⟩) (ofList_cons hZ56 (ofList_nil _)) shFZ26 (spZ26 (GZ26 N SZ56)) (anZ26 N SZ56) 0 3 (by kernel_rfl) (fun i_ hi_ => by omega) ?_
 intro a k h
 unfold spZ26 at h
 split at h
 ·exact ⟨[_, _, _], rfl, rfl, (eqZ26 _ _ _ _ _ _ _ _).trans h⟩
 ·cases h
def anZ21 (N : Nat) (SZ78 : TSZ78) (SZ7 : TSZ7) (SZ33 : TSZ33) (SZ26 : TSZ26) : Nat -> Option Ann := fun b_ => none
theorem eqZ21 (N : Nat) (SZ78 : TSZ78) (SZ7 : TSZ7) (SZ33 : TSZ33) (SZ26 : TSZ26) (x y : Int) (b b_1 : Bool) (b_2 : List Int) (c_ : V -> List Blk -> Bool) : bodyV ⟨Pg, ofList [(94, (orFs (FZ78 SZ78) (FZ7 SZ7) shFZ78)), (128, (FZ33 SZ33)), (127, (FZ26 SZ26))], isref, N⟩ (anZ21 N SZ78 SZ7 SZ33 SZ26) 85 (shFZ21.args [.int x, .int y, .bool b, .bool b_1, .ints b_2]) [⟨126, 1, .cells [.bool b, .nil]⟩, ⟨126, 1, .cells [.bool b_1, .roi .u64 b_2]⟩] c_ = GZ21 N SZ78 SZ7 SZ33 SZ26 x y b b_1 b_2 (fun r2 => c_ (.agg [.ptr 1 0, .int .i64 y]) [⟨126, 1, .cells [.bool b, .roi .u64 r2]⟩, ⟨126, 1, .cells [.bool b_1, .roi .u64 b_2]⟩]) (fun r2 => c_ (.agg [.ptr 0 0, .int .i64 x]) [⟨126, 1, .cells [.bool b, .roi .u64 r2]⟩, ⟨126, 1, .cells [.bool b_1, .roi .u64 b_2]⟩]) (fun r0 r2 r5 r6 => c_ (.agg [.ptr 2 0, .int .i64 r0]) [⟨126, 1, .cells [.bool b, .roi .u64 r2]⟩, ⟨126, 1, .cells [.bool b_1, .roi .u64 b_2]⟩, ⟨126, 1, .cells [.bool r5, .roi .u64 r6]⟩]) := by kernel_rfl
theorem goodZ21 (N : Nat) (SZ78 : TSZ78) (SZ7 : TSZ7) (SZ33 : TSZ33) (SZ26 : TSZ26) (hZ78 : GoodF Pg 94 (FZ78 SZ78)) (hZ7 : GoodF Pg 94 (FZ7 SZ7)) (hZ33 : GoodF Pg 128 (FZ33 SZ33)) (hZ26 : GoodF Pg 127 (FZ26 SZ26)) : GoodF Pg 85 (FZ21 (GZ21 N SZ78 SZ7 SZ33 SZ26)) := by
 refine good_fs (cx := ⟨Pg, ofList [(94, (orFs (FZ78 SZ78) (FZ7 SZ7) shFZ78)), (128, (FZ33 SZ33)), (127, (FZ26 SZ26))], isref, N⟩) (ofList_cons (good_or hZ78 hZ7) (ofList_cons hZ33 (ofList_cons hZ26 (ofList_nil _)))) shFZ21 (spZ21 (GZ21 N SZ78 SZ7 SZ33 SZ26)) (anZ21 N SZ78 SZ7 SZ33 SZ26) 0 2 (by kernel_rfl) (fun i_ hi_ => by omega) ?_
 intro a k h
 unfold spZ21 at h
 split at h
 ·exact ⟨[_, _], rfl, rfl, (eqZ21 _ _ _ _ _ _ _ _ _ _ _).trans h⟩
 ·cases h
def anZ8 (N : Nat) (SZ7 : TSZ7) (SZ33 : TSZ33) (SZ26 : TSZ26) : Nat -> Option Ann := fun b_ => none
theorem eqZ8 (N : Nat) (SZ7 : TSZ7) (SZ33 : TSZ33) (SZ26 : TSZ26) (x y : Int) (b : Bool) (b_1 : List Int) (b_2 : Bool) (b_3 : List Int) (c_ : V -> List Blk -> Bool) : bodyV ⟨Pg, ofList [(94, (FZ7 SZ7)), (128, (FZ33 SZ33)), (127, (FZ26 SZ26))], isref, N⟩ (anZ8 N SZ7 SZ33 SZ26) 85 (shFZ8.args [.int x, .int y, .bool b, .ints b_1, .bool b_2, .ints b_3]) [⟨126, 1, .cells [.bool b, .roi .u64 b_1]⟩, ⟨126, 1, .cells [.bool b_2, .roi .u64 b_3]⟩] c_ = GZ8 N SZ7 SZ33 SZ26 x y b b_1 b_2 b_3 (c_ (.agg [.ptr 1 0, .int .i64 y]) [⟨126, 1, .cells [.bool b, .roi .u64 b_1]⟩, ⟨126, 1, .cells [.bool b_2, .roi .u64 b_3]⟩]) (c_ (.agg [.ptr 0 0, .int .i64 x]) [⟨126, 1, .cells [.bool b, .roi .u64 b_1]⟩, ⟨126, 1, .cells [.bool b_2, .roi .u64 b_3]⟩]) (fun r0 r5 r6 => c_ (.agg [.ptr 2 0, .int .i64 r0]) [⟨126, 1, .cells [.bool b, .roi .u64 b_1]⟩, ⟨126, 1, .cells [.bool b_2, .roi .u64 b_3]⟩, ⟨126, 1, .cells [.bool r5, .roi .u64 r6]⟩]) := by kernel_rfl
theorem goodZ8 (N : Nat) (SZ7 : TSZ7) (SZ33 : TSZ33) (SZ26 : TSZ26) (hZ7 : GoodF Pg 94 (FZ7 SZ7)) (hZ33 : GoodF Pg 128 (FZ33 SZ33)) (hZ26 : GoodF Pg 127 (FZ26 SZ26)) : GoodF Pg 85 (FZ8 (GZ8 N SZ7 SZ33 SZ26)) := by
 refine good_fs (cx := ⟨Pg, ofList [(94, (FZ7 SZ7)), (128, (FZ33 SZ33)), (127, (FZ26 SZ26))], isref, N⟩) (ofList_cons hZ7 (ofList_cons hZ33 (ofList_cons hZ26 (ofList_nil _)))) shFZ8 (spZ8 (GZ8 N SZ7 SZ33 SZ26)) (anZ8 N SZ7 SZ33 SZ26) 0 2 (by kernel_rfl) (fun i_ hi_ => by omega) ?_
 intro a k h
 unfold spZ8 at h
 split at h
 ·exact ⟨[_, _], rfl, rfl, (eqZ8 _ _ _ _ _ _ _ _ _ _ _).trans h⟩
 ·cases h
def anZ34 (N : Nat) (SZ73 : TSZ73) (SZ4 : TSZ4) : Nat -> Option Ann := fun b_ => none
theorem eqZ34 (N : Nat) (SZ73 : TSZ73) (SZ4 : TSZ4) (b b_1 : Bool) (b_2 : List Int) (c_ : V -> List Blk -> Bool) : bodyZ ⟨Pg, ofList [(140, (FZ73 SZ73)), (139, (FZ4 SZ4))], isref, N⟩ (anZ34 N SZ73 SZ4) 160 (shFZ34.args [.bool b, .bool b_1, .ints b_2]) [⟨126, 1, .cells [.bool b, .nil]⟩, ⟨126, 1, .cells [.bool b_1, .roi .u64 b_2]⟩] c_ = GZ34 N SZ73 SZ4 b b_1 b_2 (fun r0 r1 => c_ (.ptr 0 0) [⟨126, 1, .cells [.bool r0, .roi .u64 r1]⟩, ⟨126, 1, .cells [.bool b_1, .roi .u64 b_2]⟩]) := by kernel_rfl
theorem goodZ34 (N : Nat) (SZ73 : TSZ73) (SZ4 : TSZ4) (hZ73 : GoodF Pg 140 (FZ73 SZ73)) (hZ4 : GoodF Pg 139 (FZ4 SZ4)) : GoodF Pg 160 (FZ34 (GZ34 N SZ73 SZ4)) := by
 refine good_fsZ (cx := ⟨Pg, ofList [(140, (FZ73 SZ73)), (139, (FZ4 SZ4))], isref, N⟩) (ofList_cons hZ73 (ofList_cons hZ4 (ofList_nil _))) shFZ34 (spZ34 (GZ34 N SZ73 SZ4)) (anZ34 N SZ73 SZ4) 0 2 (by kernel_rfl) (fun i_ hi_ => by omega) ?_
 intro a k h
 unfold spZ34 at h
 split at h
 ·exact ⟨[_, _], rfl, rfl, (eqZ34 _ _ _ _ _ _ _).trans h⟩
 ·cases h
def anZ49 (N : Nat) (SZ18 : TSZ18) : Nat -> Option Ann := fun b_ => none
theorem eqZ49 (N : Nat) (SZ18 : TSZ18) (i : Int) (b : Bool) (b_1 : List Int) (c_ : V -> List Blk -> Bool) : bodyZ ⟨Pg, ofList [(170, (FZ18 SZ18))], isref, N⟩ (anZ49 N SZ18) 161 (shFZ49.args [.int i, .bool b, .ints b_1]) [⟨126, 1, .cells [.bool b, .roi .u64 b_1]⟩] c_ = GZ49 N SZ18 i b b_1 (fun r0 => c_ (.int .u64 r0) [⟨126, 1, .cells [.bool b, .roi .u64 b_1]⟩]) := by kernel_rfl
theorem goodZ49 (N : Nat) (SZ18 : TSZ18) (hZ18 : GoodF Pg 170 (FZ18 SZ18)) : GoodF Pg 161 (FZ49 (GZ49 N SZ18)) := by
 refine good_fsZ (cx := ⟨Pg, ofList [(170, (FZ18 SZ18))], isref, N⟩) (ofList_cons hZ18 (ofList_nil _)) shFZ49 (spZ49 (GZ49 N SZ18)) (anZ49 N SZ18) 0 1 (by kernel_rfl) (fun i_ hi_ => by omega) ?_
 intro a k h
 unfold spZ49 at h
 split at h
 ·exact ⟨[_], rfl, rfl, (eqZ49 _ _ _ _ _ _).trans h⟩
 ·cases h
def sh_st_big_Int_TrailingZeroBits_p0r_0 : StSh := ⟨(sqs 8 (.roi .u64 :: (.int .i64 :: (.int .i64 :: (sqs 13 []))))), [some (126, 1, .cells [.bool, .roi .u64])]⟩
def sx0_st_big_Int_TrailingZeroBits_p0r_0 : StSh := ⟨(.any :: (.any :: (.int .u64 :: (sqs 21 [])))), [some (126, 1, .cells [.bool, .roi .u64])]⟩
def sx1_st_big_Int_TrailingZeroBits_p0r_0 : StSh := ⟨(sqs 24 []), [some (126, 1, .cells [.bool, .roi .u64])]⟩
def hk_st_big_Int_TrailingZeroBits_p0r_0 (N : Nat) (SZ9 : TSZ9) : List Atom -> K -> Bool := fun a_ κ => match a_ with
 | [.ints t8, .int t9, .int t10, .bool b0, .ints b0_1] => iterG N (stZ162 N SZ9 t8 t9 b0 b0_1 (fun r0 => κ.ret (sx0_st_big_Int_TrailingZeroBits_p0r_0.build [.int r0, .bool b0, .ints b0_1])) (κ.ext 0 (sx1_st_big_Int_TrailingZeroBits_p0r_0.build [.bool b0, .ints b0_1]))) t10
 | _ => false
def anZ11 (N : Nat) (SZ9 : TSZ9) : Nat -> Option Ann := fun b_ => cond (b_ == 0) (some ⟨⟨[8, 9, 10], [], []⟩, [(0, ⟨[], [], []⟩)], some ⟨[2], [], []⟩, some (mkHooks [(sh_st_big_Int_TrailingZeroBits_p0r_0, hk_st_big_Int_TrailingZeroBits_p0r_0 N SZ9)])⟩) (none)
theorem eq_st_big_Int_TrailingZeroBits_p0r_0 (N : Nat) (SZ9 : TSZ9) (κ : K) (t8 : List Int) (t9 t10 : Int) (b0 : Bool) (b0_1 : List Int) : iter N (fun s k => codeV ⟨Pg, ofList [(180, (FZ9 SZ9))], isref, N⟩ 1 (anZ11 N SZ9) (lp Pg 162 0).2 (lp Pg 162 0).1 s (roundK Pg 1 ((anZ11 N SZ9) (lp Pg 162 0).1) κ k)) (sh_st_big_Int_TrailingZeroBits_p0r_0.build [.ints t8, .int t9, .int t10, .bool b0, .ints b0_1]) = iterG N (stZ162 N SZ9 t8 t9 b0 b0_1 (fun r0 => κ.ret (sx0_st_big_Int_TrailingZeroBits_p0r_0.build [.int r0, .bool b0, .ints b0_1])) (κ.ext 0 (sx1_st_big_Int_TrailingZeroBits_p0r_0.build [.bool b0, .ints b0_1]))) t10 :=
 iter_tr (fun v_ => sh_st_big_Int_TrailingZeroBits_p0r_0.build [.ints t8, .int t9, .int v_, .bool b0, .ints b0_1]) (fun v_ K_ => by kernel_rfl) N t10
theorem hk1_st_big_Int_TrailingZeroBits_p0r_0 (N : Nat) (SZ9 : TSZ9) : HookFor ⟨Pg, ofList [(180, (FZ9 SZ9))], isref, N⟩ 1 (anZ11 N SZ9) (lp Pg 162 0) (sh_st_big_Int_TrailingZeroBits_p0r_0, hk_st_big_Int_TrailingZeroBits_p0r_0 N SZ9) := by
 intro a κ h
 simp only at h
 unfold hk_st_big_Int_TrailingZeroBits_p0r_0 at h
 split at h
 ·exact (eq_st_big_Int_TrailingZeroBits_p0r_0 _ _ _ _ _ _ _ _).trans h
 ·cases h
theorem ho_big_Int_TrailingZeroBits_p0r_0 (N : Nat) (SZ9 : TSZ9) : HookOk ⟨Pg, ofList [(180, (FZ9 SZ9))], isref, N⟩ 1 (anZ11 N SZ9) (lp Pg 162 0) :=
 hooks_ok [(sh_st_big_Int_TrailingZeroBits_p0r_0, hk_st_big_Int_TrailingZeroBits_p0r_0 N SZ9)] (by kernel_rfl) ⟨hk1_st_big_Int_TrailingZeroBits_p0r_0 _ _, trivial⟩
theorem eqZ11 (N : Nat) (SZ9 : TSZ9) (b : Bool) (b_1 : List Int) (c_ : V -> List Blk -> Bool) : bodyZ ⟨Pg, ofList [(180, (FZ9 SZ9))], isref, N⟩ (anZ11 N SZ9) 162 (shFZ11.args [.bool b, .ints b_1]) [⟨126, 1, .cells [.bool b, .roi .u64 b_1]⟩] c_ = GZ11 N SZ9 b b_1 (fun r0 => c_ (.int .u64 r0) [⟨126, 1, .cells [.bool b, .roi .u64 b_1]⟩]) := by kernel_rfl
theorem goodZ11 (N : Nat) (SZ9 : TSZ9) (hZ9 : GoodF Pg 180 (FZ9 SZ9)) : GoodF Pg 162 (FZ11 (GZ11 N SZ9)) := by
 refine good_fsZ (cx := ⟨Pg, ofList [(180, (FZ9 SZ9))], isref, N⟩) (ofList_cons hZ9 (ofList_nil _)) shFZ11 (spZ11 (GZ11 N SZ9)) (anZ11 N SZ9) 1 1 (by kernel_rfl) (fun i_ hi_ => by
  match i_, hi_ with
  | 0, _ => exact ho_big_Int_TrailingZeroBits_p0r_0 _ _
  | (q + 1), h => omega) ?_
 intro a k h
 unfold spZ11 at h
 split at h
 ·exact ⟨[_], rfl, rfl, (eqZ11 _ _ _ _ _).trans h⟩
 ·cases h
def sh_st_big_right_0 : StSh := ⟨(.roi .u64 :: (sqs 5 (.int .i64 :: (.int .u64 :: (.int .u64 :: (sqs 28 (.roi .u64 :: (.int .i64 :: (.int .i64 :: (sqs 42 [])))))))))), []⟩
def sx0_st_big_right_0 : StSh := ⟨(.roi .u64 :: (sqs 5 (.int .i64 :: (.int .u64 :: (.int .u64 :: (sqs 73 [])))))), []⟩
def hk_st_big_right_0 (N : Nat) (SZ18 : TSZ18) (SZ5 : TSZ5) : List Atom -> K -> Bool := fun a_ κ => match a_ with
 | [.ints x_1, .int words, .int rest, .int lost, .ints t37, .int t38, .int t39] => iterG N (st_big_right_0 N SZ18 SZ5 x_1 words rest t37 t38 (fun r3 => κ.ext 0 (sx0_st_big_right_0.build [.ints x_1, .int words, .int rest, .int r3]))) (lost, t39)
 | _ => false
def sh_st_big_right_2 : StSh := ⟨(.roi .u64 :: (sqs 5 (.int .i64 :: (.int .u64 :: (.int .u64 :: (.any :: (.any :: (.slw 0 :: (sqs 41 (.int .i64 :: (.int .i64 :: (sqs 27 [])))))))))))), [some (22, 1, .ints .u64)]⟩
def sx0_st_big_right_2 : StSh := ⟨(sqs 8 (.int .u64 :: (.any :: (.any :: (.slw 0 :: (sqs 70 [])))))), [some (22, 1, .ints .u64)]⟩
def hk_st_big_right_2 (N : Nat) (SZ18 : TSZ18) (SZ5 : TSZ5) : List Atom -> K -> Bool := fun a_ κ => match a_ with
 | [.ints x_2, .int words_1, .int rest_1, .int lost_2, .int t53, .int t54, .ints z] => iterG N (st_big_right_2 N SZ18 SZ5 x_2 words_1 rest_1 lost_2 t53 (fun r1 => κ.ext 2 (sx0_st_big_right_2.build [.int lost_2, .ints r1]))) (t54, z)
 | _ => false
def anZ117 (N : Nat) (SZ18 : TSZ18) (SZ5 : TSZ5) : Nat -> Option Ann := fun b_ => cond (b_ == 0) (some ⟨⟨[0, 6, 7, 8, 37, 38, 39], [], []⟩, [(0, ⟨[0, 6, 7, 8], [], []⟩)], some ⟨[4, 5], [], []⟩, some (mkHooks [(sh_st_big_right_0, hk_st_big_right_0 N SZ18 SZ5)])⟩) (cond (b_ == 2) (some ⟨⟨[0, 6, 7, 8, 11, 53, 54], [], []⟩, [(2, ⟨[8, 11], [], []⟩)], some ⟨[4, 5], [], []⟩, some (mkHooks [(sh_st_big_right_2, hk_st_big_right_2 N SZ18 SZ5)])⟩) (none))
theorem eq_st_big_right_0 (N : Nat) (SZ18 : TSZ18) (SZ5 : TSZ5) (κ : K) (x_1 : List Int) (words rest lost : Int) (t37 : List Int) (t38 t39 : Int) : iter N (fun s k => codeV ⟨Pg, ofList [(170, (FZ18 SZ18)), (167, (FZ5 SZ5))], isref, N⟩ 0 (anZ117 N SZ18 SZ5) (lp Pg 165 0).2 (lp Pg 165 0).1 s (roundK Pg 0 ((anZ117 N SZ18 SZ5) (lp Pg 165 0).1) κ k)) (sh_st_big_right_0.build [.ints x_1, .int words, .int rest, .int lost, .ints t37, .int t38, .int t39]) = iterG N (st_big_right_0 N SZ18 SZ5 x_1 words rest t37 t38 (fun r3 => κ.ext 0 (sx0_st_big_right_0.build [.ints x_1, .int words, .int rest, .int r3]))) (lost, t39) :=
 iter_tr (fun (v_ : Int × Int) => sh_st_big_right_0.build [.ints x_1, .int words, .int rest, .int v_.1, .ints t37, .int t38, .int v_.2]) (fun v_ K_ => by obtain ⟨lost, t39⟩ := v_; kernel_rfl) N (lost, t39)
theorem hk1_st_big_right_0 (N : Nat) (SZ18 : TSZ18) (SZ5 : TSZ5) : HookFor ⟨Pg, ofList [(170, (FZ18 SZ18)), (167, (FZ5 SZ5))], isref, N⟩ 0 (anZ117 N SZ18 SZ5) (lp Pg 165 0) (sh_st_big_right_0, hk_st_big_right_0 N SZ18 SZ5) := by
 intro a κ h
 simp only at h
 unfold hk_st_big_right_0 at h
 split at h
 ·exact (eq_st_big_right_0 _ _ _ _ _ _ _ _ _ _ _).trans h
 ·cases h
theorem eq_st_big_right_2 (N : Nat) (SZ18 : TSZ18) (SZ5 : TSZ5) (κ : K) (x_2 : List Int) (words_1 rest_1 lost_2 t53 t54 : Int) (z : List Int) : iter N (fun s k => codeV ⟨Pg, ofList [(170, (FZ18 SZ18)), (167, (FZ5 SZ5))], isref, N⟩ 0 (anZ117 N SZ18 SZ5) (lp Pg 165 1).2 (lp Pg 165 1).1 s (roundK Pg 0 ((anZ117 N SZ18 SZ5) (lp Pg 165 1).1) κ k)) (sh_st_big_right_2.build [.ints x_2, .int words_1, .int rest_1, .int lost_2, .int t53, .int t54, .ints z]) = iterG N (st_big_right_2 N SZ18 SZ5 x_2 words_1 rest_1 lost_2 t53 (fun r1 => κ.ext 2 (sx0_st_big_right_2.build [.int lost_2, .ints r1]))) (t54, z) :=
 iter_tr (fun (v_ : Int × List Int) => sh_st_big_right_2.build [.ints x_2, .int words_1, .int rest_1, .int lost_2, .int t53, .int v_.1, .ints v_.2]) (fun v_ K_ => by obtain ⟨t54, z⟩ := v_; kernel_rfl) N (t54, z)
theorem hk1_st_big_right_2 (N : Nat) (SZ18 : TSZ18) (SZ5 : TSZ5) : HookFor ⟨Pg, ofList [(170, (FZ18 SZ18)), (167, (FZ5 SZ5))], isref, N⟩ 0 (anZ117 N SZ18 SZ5) (lp Pg 165 1) (sh_st_big_right_2, hk_st_big_right_2 N SZ18 SZ5) := by
 intro a κ h
 simp only at h
 unfold hk_st_big_right_2 at h
 split at h
 ·exact (eq_st_big_right_2 _ _ _ _ _ _ _ _ _ _ _).trans h
 ·cases h
theorem ho_big_right_0 (N : Nat) (SZ18 : TSZ18) (SZ5 : TSZ5) : HookOk ⟨Pg, ofList [(170, (FZ18 SZ18)), (167, (FZ5 SZ5))], isref, N⟩ 0 (anZ117 N SZ18 SZ5) (lp Pg 165 0) :=
 hooks_ok [(sh_st_big_right_0, hk_st_big_right_0 N SZ18 SZ5)] (by kernel_rfl) ⟨hk1_st_big_right_0 _ _ _, trivial⟩
theorem ho_big_right_2 (N : Nat) (SZ18 : TSZ18) (SZ5 : TSZ5) : HookOk ⟨Pg, ofList [(170, (FZ18 SZ18)), (167, (FZ5 SZ5))], isref, N⟩ 0 (anZ117 N SZ18 SZ5) (lp Pg 165 1) :=
 hooks_ok [(sh_st_big_right_2, hk_st_big_right_2 N SZ18 SZ5)] (by kernel_rfl) ⟨hk1_st_big_right_2 _ _ _, trivial⟩
theorem eqZ117 (N : Nat) (SZ18 : TSZ18) (SZ5 : TSZ5) (x : List Int) (n : Int) (c_ : V -> List Blk -> Bool) : bodyZ ⟨Pg, ofList [(170, (FZ18 SZ18)), (167, (FZ5 SZ5))], isref, N⟩ (anZ117 N SZ18 SZ5) 165 (shFZ117.args [.ints x, .int n]) [] c_ = GZ117 N SZ18 SZ5 x n (fun r0 r1 => c_ (.tup [.roi .u64 r0, .bool r1]) []) := by kernel_rfl
theorem goodZ117 (N : Nat) (SZ18 : TSZ18) (SZ5 : TSZ5) (hZ18 : GoodF Pg 170 (FZ18 SZ18)) (hZ5 : GoodF Pg 167 (FZ5 SZ5)) : GoodF Pg 165 (FZ117 (GZ117 N SZ18 SZ5)) := by
 refine good_fsZ (cx := ⟨Pg, ofList [(170, (FZ18 SZ18)), (167, (FZ5 SZ5))], isref, N⟩) (ofList_cons hZ18 (ofList_cons hZ5 (ofList_nil _))) shFZ117 (spZ117 (GZ117 N SZ18 SZ5)) (anZ117 N SZ18 SZ5) 2 0 (by kernel_rfl) (fun i_ hi_ => by
  match i_, hi_ with
  | 0, _ => exact ho_big_right_0 _ _ _
  | 1, _ => exact ho_big_right_2 _ _ _
  | (q + 2), h => omega) ?_
 intro a k h
 unfold spZ117 at h
 split at h
 ·exact ⟨[], rfl, rfl, (eqZ117 _ _ _ _ _ _).trans h⟩
 ·cases h
def anZ16 (N : Nat) (SZ117 : TSZ117) (SZ134 : TSZ134) (SZ31 : TSZ31) : Nat -> Option Ann := fun b_ => none
theorem eqZ16 (N : Nat) (SZ117 : TSZ117) (SZ134 : TSZ134) (SZ31 : TSZ31) (n : Int) (b : Bool) (b_1 : List Int) (c_ : V -> List Blk -> Bool) : bodyZ ⟨Pg, ofList [(165, (FZ117 SZ117)), (166, (FZ134 SZ134)), (139, (FZ31 SZ31))], isref, N⟩ (anZ16 N SZ117 SZ134 SZ31) 136 (shFZ16.args [.int n, .bool b, .ints b_1]) [⟨126, 1, .cells [.bool b, .roi .u64 b_1]⟩] c_ = GZ16 N SZ117 SZ134 SZ31 n b b_1 (fun r0 r1 => c_ (.ptr 0 0) [⟨126, 1, .cells [.bool r0, .roi .u64 r1]⟩]) := by kernel_rfl
theorem goodZ16 (N : Nat) (SZ117 : TSZ117) (SZ134 : TSZ134) (SZ31 : TSZ31) (hZ117 : GoodF Pg 165 (FZ117 SZ117)) (hZ134 : GoodF Pg 166 (FZ134 SZ134)) (hZ31 : GoodF Pg 139 (FZ31 SZ31)) : GoodF Pg 136 (FZ16 (GZ16 N SZ117 SZ134 SZ31)) := by
 refine good_fsZ (cx := ⟨Pg, ofList [(165, (FZ117 SZ117)), (166, (FZ134 SZ134)), (139, (FZ31 SZ31))], isref, N⟩) (ofList_cons hZ117 (ofList_cons hZ134 (ofList_cons hZ31 (ofList_nil _)))) shFZ16 (spZ16 (GZ16 N SZ117 SZ134 SZ31)) (anZ16 N SZ117 SZ134 SZ31) 0 1 (by kernel_rfl) (fun i_ hi_ => by omega) ?_
 intro a k h
 unfold spZ16 at h
 split at h
 ·exact ⟨[_], rfl, rfl, (eqZ16 _ _ _ _ _ _ _ _).trans h⟩
 ·cases h
def sh_st_v_dyad_exact_halve_p0r_0 : StSh := ⟨(.any :: (.any :: (.ptr 1 0 :: (.ptr 2 0 :: (.int .i64 :: (sqs 28 [])))))), [some (126, 1, .cells [.bool, .roi .u64]), some (128, 1, .cells [.val, .int .i64]), some (126, 1, .cells [.bool, .roi .u64])]⟩
def sx0_st_v_dyad_exact_halve_p0r_0 : StSh := ⟨(.any :: (.any :: (.ptr 1 0 :: (.ptr 2 0 :: (.int .i64 :: (sqs 28 [])))))), [some (126, 1, .cells [.bool, .roi .u64]), some (128, 1, .cells [.val, .int .i64]), some (126, 1, .cells [.bool, .roi .u64])]⟩
def hk_st_v_dyad_exact_halve_p0r_0 (N : Nat) (SZ34 : TSZ34) (SZ7 : TSZ7) (SZ49 : TSZ49) (SZ11 : TSZ11) (SZ16 : TSZ16) : List Atom -> K -> Bool := fun a_ κ => match a_ with
 | [.int e, .bool b0, .ints b0_1, .val t2, .int t2_1, .bool n, .ints n_1] => iterG N (stZ160 N SZ34 SZ7 SZ49 SZ11 SZ16 b0 b0_1 t2 t2_1 (fun r0 r5 r6 => κ.ext 0 (sx0_st_v_dyad_exact_halve_p0r_0.build [.int r0, .bool b0, .ints b0_1, .val t2, .int t2_1, .bool r5, .ints r6]))) (e, n, n_1)
 | _ => false
def anZ22 (N : Nat) (SZ34 : TSZ34) (SZ7 : TSZ7) (SZ49 : TSZ49) (SZ11 : TSZ11) (SZ16 : TSZ16) : Nat -> Option Ann := fun b_ => cond (b_ == 0) (some ⟨⟨[2, 3, 4], [], []⟩, [(0, ⟨[2, 3, 4], [], []⟩)], some ⟨[2], [], []⟩, some (mkHooks [(sh_st_v_dyad_exact_halve_p0r_0, hk_st_v_dyad_exact_halve_p0r_0 N SZ34 SZ7 SZ49 SZ11 SZ16)])⟩) (none)
theorem eq_st_v_dyad_exact_halve_p0r_0 (N : Nat) (SZ34 : TSZ34) (SZ7 : TSZ7) (SZ49 : TSZ49) (SZ11 : TSZ11) (SZ16 : TSZ16) (κ : K) (e : Int) (b0 : Bool) (b0_1 : List Int) (t2 : Value) (t2_1 : Int) (n : Bool) (n_1 : List Int) : iter N (fun s k => codeV ⟨Pg, ofList [(160, (FZ34 SZ34)), (94, (FZ7 SZ7)), (161, (FZ49 SZ49)), (162, (FZ11 SZ11)), (136, (FZ16 SZ16))], isref, N⟩ 1 (anZ22 N SZ34 SZ7 SZ49 SZ11 SZ16) (lp Pg 132 0).2 (lp Pg 132 0).1 s (roundK Pg 1 ((anZ22 N SZ34 SZ7 SZ49 SZ11 SZ16) (lp Pg 132 0).1) κ k)) (sh_st_v_dyad_exact_halve_p0r_0.build [.int e, .bool b0, .ints b0_1, .val t2, .int t2_1, .bool n, .ints n_1]) = iterG N (stZ160 N SZ34 SZ7 SZ49 SZ11 SZ16 b0 b0_1 t2 t2_1 (fun r0 r5 r6 => κ.ext 0 (sx0_st_v_dyad_exact_halve_p0r_0.build [.int r0, .bool b0, .ints b0_1, .val t2, .int t2_1, .bool r5, .ints r6]))) (e, n, n_1) :=
 iter_tr (fun (v_ : Int × Bool × List Int) => sh_st_v_dyad_exact_halve_p0r_0.build [.int v_.1, .bool b0, .ints b0_1, .val t2, .int t2_1, .bool v_.2.1, .ints v_.2.2]) (fun v_ K_ => by obtain ⟨e, n, n_1⟩ := v_; kernel_rfl) N (e, n, n_1)
theorem hk1_st_v_dyad_exact_halve_p0r_0 (N : Nat) (SZ34 : TSZ34) (SZ7 : TSZ7) (SZ49 : TSZ49) (SZ11 : TSZ11) (SZ16 : TSZ16) : HookFor ⟨Pg, ofList [(160, (FZ34 SZ34)), (94, (FZ7 SZ7)), (161, (FZ49 SZ49)), (162, (FZ11 SZ11)), (136, (FZ16 SZ16))], isref, N⟩ 1 (anZ22 N SZ34 SZ7 SZ49 SZ11 SZ16) (lp Pg 132 0) (sh_st_v_dyad_exact_halve_p0r_0, hk_st_v_dyad_exact_halve_p0r_0 N SZ34 SZ7 SZ49 SZ11 SZ16) := by
 intro a κ h
 simp only at h
 unfold hk_st_v_dyad_exact_halve_p0r_0 at h
 split at h
 ·exact (eq_st_v_dyad_exact_halve_p0r_0 _ _ _ _ _ _ _ _ _ _ _ _ _ _).trans h
 ·cases h
theorem ho_v_dyad_exact_halve_p0r_0 (N : Nat) (SZ34 : TSZ34) (SZ7 : TSZ7) (SZ49 : TSZ49) (SZ11 : TSZ11) (SZ16 : TSZ16) : HookOk ⟨Pg, ofList [(160, (FZ34 SZ34)), (94, (FZ7 SZ7)), (161, (FZ49 SZ49)), (162, (FZ11 SZ11)), (136, (FZ16 SZ16))], isref, N⟩ 1 (anZ22 N SZ34 SZ7 SZ49 SZ11 SZ16) (lp Pg 132 0) :=
 hooks_ok [(sh_st_v_dyad_exact_halve_p0r_0, hk_st_v_dyad_exact_halve_p0r_0 N SZ34 SZ7 SZ49 SZ11 SZ16)] (by kernel_rfl) ⟨hk1_st_v_dyad_exact_halve_p0r_0 _ _ _ _ _ _, trivial⟩
theorem eqZ22 (N : Nat) (SZ34 : TSZ34) (SZ7 : TSZ7) (SZ49 : TSZ49) (SZ11 : TSZ11) (SZ16 : TSZ16) (x : Int) (b : Bool) (b_1 : List Int) (c_ : V -> List Blk -> Bool) : bodyV ⟨Pg, ofList [(160, (FZ34 SZ34)), (94, (FZ7 SZ7)), (161, (FZ49 SZ49)), (162, (FZ11 SZ11)), (136, (FZ16 SZ16))], isref, N⟩ (anZ22 N SZ34 SZ7 SZ49 SZ11 SZ16) 132 (shFZ22.args [.int x, .bool b, .ints b_1]) [⟨126, 1, .cells [.bool b, .roi .u64 b_1]⟩] c_ = GZ22 N SZ34 SZ7 SZ49 SZ11 SZ16 x b b_1 (fun r0 r3 r4 => c_ (.agg [.ptr 1 0, .int .i64 r0]) [⟨126, 1, .cells [.bool b, .roi .u64 b_1]⟩, ⟨126, 1, .cells [.bool r3, .roi .u64 r4]⟩]) := by kernel_rfl
theorem goodZ22 (N : Nat) (SZ34 : TSZ34) (SZ7 : TSZ7) (SZ49 : TSZ49) (SZ11 : TSZ11) (SZ16 : TSZ16) (hZ34 : GoodF Pg 160 (FZ34 SZ34)) (hZ7 : GoodF Pg 94 (FZ7 SZ7)) (hZ49 : GoodF Pg 161 (FZ49 SZ49)) (hZ11 : GoodF Pg 162 (FZ11 SZ11)) (hZ16 : GoodF Pg 136 (FZ16 SZ16)) : GoodF Pg 132 (FZ22 (GZ22 N SZ34 SZ7 SZ49 SZ11 SZ16)) := by
 refine good_fs (cx := ⟨Pg, ofList [(160, (FZ34 SZ34)), (94, (FZ7 SZ7)), (161, (FZ49 SZ49)), (162, (FZ11 SZ11)), (136, (FZ16 SZ16))], isref, N⟩) (ofList_cons hZ34 (ofList_cons hZ7 (ofList_cons hZ49 (ofList_cons hZ11 (ofList_cons hZ16 (ofList_nil _)))))) shFZ22 (spZ22 (GZ22 N SZ34 SZ7 SZ49 SZ11 SZ16)) (anZ22 N SZ34 SZ7 SZ49 SZ11 SZ16) 1 1 (by kernel_rfl) (fun i_ hi_ => by
  match i_, hi_ with
  | 0, _ => exact ho_v_dyad_exact_halve_p0r_0 _ _ _ _ _ _
  | (q + 1), h => omega) ?_
 intro a k h
 unfold spZ22 at h
 split at h
 ·exact ⟨[_], rfl, rfl, (eqZ22 _ _ _ _ _ _ _ _ _ _).trans h⟩
 ·cases h
def anZ90 (N : Nat) : Nat -> Option Ann := fun b_ => none
def lsZ163 (d_ : List V) (u_ : List (Option Blk)) (x x_2 n_1 : Int) : St := ⟨(.int .u64 x_2 :: ((dq d_ 0) :: (.int .i64 n_1 :: (dqs d_ 1 22 [])))), []⟩
def lsZ161 (d_ : List V) (u_ : List (Option Blk)) (x x_1 n : Int) : St := ⟨(.int .u64 x_1 :: ((dq d_ 0) :: (.int .i64 n :: (dqs d_ 1 22 [])))), []⟩
theorem jnZ163 (N : Nat) (d_ : List V) (u_ : List (Option Blk)) (x x_2 n_1 : Int) (c_ : V -> List Blk -> Bool) : codesV ⟨Pg, ofList [], isref, N⟩ 0 (anZ90 N) ((cds Pg 182).drop 5) 0 (lsZ163 d_ u_ x x_2 n_1) (finV Pg 182 0 c_) = JZ163 N x x_2 n_1 (fun r0 => c_ (.int .i64 r0) []) := by kernel_rfl
theorem hdZ161 (N : Nat) (d_ : List V) (u_ : List (Option Blk)) (x x_1 n : Int) (c_ : V -> List Blk -> Bool) (κn_ : St -> Bool) : codesV ⟨Pg, ofList [], isref, N⟩ 0 (anZ90 N) (sg Pg 182 3 2) 0 (lsZ161 d_ u_ x x_1 n) { (finV Pg 182 0 c_) with nrm := κn_ } = (cond (decide (x_1 >= 65536)) ((fits .i64 (n + 16)) && (κn_ (lsZ163 (dqs d_ 0 5 (.int .u64 x_1 :: (.bool true :: (.int .u64 x_1 :: (.int .u64 (Int.fdiv x_1 (2 ^ 16)) :: (.int .i64 n :: (.int .i64 (n + 16) :: (dqs d_ 11 12 [])))))))) [] x (Int.fdiv x_1 (2 ^ 16)) (n + 16)))) (κn_ (lsZ163 (dqs d_ 0 5 (.int .u64 x_1 :: (.bool false :: (dqs d_ 7 16 [])))) [] x x_1 n))) := by kernel_rfl
theorem jnZ161 (N : Nat) (d_ : List V) (u_ : List (Option Blk)) (x x_1 n : Int) (c_ : V -> List Blk -> Bool) : codesV ⟨Pg, ofList [], isref, N⟩ 0 (anZ90 N) ((cds Pg 182).drop 3) 0 (lsZ161 d_ u_ x x_1 n) (finV Pg 182 0 c_) = JZ161 N x x_1 n (fun r0 => c_ (.int .i64 r0) []) := by
 rw [codesV_cut 3 2 5 rfl]
 refine (hdZ161 N d_ u_ x x_1 n c_ _).trans ?_
 simp only [jnZ163]
 kernel_rfl
theorem hd_m_bits_Len64_w (N : Nat) (x : Int) (c_ : V -> List Blk -> Bool) (κn_ : St -> Bool) : codesV ⟨Pg, ofList [], isref, N⟩ 0 (anZ90 N) (sg Pg 182 0 3) 0 (st0 Pg 182 (shFZ90.args [.int x]) []) { (finV Pg 182 0 c_) with nrm := κn_ } = (cond (decide (x >= 4294967296)) (κn_ (lsZ161 [.any, .int .u64 x, .bool true, .int .u64 x, .int .u64 (Int.fdiv x (2 ^ 32)), .any, .any, .any, .any, .any, .any, .any, .any, .any, .any, .any, .any, .any, .any, .any, .any, .any, .any] [] x (Int.fdiv x (2 ^ 32)) 32)) (κn_ (lsZ161 [.any, .int .u64 x, .bool false, .any, .any, .any, .any, .any, .any, .any, .any, .any, .any, .any, .any, .any, .any, .any, .any, .any, .any, .any, .any] [] x x 0))) := by kernel_rfl
theorem jn_m_bits_Len64_w (N : Nat) (x : Int) (c_ : V -> List Blk -> Bool) : codesV ⟨Pg, ofList [], isref, N⟩ 0 (anZ90 N) ((cds Pg 182).drop 0) 0 (st0 Pg 182 (shFZ90.args [.int x]) []) (finV Pg 182 0 c_) = GZ90 N x (fun r0 => c_ (.int .i64 r0) []) := by
 rw [codesV_cut 0 3 3 rfl]
 refine (hd_m_bits_Len64_w N x c_ _).trans ?_
 simp only [jnZ161]
 kernel_rfl
theorem eqZ90 (N : Nat) (x : Int) (c_ : V -> List Blk -> Bool) : bodyV ⟨Pg, ofList [], isref, N⟩ (anZ90 N) 182 (shFZ90.args [.int x]) [] c_ = GZ90 N x (fun r0 => c_ (.int .i64 r0) []) :=
 (bodyV_codes (by kernel_rfl)).trans (jn_m_bits_Len64_w N x c_)
theorem goodZ90 (N : Nat) : GoodF Pg 182 (FZ90 (GZ90 N)) := by
 refine good_fs (cx := ⟨Pg, ofList [], isref, N⟩) (ofList_nil _) shFZ90 (spZ90 (GZ90 N)) (anZ90 N) 0 0 (by kernel_rfl) (fun i_ hi_ => by omega) ?_
 intro a k h
 unfold spZ90 at h
 split at h
 ·exact ⟨[], rfl, rfl, (eqZ90 _ _ _).trans h⟩
 ·cases h
def anZ119 (N : Nat) (SZ90 : TSZ90) : Nat -> Option Ann := fun b_ => none
theorem eqZ119 (N : Nat) (SZ90 : TSZ90) (x : List Int) (c_ : V -> List Blk -> Bool) : bodyZ ⟨Pg, ofList [(182, (FZ90 SZ90))], isref, N⟩ (anZ119 N SZ90) 163 (shFZ119.args [.ints x]) [] c_ = GZ119 N SZ90 x (fun r0 => c_ (.int .i64 r0) []) := by kernel_rfl
theorem goodZ119 (N : Nat) (SZ90 : TSZ90) (hZ90 : GoodF Pg 182 (FZ90 SZ90)) : GoodF Pg 163 (FZ119 (GZ119 N SZ90)) := by
 refine good_fsZ (cx := ⟨Pg, ofList [(182, (FZ90 SZ90))], isref, N⟩) (ofList_cons hZ90 (ofList_nil _)) shFZ119 (spZ119 (GZ119 N SZ90)) (anZ119 N SZ90) 0 0 (by kernel_rfl) (fun i_ hi_ => by omega) ?_
 intro a k h
 unfold spZ119 at h
 split at h
 ·exact ⟨[], rfl, rfl, (eqZ119 _ _ _ _).trans h⟩
 ·cases h
def anZ36 (N : Nat) (SZ119 : TSZ119) : Nat -> Option Ann := fun b_ => none
theorem eqZ36 (N : Nat) (SZ119 : TSZ119) (b : Bool) (b_1 : List Int) (c_ : V -> List Blk -> Bool) : bodyZ ⟨Pg, ofList [(163, (FZ119 SZ119))], isref, N⟩ (anZ36 N SZ119) 133 (shFZ36.args [.bool b, .ints b_1]) [⟨126, 1, .cells [.bool b, .roi .u64 b_1]⟩] c_ = GZ36 N SZ119 b b_1 (fun r0 => c_ (.int .i64 r0) [⟨126, 1, .cells [.bool b, .roi .u64 b_1]⟩]) := by kernel_rfl
theorem goodZ36 (N : Nat) (SZ119 : TSZ119) (hZ119 : GoodF Pg 163 (FZ119 SZ119)) : GoodF Pg 133 (FZ36 (GZ36 N SZ119)) := by
 refine good_fsZ (cx := ⟨Pg, ofList [(163, (FZ119 SZ119))], isref, N⟩) (ofList_cons hZ119 (ofList_nil _)) shFZ36 (spZ36 (GZ36 N SZ119)) (anZ36 N SZ119) 0 1 (by kernel_rfl) (fun i_ hi_ => by omega) ?_
 intro a k h
 unfold spZ36 at h
 split at h
 ·exact ⟨[_], rfl, rfl, (eqZ36 _ _ _ _ _).trans h⟩
 ·cases h
def anZ53 (N : Nat) (SZ115 : TSZ115) (SZ4 : TSZ4) : Nat -> Option Ann := fun b_ => none
theorem eqZ53 (N : Nat) (SZ115 : TSZ115) (SZ4 : TSZ4) (n : Int) (b : Bool) (c_ : V -> List Blk -> Bool) : bodyZ ⟨Pg, ofList [(158, (FZ115 SZ115)), (139, (FZ4 SZ4))], isref, N⟩ (anZ53 N SZ115 SZ4) 164 (shFZ53.args [.int n, .bool b]) [⟨126, 1, .cells [.bool b, .nil]⟩] c_ = GZ53 N SZ115 SZ4 n b (fun r0 r1 => c_ (.ptr 0 0) [⟨126, 1, .cells [.bool r0, .roi .u64 r1]⟩]) := by kernel_rfl
theorem goodZ53 (N : Nat) (SZ115 : TSZ115) (SZ4 : TSZ4) (hZ115 : GoodF Pg 158 (FZ115 SZ115)) (hZ4 : GoodF Pg 139 (FZ4 SZ4)) : GoodF Pg 164 (FZ53 (GZ53 N SZ115 SZ4)) := by
 refine good_fsZ (cx := ⟨Pg, ofList [(158, (FZ115 SZ115)), (139, (FZ4 SZ4))], isref, N⟩) (ofList_cons hZ115 (ofList_cons hZ4 (ofList_nil _))) shFZ53 (spZ53 (GZ53 N SZ115 SZ4)) (anZ53 N SZ115 SZ4) 0 1 (by kernel_rfl) (fun i_ hi_ => by omega) ?_
 intro a k h
 unfold spZ53 at h
 split at h
 ·exact ⟨[_], rfl, rfl, (eqZ53 _ _ _ _ _ _).trans h⟩
 ·cases h
def anZ55 (N : Nat) (SZ53 : TSZ53) : Nat -> Option Ann := fun b_ => none
theorem eqZ55 (N : Nat) (SZ53 : TSZ53) (n : Int) (c_ : V -> List Blk -> Bool) : bodyZ ⟨Pg, ofList [(164, (FZ53 SZ53))], isref, N⟩ (anZ55 N SZ53) 134 (shFZ55.args [.int n]) [] c_ = GZ55 N SZ53 n (fun r0 r1 => c_ (.ptr 0 0) [⟨126, 1, .cells [.bool r0, .roi .u64 r1]⟩]) := by kernel_rfl
theorem goodZ55 (N : Nat) (SZ53 : TSZ53) (hZ53 : GoodF Pg 164 (FZ53 SZ53)) : GoodF Pg 134 (FZ55 (GZ55 N SZ53)) := by
 refine good_fsZ (cx := ⟨Pg, ofList [(164, (FZ53 SZ53))], isref, N⟩) (ofList_cons hZ53 (ofList_nil _)) shFZ55 (spZ55 (GZ55 N SZ53)) (anZ55 N SZ53) 0 0 (by kernel_rfl) (fun i_ hi_ => by omega) ?_
 intro a k h
 unfold spZ55 at h
 split at h
 ·exact ⟨[], rfl, rfl, (eqZ55 _ _ _ _).trans h⟩
 ·cases h
def anZ35 (N : Nat) (SZ73 : TSZ73) (SZ4 : TSZ4) : Nat -> Option Ann := fun b_ => none
theorem eqZ35 (N : Nat) (SZ73 : TSZ73) (SZ4 : TSZ4) (b b_1 : Bool) (b_2 : List Int) (c_ : V -> List Blk -> Bool) : bodyZ ⟨Pg, ofList [(140, (FZ73 SZ73)), (139, (FZ4 SZ4))], isref, N⟩ (anZ35 N SZ73 SZ4) 135 (shFZ35.args [.bool b, .bool b_1, .ints b_2]) [⟨126, 1, .cells [.bool b, .nil]⟩, ⟨126, 1, .cells [.bool b_1, .roi .u64 b_2]⟩] c_ = GZ35 N SZ73 SZ4 b b_1 b_2 (fun r0 r1 => c_ (.ptr 0 0) [⟨126, 1, .cells [.bool r0, .roi .u64 r1]⟩, ⟨126, 1, .cells [.bool b_1, .roi .u64 b_2]⟩]) := by kernel_rfl
theorem goodZ35 (N : Nat) (SZ73 : TSZ73) (SZ4 : TSZ4) (hZ73 : GoodF Pg 140 (FZ73 SZ73)) (hZ4 : GoodF Pg 139 (FZ4 SZ4)) : GoodF Pg 135 (FZ35 (GZ35 N SZ73 SZ4)) := by
 refine good_fsZ (cx := ⟨Pg, ofList [(140, (FZ73 SZ73)), (139, (FZ4 SZ4))], isref, N⟩) (ofList_cons hZ73 (ofList_cons hZ4 (ofList_nil _))) shFZ35 (spZ35 (GZ35 N SZ73 SZ4)) (anZ35 N SZ73 SZ4) 0 2 (by kernel_rfl) (fun i_ hi_ => by omega) ?_
 intro a k h
 unfold spZ35 at h
 split at h
 ·exact ⟨[_, _], rfl, rfl, (eqZ35 _ _ _ _ _ _ _).trans h⟩
 ·cases h
def anZ40 (N : Nat) : Nat -> Option Ann := fun b_ => none
theorem eqZ40 (N : Nat) (neg : Bool) (abs_0 abs_1 : Nat) (b : Bool) (b_1 : List Int) (c_ : V -> List Blk -> Bool) : bodyZ ⟨Pg, ofList [], isref, N⟩ (anZ40 N) 139 (shFZ40.args [.bool neg, .nat abs_0, .nat abs_1, .bool b, .ints b_1]) [⟨126, 1, .cells [.bool b, .nil]⟩, ⟨22, 1, .ints .u64 b_1⟩] c_ = GZ40 N neg abs_0 abs_1 b b_1 (fun r0 => c_ (.ptr 0 0) [⟨126, 1, .cells [.bool r0, .sl 1 abs_0 abs_1]⟩, ⟨22, 1, .ints .u64 b_1⟩]) := by kernel_rfl
theorem goodZ40 (N : Nat) : GoodF Pg 139 (FZ40 (GZ40 N)) := by
 refine good_fsZ (cx := ⟨Pg, ofList [], isref, N⟩) (ofList_nil _) shFZ40 (spZ40 (GZ40 N)) (anZ40 N) 0 2 (by kernel_rfl) (fun i_ hi_ => by omega) ?_
 intro a k h
 unfold spZ40 at h
 split at h
 ·exact ⟨[_, _], rfl, rfl, (eqZ40 _ _ _ _ _ _ _).trans h⟩
 ·cases h
def sh_st_big_Int_And_p0p1p2nrr_0 : StSh := ⟨(.ptr 0 0 :: (.ptr 1 0 :: (.ptr 2 0 :: (sqs 4 (.slw 3 :: (sqs 14 (.int .i64 :: (.int .i64 :: (sqs 25 []))))))))), [some (126, 1, .cells [.bool, .nil]), some (126, 1, .cells [.bool, .roi .u64]), some (126, 1, .cells [.bool, .roi .u64]), some (22, 1, .ints .u64)]⟩
def sx0_st_big_Int_And_p0p1p2nrr_0 : StSh := ⟨(.ptr 0 0 :: (sqs 6 (.slw 3 :: (sqs 41 [])))), [some (126, 1, .cells [.bool, .nil]), some (126, 1, .cells [.bool, .roi .u64]), some (126, 1, .cells [.bool, .roi .u64]), some (22, 1, .ints .u64)]⟩
def hk_st_big_Int_And_p0p1p2nrr_0 (N : Nat) (SZ5 : TSZ5) (SZ40 : TSZ40) : List Atom -> K -> Bool := fun a_ κ => match a_ with
 | [.int t22, .int t23, .bool z, .bool x, .ints x_1, .bool y, .ints y_1, .ints r] => iterG N (stZ166 N SZ5 SZ40 t22 z x x_1 y y_1 (fun r5 => κ.ext 0 (sx0_st_big_Int_And_p0p1p2nrr_0.build [.bool z, .bool x, .ints x_1, .bool y, .ints y_1, .ints r5]))) (t23, r)
 | _ => false
def anZ24 (N : Nat) (SZ5 : TSZ5) (SZ40 : TSZ40) : Nat -> Option Ann := fun b_ => cond (b_ == 0) (some ⟨⟨[0, 1, 2, 7, 22, 23], [], []⟩, [(0, ⟨[0, 7], [], []⟩)], some ⟨[6], [], []⟩, some (mkHooks [(sh_st_big_Int_And_p0p1p2nrr_0, hk_st_big_Int_And_p0p1p2nrr_0 N SZ5 SZ40)])⟩) (none)
theorem eq_st_big_Int_And_p0p1p2nrr_0 (N : Nat) (SZ5 : TSZ5) (SZ40 : TSZ40) (κ : K) (t22 t23 : Int) (z x : Bool) (x_1 : List Int) (y : Bool) (y_1 r : List Int) : iter N (fun s k => codeV ⟨Pg, ofList [(167, (FZ5 SZ5)), (139, (FZ40 SZ40))], isref, N⟩ 3 (anZ24 N SZ5 SZ40) (lp Pg 137 0).2 (lp Pg 137 0).1 s (roundK Pg 3 ((anZ24 N SZ5 SZ40) (lp Pg 137 0).1) κ k)) (sh_st_big_Int_And_p0p1p2nrr_0.build [.int t22, .int t23, .bool z, .bool x, .ints x_1, .bool y, .ints y_1, .ints r]) = iterG N (stZ166 N SZ5 SZ40 t22 z x x_1 y y_1 (fun r5 => κ.ext 0 (sx0_st_big_Int_And_p0p1p2nrr_0.build [.bool z, .bool x, .ints x_1, .bool y, .ints y_1, .ints r5]))) (t23, r) :=
 iter_tr (fun (v_ : Int × List Int) => sh_st_big_Int_And_p0p1p2nrr_0.build [.int t22, .int v_.1, .bool z, .bool x, .ints x_1, .bool y, .ints y_1, .ints v_.2]) (fun v_ K_ => by obtain ⟨t23, r⟩ := v_; kernel_rfl) N (t23, r)
theorem hk1_st_big_Int_And_p0p1p2nrr_0 (N : Nat) (SZ5 : TSZ5) (SZ40 : TSZ40) : HookFor ⟨Pg, ofList [(167, (FZ5 SZ5)), (139, (FZ40 SZ40))], isref, N⟩ 3 (anZ24 N SZ5 SZ40) (lp Pg 137 0) (sh_st_big_Int_And_p0p1p2nrr_0, hk_st_big_Int_And_p0p1p2nrr_0 N SZ5 SZ40) := by
 intro a κ h
 simp only at h
 unfold hk_st_big_Int_And_p0p1p2nrr_0 at h
 split at h
 ·exact (eq_st_big_Int_And_p0p1p2nrr_0 _ _ _ _ _ _ _ _ _ _ _ _).trans h
 ·cases h
theorem ho_big_Int_And_p0p1p2nrr_0 (N : Nat) (SZ5 : TSZ5) (SZ40 : TSZ40) : HookOk ⟨Pg, ofList [(167, (FZ5 SZ5)), (139, (FZ40 SZ40))], isref, N⟩ 3 (anZ24 N SZ5 SZ40) (lp Pg 137 0) :=
 hooks_ok [(sh_st_big_Int_And_p0p1p2nrr_0, hk_st_big_Int_And_p0p1p2nrr_0 N SZ5 SZ40)] (by kernel_rfl) ⟨hk1_st_big_Int_And_p0p1p2nrr_0 _ _ _, trivial⟩
theorem eqZ24 (N : Nat) (SZ5 : TSZ5) (SZ40 : TSZ40) (b b_1 : Bool) (b_2 : List Int) (b_3 : Bool) (b_4 : List Int) (c_ : V -> List Blk -> Bool) : bodyZ ⟨Pg, ofList [(167, (FZ5 SZ5)), (139, (FZ40 SZ40))], isref, N⟩ (anZ24 N SZ5 SZ40) 137 (shFZ24.args [.bool b, .bool b_1, .ints b_2, .bool b_3, .ints b_4]) [⟨126, 1, .cells [.bool b, .nil]⟩, ⟨126, 1, .cells [.bool b_1, .roi .u64 b_2]⟩, ⟨126, 1, .cells [.bool b_3, .roi .u64 b_4]⟩] c_ = GZ24 N SZ5 SZ40 b b_1 b_2 b_3 b_4 (fun r0 r1 => c_ (.ptr 0 0) [⟨126, 1, .cells [.bool r0, .roi .u64 r1]⟩, ⟨126, 1, .cells [.bool b_1, .roi .u64 b_2]⟩, ⟨126, 1, .cells [.bool b_3, .roi .u64 b_4]⟩]) := by kernel_rfl
theorem goodZ24 (N : Nat) (SZ5 : TSZ5) (SZ40 : TSZ40) (hZ5 : GoodF Pg 167 (FZ5 SZ5)) (hZ40 : GoodF Pg 139 (FZ40 SZ40)) : GoodF Pg 137 (FZ24 (GZ24 N SZ5 SZ40)) := by
 refine good_fsZ (cx := ⟨Pg, ofList [(167, (FZ5 SZ5)), (139, (FZ40 SZ40))], isref, N⟩) (ofList_cons hZ5 (ofList_cons hZ40 (ofList_nil _))) shFZ24 (spZ24 (GZ24 N SZ5 SZ40)) (anZ24 N SZ5 SZ40) 1 3 (by kernel_rfl) (fun i_ hi_ => by
  match i_, hi_ with
  | 0, _ => exact ho_big_Int_And_p0p1p2nrr_0 _ _ _
  | (q + 1), h => omega) ?_
 intro a k h
 unfold spZ24 at h
 split at h
 ·exact ⟨[_, _, _], rfl, rfl, (eqZ24 _ _ _ _ _ _ _ _ _).trans h⟩
 ·cases h
def anZ151 (N : Nat) (SZ18 : TSZ18) : Nat -> Option Ann := fun b_ => none
theorem eqZ151 (N : Nat) (SZ18 : TSZ18) (x : List Int) (c_ : V -> List Blk -> Bool) : bodyZ ⟨Pg, ofList [(170, (FZ18 SZ18))], isref, N⟩ (anZ151 N SZ18) 168 (shFZ151.args [.ints x]) [] c_ = GZ151 N SZ18 x (fun r0 => c_ (.int .u64 r0) []) := by kernel_rfl
theorem goodZ151 (N : Nat) (SZ18 : TSZ18) (hZ18 : GoodF Pg 170 (FZ18 SZ18)) : GoodF Pg 168 (FZ151 (GZ151 N SZ18)) := by
 refine good_fsZ (cx := ⟨Pg, ofList [(170, (FZ18 SZ18))], isref, N⟩) (ofList_cons hZ18 (ofList_nil _)) shFZ151 (spZ151 (GZ151 N SZ18)) (anZ151 N SZ18) 0 0 (by kernel_rfl) (fun i_ hi_ => by omega) ?_
 intro a k h
 unfold spZ151 at h
 split at h
 ·exact ⟨[], rfl, rfl, (eqZ151 _ _ _ _).trans h⟩
 ·cases h
def anZ37 (N : Nat) (SZ151 : TSZ151) : Nat -> Option Ann := fun b_ => none
theorem eqZ37 (N : Nat) (SZ151 : TSZ151) (b : Bool) (b_1 : List Int) (c_ : V -> List Blk -> Bool) : bodyZ ⟨Pg, ofList [(168, (FZ151 SZ151))], isref, N⟩ (anZ37 N SZ151) 138 (shFZ37.args [.bool b, .ints b_1]) [⟨126, 1, .cells [.bool b, .roi .u64 b_1]⟩] c_ = GZ37 N SZ151 b b_1 (fun r0 => c_ (.int .u64 r0) [⟨126, 1, .cells [.bool b, .roi .u64 b_1]⟩]) := by kernel_rfl
theorem goodZ37 (N : Nat) (SZ151 : TSZ151) (hZ151 : GoodF Pg 168 (FZ151 SZ151)) : GoodF Pg 138 (FZ37 (GZ37 N SZ151)) := by
 refine good_fsZ (cx := ⟨Pg, ofList [(168, (FZ151 SZ151))], isref, N⟩) (ofList_cons hZ151 (ofList_nil _)) shFZ37 (spZ37 (GZ37 N SZ151)) (anZ37 N SZ151) 0 1 (by kernel_rfl) (fun i_ hi_ => by omega) ?_
 intro a k h
 unfold spZ37 at h
 split at h
 ·exact ⟨[_], rfl, rfl, (eqZ37 _ _ _ _ _).trans h⟩
 ·cases h
end Go.Proofs.YtnfgnjciliapaaaGreatDoor
