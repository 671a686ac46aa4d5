/-
  THE TIES: each printed meaning is what the program does (written by program).
  Conditions: none.
-/
import Derived.Test.YtnfgnjciliapaaaGreatDoorGs
namespace Go.Proofs.YtnfgnjciliapaaaGreatDoor
open Go Go.Mach Go.Proofs
set_option linter.unusedVariables false
set_option maxRecDepth 50000
def sh_st_binnacleref00_minus_0 : StSh := ⟨(.roi .u32 :: (.roi .u32 :: (.any :: (.any :: (.any :: (.slw 0 :: (.int .u64 :: (.int .i64 :: (sqs 48 []))))))))), [some (87, 1, .ints .u32)]⟩
def sx0_st_binnacleref00_minus_0 : StSh := ⟨(sqs 5 (.slw 0 :: (sqs 50 []))), [some (87, 1, .ints .u32)]⟩
def hk_st_binnacleref00_minus_0 (N : Nat) (SZ13 : TSZ13) : List Atom -> K -> Bool := fun a_ κ => match a_ with
 | [.ints a_1, .ints b_1, .int borrow, .int i, .ints out] => iterG N (st_z00_minus_0 N SZ13 a_1 b_1 (fun r0 => κ.ext 0 (sx0_st_binnacleref00_minus_0.build [.ints r0]))) (borrow, i, out)
 | _ => false
def anZ126 (N : Nat) (SZ13 : TSZ13) : Nat -> Option Ann := fun b_ => cond (b_ == 0) (some ⟨⟨[0, 1, 5, 6, 7], [], []⟩, [(0, ⟨[5], [], []⟩)], some ⟨[4], [], []⟩, some (mkHooks [(sh_st_binnacleref00_minus_0, hk_st_binnacleref00_minus_0 N SZ13)])⟩) (none)
theorem eq_st_binnacleref00_minus_0 (N : Nat) (SZ13 : TSZ13) (κ : K) (a_1 b_1 : List Int) (borrow i : Int) (out : List Int) : iter N (fun s k => codeV ⟨Pg, ofList [(147, (FZ13 SZ13))], isref, N⟩ 0 (anZ126 N SZ13) (lp Pg 145 0).2 (lp Pg 145 0).1 s (roundK Pg 0 ((anZ126 N SZ13) (lp Pg 145 0).1) κ k)) (sh_st_binnacleref00_minus_0.build [.ints a_1, .ints b_1, .int borrow, .int i, .ints out]) = iterG N (st_z00_minus_0 N SZ13 a_1 b_1 (fun r0 => κ.ext 0 (sx0_st_binnacleref00_minus_0.build [.ints r0]))) (borrow, i, out) :=
 iter_tr (fun (v_ : Int × Int × List Int) => sh_st_binnacleref00_minus_0.build [.ints a_1, .ints b_1, .int v_.1, .int v_.2.1, .ints v_.2.2]) (fun v_ K_ => by obtain ⟨borrow, i, out⟩ := v_; kernel_rfl) N (borrow, i, out)
theorem hk1_st_binnacleref00_minus_0 (N : Nat) (SZ13 : TSZ13) : HookFor ⟨Pg, ofList [(147, (FZ13 SZ13))], isref, N⟩ 0 (anZ126 N SZ13) (lp Pg 145 0) (sh_st_binnacleref00_minus_0, hk_st_binnacleref00_minus_0 N SZ13) := by
 intro a κ h
 simp only at h
 unfold hk_st_binnacleref00_minus_0 at h
 split at h
 ·exact (eq_st_binnacleref00_minus_0 _ _ _ _ _ _ _ _).trans h
 ·cases h
theorem ho_binnacleref00_minus_0 (N : Nat) (SZ13 : TSZ13) : HookOk ⟨Pg, ofList [(147, (FZ13 SZ13))], isref, N⟩ 0 (anZ126 N SZ13) (lp Pg 145 0) :=
 hooks_ok [(sh_st_binnacleref00_minus_0, hk_st_binnacleref00_minus_0 N SZ13)] (by kernel_rfl) ⟨hk1_st_binnacleref00_minus_0 _ _, trivial⟩
theorem eqZ126 (N : Nat) (SZ13 : TSZ13) (a b : List Int) (c_ : V -> List Blk -> Bool) : bodyZ ⟨Pg, ofList [(147, (FZ13 SZ13))], isref, N⟩ (anZ126 N SZ13) 145 (shFZ126.args [.ints a, .ints b]) [] c_ = GZ126 N SZ13 a b (fun r0 => c_ (.roi .u32 r0) []) := by kernel_rfl
theorem goodZ126 (N : Nat) (SZ13 : TSZ13) (hZ13 : GoodF Pg 147 (FZ13 SZ13)) : GoodF Pg 145 (FZ126 (GZ126 N SZ13)) := by
 refine good_fsZ (cx := ⟨Pg, ofList [(147, (FZ13 SZ13))], isref, N⟩) (ofList_cons hZ13 (ofList_nil _)) shFZ126 (spZ126 (GZ126 N SZ13)) (anZ126 N SZ13) 1 0 (by kernel_rfl) (fun i_ hi_ => by
  match i_, hi_ with
  | 0, _ => exact ho_binnacleref00_minus_0 _ _
  | (q + 1), h => omega) ?_
 intro a k h
 unfold spZ126 at h
 split at h
 ·exact ⟨[], rfl, rfl, (eqZ126 _ _ _ _ _).trans h⟩
 ·cases h
def anZ76 (N : Nat) (SZ142 : TSZ142) (SZ44 : TSZ44) (SZ103 : TSZ103) (SZ126 : TSZ126) : Nat -> Option Ann := fun b_ => none
theorem eqZ76 (N : Nat) (SZ142 : TSZ142) (SZ44 : TSZ44) (SZ103 : TSZ103) (SZ126 : TSZ126) (turn b b_1 : Bool) (b_2 : List Int) (b_3 : Bool) (b_4 : List Int) (c_ : V -> List Blk -> Bool) : bodyZ ⟨Pg, ofList [(143, (FZ142 SZ142)), (99, (FZ44 SZ44)), (144, (FZ103 SZ103)), (145, (FZ126 SZ126))], isref, N⟩ (anZ76 N SZ142 SZ44 SZ103 SZ126) 97 (shFZ76.args [.bool turn, .bool b, .bool b_1, .ints b_2, .bool b_3, .ints b_4]) [⟨98, 1, .cells [.bool b, .nil]⟩, ⟨98, 1, .cells [.bool b_1, .roi .u32 b_2]⟩, ⟨98, 1, .cells [.bool b_3, .roi .u32 b_4]⟩] c_ = GZ76 N SZ142 SZ44 SZ103 SZ126 turn b b_1 b_2 b_3 b_4 (fun r0 r1 => c_ (.ptr 0 0) [⟨98, 1, .cells [.bool r0, .roi .u32 r1]⟩, ⟨98, 1, .cells [.bool b_1, .roi .u32 b_2]⟩, ⟨98, 1, .cells [.bool b_3, .roi .u32 b_4]⟩]) := by kernel_rfl
theorem goodZ76 (N : Nat) (SZ142 : TSZ142) (SZ44 : TSZ44) (SZ103 : TSZ103) (SZ126 : TSZ126) (hZ142 : GoodF Pg 143 (FZ142 SZ142)) (hZ44 : GoodF Pg 99 (FZ44 SZ44)) (hZ103 : GoodF Pg 144 (FZ103 SZ103)) (hZ126 : GoodF Pg 145 (FZ126 SZ126)) : GoodF Pg 97 (FZ76 (GZ76 N SZ142 SZ44 SZ103 SZ126)) := by
 refine good_fsZ (cx := ⟨Pg, ofList [(143, (FZ142 SZ142)), (99, (FZ44 SZ44)), (144, (FZ103 SZ103)), (145, (FZ126 SZ126))], isref, N⟩) (ofList_cons hZ142 (ofList_cons hZ44 (ofList_cons hZ103 (ofList_cons hZ126 (ofList_nil _))))) shFZ76 (spZ76 (GZ76 N SZ142 SZ44 SZ103 SZ126)) (anZ76 N SZ142 SZ44 SZ103 SZ126) 0 3 (by kernel_rfl) (fun i_ hi_ => by omega) ?_
 intro a k h
 unfold spZ76 at h
 split at h
 ·exact ⟨[_, _, _], rfl, rfl, (eqZ76 _ _ _ _ _ _ _ _ _ _ _ _).trans h⟩
 ·cases h
def anZ64 (N : Nat) (SZ76 : TSZ76) : Nat -> Option Ann := fun b_ => none
theorem eqZ64 (N : Nat) (SZ76 : TSZ76) (b b_1 : Bool) (b_2 : List Int) (b_3 : Bool) (b_4 : List Int) (c_ : V -> List Blk -> Bool) : bodyZ ⟨Pg, ofList [(97, (FZ76 SZ76))], isref, N⟩ (anZ64 N SZ76) 53 (shFZ64.args [.bool b, .bool b_1, .ints b_2, .bool b_3, .ints b_4]) [⟨98, 1, .cells [.bool b, .nil]⟩, ⟨98, 1, .cells [.bool b_1, .roi .u32 b_2]⟩, ⟨98, 1, .cells [.bool b_3, .roi .u32 b_4]⟩] c_ = GZ64 N SZ76 b b_1 b_2 b_3 b_4 (fun r0 r1 => c_ (.ptr 0 0) [⟨98, 1, .cells [.bool r0, .roi .u32 r1]⟩, ⟨98, 1, .cells [.bool b_1, .roi .u32 b_2]⟩, ⟨98, 1, .cells [.bool b_3, .roi .u32 b_4]⟩]) := by kernel_rfl
theorem goodZ64 (N : Nat) (SZ76 : TSZ76) (hZ76 : GoodF Pg 97 (FZ76 SZ76)) : GoodF Pg 53 (FZ64 (GZ64 N SZ76)) := by
 refine good_fsZ (cx := ⟨Pg, ofList [(97, (FZ76 SZ76))], isref, N⟩) (ofList_cons hZ76 (ofList_nil _)) shFZ64 (spZ64 (GZ64 N SZ76)) (anZ64 N SZ76) 0 3 (by kernel_rfl) (fun i_ hi_ => by omega) ?_
 intro a k h
 unfold spZ64 at h
 split at h
 ·exact ⟨[_, _, _], rfl, rfl, (eqZ64 _ _ _ _ _ _ _ _).trans h⟩
 ·cases h
def anZ3 (N : Nat) (SZ82 : TSZ82) (SZ52 : TSZ52) (SZ64 : TSZ64) : Nat -> Option Ann := fun b_ => none
theorem eqZ3 (N : Nat) (SZ82 : TSZ82) (SZ52 : TSZ52) (SZ64 : TSZ64) (x y : Int) (b : Bool) (b_1 : List Int) (b_2 : Bool) (b_3 : List Int) (c_ : V -> List Blk -> Bool) : bodyV ⟨Pg, ofList [(52, (FZ82 SZ82)), (54, (FZ52 SZ52)), (53, (FZ64 SZ64))], isref, N⟩ (anZ3 N SZ82 SZ52 SZ64) 15 (shFZ3.args [.int x, .int y, .bool b, .ints b_1, .bool b_2, .ints b_3]) [⟨98, 1, .cells [.bool b, .roi .u32 b_1]⟩, ⟨98, 1, .cells [.bool b_2, .roi .u32 b_3]⟩] c_ = GZ3 N SZ82 SZ52 SZ64 x y b b_1 b_2 b_3 (c_ (.agg [.ptr 1 0, .int .i64 y]) [⟨98, 1, .cells [.bool b, .roi .u32 b_1]⟩, ⟨98, 1, .cells [.bool b_2, .roi .u32 b_3]⟩]) (c_ (.agg [.ptr 0 0, .int .i64 x]) [⟨98, 1, .cells [.bool b, .roi .u32 b_1]⟩, ⟨98, 1, .cells [.bool b_2, .roi .u32 b_3]⟩]) (fun r0 r5 r6 => c_ (.agg [.ptr 2 0, .int .i64 r0]) [⟨98, 1, .cells [.bool b, .roi .u32 b_1]⟩, ⟨98, 1, .cells [.bool b_2, .roi .u32 b_3]⟩, ⟨98, 1, .cells [.bool r5, .roi .u32 r6]⟩]) := by kernel_rfl
theorem goodZ3 (N : Nat) (SZ82 : TSZ82) (SZ52 : TSZ52) (SZ64 : TSZ64) (hZ82 : GoodF Pg 52 (FZ82 SZ82)) (hZ52 : GoodF Pg 54 (FZ52 SZ52)) (hZ64 : GoodF Pg 53 (FZ64 SZ64)) : GoodF Pg 15 (FZ3 (GZ3 N SZ82 SZ52 SZ64)) := by
 refine good_fs (cx := ⟨Pg, ofList [(52, (FZ82 SZ82)), (54, (FZ52 SZ52)), (53, (FZ64 SZ64))], isref, N⟩) (ofList_cons hZ82 (ofList_cons hZ52 (ofList_cons hZ64 (ofList_nil _)))) shFZ3 (spZ3 (GZ3 N SZ82 SZ52 SZ64)) (anZ3 N SZ82 SZ52 SZ64) 0 2 (by kernel_rfl) (fun i_ hi_ => by omega) ?_
 intro a k h
 unfold spZ3 at h
 split at h
 ·exact ⟨[_, _], rfl, rfl, (eqZ3 _ _ _ _ _ _ _ _ _ _ _).trans h⟩
 ·cases h
def anZ92 (N : Nat) (SZ80 : TSZ80) : Nat -> Option Ann := fun b_ => none
theorem eqZ92 (N : Nat) (SZ80 : TSZ80) (b b_1 : Bool) (b_2 : List Int) (c_ : V -> List Blk -> Bool) : bodyZ ⟨Pg, ofList [(99, (FZ80 SZ80))], isref, N⟩ (anZ92 N SZ80) 74 (shFZ92.args [.bool b, .bool b_1, .ints b_2]) [⟨98, 1, .cells [.bool b, .nil]⟩, ⟨98, 1, .cells [.bool b_1, .roi .u32 b_2]⟩] c_ = GZ92 N SZ80 b b_1 b_2 (fun r0 r1 => c_ (.ptr 0 0) [⟨98, 1, .cells [.bool r0, .roi .u32 r1]⟩, ⟨98, 1, .cells [.bool b_1, .roi .u32 b_2]⟩]) := by kernel_rfl
theorem goodZ92 (N : Nat) (SZ80 : TSZ80) (hZ80 : GoodF Pg 99 (FZ80 SZ80)) : GoodF Pg 74 (FZ92 (GZ92 N SZ80)) := by
 refine good_fsZ (cx := ⟨Pg, ofList [(99, (FZ80 SZ80))], isref, N⟩) (ofList_cons hZ80 (ofList_nil _)) shFZ92 (spZ92 (GZ92 N SZ80)) (anZ92 N SZ80) 0 2 (by kernel_rfl) (fun i_ hi_ => by omega) ?_
 intro a k h
 unfold spZ92 at h
 split at h
 ·exact ⟨[_, _], rfl, rfl, (eqZ92 _ _ _ _ _ _).trans h⟩
 ·cases h
def anZ0 (N : Nat) (SZ92 : TSZ92) : Nat -> Option Ann := fun b_ => none
theorem eqZ0 (N : Nat) (SZ92 : TSZ92) (x : Int) (b : Bool) (b_1 : List Int) (c_ : V -> List Blk -> Bool) : bodyV ⟨Pg, ofList [(74, (FZ92 SZ92))], isref, N⟩ (anZ0 N SZ92) 34 (shFZ0.args [.int x, .bool b, .ints b_1]) [⟨98, 1, .cells [.bool b, .roi .u32 b_1]⟩] c_ = GZ0 N SZ92 x b b_1 (fun r3 r4 => c_ (.agg [.ptr 1 0, .int .i64 x]) [⟨98, 1, .cells [.bool b, .roi .u32 b_1]⟩, ⟨98, 1, .cells [.bool r3, .roi .u32 r4]⟩]) := by kernel_rfl
theorem goodZ0 (N : Nat) (SZ92 : TSZ92) (hZ92 : GoodF Pg 74 (FZ92 SZ92)) : GoodF Pg 34 (FZ0 (GZ0 N SZ92)) := by
 refine good_fs (cx := ⟨Pg, ofList [(74, (FZ92 SZ92))], isref, N⟩) (ofList_cons hZ92 (ofList_nil _)) shFZ0 (spZ0 (GZ0 N SZ92)) (anZ0 N SZ92) 0 1 (by kernel_rfl) (fun i_ hi_ => by omega) ?_
 intro a k h
 unfold spZ0 at h
 split at h
 ·exact ⟨[_], rfl, rfl, (eqZ0 _ _ _ _ _ _).trans h⟩
 ·cases h
def anZ85 (N : Nat) (SZ104 : TSZ104) (SZ44 : TSZ44) : Nat -> Option Ann := fun b_ => none
theorem eqZ85 (N : Nat) (SZ104 : TSZ104) (SZ44 : TSZ44) (n : Int) (b : Bool) (c_ : V -> List Blk -> Bool) : bodyZ ⟨Pg, ofList [(117, (FZ104 SZ104)), (99, (FZ44 SZ44))], isref, N⟩ (anZ85 N SZ104 SZ44) 96 (shFZ85.args [.int n, .bool b]) [⟨98, 1, .cells [.bool b, .nil]⟩] c_ = GZ85 N SZ104 SZ44 n b (fun r0 r1 => c_ (.ptr 0 0) [⟨98, 1, .cells [.bool r0, .roi .u32 r1]⟩]) := by kernel_rfl
theorem goodZ85 (N : Nat) (SZ104 : TSZ104) (SZ44 : TSZ44) (hZ104 : GoodF Pg 117 (FZ104 SZ104)) (hZ44 : GoodF Pg 99 (FZ44 SZ44)) : GoodF Pg 96 (FZ85 (GZ85 N SZ104 SZ44)) := by
 refine good_fsZ (cx := ⟨Pg, ofList [(117, (FZ104 SZ104)), (99, (FZ44 SZ44))], isref, N⟩) (ofList_cons hZ104 (ofList_cons hZ44 (ofList_nil _))) shFZ85 (spZ85 (GZ85 N SZ104 SZ44)) (anZ85 N SZ104 SZ44) 0 1 (by kernel_rfl) (fun i_ hi_ => by omega) ?_
 intro a k h
 unfold spZ85 at h
 split at h
 ·exact ⟨[_], rfl, rfl, (eqZ85 _ _ _ _ _ _).trans h⟩
 ·cases h
def anZ111 (N : Nat) (SZ85 : TSZ85) : Nat -> Option Ann := fun b_ => none
theorem eqZ111 (N : Nat) (SZ85 : TSZ85) (n : Int) (c_ : V -> List Blk -> Bool) : bodyZ ⟨Pg, ofList [(96, (FZ85 SZ85))], isref, N⟩ (anZ111 N SZ85) 51 (shFZ111.args [.int n]) [] c_ = GZ111 N SZ85 n (fun r0 r1 => c_ (.ptr 0 0) [⟨98, 1, .cells [.bool r0, .roi .u32 r1]⟩]) := by kernel_rfl
theorem goodZ111 (N : Nat) (SZ85 : TSZ85) (hZ85 : GoodF Pg 96 (FZ85 SZ85)) : GoodF Pg 51 (FZ111 (GZ111 N SZ85)) := by
 refine good_fsZ (cx := ⟨Pg, ofList [(96, (FZ85 SZ85))], isref, N⟩) (ofList_cons hZ85 (ofList_nil _)) shFZ111 (spZ111 (GZ111 N SZ85)) (anZ111 N SZ85) 0 0 (by kernel_rfl) (fun i_ hi_ => by omega) ?_
 intro a k h
 unfold spZ111 at h
 split at h
 ·exact ⟨[], rfl, rfl, (eqZ111 _ _ _ _).trans h⟩
 ·cases h
def anZ32 (N : Nat) (SZ111 : TSZ111) : Nat -> Option Ann := fun b_ => none
theorem eqZ32 (N : Nat) (SZ111 : TSZ111) (e : Int) (c_ : V -> List Blk -> Bool) : bodyV ⟨Pg, ofList [(51, (FZ111 SZ111))], isref, N⟩ (anZ32 N SZ111) 16 (shFZ32.args [.int e]) [] c_ = GZ32 N SZ111 e (fun r1 r2 => c_ (.agg [.ptr 0 0, .int .i64 e]) [⟨98, 1, .cells [.bool r1, .roi .u32 r2]⟩]) := by kernel_rfl
theorem goodZ32 (N : Nat) (SZ111 : TSZ111) (hZ111 : GoodF Pg 51 (FZ111 SZ111)) : GoodF Pg 16 (FZ32 (GZ32 N SZ111)) := by
 refine good_fs (cx := ⟨Pg, ofList [(51, (FZ111 SZ111))], isref, N⟩) (ofList_cons hZ111 (ofList_nil _)) shFZ32 (spZ32 (GZ32 N SZ111)) (anZ32 N SZ111) 0 0 (by kernel_rfl) (fun i_ hi_ => by omega) ?_
 intro a k h
 unfold spZ32 at h
 split at h
 ·exact ⟨[], rfl, rfl, (eqZ32 _ _ _ _).trans h⟩
 ·cases h
def sh_st_binnacleref00_times_2 : StSh := ⟨(.roi .u32 :: (.roi .u32 :: (.any :: (.any :: (.any :: (.slw 0 :: (.int .i64 :: (.int .u64 :: (.int .i64 :: (sqs 59 [])))))))))), [some (87, 1, .ints .u32)]⟩
def sx0_st_binnacleref00_times_2 : StSh := ⟨(.roi .u32 :: (.roi .u32 :: (.any :: (.any :: (.any :: (.slw 0 :: (.int .i64 :: (.int .u64 :: (sqs 60 []))))))))), [some (87, 1, .ints .u32)]⟩
def hk_st_binnacleref00_times_2 (N : Nat) (SZ13 : TSZ13) : List Atom -> K -> Bool := fun a_ κ => match a_ with
 | [.ints a_2, .ints b_2, .int i_1, .int carry, .int k_, .ints out_1] => iterG N (st_z00_times_2 N SZ13 a_2 b_2 i_1 (fun r3 r4 => κ.ext 2 (sx0_st_binnacleref00_times_2.build [.ints a_2, .ints b_2, .int i_1, .int r3, .ints r4]))) (carry, k_, out_1)
 | _ => false
def sh_st_binnacleref00_times_0 : StSh := ⟨(.roi .u32 :: (.roi .u32 :: (.any :: (.any :: (.any :: (.slw 0 :: (.int .i64 :: (sqs 61 [])))))))), [some (87, 1, .ints .u32)]⟩
def sx0_st_binnacleref00_times_0 : StSh := ⟨(sqs 5 (.slw 0 :: (sqs 62 []))), [some (87, 1, .ints .u32)]⟩
def hk_st_binnacleref00_times_0 (N : Nat) (SZ13 : TSZ13) : List Atom -> K -> Bool := fun a_ κ => match a_ with
 | [.ints a_1, .ints b_1, .int i, .ints out] => iterG N (st_z00_times_0 N SZ13 a_1 b_1 (fun r0 => κ.ext 0 (sx0_st_binnacleref00_times_0.build [.ints r0]))) (i, out)
 | _ => false
def anZ122 (N : Nat) (SZ13 : TSZ13) : Nat -> Option Ann := fun b_ => cond (b_ == 2) (some ⟨⟨[0, 1, 5, 6, 7, 8], [], []⟩, [(2, ⟨[0, 1, 5, 6, 7], [], []⟩)], some ⟨[4], [], []⟩, some (mkHooks [(sh_st_binnacleref00_times_2, hk_st_binnacleref00_times_2 N SZ13)])⟩) (cond (b_ == 0) (some ⟨⟨[0, 1, 5, 6], [], []⟩, [(0, ⟨[5], [], []⟩)], some ⟨[4], [], []⟩, some (mkHooks [(sh_st_binnacleref00_times_0, hk_st_binnacleref00_times_0 N SZ13)])⟩) (none))
theorem eq_st_binnacleref00_times_2 (N : Nat) (SZ13 : TSZ13) (κ : K) (a_2 b_2 : List Int) (i_1 carry k_ : Int) (out_1 : List Int) : iter N (fun s k => codeV ⟨Pg, ofList [(147, (FZ13 SZ13))], isref, N⟩ 0 (anZ122 N SZ13) (lp Pg 101 1).2 (lp Pg 101 1).1 s (roundK Pg 0 ((anZ122 N SZ13) (lp Pg 101 1).1) κ k)) (sh_st_binnacleref00_times_2.build [.ints a_2, .ints b_2, .int i_1, .int carry, .int k_, .ints out_1]) = iterG N (st_z00_times_2 N SZ13 a_2 b_2 i_1 (fun r3 r4 => κ.ext 2 (sx0_st_binnacleref00_times_2.build [.ints a_2, .ints b_2, .int i_1, .int r3, .ints r4]))) (carry, k_, out_1) :=
 iter_tr (fun (v_ : Int × Int × List Int) => sh_st_binnacleref00_times_2.build [.ints a_2, .ints b_2, .int i_1, .int v_.1, .int v_.2.1, .ints v_.2.2]) (fun v_ K_ => by obtain ⟨carry, k_, out_1⟩ := v_; kernel_rfl) N (carry, k_, out_1)
theorem hk1_st_binnacleref00_times_2 (N : Nat) (SZ13 : TSZ13) : HookFor ⟨Pg, ofList [(147, (FZ13 SZ13))], isref, N⟩ 0 (anZ122 N SZ13) (lp Pg 101 1) (sh_st_binnacleref00_times_2, hk_st_binnacleref00_times_2 N SZ13) := by
 intro a κ h
 simp only at h
 unfold hk_st_binnacleref00_times_2 at h
 split at h
 ·exact (eq_st_binnacleref00_times_2 _ _ _ _ _ _ _ _ _).trans h
 ·cases h
theorem eq_st_binnacleref00_times_0 (N : Nat) (SZ13 : TSZ13) (κ : K) (a_1 b_1 : List Int) (i : Int) (out : List Int) : iter N (fun s k => codeV ⟨Pg, ofList [(147, (FZ13 SZ13))], isref, N⟩ 0 (anZ122 N SZ13) (lp Pg 101 0).2 (lp Pg 101 0).1 s (roundK Pg 0 ((anZ122 N SZ13) (lp Pg 101 0).1) κ k)) (sh_st_binnacleref00_times_0.build [.ints a_1, .ints b_1, .int i, .ints out]) = iterG N (st_z00_times_0 N SZ13 a_1 b_1 (fun r0 => κ.ext 0 (sx0_st_binnacleref00_times_0.build [.ints r0]))) (i, out) :=
 iter_tr (fun (v_ : Int × List Int) => sh_st_binnacleref00_times_0.build [.ints a_1, .ints b_1, .int v_.1, .ints v_.2]) (fun v_ K_ => by obtain ⟨i, out⟩ := v_; kernel_rfl) N (i, out)
theorem hk1_st_binnacleref00_times_0 (N : Nat) (SZ13 : TSZ13) : HookFor ⟨Pg, ofList [(147, (FZ13 SZ13))], isref, N⟩ 0 (anZ122 N SZ13) (lp Pg 101 0) (sh_st_binnacleref00_times_0, hk_st_binnacleref00_times_0 N SZ13) := by
 intro a κ h
 simp only at h
 unfold hk_st_binnacleref00_times_0 at h
 split at h
 ·exact (eq_st_binnacleref00_times_0 _ _ _ _ _ _ _).trans h
 ·cases h
theorem ho_binnacleref00_times_2 (N : Nat) (SZ13 : TSZ13) : HookOk ⟨Pg, ofList [(147, (FZ13 SZ13))], isref, N⟩ 0 (anZ122 N SZ13) (lp Pg 101 1) :=
 hooks_ok [(sh_st_binnacleref00_times_2, hk_st_binnacleref00_times_2 N SZ13)] (by kernel_rfl) ⟨hk1_st_binnacleref00_times_2 _ _, trivial⟩
theorem ho_binnacleref00_times_0 (N : Nat) (SZ13 : TSZ13) : HookOk ⟨Pg, ofList [(147, (FZ13 SZ13))], isref, N⟩ 0 (anZ122 N SZ13) (lp Pg 101 0) :=
 hooks_ok [(sh_st_binnacleref00_times_0, hk_st_binnacleref00_times_0 N SZ13)] (by kernel_rfl) ⟨hk1_st_binnacleref00_times_0 _ _, trivial⟩
theorem eqZ122 (N : Nat) (SZ13 : TSZ13) (a b : List Int) (c_ : V -> List Blk -> Bool) : bodyZ ⟨Pg, ofList [(147, (FZ13 SZ13))], isref, N⟩ (anZ122 N SZ13) 101 (shFZ122.args [.ints a, .ints b]) [] c_ = GZ122 N SZ13 a b (fun r0 => c_ (.roi .u32 r0) []) := by kernel_rfl
theorem goodZ122 (N : Nat) (SZ13 : TSZ13) (hZ13 : GoodF Pg 147 (FZ13 SZ13)) : GoodF Pg 101 (FZ122 (GZ122 N SZ13)) := by
 refine good_fsZ (cx := ⟨Pg, ofList [(147, (FZ13 SZ13))], isref, N⟩) (ofList_cons hZ13 (ofList_nil _)) shFZ122 (spZ122 (GZ122 N SZ13)) (anZ122 N SZ13) 2 0 (by kernel_rfl) (fun i_ hi_ => by
  match i_, hi_ with
  | 0, _ => exact ho_binnacleref00_times_0 _ _
  | 1, _ => exact ho_binnacleref00_times_2 _ _
  | (q + 2), h => omega) ?_
 intro a k h
 unfold spZ122 at h
 split at h
 ·exact ⟨[], rfl, rfl, (eqZ122 _ _ _ _ _).trans h⟩
 ·cases h
def anZ75 (N : Nat) (SZ122 : TSZ122) (SZ44 : TSZ44) : Nat -> Option Ann := fun b_ => none
theorem eqZ75 (N : Nat) (SZ122 : TSZ122) (SZ44 : TSZ44) (b b_1 : Bool) (b_2 : List Int) (b_3 : Bool) (b_4 : List Int) (c_ : V -> List Blk -> Bool) : bodyZ ⟨Pg, ofList [(101, (FZ122 SZ122)), (99, (FZ44 SZ44))], isref, N⟩ (anZ75 N SZ122 SZ44) 57 (shFZ75.args [.bool b, .bool b_1, .ints b_2, .bool b_3, .ints b_4]) [⟨98, 1, .cells [.bool b, .nil]⟩, ⟨98, 1, .cells [.bool b_1, .roi .u32 b_2]⟩, ⟨98, 1, .cells [.bool b_3, .roi .u32 b_4]⟩] c_ = GZ75 N SZ122 SZ44 b b_1 b_2 b_3 b_4 (fun r0 r1 => c_ (.ptr 0 0) [⟨98, 1, .cells [.bool r0, .roi .u32 r1]⟩, ⟨98, 1, .cells [.bool b_1, .roi .u32 b_2]⟩, ⟨98, 1, .cells [.bool b_3, .roi .u32 b_4]⟩]) := by kernel_rfl
theorem goodZ75 (N : Nat) (SZ122 : TSZ122) (SZ44 : TSZ44) (hZ122 : GoodF Pg 101 (FZ122 SZ122)) (hZ44 : GoodF Pg 99 (FZ44 SZ44)) : GoodF Pg 57 (FZ75 (GZ75 N SZ122 SZ44)) := by
 refine good_fsZ (cx := ⟨Pg, ofList [(101, (FZ122 SZ122)), (99, (FZ44 SZ44))], isref, N⟩) (ofList_cons hZ122 (ofList_cons hZ44 (ofList_nil _))) shFZ75 (spZ75 (GZ75 N SZ122 SZ44)) (anZ75 N SZ122 SZ44) 0 3 (by kernel_rfl) (fun i_ hi_ => by omega) ?_
 intro a k h
 unfold spZ75 at h
 split at h
 ·exact ⟨[_, _, _], rfl, rfl, (eqZ75 _ _ _ _ _ _ _ _ _).trans h⟩
 ·cases h
def anZ2 (N : Nat) (SZ75 : TSZ75) : Nat -> Option Ann := fun b_ => none
theorem eqZ2 (N : Nat) (SZ75 : TSZ75) (x y : Int) (b : Bool) (b_1 : List Int) (b_2 : Bool) (b_3 : List Int) (c_ : V -> List Blk -> Bool) : bodyV ⟨Pg, ofList [(57, (FZ75 SZ75))], isref, N⟩ (anZ2 N SZ75) 19 (shFZ2.args [.int x, .int y, .bool b, .ints b_1, .bool b_2, .ints b_3]) [⟨98, 1, .cells [.bool b, .roi .u32 b_1]⟩, ⟨98, 1, .cells [.bool b_2, .roi .u32 b_3]⟩] c_ = GZ2 N SZ75 x y b b_1 b_2 b_3 (fun r0 r5 r6 => c_ (.agg [.ptr 2 0, .int .i64 r0]) [⟨98, 1, .cells [.bool b, .roi .u32 b_1]⟩, ⟨98, 1, .cells [.bool b_2, .roi .u32 b_3]⟩, ⟨98, 1, .cells [.bool r5, .roi .u32 r6]⟩]) := by kernel_rfl
theorem goodZ2 (N : Nat) (SZ75 : TSZ75) (hZ75 : GoodF Pg 57 (FZ75 SZ75)) : GoodF Pg 19 (FZ2 (GZ2 N SZ75)) := by
 refine good_fs (cx := ⟨Pg, ofList [(57, (FZ75 SZ75))], isref, N⟩) (ofList_cons hZ75 (ofList_nil _)) shFZ2 (spZ2 (GZ2 N SZ75)) (anZ2 N SZ75) 0 2 (by kernel_rfl) (fun i_ hi_ => by omega) ?_
 intro a k h
 unfold spZ2 at h
 split at h
 ·exact ⟨[_, _], rfl, rfl, (eqZ2 _ _ _ _ _ _ _ _ _).trans h⟩
 ·cases h
def anZ1 (N : Nat) (SZ6 : TSZ6) (SZ3 : TSZ3) (SZ82 : TSZ82) : Nat -> Option Ann := fun b_ => none
theorem eqZ1 (N : Nat) (SZ6 : TSZ6) (SZ3 : TSZ3) (SZ82 : TSZ82) (x y : Int) (b : Bool) (b_1 : List Int) (b_2 : Bool) (b_3 : List Int) (c_ : V -> List Blk -> Bool) : bodyV ⟨Pg, ofList [(17, (FZ6 SZ6)), (15, (FZ3 SZ3)), (52, (FZ82 SZ82))], isref, N⟩ (anZ1 N SZ6 SZ3 SZ82) 20 (shFZ1.args [.int x, .int y, .bool b, .ints b_1, .bool b_2, .ints b_3]) [⟨98, 1, .cells [.bool b, .roi .u32 b_1]⟩, ⟨98, 1, .cells [.bool b_2, .roi .u32 b_3]⟩] c_ = GZ1 N SZ6 SZ3 SZ82 x y b b_1 b_2 b_3 (fun r0 => c_ (.int .i64 r0) [⟨98, 1, .cells [.bool b, .roi .u32 b_1]⟩, ⟨98, 1, .cells [.bool b_2, .roi .u32 b_3]⟩]) := by kernel_rfl
theorem goodZ1 (N : Nat) (SZ6 : TSZ6) (SZ3 : TSZ3) (SZ82 : TSZ82) (hZ6 : GoodF Pg 17 (FZ6 SZ6)) (hZ3 : GoodF Pg 15 (FZ3 SZ3)) (hZ82 : GoodF Pg 52 (FZ82 SZ82)) : GoodF Pg 20 (FZ1 (GZ1 N SZ6 SZ3 SZ82)) := by
 refine good_fs (cx := ⟨Pg, ofList [(17, (FZ6 SZ6)), (15, (FZ3 SZ3)), (52, (FZ82 SZ82))], isref, N⟩) (ofList_cons hZ6 (ofList_cons hZ3 (ofList_cons hZ82 (ofList_nil _)))) shFZ1 (spZ1 (GZ1 N SZ6 SZ3 SZ82)) (anZ1 N SZ6 SZ3 SZ82) 0 2 (by kernel_rfl) (fun i_ hi_ => by omega) ?_
 intro a k h
 unfold spZ1 at h
 split at h
 ·exact ⟨[_, _], rfl, rfl, (eqZ1 _ _ _ _ _ _ _ _ _ _ _).trans h⟩
 ·cases h
def anZ46 (N : Nat) (SZ19 : TSZ19) (SZ15 : TSZ15) (SZ20 : TSZ20) (SZ54 : TSZ54) (SZ58 : TSZ58) (SZ77 : TSZ77) (SZ68 : TSZ68) (SZ48 : TSZ48) (SZ23 : TSZ23) (SZ57 : TSZ57) (SZ69 : TSZ69) (SZ59 : TSZ59) (SZ6 : TSZ6) (SZ3 : TSZ3) (SZ0 : TSZ0) (SZ32 : TSZ32) (SZ2 : TSZ2) (SZ1 : TSZ1) : Nat -> Option Ann := fun b_ => none
def lsZ155 (d_ : List V) (u_ : List (Option Blk)) (x_0 x_1 x_2 x_3 u_0 u_1 u_2 : Int) (v_6 v_7 v_8 : Fl) : St := ⟨(dqs d_ 0 6 (.ptr 3 0 :: (dqs d_ 6 96 []))), [(u_.getD 0 none), (u_.getD 1 none), (u_.getD 2 none), some ⟨33, 1, .flts [v_6, v_7, v_8]⟩]⟩
def lsZ154 (d_ : List V) (u_ : List (Option Blk)) (x_0 x_1 x_2 x_3 u_0 u_1 u_2 : Int) (v_3 v_4 v_5 : Fl) : St := ⟨(dqs d_ 0 6 (.ptr 3 0 :: (dqs d_ 6 96 []))), [(u_.getD 0 none), (u_.getD 1 none), (u_.getD 2 none), some ⟨33, 1, .flts [v_3, v_4, v_5]⟩, (u_.getD 3 none), (u_.getD 4 none), (u_.getD 5 none)]⟩
def lsZ159 (d_ : List V) (u_ : List (Option Blk)) (x_0 x_1 x_2 x_3 u_0 u_1 u_2 : Int) (v v_1 v_2 : Fl) : St := ⟨(dqs d_ 0 6 (.ptr 3 0 :: (dqs d_ 6 96 []))), [(u_.getD 0 none), (u_.getD 1 none), (u_.getD 2 none), some ⟨33, 1, .flts [v, v_1, v_2]⟩, (u_.getD 3 none), (u_.getD 4 none)]⟩
theorem jnZ155 (N : Nat) (SZ19 : TSZ19) (SZ15 : TSZ15) (SZ20 : TSZ20) (SZ54 : TSZ54) (SZ58 : TSZ58) (SZ77 : TSZ77) (SZ68 : TSZ68) (SZ48 : TSZ48) (SZ23 : TSZ23) (SZ57 : TSZ57) (SZ69 : TSZ69) (SZ59 : TSZ59) (SZ6 : TSZ6) (SZ3 : TSZ3) (SZ0 : TSZ0) (SZ32 : TSZ32) (SZ2 : TSZ2) (SZ1 : TSZ1) (d_ : List V) (u_ : List (Option Blk)) (x_0 x_1 x_2 x_3 u_0 u_1 u_2 : Int) (v_6 v_7 v_8 : Fl) (c_ : V -> List Blk -> Bool) : codesV ⟨Pg, ofList [(8, (FZ19 SZ19)), (9, (FZ15 SZ15)), (10, (FZ20 SZ20)), (11, (FZ54 SZ54)), (24, (FZ58 SZ58)), (30, (FZ77 SZ77)), (31, (FZ68 SZ68)), (26, (FZ48 SZ48)), (12, (FZ23 SZ23)), (32, (FZ57 SZ57)), (33, (FZ69 SZ69)), (28, (FZ59 SZ59)), (17, (FZ6 SZ6)), (15, (FZ3 SZ3)), (34, (FZ0 SZ0)), (16, (FZ32 SZ32)), (19, (FZ2 SZ2)), (20, (FZ1 SZ1))], isref, (N + 24)⟩ 0 (anZ46 (N + 24) SZ19 SZ15 SZ20 SZ54 SZ58 SZ77 SZ68 SZ48 SZ23 SZ57 SZ69 SZ59 SZ6 SZ3 SZ0 SZ32 SZ2 SZ1) ((cds Pg 6).drop 6) 0 (lsZ155 d_ u_ x_0 x_1 x_2 x_3 u_0 u_1 u_2 v_6 v_7 v_8) (finV Pg 6 0 c_) = JZ155 (N + 24) SZ19 SZ15 SZ20 SZ54 SZ58 SZ77 SZ68 SZ48 SZ23 SZ57 SZ69 SZ59 SZ6 SZ3 SZ0 SZ32 SZ2 SZ1 x_0 x_1 x_2 x_3 u_0 u_1 u_2 v_6 v_7 v_8 (fun r0 => c_ (.bool r0) []) := by kernel_rfl
theorem jnZ154 (N : Nat) (SZ19 : TSZ19) (SZ15 : TSZ15) (SZ20 : TSZ20) (SZ54 : TSZ54) (SZ58 : TSZ58) (SZ77 : TSZ77) (SZ68 : TSZ68) (SZ48 : TSZ48) (SZ23 : TSZ23) (SZ57 : TSZ57) (SZ69 : TSZ69) (SZ59 : TSZ59) (SZ6 : TSZ6) (SZ3 : TSZ3) (SZ0 : TSZ0) (SZ32 : TSZ32) (SZ2 : TSZ2) (SZ1 : TSZ1) (d_ : List V) (u_ : List (Option Blk)) (x_0 x_1 x_2 x_3 u_0 u_1 u_2 : Int) (v_3 v_4 v_5 : Fl) (c_ : V -> List Blk -> Bool) : codesV ⟨Pg, ofList [(8, (FZ19 SZ19)), (9, (FZ15 SZ15)), (10, (FZ20 SZ20)), (11, (FZ54 SZ54)), (24, (FZ58 SZ58)), (30, (FZ77 SZ77)), (31, (FZ68 SZ68)), (26, (FZ48 SZ48)), (12, (FZ23 SZ23)), (32, (FZ57 SZ57)), (33, (FZ69 SZ69)), (28, (FZ59 SZ59)), (17, (FZ6 SZ6)), (15, (FZ3 SZ3)), (34, (FZ0 SZ0)), (16, (FZ32 SZ32)), (19, (FZ2 SZ2)), (20, (FZ1 SZ1))], isref, (N + 24)⟩ 0 (anZ46 (N + 24) SZ19 SZ15 SZ20 SZ54 SZ58 SZ77 SZ68 SZ48 SZ23 SZ57 SZ69 SZ59 SZ6 SZ3 SZ0 SZ32 SZ2 SZ1) ((cds Pg 6).drop 6) 0 (lsZ154 d_ u_ x_0 x_1 x_2 x_3 u_0 u_1 u_2 v_3 v_4 v_5) (finV Pg 6 0 c_) = JZ154 (N + 24) SZ19 SZ15 SZ20 SZ54 SZ58 SZ77 SZ68 SZ48 SZ23 SZ57 SZ69 SZ59 SZ6 SZ3 SZ0 SZ32 SZ2 SZ1 x_0 x_1 x_2 x_3 u_0 u_1 u_2 v_3 v_4 v_5 (fun r0 => c_ (.bool r0) []) := by kernel_rfl
theorem jnZ159 (N : Nat) (SZ19 : TSZ19) (SZ15 : TSZ15) (SZ20 : TSZ20) (SZ54 : TSZ54) (SZ58 : TSZ58) (SZ77 : TSZ77) (SZ68 : TSZ68) (SZ48 : TSZ48) (SZ23 : TSZ23) (SZ57 : TSZ57) (SZ69 : TSZ69) (SZ59 : TSZ59) (SZ6 : TSZ6) (SZ3 : TSZ3) (SZ0 : TSZ0) (SZ32 : TSZ32) (SZ2 : TSZ2) (SZ1 : TSZ1) (d_ : List V) (u_ : List (Option Blk)) (x_0 x_1 x_2 x_3 u_0 u_1 u_2 : Int) (v v_1 v_2 : Fl) (c_ : V -> List Blk -> Bool) : codesV ⟨Pg, ofList [(8, (FZ19 SZ19)), (9, (FZ15 SZ15)), (10, (FZ20 SZ20)), (11, (FZ54 SZ54)), (24, (FZ58 SZ58)), (30, (FZ77 SZ77)), (31, (FZ68 SZ68)), (26, (FZ48 SZ48)), (12, (FZ23 SZ23)), (32, (FZ57 SZ57)), (33, (FZ69 SZ69)), (28, (FZ59 SZ59)), (17, (FZ6 SZ6)), (15, (FZ3 SZ3)), (34, (FZ0 SZ0)), (16, (FZ32 SZ32)), (19, (FZ2 SZ2)), (20, (FZ1 SZ1))], isref, (N + 24)⟩ 0 (anZ46 (N + 24) SZ19 SZ15 SZ20 SZ54 SZ58 SZ77 SZ68 SZ48 SZ23 SZ57 SZ69 SZ59 SZ6 SZ3 SZ0 SZ32 SZ2 SZ1) ((cds Pg 6).drop 6) 0 (lsZ159 d_ u_ x_0 x_1 x_2 x_3 u_0 u_1 u_2 v v_1 v_2) (finV Pg 6 0 c_) = JZ159 (N + 24) SZ19 SZ15 SZ20 SZ54 SZ58 SZ77 SZ68 SZ48 SZ23 SZ57 SZ69 SZ59 SZ6 SZ3 SZ0 SZ32 SZ2 SZ1 x_0 x_1 x_2 x_3 u_0 u_1 u_2 v v_1 v_2 (fun r0 => c_ (.bool r0) []) := by kernel_rfl
theorem hdZ174 (N : Nat) (SZ19 : TSZ19) (SZ15 : TSZ15) (SZ20 : TSZ20) (SZ54 : TSZ54) (SZ58 : TSZ58) (SZ77 : TSZ77) (SZ68 : TSZ68) (SZ48 : TSZ48) (SZ23 : TSZ23) (SZ57 : TSZ57) (SZ69 : TSZ69) (SZ59 : TSZ59) (SZ6 : TSZ6) (SZ3 : TSZ3) (SZ0 : TSZ0) (SZ32 : TSZ32) (SZ2 : TSZ2) (SZ1 : TSZ1) (x_0 x_1 x_2 x_3 u_0 u_1 u_2 : Int) (c_ : V -> List Blk -> Bool) (κn_ : St -> Bool) : codesV ⟨Pg, ofList [(8, (FZ19 SZ19)), (9, (FZ15 SZ15)), (10, (FZ20 SZ20)), (11, (FZ54 SZ54)), (24, (FZ58 SZ58)), (30, (FZ77 SZ77)), (31, (FZ68 SZ68)), (26, (FZ48 SZ48)), (12, (FZ23 SZ23)), (32, (FZ57 SZ57)), (33, (FZ69 SZ69)), (28, (FZ59 SZ59)), (17, (FZ6 SZ6)), (15, (FZ3 SZ3)), (34, (FZ0 SZ0)), (16, (FZ32 SZ32)), (19, (FZ2 SZ2)), (20, (FZ1 SZ1))], isref, (N + 24)⟩ 0 (anZ46 (N + 24) SZ19 SZ15 SZ20 SZ54 SZ58 SZ77 SZ68 SZ48 SZ23 SZ57 SZ69 SZ59 SZ6 SZ3 SZ0 SZ32 SZ2 SZ1) (sg Pg 6 0 6) 0 (st0 Pg 6 (shFZ46.args [.int x_0, .int x_1, .int x_2, .int x_3, .int u_0, .int u_1, .int u_2]) []) { (finV Pg 6 0 c_) with nrm := κn_ } = (SZ19 (fun cr => (cond (!cr) (c_ (.bool false) []) (SZ15 x_0 x_1 x_2 x_3 (fun xr xr_1 xr_2 xr_3 => (SZ20 u_0 u_1 u_2 (fun xr_4 xr_5 xr_6 => (SZ54 xr xr_1 xr_2 xr_3 (fun cr_1 => (cond cr_1 (SZ58 xr xr_1 xr_2 xr_3 (fun nr nr_1 nr_2 => (SZ77 nr nr_1 [] (fun xr_7 xr_8 xr_9 xr_10 nr_3 => (SZ68 xr xr_1 xr_2 xr_3 xr_7 xr_8 xr_9 xr_10 (fun x11 nr_4 => (cond ((nr_2 != 0) == false) (cond ((nr_3 != 0) == false) (cond ((nr_4 != 0) == false) (SZ48 (some 4607182418800017408) (-40) (fun x12 => (cond (!(fle x11 x12)) (c_ (.bool false) []) (κn_ (lsZ159 [.agg [.int .u64 x_0, .int .u64 x_1, .int .u64 x_2, .int .u64 x_3], .agg [.int .u64 u_0, .int .u64 u_1, .int .u64 u_2], .ptr 0 0, .ptr 1 0, .bool false, .ptr 2 0, .ptr 4 0, .int .i64 nr_2, .ptr 5 0, .int .i64 nr_3, .flt x11, .int .i64 nr_4, .any, .any, .any, .any, .any, .any, .bool cr, .bool false, .agg [.int .u64 x_0, .int .u64 x_1, .int .u64 x_2, .int .u64 x_3], .agg [.flt xr, .flt xr_1, .flt xr_2, .flt xr_3], .agg [.int .u64 u_0, .int .u64 u_1, .int .u64 u_2], .agg [.flt xr_4, .flt xr_5, .flt xr_6], .agg [.flt xr, .flt xr_1, .flt xr_2, .flt xr_3], .bool true, .tup [.agg [.int .i64 nr, .int .i64 nr_1, .nil], .int .i64 nr_2], .agg [.flt xr, .flt xr_1, .flt xr_2, .flt xr_3], .tup [.agg [.int .i64 nr, .int .i64 nr_1, .nil], .int .i64 nr_2], .agg [.int .i64 nr, .int .i64 nr_1, .nil], .int .i64 nr_2, .tup [.agg [.flt xr_7, .flt xr_8, .flt xr_9, .flt xr_10], .int .i64 nr_3], .agg [.int .i64 nr, .int .i64 nr_1, .nil], .tup [.agg [.flt xr_7, .flt xr_8, .flt xr_9, .flt xr_10], .int .i64 nr_3], .agg [.flt xr_7, .flt xr_8, .flt xr_9, .flt xr_10], .int .i64 nr_3, .tup [.flt x11, .int .i64 nr_4], .agg [.flt xr, .flt xr_1, .flt xr_2, .flt xr_3], .agg [.flt xr_7, .flt xr_8, .flt xr_9, .flt xr_10], .tup [.flt x11, .int .i64 nr_4], .flt x11, .int .i64 nr_4, .int .i64 nr_2, .bool (nr_2 != 0), .bool false, .int .i64 nr_3, .bool (nr_3 != 0), .bool (nr_3 != 0), .bool false, .int .i64 nr_4, .bool (nr_4 != 0), .bool (nr_4 != 0), .bool false, .flt x11, .flt x12, .bool (fle x11 x12), .bool (!(fle x11 x12)), .bool false, .any, .any, .any, .any, .any, .any, .any, .any, .any, .any, .any, .any, .any, .any, .any, .any, .any, .any, .any, .any, .any, .any, .any, .any, .any, .any, .any, .any, .any, .any, .any, .any, .any, .any, .any, .any, .any, .any, .any, .any, .any, .any, .any, .any] [some ⟨24, 1, .ints .u64 [x_0, x_1, x_2, x_3]⟩, some ⟨26, 1, .ints .u64 [u_0, u_1, u_2]⟩, some ⟨30, 1, .cells [.flt xr, .flt xr_1, .flt xr_2, .flt xr_3]⟩, some ⟨55, 1, .cells [.int .i64 nr, .int .i64 nr_1, .nil]⟩, some ⟨30, 1, .cells [.flt xr_7, .flt xr_8, .flt xr_9, .flt xr_10]⟩] x_0 x_1 x_2 x_3 u_0 u_1 u_2 xr_4 xr_5 xr_6))))) (c_ (.bool false) [])) (c_ (.bool false) [])) (c_ (.bool false) []))))))) (fun n5 n6 n7 xsr => (SZ77 n5 n6 xsr (fun x13 x14 x15 x16 n8 => (SZ68 xr xr_1 xr_2 xr_3 x13 x14 x15 x16 (fun x17 n9 => (cond ((n7 != 0) == false) (cond ((n8 != 0) == false) (cond ((n9 != 0) == false) (SZ48 (some 4607182418800017408) (-40) (fun x18 => (cond (!(fle x17 x18)) (c_ (.bool false) []) (κn_ (lsZ154 [.agg [.int .u64 x_0, .int .u64 x_1, .int .u64 x_2, .int .u64 x_3], .agg [.int .u64 u_0, .int .u64 u_1, .int .u64 u_2], .ptr 0 0, .ptr 1 0, .bool false, .ptr 2 0, .ptr 5 0, .int .i64 n7, .ptr 6 0, .int .i64 n8, .flt x17, .int .i64 n9, .any, .any, .any, .any, .any, .any, .bool cr, .bool false, .agg [.int .u64 x_0, .int .u64 x_1, .int .u64 x_2, .int .u64 x_3], .agg [.flt xr, .flt xr_1, .flt xr_2, .flt xr_3], .agg [.int .u64 u_0, .int .u64 u_1, .int .u64 u_2], .agg [.flt xr_4, .flt xr_5, .flt xr_6], .agg [.flt xr, .flt xr_1, .flt xr_2, .flt xr_3], .bool true, .tup [.agg [.int .i64 n5, .int .i64 n6, .slw 4], .int .i64 n7], .agg [.flt xr, .flt xr_1, .flt xr_2, .flt xr_3], .tup [.agg [.int .i64 n5, .int .i64 n6, .slw 4], .int .i64 n7], .agg [.int .i64 n5, .int .i64 n6, .slw 4], .int .i64 n7, .tup [.agg [.flt x13, .flt x14, .flt x15, .flt x16], .int .i64 n8], .agg [.int .i64 n5, .int .i64 n6, .slw 4], .tup [.agg [.flt x13, .flt x14, .flt x15, .flt x16], .int .i64 n8], .agg [.flt x13, .flt x14, .flt x15, .flt x16], .int .i64 n8, .tup [.flt x17, .int .i64 n9], .agg [.flt xr, .flt xr_1, .flt xr_2, .flt xr_3], .agg [.flt x13, .flt x14, .flt x15, .flt x16], .tup [.flt x17, .int .i64 n9], .flt x17, .int .i64 n9, .int .i64 n7, .bool (n7 != 0), .bool false, .int .i64 n8, .bool (n8 != 0), .bool (n8 != 0), .bool false, .int .i64 n9, .bool (n9 != 0), .bool (n9 != 0), .bool false, .flt x17, .flt x18, .bool (fle x17 x18), .bool (!(fle x17 x18)), .bool false, .any, .any, .any, .any, .any, .any, .any, .any, .any, .any, .any, .any, .any, .any, .any, .any, .any, .any, .any, .any, .any, .any, .any, .any, .any, .any, .any, .any, .any, .any, .any, .any, .any, .any, .any, .any, .any, .any, .any, .any, .any, .any, .any, .any] [some ⟨24, 1, .ints .u64 [x_0, x_1, x_2, x_3]⟩, some ⟨26, 1, .ints .u64 [u_0, u_1, u_2]⟩, some ⟨30, 1, .cells [.flt xr, .flt xr_1, .flt xr_2, .flt xr_3]⟩, some ⟨28, 1, .flts xsr⟩, some ⟨55, 1, .cells [.int .i64 n5, .int .i64 n6, .slw 4]⟩, some ⟨30, 1, .cells [.flt x13, .flt x14, .flt x15, .flt x16]⟩] x_0 x_1 x_2 x_3 u_0 u_1 u_2 xr_4 xr_5 xr_6))))) (c_ (.bool false) [])) (c_ (.bool false) [])) (c_ (.bool false) [])))))))) (κn_ (lsZ155 [.agg [.int .u64 x_0, .int .u64 x_1, .int .u64 x_2, .int .u64 x_3], .agg [.int .u64 u_0, .int .u64 u_1, .int .u64 u_2], .ptr 0 0, .ptr 1 0, .bool false, .ptr 2 0, .any, .any, .any, .any, .any, .any, .any, .any, .any, .any, .any, .any, .bool cr, .bool false, .agg [.int .u64 x_0, .int .u64 x_1, .int .u64 x_2, .int .u64 x_3], .agg [.flt xr, .flt xr_1, .flt xr_2, .flt xr_3], .agg [.int .u64 u_0, .int .u64 u_1, .int .u64 u_2], .agg [.flt xr_4, .flt xr_5, .flt xr_6], .agg [.flt xr, .flt xr_1, .flt xr_2, .flt xr_3], .bool false, .any, .any, .any, .any, .any, .any, .any, .any, .any, .any, .any, .any, .any, .any, .any, .any, .any, .any, .any, .any, .any, .any, .any, .any, .any, .any, .any, .any, .any, .any, .any, .any, .any, .any, .any, .any, .any, .any, .any, .any, .any, .any, .any, .any, .any, .any, .any, .any, .any, .any, .any, .any, .any, .any, .any, .any, .any, .any, .any, .any, .any, .any, .any, .any, .any, .any, .any, .any, .any, .any, .any, .any, .any, .any, .any, .any] [some ⟨24, 1, .ints .u64 [x_0, x_1, x_2, x_3]⟩, some ⟨26, 1, .ints .u64 [u_0, u_1, u_2]⟩, some ⟨30, 1, .cells [.flt xr, .flt xr_1, .flt xr_2, .flt xr_3]⟩] x_0 x_1 x_2 x_3 u_0 u_1 u_2 xr_4 xr_5 xr_6)))))))))))) := by kernel_rfl
theorem jnZ174 (N : Nat) (SZ19 : TSZ19) (SZ15 : TSZ15) (SZ20 : TSZ20) (SZ54 : TSZ54) (SZ58 : TSZ58) (SZ77 : TSZ77) (SZ68 : TSZ68) (SZ48 : TSZ48) (SZ23 : TSZ23) (SZ57 : TSZ57) (SZ69 : TSZ69) (SZ59 : TSZ59) (SZ6 : TSZ6) (SZ3 : TSZ3) (SZ0 : TSZ0) (SZ32 : TSZ32) (SZ2 : TSZ2) (SZ1 : TSZ1) (x_0 x_1 x_2 x_3 u_0 u_1 u_2 : Int) (c_ : V -> List Blk -> Bool) : codesV ⟨Pg, ofList [(8, (FZ19 SZ19)), (9, (FZ15 SZ15)), (10, (FZ20 SZ20)), (11, (FZ54 SZ54)), (24, (FZ58 SZ58)), (30, (FZ77 SZ77)), (31, (FZ68 SZ68)), (26, (FZ48 SZ48)), (12, (FZ23 SZ23)), (32, (FZ57 SZ57)), (33, (FZ69 SZ69)), (28, (FZ59 SZ59)), (17, (FZ6 SZ6)), (15, (FZ3 SZ3)), (34, (FZ0 SZ0)), (16, (FZ32 SZ32)), (19, (FZ2 SZ2)), (20, (FZ1 SZ1))], isref, (N + 24)⟩ 0 (anZ46 (N + 24) SZ19 SZ15 SZ20 SZ54 SZ58 SZ77 SZ68 SZ48 SZ23 SZ57 SZ69 SZ59 SZ6 SZ3 SZ0 SZ32 SZ2 SZ1) ((cds Pg 6).drop 0) 0 (st0 Pg 6 (shFZ46.args [.int x_0, .int x_1, .int x_2, .int x_3, .int u_0, .int u_1, .int u_2]) []) (finV Pg 6 0 c_) = GZ46 (N + 24) SZ19 SZ15 SZ20 SZ54 SZ58 SZ77 SZ68 SZ48 SZ23 SZ57 SZ69 SZ59 SZ6 SZ3 SZ0 SZ32 SZ2 SZ1 x_0 x_1 x_2 x_3 u_0 u_1 u_2 (fun r0 => c_ (.bool r0) []) := by
 rw [codesV_cut 0 6 6 rfl]
 refine (hdZ174 N SZ19 SZ15 SZ20 SZ54 SZ58 SZ77 SZ68 SZ48 SZ23 SZ57 SZ69 SZ59 SZ6 SZ3 SZ0 SZ32 SZ2 SZ1 x_0 x_1 x_2 x_3 u_0 u_1 u_2 c_ _).trans ?_
 simp only [jnZ159, jnZ154, jnZ155]
 kernel_rfl
theorem eqZ46 (N : Nat) (SZ19 : TSZ19) (SZ15 : TSZ15) (SZ20 : TSZ20) (SZ54 : TSZ54) (SZ58 : TSZ58) (SZ77 : TSZ77) (SZ68 : TSZ68) (SZ48 : TSZ48) (SZ23 : TSZ23) (SZ57 : TSZ57) (SZ69 : TSZ69) (SZ59 : TSZ59) (SZ6 : TSZ6) (SZ3 : TSZ3) (SZ0 : TSZ0) (SZ32 : TSZ32) (SZ2 : TSZ2) (SZ1 : TSZ1) (x_0 x_1 x_2 x_3 u_0 u_1 u_2 : Int) (c_ : V -> List Blk -> Bool) : bodyV ⟨Pg, ofList [(8, (FZ19 SZ19)), (9, (FZ15 SZ15)), (10, (FZ20 SZ20)), (11, (FZ54 SZ54)), (24, (FZ58 SZ58)), (30, (FZ77 SZ77)), (31, (FZ68 SZ68)), (26, (FZ48 SZ48)), (12, (FZ23 SZ23)), (32, (FZ57 SZ57)), (33, (FZ69 SZ69)), (28, (FZ59 SZ59)), (17, (FZ6 SZ6)), (15, (FZ3 SZ3)), (34, (FZ0 SZ0)), (16, (FZ32 SZ32)), (19, (FZ2 SZ2)), (20, (FZ1 SZ1))], isref, (N + 24)⟩ (anZ46 (N + 24) SZ19 SZ15 SZ20 SZ54 SZ58 SZ77 SZ68 SZ48 SZ23 SZ57 SZ69 SZ59 SZ6 SZ3 SZ0 SZ32 SZ2 SZ1) 6 (shFZ46.args [.int x_0, .int x_1, .int x_2, .int x_3, .int u_0, .int u_1, .int u_2]) [] c_ = GZ46 (N + 24) SZ19 SZ15 SZ20 SZ54 SZ58 SZ77 SZ68 SZ48 SZ23 SZ57 SZ69 SZ59 SZ6 SZ3 SZ0 SZ32 SZ2 SZ1 x_0 x_1 x_2 x_3 u_0 u_1 u_2 (fun r0 => c_ (.bool r0) []) :=
 (bodyV_codes (by kernel_rfl)).trans (jnZ174 N SZ19 SZ15 SZ20 SZ54 SZ58 SZ77 SZ68 SZ48 SZ23 SZ57 SZ69 SZ59 SZ6 SZ3 SZ0 SZ32 SZ2 SZ1 x_0 x_1 x_2 x_3 u_0 u_1 u_2 c_)
theorem topZ46 (N : Nat) (SZ19 : TSZ19) (SZ15 : TSZ15) (SZ20 : TSZ20) (SZ54 : TSZ54) (SZ58 : TSZ58) (SZ77 : TSZ77) (SZ68 : TSZ68) (SZ48 : TSZ48) (SZ23 : TSZ23) (SZ57 : TSZ57) (SZ69 : TSZ69) (SZ59 : TSZ59) (SZ6 : TSZ6) (SZ3 : TSZ3) (SZ0 : TSZ0) (SZ32 : TSZ32) (SZ2 : TSZ2) (SZ1 : TSZ1) (hZ19 : GoodF Pg 8 (FZ19 SZ19)) (hZ15 : GoodF Pg 9 (FZ15 SZ15)) (hZ20 : GoodF Pg 10 (FZ20 SZ20)) (hZ54 : GoodF Pg 11 (FZ54 SZ54)) (hZ58 : GoodF Pg 24 (FZ58 SZ58)) (hZ77 : GoodF Pg 30 (FZ77 SZ77)) (hZ68 : GoodF Pg 31 (FZ68 SZ68)) (hZ48 : GoodF Pg 26 (FZ48 SZ48)) (hZ23 : GoodF Pg 12 (FZ23 SZ23)) (hZ57 : GoodF Pg 32 (FZ57 SZ57)) (hZ69 : GoodF Pg 33 (FZ69 SZ69)) (hZ59 : GoodF Pg 28 (FZ59 SZ59)) (hZ6 : GoodF Pg 17 (FZ6 SZ6)) (hZ3 : GoodF Pg 15 (FZ3 SZ3)) (hZ0 : GoodF Pg 34 (FZ0 SZ0)) (hZ32 : GoodF Pg 16 (FZ32 SZ32)) (hZ2 : GoodF Pg 19 (FZ2 SZ2)) (hZ1 : GoodF Pg 20 (FZ1 SZ1)) (x_0 x_1 x_2 x_3 u_0 u_1 u_2 : Int) (hG : GZ46 (N + 24) SZ19 SZ15 SZ20 SZ54 SZ58 SZ77 SZ68 SZ48 SZ23 SZ57 SZ69 SZ59 SZ6 SZ3 SZ0 SZ32 SZ2 SZ1 x_0 x_1 x_2 x_3 u_0 u_1 u_2 (fun b => b) = true) : OkC Pg 6 (shFZ46.args [.int x_0, .int x_1, .int x_2, .int x_3, .int u_0, .int u_1, .int u_2]) [] (.bool true) [] :=
 top_fs (cx := ⟨Pg, ofList [(8, (FZ19 SZ19)), (9, (FZ15 SZ15)), (10, (FZ20 SZ20)), (11, (FZ54 SZ54)), (24, (FZ58 SZ58)), (30, (FZ77 SZ77)), (31, (FZ68 SZ68)), (26, (FZ48 SZ48)), (12, (FZ23 SZ23)), (32, (FZ57 SZ57)), (33, (FZ69 SZ69)), (28, (FZ59 SZ59)), (17, (FZ6 SZ6)), (15, (FZ3 SZ3)), (34, (FZ0 SZ0)), (16, (FZ32 SZ32)), (19, (FZ2 SZ2)), (20, (FZ1 SZ1))], isref, (N + 24)⟩) (ofList_cons hZ19 (ofList_cons hZ15 (ofList_cons hZ20 (ofList_cons hZ54 (ofList_cons hZ58 (ofList_cons hZ77 (ofList_cons hZ68 (ofList_cons hZ48 (ofList_cons hZ23 (ofList_cons hZ57 (ofList_cons hZ69 (ofList_cons hZ59 (ofList_cons hZ6 (ofList_cons hZ3 (ofList_cons hZ0 (ofList_cons hZ32 (ofList_cons hZ2 (ofList_cons hZ1 (ofList_nil _))))))))))))))))))) (anZ46 (N + 24) SZ19 SZ15 SZ20 SZ54 SZ58 SZ77 SZ68 SZ48 SZ23 SZ57 SZ69 SZ59 SZ6 SZ3 SZ0 SZ32 SZ2 SZ1) 1 (by kernel_rfl) (fun i_ hi_ => by
  match i_, hi_ with
  | 0, _ => exact (fun hk e => by rw [show hookOf ((anZ46 (N + 24) SZ19 SZ15 SZ20 SZ54 SZ58 SZ77 SZ68 SZ48 SZ23 SZ57 SZ69 SZ59 SZ6 SZ3 SZ0 SZ32 SZ2 SZ1) (lp Pg 6 0).1) = none from by kernel_rfl] at e; cases e)
  | (q + 1), h => omega) ((eqZ46 N SZ19 SZ15 SZ20 SZ54 SZ58 SZ77 SZ68 SZ48 SZ23 SZ57 SZ69 SZ59 SZ6 SZ3 SZ0 SZ32 SZ2 SZ1 x_0 x_1 x_2 x_3 u_0 u_1 u_2 (fun r H => match r, H with | .bool b, [] => b | _, _ => false)).trans hG)
end Go.Proofs.YtnfgnjciliapaaaGreatDoor
