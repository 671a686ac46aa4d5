/-
  THE TIES: each printed meaning is what the program does (written by program).
  Conditions: none.
-/
import Derived.Test.YtccocdgimamdhaaGreatDoorGs
namespace Go.Proofs.YtccocdgimamdhaaGreatDoor
open Go Go.Mach Go.Proofs
set_option linter.unusedVariables false
set_option maxRecDepth 50000

def sh_st_binnacleref03_Dot_0 : StSh := ⟨(.rof :: (.rof :: (.any :: (.any :: (.ptr 0 0 :: (.ptr 1 0 :: (.any :: (.any :: (.any :: (.int .i64 :: (.int .i64 :: (sqs 17 [])))))))))))), [some (33, 1, .cells [.val, .int .i64]), some (33, 1, .cells [.ptr 2 0, .int .i64]), some (105, 1, .cells [.bool, .roi .u32])]⟩
def sx0_st_binnacleref03_Dot_0 : StSh := ⟨(sqs 4 (.ptr 0 0 :: (.ptr 1 0 :: (sqs 22 [])))), [some (33, 1, .cells [.val, .int .i64]), some (33, 1, .cells [.ptr 2 0, .int .i64]), some (105, 1, .cells [.bool, .roi .u32])]⟩
def hk_st_binnacleref03_Dot_0 (N : Nat) (Sj145 : TSj145) (Sj189 : TSj189) (Sj24 : TSj24) (Sj23 : TSj23) (Sj8 : TSj8) : List Atom -> K -> Bool := fun a_ κ => match a_ with
  | [.fls a_2, .fls b_2, .int t9_1, .int t10_1, .val t4_2, .int t4_3, .int s_1, .bool b2_1, .ints b2_2] => iterG N (st_z03_Dot_0 N Sj145 Sj189 Sj24 Sj23 Sj8 a_2 b_2 t9_1 t4_2 t4_3 (fun r2 r3 r4 => κ.ext 0 (sx0_st_binnacleref03_Dot_0.build [.val t4_2, .int t4_3, .int r2, .bool r3, .ints r4]))) (t10_1, s_1, b2_1, b2_2)
  | _ => false
def anj191 (N : Nat) (Sj145 : TSj145) (Sj189 : TSj189) (Sj24 : TSj24) (Sj23 : TSj23) (Sj8 : TSj8) : Nat -> Option Ann := fun b_ => cond (b_ == 0) (some ⟨⟨[0, 1, 4, 5, 9, 10], [], [(2, 1, some .u32)]⟩, [(0, ⟨[4, 5], [], []⟩)], some ⟨[4], [], []⟩, some (mkHooks [(sh_st_binnacleref03_Dot_0, hk_st_binnacleref03_Dot_0 N Sj145 Sj189 Sj24 Sj23 Sj8)])⟩) (none)
theorem eq_st_binnacleref03_Dot_0 (N : Nat) (Sj145 : TSj145) (Sj189 : TSj189) (Sj24 : TSj24) (Sj23 : TSj23) (Sj8 : TSj8) (κ : K) (a_2 b_2 : List Fl) (t9_1 t10_1 : Int) (t4_2 : Value) (t4_3 s_1 : Int) (b2_1 : Bool) (b2_2 : List Int) : iter N (fun s k => codeV ⟨Pg, ofList [(110, (Fj145 Sj145)), (15, (Fj189 Sj189)), (13, (Fj24 Sj24)), (61, (orFs (Fj23 Sj23) (Fj8 Sj8) shFj23))], isref, N⟩ 0 (anj191 N Sj145 Sj189 Sj24 Sj23 Sj8) (lp Pg 59 0).2 (lp Pg 59 0).1 s (roundK Pg 0 ((anj191 N Sj145 Sj189 Sj24 Sj23 Sj8) (lp Pg 59 0).1) κ k)) (sh_st_binnacleref03_Dot_0.build [.fls a_2, .fls b_2, .int t9_1, .int t10_1, .val t4_2, .int t4_3, .int s_1, .bool b2_1, .ints b2_2]) = iterG N (st_z03_Dot_0 N Sj145 Sj189 Sj24 Sj23 Sj8 a_2 b_2 t9_1 t4_2 t4_3 (fun r2 r3 r4 => κ.ext 0 (sx0_st_binnacleref03_Dot_0.build [.val t4_2, .int t4_3, .int r2, .bool r3, .ints r4]))) (t10_1, s_1, b2_1, b2_2) :=
  iter_tr (fun (v_ : Int × Int × Bool × List Int) => sh_st_binnacleref03_Dot_0.build [.fls a_2, .fls b_2, .int t9_1, .int v_.1, .val t4_2, .int t4_3, .int v_.2.1, .bool v_.2.2.1, .ints v_.2.2.2]) (fun v_ K_ => by obtain ⟨t10_1, s_1, b2_1, b2_2⟩ := v_; kernel_rfl) N (t10_1, s_1, b2_1, b2_2)
theorem hk1_st_binnacleref03_Dot_0 (N : Nat) (Sj145 : TSj145) (Sj189 : TSj189) (Sj24 : TSj24) (Sj23 : TSj23) (Sj8 : TSj8) : HookFor ⟨Pg, ofList [(110, (Fj145 Sj145)), (15, (Fj189 Sj189)), (13, (Fj24 Sj24)), (61, (orFs (Fj23 Sj23) (Fj8 Sj8) shFj23))], isref, N⟩ 0 (anj191 N Sj145 Sj189 Sj24 Sj23 Sj8) (lp Pg 59 0) (sh_st_binnacleref03_Dot_0, hk_st_binnacleref03_Dot_0 N Sj145 Sj189 Sj24 Sj23 Sj8) := by
  intro a κ h
  simp only at h
  unfold hk_st_binnacleref03_Dot_0 at h
  split at h
  · exact (eq_st_binnacleref03_Dot_0 _ _ _ _ _ _ _ _ _ _ _ _ _ _ _ _).trans h
  · cases h
theorem ho_binnacleref03_Dot_0 (N : Nat) (Sj145 : TSj145) (Sj189 : TSj189) (Sj24 : TSj24) (Sj23 : TSj23) (Sj8 : TSj8) : HookOk ⟨Pg, ofList [(110, (Fj145 Sj145)), (15, (Fj189 Sj189)), (13, (Fj24 Sj24)), (61, (orFs (Fj23 Sj23) (Fj8 Sj8) shFj23))], isref, N⟩ 0 (anj191 N Sj145 Sj189 Sj24 Sj23 Sj8) (lp Pg 59 0) :=
  hooks_ok [(sh_st_binnacleref03_Dot_0, hk_st_binnacleref03_Dot_0 N Sj145 Sj189 Sj24 Sj23 Sj8)] (by kernel_rfl) ⟨hk1_st_binnacleref03_Dot_0 _ _ _ _ _ _, trivial⟩
theorem eqj191 (N : Nat) (Sj145 : TSj145) (Sj189 : TSj189) (Sj24 : TSj24) (Sj23 : TSj23) (Sj8 : TSj8) (a b : List Fl) (c_ : V -> List Blk -> Bool) : bodyV ⟨Pg, ofList [(110, (Fj145 Sj145)), (15, (Fj189 Sj189)), (13, (Fj24 Sj24)), (61, (orFs (Fj23 Sj23) (Fj8 Sj8) shFj23))], isref, N⟩ (anj191 N Sj145 Sj189 Sj24 Sj23 Sj8) 59 (shFj191.args [.fls a, .fls b]) [] c_ = Gj191 N Sj145 Sj189 Sj24 Sj23 Sj8 a b (fun r0 r1 r2 => c_ (.agg [.ptr 0 0, .int .i64 r0]) [⟨105, 1, .cells [.bool r1, .roi .u32 r2]⟩]) := by kernel_rfl
theorem goodj191 (N : Nat) (Sj145 : TSj145) (Sj189 : TSj189) (Sj24 : TSj24) (Sj23 : TSj23) (Sj8 : TSj8) (hj145 : GoodF Pg 110 (Fj145 Sj145)) (hj189 : GoodF Pg 15 (Fj189 Sj189)) (hj24 : GoodF Pg 13 (Fj24 Sj24)) (hj23 : GoodF Pg 61 (Fj23 Sj23)) (hj8 : GoodF Pg 61 (Fj8 Sj8)) : GoodF Pg 59 (Fj191 (Gj191 N Sj145 Sj189 Sj24 Sj23 Sj8)) := by
  refine good_fs (cx := ⟨Pg, ofList [(110, (Fj145 Sj145)), (15, (Fj189 Sj189)), (13, (Fj24 Sj24)), (61, (orFs (Fj23 Sj23) (Fj8 Sj8) shFj23))], isref, N⟩) (ofList_cons hj145 (ofList_cons hj189 (ofList_cons hj24 (ofList_cons (good_or hj23 hj8) (ofList_nil _))))) shFj191 (spj191 (Gj191 N Sj145 Sj189 Sj24 Sj23 Sj8)) (anj191 N Sj145 Sj189 Sj24 Sj23 Sj8) 1 0 (by kernel_rfl) (fun i_ hi_ => by
    match i_, hi_ with
    | 0, _ => exact ho_binnacleref03_Dot_0 _ _ _ _ _ _
    | (q + 1), h => omega) ?_
  intro a k h
  unfold spj191 at h
  split at h
  · exact ⟨[], rfl, rfl, (eqj191 _ _ _ _ _ _ _ _ _).trans h⟩
  · cases h

def anj171 (N : Nat) (Sj13 : TSj13) : Nat -> Option Ann := fun b_ => none
theorem eqj171 (N : Nat) (Sj13 : TSj13) (n : Int) (c_ : V -> List Blk -> Bool) : bodyV ⟨Pg, ofList [(137, (Fj13 Sj13))], isref, N⟩ (anj171 N Sj13) 135 (shFj171.args [.int n]) [] c_ = Gj171 N Sj13 n (fun r0 r1 r2 => c_ (.agg [.ptr 0 0, .int .i64 r0]) [⟨105, 1, .cells [.bool r1, .roi .u32 r2]⟩]) := by kernel_rfl
theorem goodj171 (N : Nat) (Sj13 : TSj13) (hj13 : GoodF Pg 137 (Fj13 Sj13)) : GoodF Pg 135 (Fj171 (Gj171 N Sj13)) := by
  refine good_fs (cx := ⟨Pg, ofList [(137, (Fj13 Sj13))], isref, N⟩) (ofList_cons hj13 (ofList_nil _)) shFj171 (spj171 (Gj171 N Sj13)) (anj171 N Sj13) 0 0 (by kernel_rfl) (fun i_ hi_ => by omega) ?_
  intro a k h
  unfold spj171 at h
  split at h
  · exact ⟨[], rfl, rfl, (eqj171 _ _ _ _).trans h⟩
  · cases h

def anj112 (N : Nat) (Sj63 : TSj63) : Nat -> Option Ann := fun b_ => none
theorem eqj112 (N : Nat) (Sj63 : TSj63) (b b_1 : Bool) (b_2 : List Int) (c_ : V -> List Blk -> Bool) : bodyZ ⟨Pg, ofList [(113, (Fj63 Sj63))], isref, N⟩ (anj112 N Sj63) 174 (shFj112.args [.bool b, .bool b_1, .ints b_2]) [⟨105, 1, .cells [.bool b, .nil]⟩, ⟨105, 1, .cells [.bool b_1, .roi .u32 b_2]⟩] c_ = Gj112 N Sj63 b b_1 b_2 (fun r0 r1 => c_ (.ptr 0 0) [⟨105, 1, .cells [.bool r0, .roi .u32 r1]⟩, ⟨105, 1, .cells [.bool b_1, .roi .u32 b_2]⟩]) := by kernel_rfl
theorem goodj112 (N : Nat) (Sj63 : TSj63) (hj63 : GoodF Pg 113 (Fj63 Sj63)) : GoodF Pg 174 (Fj112 (Gj112 N Sj63)) := by
  refine good_fsZ (cx := ⟨Pg, ofList [(113, (Fj63 Sj63))], isref, N⟩) (ofList_cons hj63 (ofList_nil _)) shFj112 (spj112 (Gj112 N Sj63)) (anj112 N Sj63) 0 2 (by kernel_rfl) (fun i_ hi_ => by omega) ?_
  intro a k h
  unfold spj112 at h
  split at h
  · exact ⟨[_, _], rfl, rfl, (eqj112 _ _ _ _ _ _).trans h⟩
  · cases h

def anj61 (N : Nat) (Sj112 : TSj112) : Nat -> Option Ann := fun b_ => none
theorem eqj61 (N : Nat) (Sj112 : TSj112) (x : Int) (b : Bool) (b_1 : List Int) (c_ : V -> List Blk -> Bool) : bodyV ⟨Pg, ofList [(174, (Fj112 Sj112))], isref, N⟩ (anj61 N Sj112) 136 (shFj61.args [.int x, .bool b, .ints b_1]) [⟨105, 1, .cells [.bool b, .roi .u32 b_1]⟩] c_ = Gj61 N Sj112 x b b_1 (fun r3 r4 => c_ (.agg [.ptr 1 0, .int .i64 x]) [⟨105, 1, .cells [.bool b, .roi .u32 b_1]⟩, ⟨105, 1, .cells [.bool r3, .roi .u32 r4]⟩]) := by kernel_rfl
theorem goodj61 (N : Nat) (Sj112 : TSj112) (hj112 : GoodF Pg 174 (Fj112 Sj112)) : GoodF Pg 136 (Fj61 (Gj61 N Sj112)) := by
  refine good_fs (cx := ⟨Pg, ofList [(174, (Fj112 Sj112))], isref, N⟩) (ofList_cons hj112 (ofList_nil _)) shFj61 (spj61 (Gj61 N Sj112)) (anj61 N Sj112) 0 1 (by kernel_rfl) (fun i_ hi_ => by omega) ?_
  intro a k h
  unfold spj61 at h
  split at h
  · exact ⟨[_], rfl, rfl, (eqj61 _ _ _ _ _ _).trans h⟩
  · cases h

def anj133 (N : Nat) (Sj117 : TSj117) (Sj191 : TSj191) (Sj171 : TSj171) (Sj8 : TSj8) (Sj61 : TSj61) : Nat -> Option Ann := fun b_ => none
theorem eqj133 (N : Nat) (Sj117 : TSj117) (Sj191 : TSj191) (Sj171 : TSj171) (Sj8 : TSj8) (Sj61 : TSj61) (q_0 q_1 q_2 q_3 : Fl) (c_ : V -> List Blk -> Bool) : bodyV ⟨Pg, ofList [(60, (Fj117 Sj117)), (59, (Fj191 Sj191)), (135, (Fj171 Sj171)), (61, (Fj8 Sj8)), (136, (Fj61 Sj61))], isref, N⟩ (anj133 N Sj117 Sj191 Sj171 Sj8 Sj61) 82 (shFj133.args [.fl q_0, .fl q_1, .fl q_2, .fl q_3]) [] c_ = Gj133 N Sj117 Sj191 Sj171 Sj8 Sj61 q_0 q_1 q_2 q_3 (fun r0 r1 r2 => c_ (.agg [.ptr 0 0, .int .i64 r0]) [⟨105, 1, .cells [.bool r1, .roi .u32 r2]⟩]) := by kernel_rfl
theorem goodj133 (N : Nat) (Sj117 : TSj117) (Sj191 : TSj191) (Sj171 : TSj171) (Sj8 : TSj8) (Sj61 : TSj61) (hj117 : GoodF Pg 60 (Fj117 Sj117)) (hj191 : GoodF Pg 59 (Fj191 Sj191)) (hj171 : GoodF Pg 135 (Fj171 Sj171)) (hj8 : GoodF Pg 61 (Fj8 Sj8)) (hj61 : GoodF Pg 136 (Fj61 Sj61)) : GoodF Pg 82 (Fj133 (Gj133 N Sj117 Sj191 Sj171 Sj8 Sj61)) := by
  refine good_fs (cx := ⟨Pg, ofList [(60, (Fj117 Sj117)), (59, (Fj191 Sj191)), (135, (Fj171 Sj171)), (61, (Fj8 Sj8)), (136, (Fj61 Sj61))], isref, N⟩) (ofList_cons hj117 (ofList_cons hj191 (ofList_cons hj171 (ofList_cons hj8 (ofList_cons hj61 (ofList_nil _)))))) shFj133 (spj133 (Gj133 N Sj117 Sj191 Sj171 Sj8 Sj61)) (anj133 N Sj117 Sj191 Sj171 Sj8 Sj61) 0 0 (by kernel_rfl) (fun i_ hi_ => by omega) ?_
  intro a k h
  unfold spj133 at h
  split at h
  · exact ⟨[], rfl, rfl, (eqj133 _ _ _ _ _ _ _ _ _ _ _).trans h⟩
  · cases h

def anj170 (N : Nat) (Sj13 : TSj13) : Nat -> Option Ann := fun b_ => none
theorem eqj170 (N : Nat) (Sj13 : TSj13) (e : Int) (c_ : V -> List Blk -> Bool) : bodyV ⟨Pg, ofList [(137, (Fj13 Sj13))], isref, N⟩ (anj170 N Sj13) 83 (shFj170.args [.int e]) [] c_ = Gj170 N Sj13 e (fun r1 r2 => c_ (.agg [.ptr 0 0, .int .i64 e]) [⟨105, 1, .cells [.bool r1, .roi .u32 r2]⟩]) := by kernel_rfl
theorem goodj170 (N : Nat) (Sj13 : TSj13) (hj13 : GoodF Pg 137 (Fj13 Sj13)) : GoodF Pg 83 (Fj170 (Gj170 N Sj13)) := by
  refine good_fs (cx := ⟨Pg, ofList [(137, (Fj13 Sj13))], isref, N⟩) (ofList_cons hj13 (ofList_nil _)) shFj170 (spj170 (Gj170 N Sj13)) (anj170 N Sj13) 0 0 (by kernel_rfl) (fun i_ hi_ => by omega) ?_
  intro a k h
  unfold spj170 at h
  split at h
  · exact ⟨[], rfl, rfl, (eqj170 _ _ _ _).trans h⟩
  · cases h

def anj114 (N : Nat) (Sj63 : TSj63) : Nat -> Option Ann := fun b_ => none
theorem eqj114 (N : Nat) (Sj63 : TSj63) (b b_1 : Bool) (b_2 : List Int) (c_ : V -> List Blk -> Bool) : bodyZ ⟨Pg, ofList [(113, (Fj63 Sj63))], isref, N⟩ (anj114 N Sj63) 67 (shFj114.args [.bool b, .bool b_1, .ints b_2]) [⟨105, 1, .cells [.bool b, .nil]⟩, ⟨105, 1, .cells [.bool b_1, .roi .u32 b_2]⟩] c_ = Gj114 N Sj63 b b_1 b_2 (fun r0 r1 => c_ (.ptr 0 0) [⟨105, 1, .cells [.bool r0, .roi .u32 r1]⟩, ⟨105, 1, .cells [.bool b_1, .roi .u32 b_2]⟩]) := by kernel_rfl
theorem goodj114 (N : Nat) (Sj63 : TSj63) (hj63 : GoodF Pg 113 (Fj63 Sj63)) : GoodF Pg 67 (Fj114 (Gj114 N Sj63)) := by
  refine good_fsZ (cx := ⟨Pg, ofList [(113, (Fj63 Sj63))], isref, N⟩) (ofList_cons hj63 (ofList_nil _)) shFj114 (spj114 (Gj114 N Sj63)) (anj114 N Sj63) 0 2 (by kernel_rfl) (fun i_ hi_ => by omega) ?_
  intro a k h
  unfold spj114 at h
  split at h
  · exact ⟨[_, _], rfl, rfl, (eqj114 _ _ _ _ _ _).trans h⟩
  · cases h

def anj70 (N : Nat) (Sj114 : TSj114) : Nat -> Option Ann := fun b_ => none
theorem eqj70 (N : Nat) (Sj114 : TSj114) (x : Int) (b : Bool) (b_1 : List Int) (c_ : V -> List Blk -> Bool) : bodyV ⟨Pg, ofList [(67, (Fj114 Sj114))], isref, N⟩ (anj70 N Sj114) 62 (shFj70.args [.int x, .bool b, .ints b_1]) [⟨105, 1, .cells [.bool b, .roi .u32 b_1]⟩] c_ = Gj70 N Sj114 x b b_1 (fun r3 r4 => c_ (.agg [.ptr 1 0, .int .i64 x]) [⟨105, 1, .cells [.bool b, .roi .u32 b_1]⟩, ⟨105, 1, .cells [.bool r3, .roi .u32 r4]⟩]) := by kernel_rfl
theorem goodj70 (N : Nat) (Sj114 : TSj114) (hj114 : GoodF Pg 67 (Fj114 Sj114)) : GoodF Pg 62 (Fj70 (Gj70 N Sj114)) := by
  refine good_fs (cx := ⟨Pg, ofList [(67, (Fj114 Sj114))], isref, N⟩) (ofList_cons hj114 (ofList_nil _)) shFj70 (spj70 (Gj70 N Sj114)) (anj70 N Sj114) 0 1 (by kernel_rfl) (fun i_ hi_ => by omega) ?_
  intro a k h
  unfold spj70 at h
  split at h
  · exact ⟨[_], rfl, rfl, (eqj70 _ _ _ _ _ _).trans h⟩
  · cases h

def anj53 (N : Nat) (Sj70 : TSj70) (Sj8 : TSj8) (Sj38 : TSj38) : Nat -> Option Ann := fun b_ => none
theorem eqj53 (N : Nat) (Sj70 : TSj70) (Sj8 : TSj8) (Sj38 : TSj38) (x y : Int) (b : Bool) (b_1 : List Int) (b_2 : Bool) (b_3 : List Int) (c_ : V -> List Blk -> Bool) : bodyV ⟨Pg, ofList [(62, (Fj70 Sj70)), (61, (Fj8 Sj8)), (63, (Fj38 Sj38))], isref, N⟩ (anj53 N Sj70 Sj8 Sj38) 12 (shFj53.args [.int x, .int y, .bool b, .ints b_1, .bool b_2, .ints b_3]) [⟨105, 1, .cells [.bool b, .roi .u32 b_1]⟩, ⟨105, 1, .cells [.bool b_2, .roi .u32 b_3]⟩] c_ = Gj53 N Sj70 Sj8 Sj38 x y b b_1 b_2 b_3 (fun r0 => c_ (.int .i64 r0) [⟨105, 1, .cells [.bool b, .roi .u32 b_1]⟩, ⟨105, 1, .cells [.bool b_2, .roi .u32 b_3]⟩]) := by kernel_rfl
theorem goodj53 (N : Nat) (Sj70 : TSj70) (Sj8 : TSj8) (Sj38 : TSj38) (hj70 : GoodF Pg 62 (Fj70 Sj70)) (hj8 : GoodF Pg 61 (Fj8 Sj8)) (hj38 : GoodF Pg 63 (Fj38 Sj38)) : GoodF Pg 12 (Fj53 (Gj53 N Sj70 Sj8 Sj38)) := by
  refine good_fs (cx := ⟨Pg, ofList [(62, (Fj70 Sj70)), (61, (Fj8 Sj8)), (63, (Fj38 Sj38))], isref, N⟩) (ofList_cons hj70 (ofList_cons hj8 (ofList_cons hj38 (ofList_nil _)))) shFj53 (spj53 (Gj53 N Sj70 Sj8 Sj38)) (anj53 N Sj70 Sj8 Sj38) 0 2 (by kernel_rfl) (fun i_ hi_ => by omega) ?_
  intro a k h
  unfold spj53 at h
  split at h
  · exact ⟨[_, _], rfl, rfl, (eqj53 _ _ _ _ _ _ _ _ _ _ _).trans h⟩
  · cases h

def anj158 (N : Nat) (Sj44 : TSj44) (Sj133 : TSj133) (Sj170 : TSj170) (Sj53 : TSj53) : Nat -> Option Ann := fun b_ => none
theorem eqj158 (N : Nat) (Sj44 : TSj44) (Sj133 : TSj133) (Sj170 : TSj170) (Sj53 : TSj53) (q_0 q_1 q_2 q_3 : Fl) (c_ : V -> List Blk -> Bool) : bodyV ⟨Pg, ofList [(75, (Fj44 Sj44)), (82, (Fj133 Sj133)), (83, (Fj170 Sj170)), (12, (Fj53 Sj53))], isref, N⟩ (anj158 N Sj44 Sj133 Sj170 Sj53) 22 (shFj158.args [.fl q_0, .fl q_1, .fl q_2, .fl q_3]) [] c_ = Gj158 N Sj44 Sj133 Sj170 Sj53 q_0 q_1 q_2 q_3 (fun r0 => c_ (.bool r0) []) := by kernel_rfl
theorem goodj158 (N : Nat) (Sj44 : TSj44) (Sj133 : TSj133) (Sj170 : TSj170) (Sj53 : TSj53) (hj44 : GoodF Pg 75 (Fj44 Sj44)) (hj133 : GoodF Pg 82 (Fj133 Sj133)) (hj170 : GoodF Pg 83 (Fj170 Sj170)) (hj53 : GoodF Pg 12 (Fj53 Sj53)) : GoodF Pg 22 (Fj158 (Gj158 N Sj44 Sj133 Sj170 Sj53)) := by
  refine good_fs (cx := ⟨Pg, ofList [(75, (Fj44 Sj44)), (82, (Fj133 Sj133)), (83, (Fj170 Sj170)), (12, (Fj53 Sj53))], isref, N⟩) (ofList_cons hj44 (ofList_cons hj133 (ofList_cons hj170 (ofList_cons hj53 (ofList_nil _))))) shFj158 (spj158 (Gj158 N Sj44 Sj133 Sj170 Sj53)) (anj158 N Sj44 Sj133 Sj170 Sj53) 0 0 (by kernel_rfl) (fun i_ hi_ => by omega) ?_
  intro a k h
  unfold spj158 at h
  split at h
  · exact ⟨[], rfl, rfl, (eqj158 _ _ _ _ _ _ _ _ _ _).trans h⟩
  · cases h

def anj147 (N : Nat) : Nat -> Option Ann := fun b_ => none
theorem eqj147 (N : Nat) (a_0 a_1 a_2 b_0 b_1 b_2 : Fl) (c_ : V -> List Blk -> Bool) : bodyV ⟨Pg, ofList [], isref, N⟩ (anj147 N) 104 (shFj147.args [.fl a_0, .fl a_1, .fl a_2, .fl b_0, .fl b_1, .fl b_2]) [] c_ = Gj147 N a_0 a_1 a_2 b_0 b_1 b_2 (fun r0 r1 r2 => c_ (.agg [.flt r0, .flt r1, .flt r2]) []) := by kernel_rfl
theorem goodj147 (N : Nat) : GoodF Pg 104 (Fj147 (Gj147 N)) := by
  refine good_fs (cx := ⟨Pg, ofList [], isref, N⟩) (ofList_nil _) shFj147 (spj147 (Gj147 N)) (anj147 N) 0 0 (by kernel_rfl) (fun i_ hi_ => by omega) ?_
  intro a k h
  unfold spj147 at h
  split at h
  · exact ⟨[], rfl, rfl, (eqj147 _ _ _ _ _ _ _ _).trans h⟩
  · cases h

def anj184 (N : Nat) (Sj35 : TSj35) : Nat -> Option Ann := fun b_ => none
theorem eqj184 (N : Nat) (Sj35 : TSj35) (v_0 v_1 v_2 : Fl) (c_ : V -> List Blk -> Bool) : bodyV ⟨Pg, ofList [(86, (Fj35 Sj35))], isref, N⟩ (anj184 N Sj35) 105 (shFj184.args [.fl v_0, .fl v_1, .fl v_2]) [] c_ = Gj184 N Sj35 v_0 v_1 v_2 (fun r0 r1 r2 r3 => c_ (.tup [.agg [.flt r0, .flt r1, .flt r2], .int .i64 r3]) []) := by kernel_rfl
theorem goodj184 (N : Nat) (Sj35 : TSj35) (hj35 : GoodF Pg 86 (Fj35 Sj35)) : GoodF Pg 105 (Fj184 (Gj184 N Sj35)) := by
  refine good_fs (cx := ⟨Pg, ofList [(86, (Fj35 Sj35))], isref, N⟩) (ofList_cons hj35 (ofList_nil _)) shFj184 (spj184 (Gj184 N Sj35)) (anj184 N Sj35) 0 0 (by kernel_rfl) (fun i_ hi_ => by omega) ?_
  intro a k h
  unfold spj184 at h
  split at h
  · exact ⟨[], rfl, rfl, (eqj184 _ _ _ _ _ _).trans h⟩
  · cases h

def anj168 (N : Nat) (Sj15 : TSj15) (Sj35 : TSj35) (Sj147 : TSj147) (Sj184 : TSj184) : Nat -> Option Ann := fun b_ => none
theorem eqj168 (N : Nat) (Sj15 : TSj15) (Sj35 : TSj35) (Sj147 : TSj147) (Sj184 : TSj184) (q_0 q_1 q_2 q_3 v_0 v_1 v_2 : Fl) (c_ : V -> List Blk -> Bool) : bodyV ⟨Pg, ofList [(56, (Fj15 Sj15)), (86, (Fj35 Sj35)), (104, (Fj147 Sj147)), (105, (Fj184 Sj184))], isref, (N + 24)⟩ (anj168 (N + 24) Sj15 Sj35 Sj147 Sj184) 44 (shFj168.args [.fl q_0, .fl q_1, .fl q_2, .fl q_3, .fl v_0, .fl v_1, .fl v_2]) [] c_ = Gj168 (N + 24) Sj15 Sj35 Sj147 Sj184 q_0 q_1 q_2 q_3 v_0 v_1 v_2 (fun r0 r1 r2 r3 => c_ (.tup [.agg [.flt r0, .flt r1, .flt r2], .int .i64 r3]) []) := by kernel_rfl
theorem goodj168 (N : Nat) (Sj15 : TSj15) (Sj35 : TSj35) (Sj147 : TSj147) (Sj184 : TSj184) (hj15 : GoodF Pg 56 (Fj15 Sj15)) (hj35 : GoodF Pg 86 (Fj35 Sj35)) (hj147 : GoodF Pg 104 (Fj147 Sj147)) (hj184 : GoodF Pg 105 (Fj184 Sj184)) : GoodF Pg 44 (Fj168 (Gj168 (N + 24) Sj15 Sj35 Sj147 Sj184)) := by
  refine good_fs (cx := ⟨Pg, ofList [(56, (Fj15 Sj15)), (86, (Fj35 Sj35)), (104, (Fj147 Sj147)), (105, (Fj184 Sj184))], isref, (N + 24)⟩) (ofList_cons hj15 (ofList_cons hj35 (ofList_cons hj147 (ofList_cons hj184 (ofList_nil _))))) shFj168 (spj168 (Gj168 (N + 24) Sj15 Sj35 Sj147 Sj184)) (anj168 (N + 24) Sj15 Sj35 Sj147 Sj184) 2 0 (by kernel_rfl) (fun i_ hi_ => by
    match i_, hi_ with
    | 0, _ => exact (fun hk e => by rw [show hookOf ((anj168 (N + 24) Sj15 Sj35 Sj147 Sj184) (lp Pg 44 0).1) = none from by kernel_rfl] at e; cases e)
    | 1, _ => exact (fun hk e => by rw [show hookOf ((anj168 (N + 24) Sj15 Sj35 Sj147 Sj184) (lp Pg 44 1).1) = none from by kernel_rfl] at e; cases e)
    | (q + 2), h => omega) ?_
  intro a k h
  unfold spj168 at h
  split at h
  · exact ⟨[], rfl, rfl, (eqj168 _ _ _ _ _ _ _ _ _ _ _ _ _).trans h⟩
  · cases h

def anj90 (N : Nat) (Sj35 : TSj35) : Nat -> Option Ann := fun b_ => none
theorem eqj90 (N : Nat) (Sj35 : TSj35) (qs_0 qs_1 qs_2 qs_3 qs_4 qs_5 qs_6 qs_7 : Fl) (c_ : V -> List Blk -> Bool) : bodyV ⟨Pg, ofList [(86, (Fj35 Sj35))], isref, (N + 24)⟩ (anj90 (N + 24) Sj35) 56 (shFj90.args [.fl qs_0, .fl qs_1, .fl qs_2, .fl qs_3, .fl qs_4, .fl qs_5, .fl qs_6, .fl qs_7]) [] c_ = Gj90 (N + 24) Sj35 qs_0 qs_1 qs_2 qs_3 qs_4 qs_5 qs_6 qs_7 (fun r0 => c_ (.bool r0) []) := by kernel_rfl
theorem goodj90 (N : Nat) (Sj35 : TSj35) (hj35 : GoodF Pg 86 (Fj35 Sj35)) : GoodF Pg 56 (Fj90 (Gj90 (N + 24) Sj35)) := by
  refine good_fs (cx := ⟨Pg, ofList [(86, (Fj35 Sj35))], isref, (N + 24)⟩) (ofList_cons hj35 (ofList_nil _)) shFj90 (spj90 (Gj90 (N + 24) Sj35)) (anj90 (N + 24) Sj35) 1 0 (by kernel_rfl) (fun i_ hi_ => by
    match i_, hi_ with
    | 0, _ => exact (fun hk e => by rw [show hookOf ((anj90 (N + 24) Sj35) (lp Pg 56 0).1) = none from by kernel_rfl] at e; cases e)
    | (q + 1), h => omega) ?_
  intro a k h
  unfold spj90 at h
  split at h
  · exact ⟨[], rfl, rfl, (eqj90 _ _ _ _ _ _ _ _ _ _ _).trans h⟩
  · cases h

def anj183 (N : Nat) : Nat -> Option Ann := fun b_ => none
theorem eqj183 (N : Nat) (a_0 a_1 a_2 a_3 b_0 b_1 b_2 b_3 : Fl) (c_ : V -> List Blk -> Bool) : bodyV ⟨Pg, ofList [], isref, N⟩ (anj183 N) 58 (shFj183.args [.fl a_0, .fl a_1, .fl a_2, .fl a_3, .fl b_0, .fl b_1, .fl b_2, .fl b_3]) [] c_ = Gj183 N a_0 a_1 a_2 a_3 b_0 b_1 b_2 b_3 (fun r0 r1 r2 r3 => c_ (.agg [.flt r0, .flt r1, .flt r2, .flt r3]) []) := by kernel_rfl
theorem goodj183 (N : Nat) : GoodF Pg 58 (Fj183 (Gj183 N)) := by
  refine good_fs (cx := ⟨Pg, ofList [], isref, N⟩) (ofList_nil _) shFj183 (spj183 (Gj183 N)) (anj183 N) 0 0 (by kernel_rfl) (fun i_ hi_ => by omega) ?_
  intro a k h
  unfold spj183 at h
  split at h
  · exact ⟨[], rfl, rfl, (eqj183 _ _ _ _ _ _ _ _ _ _).trans h⟩
  · cases h

def anj165 (N : Nat) (Sj15 : TSj15) : Nat -> Option Ann := fun b_ => none
theorem eqj165 (N : Nat) (Sj15 : TSj15) (q_0 q_1 q_2 q_3 : Fl) (c_ : V -> List Blk -> Bool) : bodyV ⟨Pg, ofList [(56, (Fj15 Sj15))], isref, N⟩ (anj165 N Sj15) 57 (shFj165.args [.fl q_0, .fl q_1, .fl q_2, .fl q_3]) [] c_ = Gj165 N Sj15 q_0 q_1 q_2 q_3 (fun r0 r1 r2 r3 r4 => c_ (.tup [.agg [.flt r0, .flt r1, .flt r2, .flt r3], .int .i64 r4]) []) := by kernel_rfl
theorem goodj165 (N : Nat) (Sj15 : TSj15) (hj15 : GoodF Pg 56 (Fj15 Sj15)) : GoodF Pg 57 (Fj165 (Gj165 N Sj15)) := by
  refine good_fs (cx := ⟨Pg, ofList [(56, (Fj15 Sj15))], isref, N⟩) (ofList_cons hj15 (ofList_nil _)) shFj165 (spj165 (Gj165 N Sj15)) (anj165 N Sj15) 0 0 (by kernel_rfl) (fun i_ hi_ => by omega) ?_
  intro a k h
  unfold spj165 at h
  split at h
  · exact ⟨[], rfl, rfl, (eqj165 _ _ _ _ _ _ _).trans h⟩
  · cases h

def anj111 (N : Nat) (Sj90 : TSj90) (Sj183 : TSj183) (Sj165 : TSj165) : Nat -> Option Ann := fun b_ => none
theorem eqj111 (N : Nat) (Sj90 : TSj90) (Sj183 : TSj183) (Sj165 : TSj165) (a_0 a_1 a_2 a_3 b_0 b_1 b_2 b_3 : Fl) (c_ : V -> List Blk -> Bool) : bodyV ⟨Pg, ofList [(56, (Fj90 Sj90)), (58, (Fj183 Sj183)), (57, (Fj165 Sj165))], isref, N⟩ (anj111 N Sj90 Sj183 Sj165) 10 (shFj111.args [.fl a_0, .fl a_1, .fl a_2, .fl a_3, .fl b_0, .fl b_1, .fl b_2, .fl b_3]) [] c_ = Gj111 N Sj90 Sj183 Sj165 a_0 a_1 a_2 a_3 b_0 b_1 b_2 b_3 (fun r0 r1 r2 r3 r4 => c_ (.tup [.agg [.flt r0, .flt r1, .flt r2, .flt r3], .int .i64 r4]) []) := by kernel_rfl
theorem goodj111 (N : Nat) (Sj90 : TSj90) (Sj183 : TSj183) (Sj165 : TSj165) (hj90 : GoodF Pg 56 (Fj90 Sj90)) (hj183 : GoodF Pg 58 (Fj183 Sj183)) (hj165 : GoodF Pg 57 (Fj165 Sj165)) : GoodF Pg 10 (Fj111 (Gj111 N Sj90 Sj183 Sj165)) := by
  refine good_fs (cx := ⟨Pg, ofList [(56, (Fj90 Sj90)), (58, (Fj183 Sj183)), (57, (Fj165 Sj165))], isref, N⟩) (ofList_cons hj90 (ofList_cons hj183 (ofList_cons hj165 (ofList_nil _)))) shFj111 (spj111 (Gj111 N Sj90 Sj183 Sj165)) (anj111 N Sj90 Sj183 Sj165) 0 0 (by kernel_rfl) (fun i_ hi_ => by omega) ?_
  intro a k h
  unfold spj111 at h
  split at h
  · exact ⟨[], rfl, rfl, (eqj111 _ _ _ _ _ _ _ _ _ _ _ _ _).trans h⟩
  · cases h

def anj91 (N : Nat) : Nat -> Option Ann := fun b_ => none
theorem eqj91 (N : Nat) (c_ : V -> List Blk -> Bool) : bodyV ⟨Pg, ofList [], isref, N⟩ (anj91 N) 55 (shFj91.args []) [] c_ = Gj91 N (fun r0 r1 r2 r3 => c_ (.agg [.flt r0, .flt r1, .flt r2, .flt r3]) []) := by kernel_rfl
theorem goodj91 (N : Nat) : GoodF Pg 55 (Fj91 (Gj91 N)) := by
  refine good_fs (cx := ⟨Pg, ofList [], isref, N⟩) (ofList_nil _) shFj91 (spj91 (Gj91 N)) (anj91 N) 0 0 (by kernel_rfl) (fun i_ hi_ => by omega) ?_
  intro a k h
  unfold spj91 at h
  split at h
  · exact ⟨[], rfl, rfl, (eqj91 _ _).trans h⟩
  · cases h

def anj55 (N : Nat) (Sj89 : TSj89) (Sj168 : TSj168) (Sj111 : TSj111) (Sj98 : TSj98) (Sj91 : TSj91) : Nat -> Option Ann := fun b_ => none
theorem eqj55 (N : Nat) (Sj89 : TSj89) (Sj168 : TSj168) (Sj111 : TSj111) (Sj98 : TSj98) (Sj91 : TSj91) (c_ : V -> List Blk -> Bool) : bodyV ⟨Pg, ofList [(18, (Fj89 Sj89)), (44, (Fj168 Sj168)), (10, (Fj111 Sj111)), (21, (Fj98 Sj98)), (55, (Fj91 Sj91))], isref, N⟩ (anj55 N Sj89 Sj168 Sj111 Sj98 Sj91) 8 (shFj55.args []) [] c_ = Gj55 N Sj89 Sj168 Sj111 Sj98 Sj91 (fun r0 => c_ (.bool r0) []) := by kernel_rfl
theorem goodj55 (N : Nat) (Sj89 : TSj89) (Sj168 : TSj168) (Sj111 : TSj111) (Sj98 : TSj98) (Sj91 : TSj91) (hj89 : GoodF Pg 18 (Fj89 Sj89)) (hj168 : GoodF Pg 44 (Fj168 Sj168)) (hj111 : GoodF Pg 10 (Fj111 Sj111)) (hj98 : GoodF Pg 21 (Fj98 Sj98)) (hj91 : GoodF Pg 55 (Fj91 Sj91)) : GoodF Pg 8 (Fj55 (Gj55 N Sj89 Sj168 Sj111 Sj98 Sj91)) := by
  refine good_fs (cx := ⟨Pg, ofList [(18, (Fj89 Sj89)), (44, (Fj168 Sj168)), (10, (Fj111 Sj111)), (21, (Fj98 Sj98)), (55, (Fj91 Sj91))], isref, N⟩) (ofList_cons hj89 (ofList_cons hj168 (ofList_cons hj111 (ofList_cons hj98 (ofList_cons hj91 (ofList_nil _)))))) shFj55 (spj55 (Gj55 N Sj89 Sj168 Sj111 Sj98 Sj91)) (anj55 N Sj89 Sj168 Sj111 Sj98 Sj91) 0 0 (by kernel_rfl) (fun i_ hi_ => by omega) ?_
  intro a k h
  unfold spj55 at h
  split at h
  · exact ⟨[], rfl, rfl, (eqj55 _ _ _ _ _ _ _).trans h⟩
  · cases h

def anj139 (N : Nat) (Sj15 : TSj15) : Nat -> Option Ann := fun b_ => none
theorem eqj139 (N : Nat) (Sj15 : TSj15) (q_0 q_1 q_2 q_3 : Fl) (c_ : V -> List Blk -> Bool) : bodyV ⟨Pg, ofList [(56, (Fj15 Sj15))], isref, N⟩ (anj139 N Sj15) 14 (shFj139.args [.fl q_0, .fl q_1, .fl q_2, .fl q_3]) [] c_ = Gj139 N Sj15 q_0 q_1 q_2 q_3 (fun r0 r1 r2 r3 r4 => c_ (.tup [.agg [.flt r0, .flt r1, .flt r2, .flt r3], .int .i64 r4]) []) := by kernel_rfl
theorem goodj139 (N : Nat) (Sj15 : TSj15) (hj15 : GoodF Pg 56 (Fj15 Sj15)) : GoodF Pg 14 (Fj139 (Gj139 N Sj15)) := by
  refine good_fs (cx := ⟨Pg, ofList [(56, (Fj15 Sj15))], isref, N⟩) (ofList_cons hj15 (ofList_nil _)) shFj139 (spj139 (Gj139 N Sj15)) (anj139 N Sj15) 0 0 (by kernel_rfl) (fun i_ hi_ => by omega) ?_
  intro a k h
  unfold spj139 at h
  split at h
  · exact ⟨[], rfl, rfl, (eqj139 _ _ _ _ _ _ _).trans h⟩
  · cases h

def anj161 (N : Nat) (Sj44 : TSj44) (Sj64 : TSj64) : Nat -> Option Ann := fun b_ => none
theorem eqj161 (N : Nat) (Sj44 : TSj44) (Sj64 : TSj64) (q_0 q_1 q_2 q_3 : Fl) (c_ : V -> List Blk -> Bool) : bodyV ⟨Pg, ofList [(75, (Fj44 Sj44)), (74, (Fj64 Sj64))], isref, N⟩ (anj161 N Sj44 Sj64) 23 (shFj161.args [.fl q_0, .fl q_1, .fl q_2, .fl q_3]) [] c_ = Gj161 N Sj44 Sj64 q_0 q_1 q_2 q_3 (fun r0 r1 r2 r3 r4 => c_ (.tup [.agg [.flt r0, .flt r1, .flt r2, .flt r3], .int .i64 r4]) []) := by kernel_rfl
theorem goodj161 (N : Nat) (Sj44 : TSj44) (Sj64 : TSj64) (hj44 : GoodF Pg 75 (Fj44 Sj44)) (hj64 : GoodF Pg 74 (Fj64 Sj64)) : GoodF Pg 23 (Fj161 (Gj161 N Sj44 Sj64)) := by
  refine good_fs (cx := ⟨Pg, ofList [(75, (Fj44 Sj44)), (74, (Fj64 Sj64))], isref, N⟩) (ofList_cons hj44 (ofList_cons hj64 (ofList_nil _))) shFj161 (spj161 (Gj161 N Sj44 Sj64)) (anj161 N Sj44 Sj64) 0 0 (by kernel_rfl) (fun i_ hi_ => by omega) ?_
  intro a k h
  unfold spj161 at h
  split at h
  · exact ⟨[], rfl, rfl, (eqj161 _ _ _ _ _ _ _ _).trans h⟩
  · cases h

def anj71 (N : Nat) : Nat -> Option Ann := fun b_ => none
theorem eqj71 (N : Nat) (ok_0 ok_1 : Bool) (c_ : V -> List Blk -> Bool) : bodyV ⟨Pg, ofList [], isref, (N + 24)⟩ (anj71 (N + 24)) 74 (shFj71.args [.bool ok_0, .bool ok_1]) [] c_ = Gj71 (N + 24) ok_0 ok_1 (fun r0 => c_ (.int .i64 r0) []) := by kernel_rfl
theorem goodj71 (N : Nat) : GoodF Pg 74 (Fj71 (Gj71 (N + 24))) := by
  refine good_fs (cx := ⟨Pg, ofList [], isref, (N + 24)⟩) (ofList_nil _) shFj71 (spj71 (Gj71 (N + 24))) (anj71 (N + 24)) 1 0 (by kernel_rfl) (fun i_ hi_ => by
    match i_, hi_ with
    | 0, _ => exact (fun hk e => by rw [show hookOf ((anj71 (N + 24)) (lp Pg 74 0).1) = none from by kernel_rfl] at e; cases e)
    | (q + 1), h => omega) ?_
  intro a k h
  unfold spj71 at h
  split at h
  · exact ⟨[], rfl, rfl, (eqj71 _ _ _ _).trans h⟩
  · cases h

def anj134 (N : Nat) : Nat -> Option Ann := fun b_ => none
theorem eqj134 (N : Nat) (a_0 a_1 a_2 a_3 b_0 b_1 b_2 b_3 : Fl) (c_ : V -> List Blk -> Bool) : bodyV ⟨Pg, ofList [], isref, N⟩ (anj134 N) 85 (shFj134.args [.fl a_0, .fl a_1, .fl a_2, .fl a_3, .fl b_0, .fl b_1, .fl b_2, .fl b_3]) [] c_ = Gj134 N a_0 a_1 a_2 a_3 b_0 b_1 b_2 b_3 (fun r0 r1 r2 r3 => c_ (.agg [.flt r0, .flt r1, .flt r2, .flt r3]) []) := by kernel_rfl
theorem goodj134 (N : Nat) : GoodF Pg 85 (Fj134 (Gj134 N)) := by
  refine good_fs (cx := ⟨Pg, ofList [], isref, N⟩) (ofList_nil _) shFj134 (spj134 (Gj134 N)) (anj134 N) 0 0 (by kernel_rfl) (fun i_ hi_ => by omega) ?_
  intro a k h
  unfold spj134 at h
  split at h
  · exact ⟨[], rfl, rfl, (eqj134 _ _ _ _ _ _ _ _ _ _).trans h⟩
  · cases h

def anj185 (N : Nat) (Sj44 : TSj44) : Nat -> Option Ann := fun b_ => none
theorem eqj185 (N : Nat) (Sj44 : TSj44) (q_0 q_1 q_2 q_3 : Fl) (c_ : V -> List Blk -> Bool) : bodyV ⟨Pg, ofList [(75, (Fj44 Sj44))], isref, N⟩ (anj185 N Sj44) 84 (shFj185.args [.fl q_0, .fl q_1, .fl q_2, .fl q_3]) [] c_ = Gj185 N Sj44 q_0 q_1 q_2 q_3 (fun r0 r1 r2 r3 r4 => c_ (.tup [.agg [.flt r0, .flt r1, .flt r2, .flt r3], .int .i64 r4]) []) := by kernel_rfl
theorem goodj185 (N : Nat) (Sj44 : TSj44) (hj44 : GoodF Pg 75 (Fj44 Sj44)) : GoodF Pg 84 (Fj185 (Gj185 N Sj44)) := by
  refine good_fs (cx := ⟨Pg, ofList [(75, (Fj44 Sj44))], isref, N⟩) (ofList_cons hj44 (ofList_nil _)) shFj185 (spj185 (Gj185 N Sj44)) (anj185 N Sj44) 0 0 (by kernel_rfl) (fun i_ hi_ => by omega) ?_
  intro a k h
  unfold spj185 at h
  split at h
  · exact ⟨[], rfl, rfl, (eqj185 _ _ _ _ _ _ _).trans h⟩
  · cases h

def anj157 (N : Nat) (Sj44 : TSj44) (Sj71 : TSj71) (Sj134 : TSj134) (Sj185 : TSj185) : Nat -> Option Ann := fun b_ => none
theorem eqj157 (N : Nat) (Sj44 : TSj44) (Sj71 : TSj71) (Sj134 : TSj134) (Sj185 : TSj185) (a_0 a_1 a_2 a_3 b_0 b_1 b_2 b_3 : Fl) (c_ : V -> List Blk -> Bool) : bodyV ⟨Pg, ofList [(75, (Fj44 Sj44)), (74, (Fj71 Sj71)), (85, (Fj134 Sj134)), (84, (Fj185 Sj185))], isref, N⟩ (anj157 N Sj44 Sj71 Sj134 Sj185) 24 (shFj157.args [.fl a_0, .fl a_1, .fl a_2, .fl a_3, .fl b_0, .fl b_1, .fl b_2, .fl b_3]) [] c_ = Gj157 N Sj44 Sj71 Sj134 Sj185 a_0 a_1 a_2 a_3 b_0 b_1 b_2 b_3 (fun r0 r1 r2 r3 r4 => c_ (.tup [.agg [.flt r0, .flt r1, .flt r2, .flt r3], .int .i64 r4]) []) := by kernel_rfl
theorem goodj157 (N : Nat) (Sj44 : TSj44) (Sj71 : TSj71) (Sj134 : TSj134) (Sj185 : TSj185) (hj44 : GoodF Pg 75 (Fj44 Sj44)) (hj71 : GoodF Pg 74 (Fj71 Sj71)) (hj134 : GoodF Pg 85 (Fj134 Sj134)) (hj185 : GoodF Pg 84 (Fj185 Sj185)) : GoodF Pg 24 (Fj157 (Gj157 N Sj44 Sj71 Sj134 Sj185)) := by
  refine good_fs (cx := ⟨Pg, ofList [(75, (Fj44 Sj44)), (74, (Fj71 Sj71)), (85, (Fj134 Sj134)), (84, (Fj185 Sj185))], isref, N⟩) (ofList_cons hj44 (ofList_cons hj71 (ofList_cons hj134 (ofList_cons hj185 (ofList_nil _))))) shFj157 (spj157 (Gj157 N Sj44 Sj71 Sj134 Sj185)) (anj157 N Sj44 Sj71 Sj134 Sj185) 0 0 (by kernel_rfl) (fun i_ hi_ => by omega) ?_
  intro a k h
  unfold spj157 at h
  split at h
  · exact ⟨[], rfl, rfl, (eqj157 _ _ _ _ _ _ _ _ _ _ _ _ _ _).trans h⟩
  · cases h

def anj140 (N : Nat) (Sj111 : TSj111) (Sj89 : TSj89) : Nat -> Option Ann := fun b_ => none
theorem eqj140 (N : Nat) (Sj111 : TSj111) (Sj89 : TSj89) (a_0 a_1 a_2 a_3 b_0 b_1 b_2 b_3 : Fl) (c_ : V -> List Blk -> Bool) : bodyV ⟨Pg, ofList [(10, (Fj111 Sj111)), (18, (Fj89 Sj89))], isref, N⟩ (anj140 N Sj111 Sj89) 25 (shFj140.args [.fl a_0, .fl a_1, .fl a_2, .fl a_3, .fl b_0, .fl b_1, .fl b_2, .fl b_3]) [] c_ = Gj140 N Sj111 Sj89 a_0 a_1 a_2 a_3 b_0 b_1 b_2 b_3 (fun r0 r1 r2 r3 r4 => c_ (.tup [.agg [.flt r0, .flt r1, .flt r2, .flt r3], .int .i64 r4]) []) := by kernel_rfl
theorem goodj140 (N : Nat) (Sj111 : TSj111) (Sj89 : TSj89) (hj111 : GoodF Pg 10 (Fj111 Sj111)) (hj89 : GoodF Pg 18 (Fj89 Sj89)) : GoodF Pg 25 (Fj140 (Gj140 N Sj111 Sj89)) := by
  refine good_fs (cx := ⟨Pg, ofList [(10, (Fj111 Sj111)), (18, (Fj89 Sj89))], isref, N⟩) (ofList_cons hj111 (ofList_cons hj89 (ofList_nil _))) shFj140 (spj140 (Gj140 N Sj111 Sj89)) (anj140 N Sj111 Sj89) 0 0 (by kernel_rfl) (fun i_ hi_ => by omega) ?_
  intro a k h
  unfold spj140 at h
  split at h
  · exact ⟨[], rfl, rfl, (eqj140 _ _ _ _ _ _ _ _ _ _ _ _).trans h⟩
  · cases h

def anj162 (N : Nat) (Sj157 : TSj157) (Sj129 : TSj129) : Nat -> Option Ann := fun b_ => none
theorem eqj162 (N : Nat) (Sj157 : TSj157) (Sj129 : TSj129) (a_0 a_1 a_2 a_3 b_0 b_1 b_2 b_3 : Fl) (c_ : V -> List Blk -> Bool) : bodyV ⟨Pg, ofList [(24, (Fj157 Sj157)), (19, (Fj129 Sj129))], isref, N⟩ (anj162 N Sj157 Sj129) 26 (shFj162.args [.fl a_0, .fl a_1, .fl a_2, .fl a_3, .fl b_0, .fl b_1, .fl b_2, .fl b_3]) [] c_ = Gj162 N Sj157 Sj129 a_0 a_1 a_2 a_3 b_0 b_1 b_2 b_3 (fun r0 r1 r2 r3 r4 => c_ (.tup [.agg [.flt r0, .flt r1, .flt r2, .flt r3], .int .i64 r4]) []) := by kernel_rfl
theorem goodj162 (N : Nat) (Sj157 : TSj157) (Sj129 : TSj129) (hj157 : GoodF Pg 24 (Fj157 Sj157)) (hj129 : GoodF Pg 19 (Fj129 Sj129)) : GoodF Pg 26 (Fj162 (Gj162 N Sj157 Sj129)) := by
  refine good_fs (cx := ⟨Pg, ofList [(24, (Fj157 Sj157)), (19, (Fj129 Sj129))], isref, N⟩) (ofList_cons hj157 (ofList_cons hj129 (ofList_nil _))) shFj162 (spj162 (Gj162 N Sj157 Sj129)) (anj162 N Sj157 Sj129) 0 0 (by kernel_rfl) (fun i_ hi_ => by omega) ?_
  intro a k h
  unfold spj162 at h
  split at h
  · exact ⟨[], rfl, rfl, (eqj162 _ _ _ _ _ _ _ _ _ _ _ _).trans h⟩
  · cases h

def anj160 (N : Nat) (Sj90 : TSj90) (Sj35 : TSj35) : Nat -> Option Ann := fun b_ => none
theorem eqj160 (N : Nat) (Sj90 : TSj90) (Sj35 : TSj35) (a_0 a_1 a_2 a_3 b_0 b_1 b_2 b_3 : Fl) (c_ : V -> List Blk -> Bool) : bodyV ⟨Pg, ofList [(56, (Fj90 Sj90)), (86, (Fj35 Sj35))], isref, N⟩ (anj160 N Sj90 Sj35) 27 (shFj160.args [.fl a_0, .fl a_1, .fl a_2, .fl a_3, .fl b_0, .fl b_1, .fl b_2, .fl b_3]) [] c_ = Gj160 N Sj90 Sj35 a_0 a_1 a_2 a_3 b_0 b_1 b_2 b_3 (fun r0 r1 => c_ (.tup [.flt r0, .int .i64 r1]) []) := by kernel_rfl
theorem goodj160 (N : Nat) (Sj90 : TSj90) (Sj35 : TSj35) (hj90 : GoodF Pg 56 (Fj90 Sj90)) (hj35 : GoodF Pg 86 (Fj35 Sj35)) : GoodF Pg 27 (Fj160 (Gj160 N Sj90 Sj35)) := by
  refine good_fs (cx := ⟨Pg, ofList [(56, (Fj90 Sj90)), (86, (Fj35 Sj35))], isref, N⟩) (ofList_cons hj90 (ofList_cons hj35 (ofList_nil _))) shFj160 (spj160 (Gj160 N Sj90 Sj35)) (anj160 N Sj90 Sj35) 0 0 (by kernel_rfl) (fun i_ hi_ => by omega) ?_
  intro a k h
  unfold spj160 at h
  split at h
  · exact ⟨[], rfl, rfl, (eqj160 _ _ _ _ _ _ _ _ _ _ _ _).trans h⟩
  · cases h

def anj186 (N : Nat) (Sj44 : TSj44) (Sj71 : TSj71) (Sj87 : TSj87) : Nat -> Option Ann := fun b_ => none
theorem eqj186 (N : Nat) (Sj44 : TSj44) (Sj71 : TSj71) (Sj87 : TSj87) (a_0 a_1 a_2 a_3 b_0 b_1 b_2 b_3 : Fl) (c_ : V -> List Blk -> Bool) : bodyV ⟨Pg, ofList [(75, (Fj44 Sj44)), (74, (Fj71 Sj71)), (87, (Fj87 Sj87))], isref, N⟩ (anj186 N Sj44 Sj71 Sj87) 28 (shFj186.args [.fl a_0, .fl a_1, .fl a_2, .fl a_3, .fl b_0, .fl b_1, .fl b_2, .fl b_3]) [] c_ = Gj186 N Sj44 Sj71 Sj87 a_0 a_1 a_2 a_3 b_0 b_1 b_2 b_3 (fun r0 r1 => c_ (.tup [.flt r0, .int .i64 r1]) []) := by kernel_rfl
theorem goodj186 (N : Nat) (Sj44 : TSj44) (Sj71 : TSj71) (Sj87 : TSj87) (hj44 : GoodF Pg 75 (Fj44 Sj44)) (hj71 : GoodF Pg 74 (Fj71 Sj71)) (hj87 : GoodF Pg 87 (Fj87 Sj87)) : GoodF Pg 28 (Fj186 (Gj186 N Sj44 Sj71 Sj87)) := by
  refine good_fs (cx := ⟨Pg, ofList [(75, (Fj44 Sj44)), (74, (Fj71 Sj71)), (87, (Fj87 Sj87))], isref, N⟩) (ofList_cons hj44 (ofList_cons hj71 (ofList_cons hj87 (ofList_nil _)))) shFj186 (spj186 (Gj186 N Sj44 Sj71 Sj87)) (anj186 N Sj44 Sj71 Sj87) 0 0 (by kernel_rfl) (fun i_ hi_ => by omega) ?_
  intro a k h
  unfold spj186 at h
  split at h
  · exact ⟨[], rfl, rfl, (eqj186 _ _ _ _ _ _ _ _ _ _ _ _ _).trans h⟩
  · cases h

def anj69 (N : Nat) (Sj50 : TSj50) (Sj89 : TSj89) (Sj129 : TSj129) (Sj52 : TSj52) (Sj98 : TSj98) (Sj158 : TSj158) (Sj55 : TSj55) (Sj139 : TSj139) (Sj161 : TSj161) (Sj111 : TSj111) (Sj157 : TSj157) (Sj140 : TSj140) (Sj162 : TSj162) (Sj160 : TSj160) (Sj186 : TSj186) (Sj28 : TSj28) : Nat -> Option Ann := fun b_ => none
theorem eqj69 (N : Nat) (Sj50 : TSj50) (Sj89 : TSj89) (Sj129 : TSj129) (Sj52 : TSj52) (Sj98 : TSj98) (Sj158 : TSj158) (Sj55 : TSj55) (Sj139 : TSj139) (Sj161 : TSj161) (Sj111 : TSj111) (Sj157 : TSj157) (Sj140 : TSj140) (Sj162 : TSj162) (Sj160 : TSj160) (Sj186 : TSj186) (Sj28 : TSj28) (x_0 x_1 x_2 x_3 y_0 y_1 y_2 y_3 : Int) (c_ : V -> List Blk -> Bool) : bodyV ⟨Pg, ofList [(17, (Fj50 Sj50)), (18, (Fj89 Sj89)), (19, (Fj129 Sj129)), (20, (Fj52 Sj52)), (21, (Fj98 Sj98)), (22, (Fj158 Sj158)), (8, (Fj55 Sj55)), (14, (Fj139 Sj139)), (23, (Fj161 Sj161)), (10, (Fj111 Sj111)), (24, (Fj157 Sj157)), (25, (Fj140 Sj140)), (26, (Fj162 Sj162)), (27, (Fj160 Sj160)), (28, (Fj186 Sj186)), (29, (Fj28 Sj28))], isref, N⟩ (anj69 N Sj50 Sj89 Sj129 Sj52 Sj98 Sj158 Sj55 Sj139 Sj161 Sj111 Sj157 Sj140 Sj162 Sj160 Sj186 Sj28) 4 (shFj69.args [.int x_0, .int x_1, .int x_2, .int x_3, .int y_0, .int y_1, .int y_2, .int y_3]) [] c_ = Gj69 N Sj50 Sj89 Sj129 Sj52 Sj98 Sj158 Sj55 Sj139 Sj161 Sj111 Sj157 Sj140 Sj162 Sj160 Sj186 Sj28 x_0 x_1 x_2 x_3 y_0 y_1 y_2 y_3 (fun r0 => c_ (.bool r0) []) := by kernel_rfl
theorem topj69 (N : Nat) (Sj50 : TSj50) (Sj89 : TSj89) (Sj129 : TSj129) (Sj52 : TSj52) (Sj98 : TSj98) (Sj158 : TSj158) (Sj55 : TSj55) (Sj139 : TSj139) (Sj161 : TSj161) (Sj111 : TSj111) (Sj157 : TSj157) (Sj140 : TSj140) (Sj162 : TSj162) (Sj160 : TSj160) (Sj186 : TSj186) (Sj28 : TSj28) (hj50 : GoodF Pg 17 (Fj50 Sj50)) (hj89 : GoodF Pg 18 (Fj89 Sj89)) (hj129 : GoodF Pg 19 (Fj129 Sj129)) (hj52 : GoodF Pg 20 (Fj52 Sj52)) (hj98 : GoodF Pg 21 (Fj98 Sj98)) (hj158 : GoodF Pg 22 (Fj158 Sj158)) (hj55 : GoodF Pg 8 (Fj55 Sj55)) (hj139 : GoodF Pg 14 (Fj139 Sj139)) (hj161 : GoodF Pg 23 (Fj161 Sj161)) (hj111 : GoodF Pg 10 (Fj111 Sj111)) (hj157 : GoodF Pg 24 (Fj157 Sj157)) (hj140 : GoodF Pg 25 (Fj140 Sj140)) (hj162 : GoodF Pg 26 (Fj162 Sj162)) (hj160 : GoodF Pg 27 (Fj160 Sj160)) (hj186 : GoodF Pg 28 (Fj186 Sj186)) (hj28 : GoodF Pg 29 (Fj28 Sj28)) (x_0 x_1 x_2 x_3 y_0 y_1 y_2 y_3 : Int) (hG : Gj69 N Sj50 Sj89 Sj129 Sj52 Sj98 Sj158 Sj55 Sj139 Sj161 Sj111 Sj157 Sj140 Sj162 Sj160 Sj186 Sj28 x_0 x_1 x_2 x_3 y_0 y_1 y_2 y_3 (fun b => b) = true) : OkC Pg 4 (shFj69.args [.int x_0, .int x_1, .int x_2, .int x_3, .int y_0, .int y_1, .int y_2, .int y_3]) [] (.bool true) [] :=
  top_fs (cx := ⟨Pg, ofList [(17, (Fj50 Sj50)), (18, (Fj89 Sj89)), (19, (Fj129 Sj129)), (20, (Fj52 Sj52)), (21, (Fj98 Sj98)), (22, (Fj158 Sj158)), (8, (Fj55 Sj55)), (14, (Fj139 Sj139)), (23, (Fj161 Sj161)), (10, (Fj111 Sj111)), (24, (Fj157 Sj157)), (25, (Fj140 Sj140)), (26, (Fj162 Sj162)), (27, (Fj160 Sj160)), (28, (Fj186 Sj186)), (29, (Fj28 Sj28))], isref, N⟩) (ofList_cons hj50 (ofList_cons hj89 (ofList_cons hj129 (ofList_cons hj52 (ofList_cons hj98 (ofList_cons hj158 (ofList_cons hj55 (ofList_cons hj139 (ofList_cons hj161 (ofList_cons hj111 (ofList_cons hj157 (ofList_cons hj140 (ofList_cons hj162 (ofList_cons hj160 (ofList_cons hj186 (ofList_cons hj28 (ofList_nil _))))))))))))))))) (anj69 N Sj50 Sj89 Sj129 Sj52 Sj98 Sj158 Sj55 Sj139 Sj161 Sj111 Sj157 Sj140 Sj162 Sj160 Sj186 Sj28) 0 (by kernel_rfl) (fun i_ hi_ => by omega) ((eqj69 N Sj50 Sj89 Sj129 Sj52 Sj98 Sj158 Sj55 Sj139 Sj161 Sj111 Sj157 Sj140 Sj162 Sj160 Sj186 Sj28 x_0 x_1 x_2 x_3 y_0 y_1 y_2 y_3 (fun r H => match r, H with | .bool b, [] => b | _, _ => false)).trans hG)

end Go.Proofs.YtccocdgimamdhaaGreatDoor
