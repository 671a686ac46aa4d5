/-
  THE TIES: each printed meaning is what the program does (written by program).
  Conditions: none.
-/
import Derived.Test.YtccocdgimamdhaaGreatDoorGs
namespace Go.Proofs.YtccocdgimamdhaaGreatDoor
open Go Go.Mach Go.Proofs
set_option linter.unusedVariables false
set_option maxRecDepth 50000

def anj74 (N : Nat) : Nat -> Option Ann := fun b_ => none
theorem eqj74 (N : Nat) (neg : Bool) (field frac : Int) (c_ : V -> List Blk -> Bool) : bodyV ⟨Pg, ofList [], isref, N⟩ (anj74 N) 206 (shFj74.args [.bool neg, .int field, .int frac]) [] c_ = Gj74 N neg field frac (fun r0 => c_ (.int .u64 r0) []) := by kernel_rfl
theorem goodj74 (N : Nat) : GoodF Pg 206 (Fj74 (Gj74 N)) := by
  refine good_fs (cx := ⟨Pg, ofList [], isref, N⟩) (ofList_nil _) shFj74 (spj74 (Gj74 N)) (anj74 N) 0 0 (by kernel_rfl) (fun i_ hi_ => by omega) ?_
  intro a k h
  unfold spj74 at h
  split at h
  · exact ⟨[], rfl, rfl, (eqj74 _ _ _ _ _).trans h⟩
  · cases h

def anj103 (N : Nat) (Sj74 : TSj74) : Nat -> Option Ann := fun b_ => none
theorem eqj103 (N : Nat) (Sj74 : TSj74) (neg : Bool) (c_ : V -> List Blk -> Bool) : bodyV ⟨Pg, ofList [(206, (Fj74 Sj74))], isref, N⟩ (anj103 N Sj74) 185 (shFj103.args [.bool neg]) [] c_ = Gj103 N Sj74 neg (fun r0 => c_ (.int .u64 r0) []) := by kernel_rfl
theorem goodj103 (N : Nat) (Sj74 : TSj74) (hj74 : GoodF Pg 206 (Fj74 Sj74)) : GoodF Pg 185 (Fj103 (Gj103 N Sj74)) := by
  refine good_fs (cx := ⟨Pg, ofList [(206, (Fj74 Sj74))], isref, N⟩) (ofList_cons hj74 (ofList_nil _)) shFj103 (spj103 (Gj103 N Sj74)) (anj103 N Sj74) 0 0 (by kernel_rfl) (fun i_ hi_ => by omega) ?_
  intro a k h
  unfold spj103 at h
  split at h
  · exact ⟨[], rfl, rfl, (eqj103 _ _ _ _).trans h⟩
  · cases h

def anj38 (N : Nat) : Nat -> Option Ann := fun b_ => none
theorem eqj38 (N : Nat) (b : Bool) (b_1 : List Int) (c_ : V -> List Blk -> Bool) : bodyZ ⟨Pg, ofList [], isref, N⟩ (anj38 N) 63 (shFj38.args [.bool b, .ints b_1]) [⟨105, 1, .cells [.bool b, .roi .u32 b_1]⟩] c_ = Gj38 N b b_1 (fun r0 => c_ (.int .i64 r0) [⟨105, 1, .cells [.bool b, .roi .u32 b_1]⟩]) := by kernel_rfl
theorem goodj38 (N : Nat) : GoodF Pg 63 (Fj38 (Gj38 N)) := by
  refine good_fsZ (cx := ⟨Pg, ofList [], isref, N⟩) (ofList_nil _) shFj38 (spj38 (Gj38 N)) (anj38 N) 0 1 (by kernel_rfl) (fun i_ hi_ => by omega) ?_
  intro a k h
  unfold spj38 at h
  split at h
  · exact ⟨[_], rfl, rfl, (eqj38 _ _ _ _).trans h⟩
  · cases h

def anj169 (N : Nat) (Sj38 : TSj38) : Nat -> Option Ann := fun b_ => none
theorem eqj169 (N : Nat) (Sj38 : TSj38) (n_0 : Int) (n_1 : Bool) (n_2 : Int) (b : Bool) (b_1 : List Int) (c_ : V -> List Blk -> Bool) : bodyV ⟨Pg, ofList [(63, (Fj38 Sj38))], isref, N⟩ (anj169 N Sj38) 186 (shFj169.args [.int n_0, .bool n_1, .int n_2, .bool b, .ints b_1]) [⟨105, 1, .cells [.bool b, .roi .u32 b_1]⟩] c_ = Gj169 N Sj38 n_0 n_1 n_2 b b_1 (fun r0 => c_ (.bool r0) [⟨105, 1, .cells [.bool b, .roi .u32 b_1]⟩]) := by kernel_rfl
theorem goodj169 (N : Nat) (Sj38 : TSj38) (hj38 : GoodF Pg 63 (Fj38 Sj38)) : GoodF Pg 186 (Fj169 (Gj169 N Sj38)) := by
  refine good_fs (cx := ⟨Pg, ofList [(63, (Fj38 Sj38))], isref, N⟩) (ofList_cons hj38 (ofList_nil _)) shFj169 (spj169 (Gj169 N Sj38)) (anj169 N Sj38) 0 1 (by kernel_rfl) (fun i_ hi_ => by omega) ?_
  intro a k h
  unfold spj169 at h
  split at h
  · exact ⟨[_], rfl, rfl, (eqj169 _ _ _ _ _ _ _ _).trans h⟩
  · cases h

def anj174 (N : Nat) (Sj74 : TSj74) : Nat -> Option Ann := fun b_ => none
theorem eqj174 (N : Nat) (Sj74 : TSj74) (neg : Bool) (c_ : V -> List Blk -> Bool) : bodyV ⟨Pg, ofList [(206, (Fj74 Sj74))], isref, N⟩ (anj174 N Sj74) 187 (shFj174.args [.bool neg]) [] c_ = Gj174 N Sj74 neg (fun r0 => c_ (.int .u64 r0) []) := by kernel_rfl
theorem goodj174 (N : Nat) (Sj74 : TSj74) (hj74 : GoodF Pg 206 (Fj74 Sj74)) : GoodF Pg 187 (Fj174 (Gj174 N Sj74)) := by
  refine good_fs (cx := ⟨Pg, ofList [(206, (Fj74 Sj74))], isref, N⟩) (ofList_cons hj74 (ofList_nil _)) shFj174 (spj174 (Gj174 N Sj74)) (anj174 N Sj74) 0 0 (by kernel_rfl) (fun i_ hi_ => by omega) ?_
  intro a k h
  unfold spj174 at h
  split at h
  · exact ⟨[], rfl, rfl, (eqj174 _ _ _ _).trans h⟩
  · cases h

def anj122 (N : Nat) : Nat -> Option Ann := fun b_ => none
theorem eqj122 (N : Nat) (x : Int) (c_ : V -> List Blk -> Bool) : bodyV ⟨Pg, ofList [], isref, N⟩ (anj122 N) 222 (shFj122.args [.int x]) [] c_ = Gj122 N x (fun r0 => c_ (.int .i64 r0) []) := by kernel_rfl
theorem goodj122 (N : Nat) : GoodF Pg 222 (Fj122 (Gj122 N)) := by
  refine good_fs (cx := ⟨Pg, ofList [], isref, N⟩) (ofList_nil _) shFj122 (spj122 (Gj122 N)) (anj122 N) 0 0 (by kernel_rfl) (fun i_ hi_ => by omega) ?_
  intro a k h
  unfold spj122 at h
  split at h
  · exact ⟨[], rfl, rfl, (eqj122 _ _ _).trans h⟩
  · cases h

def anj5 (N : Nat) (Sj122 : TSj122) : Nat -> Option Ann := fun b_ => none
theorem eqj5 (N : Nat) (Sj122 : TSj122) (b : Bool) (b_1 : List Int) (c_ : V -> List Blk -> Bool) : bodyZ ⟨Pg, ofList [(222, (Fj122 Sj122))], isref, N⟩ (anj5 N Sj122) 207 (shFj5.args [.bool b, .ints b_1]) [⟨105, 1, .cells [.bool b, .roi .u32 b_1]⟩] c_ = Gj5 N Sj122 b b_1 (fun r0 => c_ (.int .i64 r0) [⟨105, 1, .cells [.bool b, .roi .u32 b_1]⟩]) := by kernel_rfl
theorem goodj5 (N : Nat) (Sj122 : TSj122) (hj122 : GoodF Pg 222 (Fj122 Sj122)) : GoodF Pg 207 (Fj5 (Gj5 N Sj122)) := by
  refine good_fsZ (cx := ⟨Pg, ofList [(222, (Fj122 Sj122))], isref, N⟩) (ofList_cons hj122 (ofList_nil _)) shFj5 (spj5 (Gj5 N Sj122)) (anj5 N Sj122) 0 1 (by kernel_rfl) (fun i_ hi_ => by omega) ?_
  intro a k h
  unfold spj5 at h
  split at h
  · exact ⟨[_], rfl, rfl, (eqj5 _ _ _ _ _).trans h⟩
  · cases h

def anj63 (N : Nat) (Sj10 : TSj10) : Nat -> Option Ann := fun b_ => none
theorem eqj63 (N : Nat) (Sj10 : TSj10) (neg b : Bool) (b_1 : List Int) (c_ : V -> List Blk -> Bool) : bodyZ ⟨Pg, ofList [(147, (Fj10 Sj10))], isref, N⟩ (anj63 N Sj10) 113 (shFj63.args [.bool neg, .bool b, .ints b_1]) [⟨105, 1, .cells [.bool b, .nil]⟩, ⟨127, 1, .ints .u32 b_1⟩] c_ = Gj63 N Sj10 neg b b_1 (fun r0 r1 r2 => c_ (.ptr 0 0) [⟨105, 1, .cells [.bool r0, .sl 1 r1 r2]⟩, ⟨127, 1, .ints .u32 b_1⟩]) := by kernel_rfl
theorem goodj63 (N : Nat) (Sj10 : TSj10) (hj10 : GoodF Pg 147 (Fj10 Sj10)) : GoodF Pg 113 (Fj63 (Gj63 N Sj10)) := by
  refine good_fsZ (cx := ⟨Pg, ofList [(147, (Fj10 Sj10))], isref, N⟩) (ofList_cons hj10 (ofList_nil _)) shFj63 (spj63 (Gj63 N Sj10)) (anj63 N Sj10) 0 2 (by kernel_rfl) (fun i_ hi_ => by omega) ?_
  intro a k h
  unfold spj63 at h
  split at h
  · exact ⟨[_, _], rfl, rfl, (eqj63 _ _ _ _ _ _).trans h⟩
  · cases h

def anj9 (N : Nat) (Sj63 : TSj63) : Nat -> Option Ann := fun b_ => none
theorem eqj9 (N : Nat) (Sj63 : TSj63) (b b_1 : Bool) (b_2 : List Int) (c_ : V -> List Blk -> Bool) : bodyZ ⟨Pg, ofList [(113, (Fj63 Sj63))], isref, N⟩ (anj9 N Sj63) 208 (shFj9.args [.bool b, .bool b_1, .ints b_2]) [⟨105, 1, .cells [.bool b, .nil]⟩, ⟨105, 1, .cells [.bool b_1, .roi .u32 b_2]⟩] c_ = Gj9 N Sj63 b b_1 b_2 (fun r0 r1 => c_ (.ptr 0 0) [⟨105, 1, .cells [.bool r0, .roi .u32 r1]⟩, ⟨105, 1, .cells [.bool b_1, .roi .u32 b_2]⟩]) := by kernel_rfl
theorem goodj9 (N : Nat) (Sj63 : TSj63) (hj63 : GoodF Pg 113 (Fj63 Sj63)) : GoodF Pg 208 (Fj9 (Gj9 N Sj63)) := by
  refine good_fsZ (cx := ⟨Pg, ofList [(113, (Fj63 Sj63))], isref, N⟩) (ofList_cons hj63 (ofList_nil _)) shFj9 (spj9 (Gj9 N Sj63)) (anj9 N Sj63) 0 2 (by kernel_rfl) (fun i_ hi_ => by omega) ?_
  intro a k h
  unfold spj9 at h
  split at h
  · exact ⟨[_, _], rfl, rfl, (eqj9 _ _ _ _ _ _).trans h⟩
  · cases h

def sh_st_binnacleref00_left_0 : StSh := ⟨(.roi .u32 :: (sqs 4 (.int .i64 :: (.int .u64 :: (.slw 0 :: (.int .i64 :: (sqs 49 []))))))), [some (127, 1, .ints .u32)]⟩
def sx0_st_binnacleref00_left_0 : StSh := ⟨(sqs 7 (.slw 0 :: (sqs 50 []))), [some (127, 1, .ints .u32)]⟩
def hk_st_binnacleref00_left_0 (N : Nat) (Sj10 : TSj10) : List Atom -> K -> Bool := fun a_ κ => match a_ with
  | [.ints m_1, .int w, .int s, .int i, .ints out] => iterG N (st_z00_left_0 N Sj10 m_1 w s (fun r0 => κ.ext 0 (sx0_st_binnacleref00_left_0.build [.ints r0]))) (i, out)
  | _ => false
def anj137 (N : Nat) (Sj10 : TSj10) : Nat -> Option Ann := fun b_ => cond (b_ == 0) (some ⟨⟨[0, 5, 6, 7, 8], [], []⟩, [(0, ⟨[7], [], []⟩)], some ⟨[4], [], []⟩, some (mkHooks [(sh_st_binnacleref00_left_0, hk_st_binnacleref00_left_0 N Sj10)])⟩) (none)
theorem eq_st_binnacleref00_left_0 (N : Nat) (Sj10 : TSj10) (κ : K) (m_1 : List Int) (w s i : Int) (out : List Int) : iter N (fun s k => codeV ⟨Pg, ofList [(147, (Fj10 Sj10))], isref, N⟩ 0 (anj137 N Sj10) (lp Pg 183 0).2 (lp Pg 183 0).1 s (roundK Pg 0 ((anj137 N Sj10) (lp Pg 183 0).1) κ k)) (sh_st_binnacleref00_left_0.build [.ints m_1, .int w, .int s, .int i, .ints out]) = iterG N (st_z00_left_0 N Sj10 m_1 w s (fun r0 => κ.ext 0 (sx0_st_binnacleref00_left_0.build [.ints r0]))) (i, out) :=
  iter_tr (fun (v_ : Int × List Int) => sh_st_binnacleref00_left_0.build [.ints m_1, .int w, .int s, .int v_.1, .ints v_.2]) (fun v_ K_ => by obtain ⟨i, out⟩ := v_; kernel_rfl) N (i, out)
theorem hk1_st_binnacleref00_left_0 (N : Nat) (Sj10 : TSj10) : HookFor ⟨Pg, ofList [(147, (Fj10 Sj10))], isref, N⟩ 0 (anj137 N Sj10) (lp Pg 183 0) (sh_st_binnacleref00_left_0, hk_st_binnacleref00_left_0 N Sj10) := by
  intro a κ h
  simp only at h
  unfold hk_st_binnacleref00_left_0 at h
  split at h
  · exact (eq_st_binnacleref00_left_0 _ _ _ _ _ _ _ _).trans h
  · cases h
theorem ho_binnacleref00_left_0 (N : Nat) (Sj10 : TSj10) : HookOk ⟨Pg, ofList [(147, (Fj10 Sj10))], isref, N⟩ 0 (anj137 N Sj10) (lp Pg 183 0) :=
  hooks_ok [(sh_st_binnacleref00_left_0, hk_st_binnacleref00_left_0 N Sj10)] (by kernel_rfl) ⟨hk1_st_binnacleref00_left_0 _ _, trivial⟩
theorem eqj137 (N : Nat) (Sj10 : TSj10) (m : List Int) (n : Int) (c_ : V -> List Blk -> Bool) : bodyZ ⟨Pg, ofList [(147, (Fj10 Sj10))], isref, N⟩ (anj137 N Sj10) 183 (shFj137.args [.ints m, .int n]) [] c_ = Gj137 N Sj10 m n (fun r0 => c_ (.roi .u32 r0) []) := by kernel_rfl
theorem goodj137 (N : Nat) (Sj10 : TSj10) (hj10 : GoodF Pg 147 (Fj10 Sj10)) : GoodF Pg 183 (Fj137 (Gj137 N Sj10)) := by
  refine good_fsZ (cx := ⟨Pg, ofList [(147, (Fj10 Sj10))], isref, N⟩) (ofList_cons hj10 (ofList_nil _)) shFj137 (spj137 (Gj137 N Sj10)) (anj137 N Sj10) 1 0 (by kernel_rfl) (fun i_ hi_ => by
    match i_, hi_ with
    | 0, _ => exact ho_binnacleref00_left_0 _ _
    | (q + 1), h => omega) ?_
  intro a k h
  unfold spj137 at h
  split at h
  · exact ⟨[], rfl, rfl, (eqj137 _ _ _ _ _).trans h⟩
  · cases h

def anj14 (N : Nat) (Sj137 : TSj137) (Sj72 : TSj72) : Nat -> Option Ann := fun b_ => none
theorem eqj14 (N : Nat) (Sj137 : TSj137) (Sj72 : TSj72) (n : Int) (b : Bool) (b_1 : List Int) (c_ : V -> List Blk -> Bool) : bodyZ ⟨Pg, ofList [(183, (Fj137 Sj137)), (113, (Fj72 Sj72))], isref, N⟩ (anj14 N Sj137 Sj72) 146 (shFj14.args [.int n, .bool b, .ints b_1]) [⟨105, 1, .cells [.bool b, .roi .u32 b_1]⟩] c_ = Gj14 N Sj137 Sj72 n b b_1 (fun r0 r1 => c_ (.ptr 0 0) [⟨105, 1, .cells [.bool r0, .roi .u32 r1]⟩]) := by kernel_rfl
theorem goodj14 (N : Nat) (Sj137 : TSj137) (Sj72 : TSj72) (hj137 : GoodF Pg 183 (Fj137 Sj137)) (hj72 : GoodF Pg 113 (Fj72 Sj72)) : GoodF Pg 146 (Fj14 (Gj14 N Sj137 Sj72)) := by
  refine good_fsZ (cx := ⟨Pg, ofList [(183, (Fj137 Sj137)), (113, (Fj72 Sj72))], isref, N⟩) (ofList_cons hj137 (ofList_cons hj72 (ofList_nil _))) shFj14 (spj14 (Gj14 N Sj137 Sj72)) (anj14 N Sj137 Sj72) 0 1 (by kernel_rfl) (fun i_ hi_ => by omega) ?_
  intro a k h
  unfold spj14 at h
  split at h
  · exact ⟨[_], rfl, rfl, (eqj14 _ _ _ _ _ _ _).trans h⟩
  · cases h

def sh_st_binnacleref00_right_0 : StSh := ⟨(.roi .u32 :: (sqs 4 (.int .i64 :: (.int .u64 :: (.slw 0 :: (.int .i64 :: (sqs 55 []))))))), [some (127, 1, .ints .u32)]⟩
def sx0_st_binnacleref00_right_0 : StSh := ⟨(sqs 7 (.slw 0 :: (sqs 56 []))), [some (127, 1, .ints .u32)]⟩
def hk_st_binnacleref00_right_0 (N : Nat) (Sj10 : TSj10) : List Atom -> K -> Bool := fun a_ κ => match a_ with
  | [.ints m_1, .int w, .int s, .int i, .ints out] => iterG N (st_z00_right_0 N Sj10 m_1 w s (fun r0 => κ.ext 0 (sx0_st_binnacleref00_right_0.build [.ints r0]))) (i, out)
  | _ => false
def anj126 (N : Nat) (Sj10 : TSj10) : Nat -> Option Ann := fun b_ => cond (b_ == 0) (some ⟨⟨[0, 5, 6, 7, 8], [], []⟩, [(0, ⟨[7], [], []⟩)], some ⟨[4], [], []⟩, some (mkHooks [(sh_st_binnacleref00_right_0, hk_st_binnacleref00_right_0 N Sj10)])⟩) (none)
theorem eq_st_binnacleref00_right_0 (N : Nat) (Sj10 : TSj10) (κ : K) (m_1 : List Int) (w s i : Int) (out : List Int) : iter N (fun s k => codeV ⟨Pg, ofList [(147, (Fj10 Sj10))], isref, N⟩ 0 (anj126 N Sj10) (lp Pg 226 0).2 (lp Pg 226 0).1 s (roundK Pg 0 ((anj126 N Sj10) (lp Pg 226 0).1) κ k)) (sh_st_binnacleref00_right_0.build [.ints m_1, .int w, .int s, .int i, .ints out]) = iterG N (st_z00_right_0 N Sj10 m_1 w s (fun r0 => κ.ext 0 (sx0_st_binnacleref00_right_0.build [.ints r0]))) (i, out) :=
  iter_tr (fun (v_ : Int × List Int) => sh_st_binnacleref00_right_0.build [.ints m_1, .int w, .int s, .int v_.1, .ints v_.2]) (fun v_ K_ => by obtain ⟨i, out⟩ := v_; kernel_rfl) N (i, out)
theorem hk1_st_binnacleref00_right_0 (N : Nat) (Sj10 : TSj10) : HookFor ⟨Pg, ofList [(147, (Fj10 Sj10))], isref, N⟩ 0 (anj126 N Sj10) (lp Pg 226 0) (sh_st_binnacleref00_right_0, hk_st_binnacleref00_right_0 N Sj10) := by
  intro a κ h
  simp only at h
  unfold hk_st_binnacleref00_right_0 at h
  split at h
  · exact (eq_st_binnacleref00_right_0 _ _ _ _ _ _ _ _).trans h
  · cases h
theorem ho_binnacleref00_right_0 (N : Nat) (Sj10 : TSj10) : HookOk ⟨Pg, ofList [(147, (Fj10 Sj10))], isref, N⟩ 0 (anj126 N Sj10) (lp Pg 226 0) :=
  hooks_ok [(sh_st_binnacleref00_right_0, hk_st_binnacleref00_right_0 N Sj10)] (by kernel_rfl) ⟨hk1_st_binnacleref00_right_0 _ _, trivial⟩
theorem eqj126 (N : Nat) (Sj10 : TSj10) (m : List Int) (n : Int) (c_ : V -> List Blk -> Bool) : bodyZ ⟨Pg, ofList [(147, (Fj10 Sj10))], isref, N⟩ (anj126 N Sj10) 226 (shFj126.args [.ints m, .int n]) [] c_ = Gj126 N Sj10 m n (fun r0 => c_ (.roi .u32 r0) []) := by kernel_rfl
theorem goodj126 (N : Nat) (Sj10 : TSj10) (hj10 : GoodF Pg 147 (Fj10 Sj10)) : GoodF Pg 226 (Fj126 (Gj126 N Sj10)) := by
  refine good_fsZ (cx := ⟨Pg, ofList [(147, (Fj10 Sj10))], isref, N⟩) (ofList_cons hj10 (ofList_nil _)) shFj126 (spj126 (Gj126 N Sj10)) (anj126 N Sj10) 1 0 (by kernel_rfl) (fun i_ hi_ => by
    match i_, hi_ with
    | 0, _ => exact ho_binnacleref00_right_0 _ _
    | (q + 1), h => omega) ?_
  intro a k h
  unfold spj126 at h
  split at h
  · exact ⟨[], rfl, rfl, (eqj126 _ _ _ _ _).trans h⟩
  · cases h

def sh_st_binnacleref00_minus_0 : StSh := ⟨(.roi .u32 :: (.roi .u32 :: (.any :: (.any :: (.any :: (.slw 0 :: (.int .u64 :: (.int .i64 :: (sqs 48 []))))))))), [some (127, 1, .ints .u32)]⟩
def sx0_st_binnacleref00_minus_0 : StSh := ⟨(sqs 5 (.slw 0 :: (sqs 50 []))), [some (127, 1, .ints .u32)]⟩
def hk_st_binnacleref00_minus_0 (N : Nat) (Sj10 : TSj10) : List Atom -> K -> Bool := fun a_ κ => match a_ with
  | [.ints a_1, .ints b_1, .int borrow, .int i, .ints out] => iterG N (st_z00_minus_0 N Sj10 a_1 b_1 (fun r0 => κ.ext 0 (sx0_st_binnacleref00_minus_0.build [.ints r0]))) (borrow, i, out)
  | _ => false
def anj36 (N : Nat) (Sj10 : TSj10) : Nat -> Option Ann := fun b_ => cond (b_ == 0) (some ⟨⟨[0, 1, 5, 6, 7], [], []⟩, [(0, ⟨[5], [], []⟩)], some ⟨[4], [], []⟩, some (mkHooks [(sh_st_binnacleref00_minus_0, hk_st_binnacleref00_minus_0 N Sj10)])⟩) (none)
theorem eq_st_binnacleref00_minus_0 (N : Nat) (Sj10 : TSj10) (κ : K) (a_1 b_1 : List Int) (borrow i : Int) (out : List Int) : iter N (fun s k => codeV ⟨Pg, ofList [(147, (Fj10 Sj10))], isref, N⟩ 0 (anj36 N Sj10) (lp Pg 182 0).2 (lp Pg 182 0).1 s (roundK Pg 0 ((anj36 N Sj10) (lp Pg 182 0).1) κ k)) (sh_st_binnacleref00_minus_0.build [.ints a_1, .ints b_1, .int borrow, .int i, .ints out]) = iterG N (st_z00_minus_0 N Sj10 a_1 b_1 (fun r0 => κ.ext 0 (sx0_st_binnacleref00_minus_0.build [.ints r0]))) (borrow, i, out) :=
  iter_tr (fun (v_ : Int × Int × List Int) => sh_st_binnacleref00_minus_0.build [.ints a_1, .ints b_1, .int v_.1, .int v_.2.1, .ints v_.2.2]) (fun v_ K_ => by obtain ⟨borrow, i, out⟩ := v_; kernel_rfl) N (borrow, i, out)
theorem hk1_st_binnacleref00_minus_0 (N : Nat) (Sj10 : TSj10) : HookFor ⟨Pg, ofList [(147, (Fj10 Sj10))], isref, N⟩ 0 (anj36 N Sj10) (lp Pg 182 0) (sh_st_binnacleref00_minus_0, hk_st_binnacleref00_minus_0 N Sj10) := by
  intro a κ h
  simp only at h
  unfold hk_st_binnacleref00_minus_0 at h
  split at h
  · exact (eq_st_binnacleref00_minus_0 _ _ _ _ _ _ _ _).trans h
  · cases h
theorem ho_binnacleref00_minus_0 (N : Nat) (Sj10 : TSj10) : HookOk ⟨Pg, ofList [(147, (Fj10 Sj10))], isref, N⟩ 0 (anj36 N Sj10) (lp Pg 182 0) :=
  hooks_ok [(sh_st_binnacleref00_minus_0, hk_st_binnacleref00_minus_0 N Sj10)] (by kernel_rfl) ⟨hk1_st_binnacleref00_minus_0 _ _, trivial⟩
theorem eqj36 (N : Nat) (Sj10 : TSj10) (a b : List Int) (c_ : V -> List Blk -> Bool) : bodyZ ⟨Pg, ofList [(147, (Fj10 Sj10))], isref, N⟩ (anj36 N Sj10) 182 (shFj36.args [.ints a, .ints b]) [] c_ = Gj36 N Sj10 a b (fun r0 => c_ (.roi .u32 r0) []) := by kernel_rfl
theorem goodj36 (N : Nat) (Sj10 : TSj10) (hj10 : GoodF Pg 147 (Fj10 Sj10)) : GoodF Pg 182 (Fj36 (Gj36 N Sj10)) := by
  refine good_fsZ (cx := ⟨Pg, ofList [(147, (Fj10 Sj10))], isref, N⟩) (ofList_cons hj10 (ofList_nil _)) shFj36 (spj36 (Gj36 N Sj10)) (anj36 N Sj10) 1 0 (by kernel_rfl) (fun i_ hi_ => by
    match i_, hi_ with
    | 0, _ => exact ho_binnacleref00_minus_0 _ _
    | (q + 1), h => omega) ?_
  intro a k h
  unfold spj36 at h
  split at h
  · exact ⟨[], rfl, rfl, (eqj36 _ _ _ _ _).trans h⟩
  · cases h

def sh_st_binnacleref00_plus_0 : StSh := ⟨(.roi .u32 :: (.roi .u32 :: (sqs 4 (.slw 0 :: (.int .u64 :: (.int .i64 :: (sqs 52 []))))))), [some (127, 1, .ints .u32)]⟩
def sx0_st_binnacleref00_plus_0 : StSh := ⟨(.roi .u32 :: (sqs 5 (.slw 0 :: (.int .u64 :: (sqs 53 []))))), [some (127, 1, .ints .u32)]⟩
def hk_st_binnacleref00_plus_0 (N : Nat) (Sj10 : TSj10) : List Atom -> K -> Bool := fun a_ κ => match a_ with
  | [.ints a_1, .ints b_1, .int carry, .int i, .ints out] => iterG N (st_z00_plus_0 N Sj10 a_1 b_1 (fun r1 r2 => κ.ext 0 (sx0_st_binnacleref00_plus_0.build [.ints a_1, .int r1, .ints r2]))) (carry, i, out)
  | _ => false
def anj99 (N : Nat) (Sj10 : TSj10) : Nat -> Option Ann := fun b_ => cond (b_ == 0) (some ⟨⟨[0, 1, 6, 7, 8], [], []⟩, [(0, ⟨[0, 6, 7], [], []⟩)], some ⟨[4], [], []⟩, some (mkHooks [(sh_st_binnacleref00_plus_0, hk_st_binnacleref00_plus_0 N Sj10)])⟩) (none)
theorem eq_st_binnacleref00_plus_0 (N : Nat) (Sj10 : TSj10) (κ : K) (a_1 b_1 : List Int) (carry i : Int) (out : List Int) : iter N (fun s k => codeV ⟨Pg, ofList [(147, (Fj10 Sj10))], isref, N⟩ 0 (anj99 N Sj10) (lp Pg 180 0).2 (lp Pg 180 0).1 s (roundK Pg 0 ((anj99 N Sj10) (lp Pg 180 0).1) κ k)) (sh_st_binnacleref00_plus_0.build [.ints a_1, .ints b_1, .int carry, .int i, .ints out]) = iterG N (st_z00_plus_0 N Sj10 a_1 b_1 (fun r1 r2 => κ.ext 0 (sx0_st_binnacleref00_plus_0.build [.ints a_1, .int r1, .ints r2]))) (carry, i, out) :=
  iter_tr (fun (v_ : Int × Int × List Int) => sh_st_binnacleref00_plus_0.build [.ints a_1, .ints b_1, .int v_.1, .int v_.2.1, .ints v_.2.2]) (fun v_ K_ => by obtain ⟨carry, i, out⟩ := v_; kernel_rfl) N (carry, i, out)
theorem hk1_st_binnacleref00_plus_0 (N : Nat) (Sj10 : TSj10) : HookFor ⟨Pg, ofList [(147, (Fj10 Sj10))], isref, N⟩ 0 (anj99 N Sj10) (lp Pg 180 0) (sh_st_binnacleref00_plus_0, hk_st_binnacleref00_plus_0 N Sj10) := by
  intro a κ h
  simp only at h
  unfold hk_st_binnacleref00_plus_0 at h
  split at h
  · exact (eq_st_binnacleref00_plus_0 _ _ _ _ _ _ _ _).trans h
  · cases h
theorem ho_binnacleref00_plus_0 (N : Nat) (Sj10 : TSj10) : HookOk ⟨Pg, ofList [(147, (Fj10 Sj10))], isref, N⟩ 0 (anj99 N Sj10) (lp Pg 180 0) :=
  hooks_ok [(sh_st_binnacleref00_plus_0, hk_st_binnacleref00_plus_0 N Sj10)] (by kernel_rfl) ⟨hk1_st_binnacleref00_plus_0 _ _, trivial⟩
theorem eqj99 (N : Nat) (Sj10 : TSj10) (a b : List Int) (c_ : V -> List Blk -> Bool) : bodyZ ⟨Pg, ofList [(147, (Fj10 Sj10))], isref, N⟩ (anj99 N Sj10) 180 (shFj99.args [.ints a, .ints b]) [] c_ = Gj99 N Sj10 a b (fun r0 => c_ (.roi .u32 r0) []) := by kernel_rfl
theorem goodj99 (N : Nat) (Sj10 : TSj10) (hj10 : GoodF Pg 147 (Fj10 Sj10)) : GoodF Pg 180 (Fj99 (Gj99 N Sj10)) := by
  refine good_fsZ (cx := ⟨Pg, ofList [(147, (Fj10 Sj10))], isref, N⟩) (ofList_cons hj10 (ofList_nil _)) shFj99 (spj99 (Gj99 N Sj10)) (anj99 N Sj10) 1 0 (by kernel_rfl) (fun i_ hi_ => by
    match i_, hi_ with
    | 0, _ => exact ho_binnacleref00_plus_0 _ _
    | (q + 1), h => omega) ?_
  intro a k h
  unfold spj99 at h
  split at h
  · exact ⟨[], rfl, rfl, (eqj99 _ _ _ _ _).trans h⟩
  · cases h

def anj115 (N : Nat) (Sj126 : TSj126) (Sj43 : TSj43) (Sj36 : TSj36) (Sj99 : TSj99) : Nat -> Option Ann := fun b_ => none
theorem eqj115 (N : Nat) (Sj126 : TSj126) (Sj43 : TSj43) (Sj36 : TSj36) (Sj99 : TSj99) (n : Int) (b b_1 : Bool) (b_2 : List Int) (c_ : V -> List Blk -> Bool) : bodyZ ⟨Pg, ofList [(226, (Fj126 Sj126)), (113, (Fj43 Sj43)), (182, (Fj36 Sj36)), (180, (Fj99 Sj99))], isref, N⟩ (anj115 N Sj126 Sj43 Sj36 Sj99) 211 (shFj115.args [.int n, .bool b, .bool b_1, .ints b_2]) [⟨105, 1, .cells [.bool b, .nil]⟩, ⟨105, 1, .cells [.bool b_1, .roi .u32 b_2]⟩] c_ = Gj115 N Sj126 Sj43 Sj36 Sj99 n b b_1 b_2 (fun r0 r1 => c_ (.ptr 0 0) [⟨105, 1, .cells [.bool r0, .roi .u32 r1]⟩, ⟨105, 1, .cells [.bool b_1, .roi .u32 b_2]⟩]) := by kernel_rfl
theorem goodj115 (N : Nat) (Sj126 : TSj126) (Sj43 : TSj43) (Sj36 : TSj36) (Sj99 : TSj99) (hj126 : GoodF Pg 226 (Fj126 Sj126)) (hj43 : GoodF Pg 113 (Fj43 Sj43)) (hj36 : GoodF Pg 182 (Fj36 Sj36)) (hj99 : GoodF Pg 180 (Fj99 Sj99)) : GoodF Pg 211 (Fj115 (Gj115 N Sj126 Sj43 Sj36 Sj99)) := by
  refine good_fsZ (cx := ⟨Pg, ofList [(226, (Fj126 Sj126)), (113, (Fj43 Sj43)), (182, (Fj36 Sj36)), (180, (Fj99 Sj99))], isref, N⟩) (ofList_cons hj126 (ofList_cons hj43 (ofList_cons hj36 (ofList_cons hj99 (ofList_nil _))))) shFj115 (spj115 (Gj115 N Sj126 Sj43 Sj36 Sj99)) (anj115 N Sj126 Sj43 Sj36 Sj99) 0 2 (by kernel_rfl) (fun i_ hi_ => by omega) ?_
  intro a k h
  unfold spj115 at h
  split at h
  · exact ⟨[_, _], rfl, rfl, (eqj115 _ _ _ _ _ _ _ _ _ _).trans h⟩
  · cases h

def anj78 (N : Nat) (Sj137 : TSj137) (Sj43 : TSj43) : Nat -> Option Ann := fun b_ => none
theorem eqj78 (N : Nat) (Sj137 : TSj137) (Sj43 : TSj43) (n : Int) (b b_1 : Bool) (b_2 : List Int) (c_ : V -> List Blk -> Bool) : bodyZ ⟨Pg, ofList [(183, (Fj137 Sj137)), (113, (Fj43 Sj43))], isref, N⟩ (anj78 N Sj137 Sj43) 146 (shFj78.args [.int n, .bool b, .bool b_1, .ints b_2]) [⟨105, 1, .cells [.bool b, .nil]⟩, ⟨105, 1, .cells [.bool b_1, .roi .u32 b_2]⟩] c_ = Gj78 N Sj137 Sj43 n b b_1 b_2 (fun r0 r1 => c_ (.ptr 0 0) [⟨105, 1, .cells [.bool r0, .roi .u32 r1]⟩, ⟨105, 1, .cells [.bool b_1, .roi .u32 b_2]⟩]) := by kernel_rfl
theorem goodj78 (N : Nat) (Sj137 : TSj137) (Sj43 : TSj43) (hj137 : GoodF Pg 183 (Fj137 Sj137)) (hj43 : GoodF Pg 113 (Fj43 Sj43)) : GoodF Pg 146 (Fj78 (Gj78 N Sj137 Sj43)) := by
  refine good_fsZ (cx := ⟨Pg, ofList [(183, (Fj137 Sj137)), (113, (Fj43 Sj43))], isref, N⟩) (ofList_cons hj137 (ofList_cons hj43 (ofList_nil _))) shFj78 (spj78 (Gj78 N Sj137 Sj43)) (anj78 N Sj137 Sj43) 0 2 (by kernel_rfl) (fun i_ hi_ => by omega) ?_
  intro a k h
  unfold spj78 at h
  split at h
  · exact ⟨[_, _], rfl, rfl, (eqj78 _ _ _ _ _ _ _ _).trans h⟩
  · cases h

def sh_st_binnacleref00_compare_0 : StSh := ⟨(.roi .u32 :: (.roi .u32 :: (.any :: (.any :: (.any :: (.int .i64 :: (sqs 35 []))))))), []⟩
def sx0_st_binnacleref00_compare_0 : StSh := ⟨(sqs 4 (.int .i64 :: (sqs 36 []))), []⟩
def sx1_st_binnacleref00_compare_0 : StSh := ⟨(sqs 41 []), []⟩
def hk_st_binnacleref00_compare_0 (N : Nat) : List Atom -> K -> Bool := fun a_ κ => match a_ with
  | [.ints a_1, .ints b_1, .int i] => iterG N (stj224 N a_1 b_1 (fun r0 => κ.ret (sx0_st_binnacleref00_compare_0.build [.int r0])) (κ.ext 0 (sx1_st_binnacleref00_compare_0.build []))) i
  | _ => false
def anj75 (N : Nat) : Nat -> Option Ann := fun b_ => cond (b_ == 0) (some ⟨⟨[0, 1, 5], [], []⟩, [(0, ⟨[], [], []⟩)], some ⟨[4], [], []⟩, some (mkHooks [(sh_st_binnacleref00_compare_0, hk_st_binnacleref00_compare_0 N)])⟩) (none)
theorem eq_st_binnacleref00_compare_0 (N : Nat) (κ : K) (a_1 b_1 : List Int) (i : Int) : iter N (fun s k => codeV ⟨Pg, ofList [], isref, N⟩ 0 (anj75 N) (lp Pg 181 0).2 (lp Pg 181 0).1 s (roundK Pg 0 ((anj75 N) (lp Pg 181 0).1) κ k)) (sh_st_binnacleref00_compare_0.build [.ints a_1, .ints b_1, .int i]) = iterG N (stj224 N a_1 b_1 (fun r0 => κ.ret (sx0_st_binnacleref00_compare_0.build [.int r0])) (κ.ext 0 (sx1_st_binnacleref00_compare_0.build []))) i :=
  iter_tr (fun v_ => sh_st_binnacleref00_compare_0.build [.ints a_1, .ints b_1, .int v_]) (fun v_ K_ => by kernel_rfl) N i
theorem hk1_st_binnacleref00_compare_0 (N : Nat) : HookFor ⟨Pg, ofList [], isref, N⟩ 0 (anj75 N) (lp Pg 181 0) (sh_st_binnacleref00_compare_0, hk_st_binnacleref00_compare_0 N) := by
  intro a κ h
  simp only at h
  unfold hk_st_binnacleref00_compare_0 at h
  split at h
  · exact (eq_st_binnacleref00_compare_0 _ _ _ _ _).trans h
  · cases h
theorem ho_binnacleref00_compare_0 (N : Nat) : HookOk ⟨Pg, ofList [], isref, N⟩ 0 (anj75 N) (lp Pg 181 0) :=
  hooks_ok [(sh_st_binnacleref00_compare_0, hk_st_binnacleref00_compare_0 N)] (by kernel_rfl) ⟨hk1_st_binnacleref00_compare_0 _, trivial⟩
theorem eqj75 (N : Nat) (a b : List Int) (c_ : V -> List Blk -> Bool) : bodyZ ⟨Pg, ofList [], isref, N⟩ (anj75 N) 181 (shFj75.args [.ints a, .ints b]) [] c_ = Gj75 N a b (fun r0 => c_ (.int .i64 r0) []) := by kernel_rfl
theorem goodj75 (N : Nat) : GoodF Pg 181 (Fj75 (Gj75 N)) := by
  refine good_fsZ (cx := ⟨Pg, ofList [], isref, N⟩) (ofList_nil _) shFj75 (spj75 (Gj75 N)) (anj75 N) 1 0 (by kernel_rfl) (fun i_ hi_ => by
    match i_, hi_ with
    | 0, _ => exact ho_binnacleref00_compare_0 _
    | (q + 1), h => omega) ?_
  intro a k h
  unfold spj75 at h
  split at h
  · exact ⟨[], rfl, rfl, (eqj75 _ _ _ _).trans h⟩
  · cases h

def anj57 (N : Nat) (Sj99 : TSj99) (Sj43 : TSj43) (Sj75 : TSj75) (Sj36 : TSj36) : Nat -> Option Ann := fun b_ => none
theorem eqj57 (N : Nat) (Sj99 : TSj99) (Sj43 : TSj43) (Sj75 : TSj75) (Sj36 : TSj36) (turn b b_1 : Bool) (b_2 : List Int) (b_3 : Bool) (b_4 : List Int) (c_ : V -> List Blk -> Bool) : bodyZ ⟨Pg, ofList [(180, (Fj99 Sj99)), (113, (Fj43 Sj43)), (181, (Fj75 Sj75)), (182, (Fj36 Sj36))], isref, N⟩ (anj57 N Sj99 Sj43 Sj75 Sj36) 145 (shFj57.args [.bool turn, .bool b, .bool b_1, .ints b_2, .bool b_3, .ints b_4]) [⟨105, 1, .cells [.bool b, .nil]⟩, ⟨105, 1, .cells [.bool b_1, .roi .u32 b_2]⟩, ⟨105, 1, .cells [.bool b_3, .roi .u32 b_4]⟩] c_ = Gj57 N Sj99 Sj43 Sj75 Sj36 turn b b_1 b_2 b_3 b_4 (fun r0 r1 => c_ (.ptr 0 0) [⟨105, 1, .cells [.bool r0, .roi .u32 r1]⟩, ⟨105, 1, .cells [.bool b_1, .roi .u32 b_2]⟩, ⟨105, 1, .cells [.bool b_3, .roi .u32 b_4]⟩]) := by kernel_rfl
theorem goodj57 (N : Nat) (Sj99 : TSj99) (Sj43 : TSj43) (Sj75 : TSj75) (Sj36 : TSj36) (hj99 : GoodF Pg 180 (Fj99 Sj99)) (hj43 : GoodF Pg 113 (Fj43 Sj43)) (hj75 : GoodF Pg 181 (Fj75 Sj75)) (hj36 : GoodF Pg 182 (Fj36 Sj36)) : GoodF Pg 145 (Fj57 (Gj57 N Sj99 Sj43 Sj75 Sj36)) := by
  refine good_fsZ (cx := ⟨Pg, ofList [(180, (Fj99 Sj99)), (113, (Fj43 Sj43)), (181, (Fj75 Sj75)), (182, (Fj36 Sj36))], isref, N⟩) (ofList_cons hj99 (ofList_cons hj43 (ofList_cons hj75 (ofList_cons hj36 (ofList_nil _))))) shFj57 (spj57 (Gj57 N Sj99 Sj43 Sj75 Sj36)) (anj57 N Sj99 Sj43 Sj75 Sj36) 0 3 (by kernel_rfl) (fun i_ hi_ => by omega) ?_
  intro a k h
  unfold spj57 at h
  split at h
  · exact ⟨[_, _, _], rfl, rfl, (eqj57 _ _ _ _ _ _ _ _ _ _ _ _).trans h⟩
  · cases h

def anj86 (N : Nat) (Sj57 : TSj57) : Nat -> Option Ann := fun b_ => none
theorem eqj86 (N : Nat) (Sj57 : TSj57) (b b_1 : Bool) (b_2 : List Int) (b_3 : Bool) (b_4 : List Int) (c_ : V -> List Blk -> Bool) : bodyZ ⟨Pg, ofList [(145, (Fj57 Sj57))], isref, N⟩ (anj86 N Sj57) 223 (shFj86.args [.bool b, .bool b_1, .ints b_2, .bool b_3, .ints b_4]) [⟨105, 1, .cells [.bool b, .nil]⟩, ⟨105, 1, .cells [.bool b_1, .roi .u32 b_2]⟩, ⟨105, 1, .cells [.bool b_3, .roi .u32 b_4]⟩] c_ = Gj86 N Sj57 b b_1 b_2 b_3 b_4 (fun r0 r1 => c_ (.ptr 0 0) [⟨105, 1, .cells [.bool r0, .roi .u32 r1]⟩, ⟨105, 1, .cells [.bool b_1, .roi .u32 b_2]⟩, ⟨105, 1, .cells [.bool b_3, .roi .u32 b_4]⟩]) := by kernel_rfl
theorem goodj86 (N : Nat) (Sj57 : TSj57) (hj57 : GoodF Pg 145 (Fj57 Sj57)) : GoodF Pg 223 (Fj86 (Gj86 N Sj57)) := by
  refine good_fsZ (cx := ⟨Pg, ofList [(145, (Fj57 Sj57))], isref, N⟩) (ofList_cons hj57 (ofList_nil _)) shFj86 (spj86 (Gj86 N Sj57)) (anj86 N Sj57) 0 3 (by kernel_rfl) (fun i_ hi_ => by omega) ?_
  intro a k h
  unfold spj86 at h
  split at h
  · exact ⟨[_, _, _], rfl, rfl, (eqj86 _ _ _ _ _ _ _ _).trans h⟩
  · cases h

def anj96 (N : Nat) (Sj104 : TSj104) (Sj43 : TSj43) : Nat -> Option Ann := fun b_ => none
theorem eqj96 (N : Nat) (Sj104 : TSj104) (Sj43 : TSj43) (n : Int) (b : Bool) (c_ : V -> List Blk -> Bool) : bodyZ ⟨Pg, ofList [(117, (Fj104 Sj104)), (113, (Fj43 Sj43))], isref, N⟩ (anj96 N Sj104 Sj43) 175 (shFj96.args [.int n, .bool b]) [⟨105, 1, .cells [.bool b, .nil]⟩] c_ = Gj96 N Sj104 Sj43 n b (fun r0 r1 => c_ (.ptr 0 0) [⟨105, 1, .cells [.bool r0, .roi .u32 r1]⟩]) := by kernel_rfl
theorem goodj96 (N : Nat) (Sj104 : TSj104) (Sj43 : TSj43) (hj104 : GoodF Pg 117 (Fj104 Sj104)) (hj43 : GoodF Pg 113 (Fj43 Sj43)) : GoodF Pg 175 (Fj96 (Gj96 N Sj104 Sj43)) := by
  refine good_fsZ (cx := ⟨Pg, ofList [(117, (Fj104 Sj104)), (113, (Fj43 Sj43))], isref, N⟩) (ofList_cons hj104 (ofList_cons hj43 (ofList_nil _))) shFj96 (spj96 (Gj96 N Sj104 Sj43)) (anj96 N Sj104 Sj43) 0 1 (by kernel_rfl) (fun i_ hi_ => by omega) ?_
  intro a k h
  unfold spj96 at h
  split at h
  · exact ⟨[_], rfl, rfl, (eqj96 _ _ _ _ _ _).trans h⟩
  · cases h

def anj13 (N : Nat) (Sj96 : TSj96) : Nat -> Option Ann := fun b_ => none
theorem eqj13 (N : Nat) (Sj96 : TSj96) (n : Int) (c_ : V -> List Blk -> Bool) : bodyZ ⟨Pg, ofList [(175, (Fj96 Sj96))], isref, N⟩ (anj13 N Sj96) 137 (shFj13.args [.int n]) [] c_ = Gj13 N Sj96 n (fun r0 r1 => c_ (.ptr 0 0) [⟨105, 1, .cells [.bool r0, .roi .u32 r1]⟩]) := by kernel_rfl
theorem goodj13 (N : Nat) (Sj96 : TSj96) (hj96 : GoodF Pg 175 (Fj96 Sj96)) : GoodF Pg 137 (Fj13 (Gj13 N Sj96)) := by
  refine good_fsZ (cx := ⟨Pg, ofList [(175, (Fj96 Sj96))], isref, N⟩) (ofList_cons hj96 (ofList_nil _)) shFj13 (spj13 (Gj13 N Sj96)) (anj13 N Sj96) 0 0 (by kernel_rfl) (fun i_ hi_ => by omega) ?_
  intro a k h
  unfold spj13 at h
  split at h
  · exact ⟨[], rfl, rfl, (eqj13 _ _ _ _).trans h⟩
  · cases h

def anj113 (N : Nat) (Sj75 : TSj75) : Nat -> Option Ann := fun b_ => none
theorem eqj113 (N : Nat) (Sj75 : TSj75) (b : Bool) (b_1 : List Int) (b_2 : Bool) (b_3 : List Int) (c_ : V -> List Blk -> Bool) : bodyZ ⟨Pg, ofList [(181, (Fj75 Sj75))], isref, N⟩ (anj113 N Sj75) 224 (shFj113.args [.bool b, .ints b_1, .bool b_2, .ints b_3]) [⟨105, 1, .cells [.bool b, .roi .u32 b_1]⟩, ⟨105, 1, .cells [.bool b_2, .roi .u32 b_3]⟩] c_ = Gj113 N Sj75 b b_1 b_2 b_3 (fun r0 => c_ (.int .i64 r0) [⟨105, 1, .cells [.bool b, .roi .u32 b_1]⟩, ⟨105, 1, .cells [.bool b_2, .roi .u32 b_3]⟩]) := by kernel_rfl
theorem goodj113 (N : Nat) (Sj75 : TSj75) (hj75 : GoodF Pg 181 (Fj75 Sj75)) : GoodF Pg 224 (Fj113 (Gj113 N Sj75)) := by
  refine good_fsZ (cx := ⟨Pg, ofList [(181, (Fj75 Sj75))], isref, N⟩) (ofList_cons hj75 (ofList_nil _)) shFj113 (spj113 (Gj113 N Sj75)) (anj113 N Sj75) 0 2 (by kernel_rfl) (fun i_ hi_ => by omega) ?_
  intro a k h
  unfold spj113 at h
  split at h
  · exact ⟨[_, _], rfl, rfl, (eqj113 _ _ _ _ _ _ _).trans h⟩
  · cases h

def anj66 (N : Nat) (Sj115 : TSj115) (Sj78 : TSj78) (Sj86 : TSj86) (Sj38 : TSj38) (Sj13 : TSj13) (Sj113 : TSj113) : Nat -> Option Ann := fun b_ => none
theorem eqj66 (N : Nat) (Sj115 : TSj115) (Sj78 : TSj78) (Sj86 : TSj86) (Sj38 : TSj38) (Sj13 : TSj13) (Sj113 : TSj113) (s : Int) (b : Bool) (b_1 : List Int) (c_ : V -> List Blk -> Bool) : bodyV ⟨Pg, ofList [(211, (Fj115 Sj115)), (146, (Fj78 Sj78)), (223, (Fj86 Sj86)), (63, (Fj38 Sj38)), (137, (Fj13 Sj13)), (224, (Fj113 Sj113))], isref, N⟩ (anj66 N Sj115 Sj78 Sj86 Sj38 Sj13 Sj113) 209 (shFj66.args [.int s, .bool b, .ints b_1]) [⟨105, 1, .cells [.bool b, .roi .u32 b_1]⟩] c_ = Gj66 N Sj115 Sj78 Sj86 Sj38 Sj13 Sj113 s b b_1 (fun r0 r3 r4 => c_ (.tup [.ptr 1 0, .int .i64 r0]) [⟨105, 1, .cells [.bool b, .roi .u32 b_1]⟩, ⟨105, 1, .cells [.bool r3, .roi .u32 r4]⟩]) := by kernel_rfl
theorem goodj66 (N : Nat) (Sj115 : TSj115) (Sj78 : TSj78) (Sj86 : TSj86) (Sj38 : TSj38) (Sj13 : TSj13) (Sj113 : TSj113) (hj115 : GoodF Pg 211 (Fj115 Sj115)) (hj78 : GoodF Pg 146 (Fj78 Sj78)) (hj86 : GoodF Pg 223 (Fj86 Sj86)) (hj38 : GoodF Pg 63 (Fj38 Sj38)) (hj13 : GoodF Pg 137 (Fj13 Sj13)) (hj113 : GoodF Pg 224 (Fj113 Sj113)) : GoodF Pg 209 (Fj66 (Gj66 N Sj115 Sj78 Sj86 Sj38 Sj13 Sj113)) := by
  refine good_fs (cx := ⟨Pg, ofList [(211, (Fj115 Sj115)), (146, (Fj78 Sj78)), (223, (Fj86 Sj86)), (63, (Fj38 Sj38)), (137, (Fj13 Sj13)), (224, (Fj113 Sj113))], isref, N⟩) (ofList_cons hj115 (ofList_cons hj78 (ofList_cons hj86 (ofList_cons hj38 (ofList_cons hj13 (ofList_cons hj113 (ofList_nil _))))))) shFj66 (spj66 (Gj66 N Sj115 Sj78 Sj86 Sj38 Sj13 Sj113)) (anj66 N Sj115 Sj78 Sj86 Sj38 Sj13 Sj113) 0 1 (by kernel_rfl) (fun i_ hi_ => by omega) ?_
  intro a k h
  unfold spj66 at h
  split at h
  · exact ⟨[_], rfl, rfl, (eqj66 _ _ _ _ _ _ _ _ _ _ _).trans h⟩
  · cases h

def anj131 (N : Nat) (Sj36 : TSj36) : Nat -> Option Ann := fun b_ => none
def lsj214 (d_ : List V) (u_ : List (Option Blk)) (i : Int) (b : Bool) (b_1 : List Int) (b_3 : Int) : St := ⟨(.ptr 0 0 :: (dqs d_ 0 5 (.int .u32 b_3 :: (dqs d_ 5 34 [])))), [some ⟨105, 1, .cells [.bool b, .roi .u32 b_1]⟩]⟩
def lsj212 (d_ : List V) (u_ : List (Option Blk)) (i : Int) (b : Bool) (b_1 : List Int) : St := ⟨(.ptr 0 0 :: (.int .i64 i :: (dqs d_ 0 3 (.roi .u32 b_1 :: (dqs d_ 3 35 []))))), [some ⟨105, 1, .cells [.bool b, .roi .u32 b_1]⟩]⟩
def lsj225 (d_ : List V) (u_ : List (Option Blk)) (i : Int) (b : Bool) (b_1 : List Int) (b_2 : Int) : St := ⟨(.ptr 0 0 :: (dqs d_ 0 5 (.int .u32 b_2 :: (dqs d_ 5 34 [])))), [some ⟨105, 1, .cells [.bool b, .roi .u32 b_1]⟩, (u_.getD 0 none)]⟩
def lsj213 (d_ : List V) (u_ : List (Option Blk)) (i : Int) (b : Bool) (b_1 m : List Int) : St := ⟨(.ptr 0 0 :: (.int .i64 i :: (dqs d_ 0 3 (.roi .u32 m :: (dqs d_ 3 35 []))))), [some ⟨105, 1, .cells [.bool b, .roi .u32 b_1]⟩, (u_.getD 0 none)]⟩
theorem jnj214 (N : Nat) (Sj36 : TSj36) (d_ : List V) (u_ : List (Option Blk)) (i : Int) (b : Bool) (b_1 : List Int) (b_3 : Int) (c_ : V -> List Blk -> Bool) : codesV ⟨Pg, ofList [(182, (Fj36 Sj36))], isref, N⟩ 1 (anj131 N Sj36) ((cds Pg 225).drop 7) 0 (lsj214 d_ u_ i b b_1 b_3) (finZ Pg 225 1 c_) = Jj214 N Sj36 i b b_1 b_3 (fun r0 => c_ (.int .u64 r0) [⟨105, 1, .cells [.bool b, .roi .u32 b_1]⟩]) := by kernel_rfl
theorem hdj212 (N : Nat) (Sj36 : TSj36) (d_ : List V) (u_ : List (Option Blk)) (i : Int) (b : Bool) (b_1 : List Int) (c_ : V -> List Blk -> Bool) (κn_ : St -> Bool) : codesV ⟨Pg, ofList [(182, (Fj36 Sj36))], isref, N⟩ 1 (anj131 N Sj36) (sg Pg 225 4 3) 0 (lsj212 d_ u_ i b b_1) { (finZ Pg 225 1 c_) with nrm := κn_ } = ((fits .i64 (Int.tdiv i 32)) && (cond (decide ((Int.tdiv i 32) < (((List.length b_1) : Nat) : Int))) ((fits .i64 (Int.tdiv i 32)) && ((inR (Int.tdiv i 32) (List.length b_1)) && ((decide (0 <= (IntKind.wrap .u64 (Int.tmod i 32)))) && (κn_ (lsj214 (.int .i64 i :: (dqs d_ 0 3 (.roi .u32 b_1 :: (dqs d_ 4 11 (.int .i64 i :: (.int .i64 (Int.tdiv i 32) :: (.roi .u32 b_1 :: (.int .i64 (((List.length b_1) : Nat) : Int) :: (.bool true :: (.roi .u32 b_1 :: (.int .i64 i :: (.int .i64 (Int.tdiv i 32) :: (.pi .u32 b_1 (Int.toNat (Int.tdiv i 32)) :: (.int .u32 (List.getD b_1 (Int.toNat (Int.tdiv i 32)) 0) :: (.int .i64 i :: (.int .i64 (Int.tmod i 32) :: (.int .u64 (IntKind.wrap .u64 (Int.tmod i 32)) :: (.int .u32 (Int.fdiv (List.getD b_1 (Int.toNat (Int.tdiv i 32)) 0) (2 ^ (min (Int.toNat (IntKind.wrap .u64 (Int.tmod i 32))) 32))) :: (.int .u32 (bitsN .and .u32 (Int.fdiv (List.getD b_1 (Int.toNat (Int.tdiv i 32)) 0) (2 ^ (min (Int.toNat (IntKind.wrap .u64 (Int.tmod i 32))) 32))) 1) :: (dqs d_ 30 8 [])))))))))))))))))))) [] i b b_1 (bitsN .and .u32 (Int.fdiv (List.getD b_1 (Int.toNat (Int.tdiv i 32)) 0) (2 ^ (min (Int.toNat (IntKind.wrap .u64 (Int.tmod i 32))) 32))) 1)))))) (κn_ (lsj214 (.int .i64 i :: (dqs d_ 0 3 (.roi .u32 b_1 :: (dqs d_ 4 11 (.int .i64 i :: (.int .i64 (Int.tdiv i 32) :: (.roi .u32 b_1 :: (.int .i64 (((List.length b_1) : Nat) : Int) :: (.bool false :: (dqs d_ 20 18 [])))))))))) [] i b b_1 0)))) := by kernel_rfl
theorem jnj212 (N : Nat) (Sj36 : TSj36) (d_ : List V) (u_ : List (Option Blk)) (i : Int) (b : Bool) (b_1 : List Int) (c_ : V -> List Blk -> Bool) : codesV ⟨Pg, ofList [(182, (Fj36 Sj36))], isref, N⟩ 1 (anj131 N Sj36) ((cds Pg 225).drop 4) 0 (lsj212 d_ u_ i b b_1) (finZ Pg 225 1 c_) = Jj212 N Sj36 i b b_1 (fun r0 => c_ (.int .u64 r0) [⟨105, 1, .cells [.bool b, .roi .u32 b_1]⟩]) := by
  rw [codesV_cut 4 3 7 rfl]
  refine (hdj212 N Sj36 d_ u_ i b b_1 c_ _).trans ?_
  simp only [jnj214]
  kernel_rfl
theorem jnj225 (N : Nat) (Sj36 : TSj36) (d_ : List V) (u_ : List (Option Blk)) (i : Int) (b : Bool) (b_1 : List Int) (b_2 : Int) (c_ : V -> List Blk -> Bool) : codesV ⟨Pg, ofList [(182, (Fj36 Sj36))], isref, N⟩ 1 (anj131 N Sj36) ((cds Pg 225).drop 7) 0 (lsj225 d_ u_ i b b_1 b_2) (finZ Pg 225 1 c_) = Jj225 N Sj36 i b b_1 b_2 (fun r0 => c_ (.int .u64 r0) [⟨105, 1, .cells [.bool b, .roi .u32 b_1]⟩]) := by kernel_rfl
theorem hdj213 (N : Nat) (Sj36 : TSj36) (d_ : List V) (u_ : List (Option Blk)) (i : Int) (b : Bool) (b_1 m : List Int) (c_ : V -> List Blk -> Bool) (κn_ : St -> Bool) : codesV ⟨Pg, ofList [(182, (Fj36 Sj36))], isref, N⟩ 1 (anj131 N Sj36) (sg Pg 225 4 3) 0 (lsj213 d_ u_ i b b_1 m) { (finZ Pg 225 1 c_) with nrm := κn_ } = ((fits .i64 (Int.tdiv i 32)) && (cond (decide ((Int.tdiv i 32) < (((List.length m) : Nat) : Int))) ((fits .i64 (Int.tdiv i 32)) && ((inR (Int.tdiv i 32) (List.length m)) && ((decide (0 <= (IntKind.wrap .u64 (Int.tmod i 32)))) && (κn_ (lsj225 (.int .i64 i :: (dqs d_ 0 3 (.roi .u32 m :: (dqs d_ 4 11 (.int .i64 i :: (.int .i64 (Int.tdiv i 32) :: (.roi .u32 m :: (.int .i64 (((List.length m) : Nat) : Int) :: (.bool true :: (.roi .u32 m :: (.int .i64 i :: (.int .i64 (Int.tdiv i 32) :: (.pi .u32 m (Int.toNat (Int.tdiv i 32)) :: (.int .u32 (List.getD m (Int.toNat (Int.tdiv i 32)) 0) :: (.int .i64 i :: (.int .i64 (Int.tmod i 32) :: (.int .u64 (IntKind.wrap .u64 (Int.tmod i 32)) :: (.int .u32 (Int.fdiv (List.getD m (Int.toNat (Int.tdiv i 32)) 0) (2 ^ (min (Int.toNat (IntKind.wrap .u64 (Int.tmod i 32))) 32))) :: (.int .u32 (bitsN .and .u32 (Int.fdiv (List.getD m (Int.toNat (Int.tdiv i 32)) 0) (2 ^ (min (Int.toNat (IntKind.wrap .u64 (Int.tmod i 32))) 32))) 1) :: (dqs d_ 30 8 [])))))))))))))))))))) [(u_.getD 0 none)] i b b_1 (bitsN .and .u32 (Int.fdiv (List.getD m (Int.toNat (Int.tdiv i 32)) 0) (2 ^ (min (Int.toNat (IntKind.wrap .u64 (Int.tmod i 32))) 32))) 1)))))) (κn_ (lsj225 (.int .i64 i :: (dqs d_ 0 3 (.roi .u32 m :: (dqs d_ 4 11 (.int .i64 i :: (.int .i64 (Int.tdiv i 32) :: (.roi .u32 m :: (.int .i64 (((List.length m) : Nat) : Int) :: (.bool false :: (dqs d_ 20 18 [])))))))))) [(u_.getD 0 none)] i b b_1 0)))) := by kernel_rfl
theorem jnj213 (N : Nat) (Sj36 : TSj36) (d_ : List V) (u_ : List (Option Blk)) (i : Int) (b : Bool) (b_1 m : List Int) (c_ : V -> List Blk -> Bool) : codesV ⟨Pg, ofList [(182, (Fj36 Sj36))], isref, N⟩ 1 (anj131 N Sj36) ((cds Pg 225).drop 4) 0 (lsj213 d_ u_ i b b_1 m) (finZ Pg 225 1 c_) = Jj213 N Sj36 i b b_1 m (fun r0 => c_ (.int .u64 r0) [⟨105, 1, .cells [.bool b, .roi .u32 b_1]⟩]) := by
  rw [codesV_cut 4 3 7 rfl]
  refine (hdj213 N Sj36 d_ u_ i b b_1 m c_ _).trans ?_
  simp only [jnj225]
  kernel_rfl
theorem hd_zi_Bit_p0r_w (N : Nat) (Sj36 : TSj36) (i : Int) (b : Bool) (b_1 : List Int) (c_ : V -> List Blk -> Bool) (κn_ : St -> Bool) : codesV ⟨Pg, ofList [(182, (Fj36 Sj36))], isref, N⟩ 1 (anj131 N Sj36) (sg Pg 225 0 4) 0 (st0 Pg 225 (shFj131.args [.int i, .bool b, .ints b_1]) [⟨105, 1, .cells [.bool b, .roi .u32 b_1]⟩]) { (finZ Pg 225 1 c_) with nrm := κn_ } = (cond b (Sj36 b_1 [1] (fun nsr => (κn_ (lsj213 [.any, .any, .int .u64 0, .any, .ptr 0 0, .ptr 0 0, .ptr 0 1, .roi .u32 b_1, .ptr 0 0, .ptr 0 0, .ptr 0 0, .bool true, .roi .u32 b_1, .slw 1, .roi .u32 nsr, .any, .any, .any, .any, .any, .any, .any, .any, .any, .any, .any, .any, .any, .any, .any, .any, .any, .any, .any, .any, .any, .any, .any] [none] i b b_1 nsr)))) (κn_ (lsj212 [.any, .any, .int .u64 0, .any, .ptr 0 0, .ptr 0 0, .ptr 0 1, .roi .u32 b_1, .ptr 0 0, .ptr 0 0, .ptr 0 0, .bool false, .any, .any, .any, .any, .any, .any, .any, .any, .any, .any, .any, .any, .any, .any, .any, .any, .any, .any, .any, .any, .any, .any, .any, .any, .any, .any] [] i b b_1))) := by kernel_rfl
theorem jn_zi_Bit_p0r_w (N : Nat) (Sj36 : TSj36) (i : Int) (b : Bool) (b_1 : List Int) (c_ : V -> List Blk -> Bool) : codesV ⟨Pg, ofList [(182, (Fj36 Sj36))], isref, N⟩ 1 (anj131 N Sj36) ((cds Pg 225).drop 0) 0 (st0 Pg 225 (shFj131.args [.int i, .bool b, .ints b_1]) [⟨105, 1, .cells [.bool b, .roi .u32 b_1]⟩]) (finZ Pg 225 1 c_) = Gj131 N Sj36 i b b_1 (fun r0 => c_ (.int .u64 r0) [⟨105, 1, .cells [.bool b, .roi .u32 b_1]⟩]) := by
  rw [codesV_cut 0 4 4 rfl]
  refine (hd_zi_Bit_p0r_w N Sj36 i b b_1 c_ _).trans ?_
  simp only [jnj213, jnj212]
  kernel_rfl
theorem eqj131 (N : Nat) (Sj36 : TSj36) (i : Int) (b : Bool) (b_1 : List Int) (c_ : V -> List Blk -> Bool) : bodyZ ⟨Pg, ofList [(182, (Fj36 Sj36))], isref, N⟩ (anj131 N Sj36) 225 (shFj131.args [.int i, .bool b, .ints b_1]) [⟨105, 1, .cells [.bool b, .roi .u32 b_1]⟩] c_ = Gj131 N Sj36 i b b_1 (fun r0 => c_ (.int .u64 r0) [⟨105, 1, .cells [.bool b, .roi .u32 b_1]⟩]) :=
  (bodyZ_codes (by kernel_rfl)).trans (jn_zi_Bit_p0r_w N Sj36 i b b_1 c_)
theorem goodj131 (N : Nat) (Sj36 : TSj36) (hj36 : GoodF Pg 182 (Fj36 Sj36)) : GoodF Pg 225 (Fj131 (Gj131 N Sj36)) := by
  refine good_fsZ (cx := ⟨Pg, ofList [(182, (Fj36 Sj36))], isref, N⟩) (ofList_cons hj36 (ofList_nil _)) shFj131 (spj131 (Gj131 N Sj36)) (anj131 N Sj36) 0 1 (by kernel_rfl) (fun i_ hi_ => by omega) ?_
  intro a k h
  unfold spj131 at h
  split at h
  · exact ⟨[_], rfl, rfl, (eqj131 _ _ _ _ _ _).trans h⟩
  · cases h

def anj22 (N : Nat) (Sj131 : TSj131) : Nat -> Option Ann := fun b_ => none
theorem eqj22 (N : Nat) (Sj131 : TSj131) (neg : Bool) (c : Int) (b : Bool) (b_1 : List Int) (c_ : V -> List Blk -> Bool) : bodyV ⟨Pg, ofList [(225, (Fj131 Sj131))], isref, N⟩ (anj22 N Sj131) 210 (shFj22.args [.bool neg, .int c, .bool b, .ints b_1]) [⟨105, 1, .cells [.bool b, .roi .u32 b_1]⟩] c_ = Gj22 N Sj131 neg c b b_1 (fun r0 => c_ (.bool r0) [⟨105, 1, .cells [.bool b, .roi .u32 b_1]⟩]) := by kernel_rfl
theorem goodj22 (N : Nat) (Sj131 : TSj131) (hj131 : GoodF Pg 225 (Fj131 Sj131)) : GoodF Pg 210 (Fj22 (Gj22 N Sj131)) := by
  refine good_fs (cx := ⟨Pg, ofList [(225, (Fj131 Sj131))], isref, N⟩) (ofList_cons hj131 (ofList_nil _)) shFj22 (spj22 (Gj22 N Sj131)) (anj22 N Sj131) 0 1 (by kernel_rfl) (fun i_ hi_ => by omega) ?_
  intro a k h
  unfold spj22 at h
  split at h
  · exact ⟨[_], rfl, rfl, (eqj22 _ _ _ _ _ _ _).trans h⟩
  · cases h

def anj93 (N : Nat) (Sj99 : TSj99) (Sj72 : TSj72) (Sj75 : TSj75) (Sj36 : TSj36) : Nat -> Option Ann := fun b_ => none
theorem eqj93 (N : Nat) (Sj99 : TSj99) (Sj72 : TSj72) (Sj75 : TSj75) (Sj36 : TSj36) (turn b : Bool) (b_1 : List Int) (b_2 : Bool) (b_3 : List Int) (c_ : V -> List Blk -> Bool) : bodyZ ⟨Pg, ofList [(180, (Fj99 Sj99)), (113, (Fj72 Sj72)), (181, (Fj75 Sj75)), (182, (Fj36 Sj36))], isref, N⟩ (anj93 N Sj99 Sj72 Sj75 Sj36) 145 (shFj93.args [.bool turn, .bool b, .ints b_1, .bool b_2, .ints b_3]) [⟨105, 1, .cells [.bool b, .roi .u32 b_1]⟩, ⟨105, 1, .cells [.bool b_2, .roi .u32 b_3]⟩] c_ = Gj93 N Sj99 Sj72 Sj75 Sj36 turn b b_1 b_2 b_3 (fun r0 r1 => c_ (.ptr 0 0) [⟨105, 1, .cells [.bool r0, .roi .u32 r1]⟩, ⟨105, 1, .cells [.bool b_2, .roi .u32 b_3]⟩]) := by kernel_rfl
theorem goodj93 (N : Nat) (Sj99 : TSj99) (Sj72 : TSj72) (Sj75 : TSj75) (Sj36 : TSj36) (hj99 : GoodF Pg 180 (Fj99 Sj99)) (hj72 : GoodF Pg 113 (Fj72 Sj72)) (hj75 : GoodF Pg 181 (Fj75 Sj75)) (hj36 : GoodF Pg 182 (Fj36 Sj36)) : GoodF Pg 145 (Fj93 (Gj93 N Sj99 Sj72 Sj75 Sj36)) := by
  refine good_fsZ (cx := ⟨Pg, ofList [(180, (Fj99 Sj99)), (113, (Fj72 Sj72)), (181, (Fj75 Sj75)), (182, (Fj36 Sj36))], isref, N⟩) (ofList_cons hj99 (ofList_cons hj72 (ofList_cons hj75 (ofList_cons hj36 (ofList_nil _))))) shFj93 (spj93 (Gj93 N Sj99 Sj72 Sj75 Sj36)) (anj93 N Sj99 Sj72 Sj75 Sj36) 0 2 (by kernel_rfl) (fun i_ hi_ => by omega) ?_
  intro a k h
  unfold spj93 at h
  split at h
  · exact ⟨[_, _], rfl, rfl, (eqj93 _ _ _ _ _ _ _ _ _ _ _).trans h⟩
  · cases h

def anj2 (N : Nat) (Sj93 : TSj93) : Nat -> Option Ann := fun b_ => none
theorem eqj2 (N : Nat) (Sj93 : TSj93) (b : Bool) (b_1 : List Int) (b_2 : Bool) (b_3 : List Int) (c_ : V -> List Blk -> Bool) : bodyZ ⟨Pg, ofList [(145, (Fj93 Sj93))], isref, N⟩ (anj2 N Sj93) 111 (shFj2.args [.bool b, .ints b_1, .bool b_2, .ints b_3]) [⟨105, 1, .cells [.bool b, .roi .u32 b_1]⟩, ⟨105, 1, .cells [.bool b_2, .roi .u32 b_3]⟩] c_ = Gj2 N Sj93 b b_1 b_2 b_3 (fun r0 r1 => c_ (.ptr 0 0) [⟨105, 1, .cells [.bool r0, .roi .u32 r1]⟩, ⟨105, 1, .cells [.bool b_2, .roi .u32 b_3]⟩]) := by kernel_rfl
theorem goodj2 (N : Nat) (Sj93 : TSj93) (hj93 : GoodF Pg 145 (Fj93 Sj93)) : GoodF Pg 111 (Fj2 (Gj2 N Sj93)) := by
  refine good_fsZ (cx := ⟨Pg, ofList [(145, (Fj93 Sj93))], isref, N⟩) (ofList_cons hj93 (ofList_nil _)) shFj2 (spj2 (Gj2 N Sj93)) (anj2 N Sj93) 0 2 (by kernel_rfl) (fun i_ hi_ => by omega) ?_
  intro a k h
  unfold spj2 at h
  split at h
  · exact ⟨[_, _], rfl, rfl, (eqj2 _ _ _ _ _ _ _).trans h⟩
  · cases h

def anj12 (N : Nat) (Sj126 : TSj126) (Sj72 : TSj72) (Sj36 : TSj36) (Sj99 : TSj99) : Nat -> Option Ann := fun b_ => none
theorem eqj12 (N : Nat) (Sj126 : TSj126) (Sj72 : TSj72) (Sj36 : TSj36) (Sj99 : TSj99) (n : Int) (b : Bool) (b_1 : List Int) (c_ : V -> List Blk -> Bool) : bodyZ ⟨Pg, ofList [(226, (Fj126 Sj126)), (113, (Fj72 Sj72)), (182, (Fj36 Sj36)), (180, (Fj99 Sj99))], isref, N⟩ (anj12 N Sj126 Sj72 Sj36 Sj99) 211 (shFj12.args [.int n, .bool b, .ints b_1]) [⟨105, 1, .cells [.bool b, .roi .u32 b_1]⟩] c_ = Gj12 N Sj126 Sj72 Sj36 Sj99 n b b_1 (fun r0 r1 => c_ (.ptr 0 0) [⟨105, 1, .cells [.bool r0, .roi .u32 r1]⟩]) := by kernel_rfl
theorem goodj12 (N : Nat) (Sj126 : TSj126) (Sj72 : TSj72) (Sj36 : TSj36) (Sj99 : TSj99) (hj126 : GoodF Pg 226 (Fj126 Sj126)) (hj72 : GoodF Pg 113 (Fj72 Sj72)) (hj36 : GoodF Pg 182 (Fj36 Sj36)) (hj99 : GoodF Pg 180 (Fj99 Sj99)) : GoodF Pg 211 (Fj12 (Gj12 N Sj126 Sj72 Sj36 Sj99)) := by
  refine good_fsZ (cx := ⟨Pg, ofList [(226, (Fj126 Sj126)), (113, (Fj72 Sj72)), (182, (Fj36 Sj36)), (180, (Fj99 Sj99))], isref, N⟩) (ofList_cons hj126 (ofList_cons hj72 (ofList_cons hj36 (ofList_cons hj99 (ofList_nil _))))) shFj12 (spj12 (Gj12 N Sj126 Sj72 Sj36 Sj99)) (anj12 N Sj126 Sj72 Sj36 Sj99) 0 1 (by kernel_rfl) (fun i_ hi_ => by omega) ?_
  intro a k h
  unfold spj12 at h
  split at h
  · exact ⟨[_], rfl, rfl, (eqj12 _ _ _ _ _ _ _ _ _).trans h⟩
  · cases h

def anj65 (N : Nat) (Sj103 : TSj103) : Nat -> Option Ann := fun b_ => none
theorem eqj65 (N : Nat) (Sj103 : TSj103) (neg : Bool) (c_ : V -> List Blk -> Bool) : bodyV ⟨Pg, ofList [(185, (Fj103 Sj103))], isref, N⟩ (anj65 N Sj103) 212 (shFj65.args [.bool neg]) [] c_ = Gj65 N Sj103 neg (fun r0 => c_ (.int .u64 r0) []) := by kernel_rfl
theorem goodj65 (N : Nat) (Sj103 : TSj103) (hj103 : GoodF Pg 185 (Fj103 Sj103)) : GoodF Pg 212 (Fj65 (Gj65 N Sj103)) := by
  refine good_fs (cx := ⟨Pg, ofList [(185, (Fj103 Sj103))], isref, N⟩) (ofList_cons hj103 (ofList_nil _)) shFj65 (spj65 (Gj65 N Sj103)) (anj65 N Sj103) 0 0 (by kernel_rfl) (fun i_ hi_ => by omega) ?_
  intro a k h
  unfold spj65 at h
  split at h
  · exact ⟨[], rfl, rfl, (eqj65 _ _ _ _).trans h⟩
  · cases h

def anj7 (N : Nat) : Nat -> Option Ann := fun b_ => none
def lsj208 (d_ : List V) (u_ : List (Option Blk)) (b : Bool) (b_1 : List Int) (u : Int) : St := ⟨(.ptr 0 0 :: ((dq d_ 0) :: ((dq d_ 1) :: (.int .u64 u :: (dqs d_ 2 30 []))))), [some ⟨105, 1, .cells [.bool b, .roi .u32 b_1]⟩]⟩
theorem jnj208 (N : Nat) (d_ : List V) (u_ : List (Option Blk)) (b : Bool) (b_1 : List Int) (u : Int) (c_ : V -> List Blk -> Bool) : codesV ⟨Pg, ofList [], isref, N⟩ 1 (anj7 N) ((cds Pg 213).drop 4) 0 (lsj208 d_ u_ b b_1 u) (finZ Pg 213 1 c_) = Jj208 N b b_1 u (fun r0 => c_ (.int .u64 r0) [⟨105, 1, .cells [.bool b, .roi .u32 b_1]⟩]) := by kernel_rfl
theorem hd_zi_Uint64_p0r_w (N : Nat) (b : Bool) (b_1 : List Int) (c_ : V -> List Blk -> Bool) (κn_ : St -> Bool) : codesV ⟨Pg, ofList [], isref, N⟩ 1 (anj7 N) (sg Pg 213 0 4) 0 (st0 Pg 213 (shFj7.args [.bool b, .ints b_1]) [⟨105, 1, .cells [.bool b, .roi .u32 b_1]⟩]) { (finZ Pg 213 1 c_) with nrm := κn_ } = (cond (decide ((((List.length b_1) : Nat) : Int) > 0)) ((inR 0 (List.length b_1)) && (κn_ (lsj208 [.any, .int .u64 0, .ptr 0 0, .ptr 0 0, .ptr 0 1, .roi .u32 b_1, .int .i64 (((List.length b_1) : Nat) : Int), .bool true, .ptr 0 0, .ptr 0 0, .ptr 0 1, .roi .u32 b_1, .pi .u32 b_1 0, .int .u32 (List.getD b_1 0 0), .int .u64 (IntKind.wrap .u64 (List.getD b_1 0 0)), .any, .any, .any, .any, .any, .any, .any, .any, .any, .any, .any, .any, .any, .any, .any, .any, .any] [] b b_1 (IntKind.wrap .u64 (List.getD b_1 0 0))))) (κn_ (lsj208 [.any, .int .u64 0, .ptr 0 0, .ptr 0 0, .ptr 0 1, .roi .u32 b_1, .int .i64 (((List.length b_1) : Nat) : Int), .bool false, .any, .any, .any, .any, .any, .any, .any, .any, .any, .any, .any, .any, .any, .any, .any, .any, .any, .any, .any, .any, .any, .any, .any, .any] [] b b_1 0))) := by kernel_rfl
theorem jn_zi_Uint64_p0r_w (N : Nat) (b : Bool) (b_1 : List Int) (c_ : V -> List Blk -> Bool) : codesV ⟨Pg, ofList [], isref, N⟩ 1 (anj7 N) ((cds Pg 213).drop 0) 0 (st0 Pg 213 (shFj7.args [.bool b, .ints b_1]) [⟨105, 1, .cells [.bool b, .roi .u32 b_1]⟩]) (finZ Pg 213 1 c_) = Gj7 N b b_1 (fun r0 => c_ (.int .u64 r0) [⟨105, 1, .cells [.bool b, .roi .u32 b_1]⟩]) := by
  rw [codesV_cut 0 4 4 rfl]
  refine (hd_zi_Uint64_p0r_w N b b_1 c_ _).trans ?_
  simp only [jnj208]
  kernel_rfl
theorem eqj7 (N : Nat) (b : Bool) (b_1 : List Int) (c_ : V -> List Blk -> Bool) : bodyZ ⟨Pg, ofList [], isref, N⟩ (anj7 N) 213 (shFj7.args [.bool b, .ints b_1]) [⟨105, 1, .cells [.bool b, .roi .u32 b_1]⟩] c_ = Gj7 N b b_1 (fun r0 => c_ (.int .u64 r0) [⟨105, 1, .cells [.bool b, .roi .u32 b_1]⟩]) :=
  (bodyZ_codes (by kernel_rfl)).trans (jn_zi_Uint64_p0r_w N b b_1 c_)
theorem goodj7 (N : Nat) : GoodF Pg 213 (Fj7 (Gj7 N)) := by
  refine good_fsZ (cx := ⟨Pg, ofList [], isref, N⟩) (ofList_nil _) shFj7 (spj7 (Gj7 N)) (anj7 N) 0 1 (by kernel_rfl) (fun i_ hi_ => by omega) ?_
  intro a k h
  unfold spj7 at h
  split at h
  · exact ⟨[_], rfl, rfl, (eqj7 _ _ _ _).trans h⟩
  · cases h

end Go.Proofs.YtccocdgimamdhaaGreatDoor
