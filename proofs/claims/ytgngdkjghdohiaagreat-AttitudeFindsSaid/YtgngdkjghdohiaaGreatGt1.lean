/-
  THE TIES: each printed meaning is what the program does (written by program).
  Conditions: none.
-/
import Derived.Test.YtgngdkjghdohiaaGreatGp
namespace Go.Proofs.YtgngdkjghdohiaaGreat
open Go Go.Mach Go.Proofs
set_option linter.unusedVariables false
set_option maxRecDepth 50000

def sh_st_binnacleref00_compare_0 : StSh := ⟨(.roi .u32 :: (.roi .u32 :: (.any :: (.any :: (.any :: (.int .i64 :: (sqs 35 []))))))), []⟩
def sx0_st_binnacleref00_compare_0 : StSh := ⟨(sqs 4 (.int .i64 :: (sqs 36 []))), []⟩
def sx1_st_binnacleref00_compare_0 : StSh := ⟨(sqs 41 []), []⟩
def hk_st_binnacleref00_compare_0 (N : Nat) : List Atom -> K -> Bool := fun a_ κ => match a_ with
  | [.ints a_1, .ints b_1, .int i] => iterG N (stZ132 N a_1 b_1 (fun r0 => κ.ret (sx0_st_binnacleref00_compare_0.build [.int r0])) (κ.ext 0 (sx1_st_binnacleref00_compare_0.build []))) i
  | _ => false
def anZ70 (N : Nat) : Nat -> Option Ann := fun b_ => cond (b_ == 0) (some ⟨⟨[0, 1, 5], [], []⟩, [(0, ⟨[], [], []⟩)], some ⟨[4], [], []⟩, some (mkHooks [(sh_st_binnacleref00_compare_0, hk_st_binnacleref00_compare_0 N)])⟩) (none)
theorem eq_st_binnacleref00_compare_0 (N : Nat) (κ : K) (a_1 b_1 : List Int) (i : Int) : iter N (fun s k => codeV ⟨Pg, ofList [], isref, N⟩ 0 (anZ70 N) (lp Pg 166 0).2 (lp Pg 166 0).1 s (roundK Pg 0 ((anZ70 N) (lp Pg 166 0).1) κ k)) (sh_st_binnacleref00_compare_0.build [.ints a_1, .ints b_1, .int i]) = iterG N (stZ132 N a_1 b_1 (fun r0 => κ.ret (sx0_st_binnacleref00_compare_0.build [.int r0])) (κ.ext 0 (sx1_st_binnacleref00_compare_0.build []))) i :=
  iter_tr (fun v_ => sh_st_binnacleref00_compare_0.build [.ints a_1, .ints b_1, .int v_]) (fun v_ K_ => by kernel_rfl) N i
theorem hk1_st_binnacleref00_compare_0 (N : Nat) : HookFor ⟨Pg, ofList [], isref, N⟩ 0 (anZ70 N) (lp Pg 166 0) (sh_st_binnacleref00_compare_0, hk_st_binnacleref00_compare_0 N) := by
  intro a κ h
  simp only at h
  unfold hk_st_binnacleref00_compare_0 at h
  split at h
  · exact (eq_st_binnacleref00_compare_0 _ _ _ _ _).trans h
  · cases h
theorem ho_binnacleref00_compare_0 (N : Nat) : HookOk ⟨Pg, ofList [], isref, N⟩ 0 (anZ70 N) (lp Pg 166 0) :=
  hooks_ok [(sh_st_binnacleref00_compare_0, hk_st_binnacleref00_compare_0 N)] (by kernel_rfl) ⟨hk1_st_binnacleref00_compare_0 _, trivial⟩
theorem eqZ70 (N : Nat) (a b : List Int) (c_ : V -> List Blk -> Bool) : bodyZ ⟨Pg, ofList [], isref, N⟩ (anZ70 N) 166 (shFZ70.args [.ints a, .ints b]) [] c_ = GZ70 N a b (fun r0 => c_ (.int .i64 r0) []) := by kernel_rfl
theorem goodZ70 (N : Nat) : GoodF Pg 166 (FZ70 (GZ70 N)) := by
  refine good_fsZ (cx := ⟨Pg, ofList [], isref, N⟩) (ofList_nil _) shFZ70 (spZ70 (GZ70 N)) (anZ70 N) 1 0 (by kernel_rfl) (fun i_ hi_ => by
    match i_, hi_ with
    | 0, _ => exact ho_binnacleref00_compare_0 _
    | (q + 1), h => omega) ?_
  intro a k h
  unfold spZ70 at h
  split at h
  · exact ⟨[], rfl, rfl, (eqZ70 _ _ _ _).trans h⟩
  · cases h

def sh_st_binnacleref00_minus_0 : StSh := ⟨(.roi .u32 :: (.roi .u32 :: (.any :: (.any :: (.any :: (.slw 0 :: (.int .u64 :: (.int .i64 :: (sqs 48 []))))))))), [some (213, 1, .ints .u32)]⟩
def sx0_st_binnacleref00_minus_0 : StSh := ⟨(sqs 5 (.slw 0 :: (sqs 50 []))), [some (213, 1, .ints .u32)]⟩
def hk_st_binnacleref00_minus_0 (N : Nat) (SZ7 : TSZ7) : List Atom -> K -> Bool := fun a_ κ => match a_ with
  | [.ints a_1, .ints b_1, .int borrow, .int i, .ints out] => iterG N (st_z00_minus_0 N SZ7 a_1 b_1 (fun r0 => κ.ext 0 (sx0_st_binnacleref00_minus_0.build [.ints r0]))) (borrow, i, out)
  | _ => false
def anZ89 (N : Nat) (SZ7 : TSZ7) : Nat -> Option Ann := fun b_ => cond (b_ == 0) (some ⟨⟨[0, 1, 5, 6, 7], [], []⟩, [(0, ⟨[5], [], []⟩)], some ⟨[4], [], []⟩, some (mkHooks [(sh_st_binnacleref00_minus_0, hk_st_binnacleref00_minus_0 N SZ7)])⟩) (none)
theorem eq_st_binnacleref00_minus_0 (N : Nat) (SZ7 : TSZ7) (κ : K) (a_1 b_1 : List Int) (borrow i : Int) (out : List Int) : iter N (fun s k => codeV ⟨Pg, ofList [(164, (FZ7 SZ7))], isref, N⟩ 0 (anZ89 N SZ7) (lp Pg 167 0).2 (lp Pg 167 0).1 s (roundK Pg 0 ((anZ89 N SZ7) (lp Pg 167 0).1) κ k)) (sh_st_binnacleref00_minus_0.build [.ints a_1, .ints b_1, .int borrow, .int i, .ints out]) = iterG N (st_z00_minus_0 N SZ7 a_1 b_1 (fun r0 => κ.ext 0 (sx0_st_binnacleref00_minus_0.build [.ints r0]))) (borrow, i, out) :=
  iter_tr (fun (v_ : Int × Int × List Int) => sh_st_binnacleref00_minus_0.build [.ints a_1, .ints b_1, .int v_.1, .int v_.2.1, .ints v_.2.2]) (fun v_ K_ => by obtain ⟨borrow, i, out⟩ := v_; kernel_rfl) N (borrow, i, out)
theorem hk1_st_binnacleref00_minus_0 (N : Nat) (SZ7 : TSZ7) : HookFor ⟨Pg, ofList [(164, (FZ7 SZ7))], isref, N⟩ 0 (anZ89 N SZ7) (lp Pg 167 0) (sh_st_binnacleref00_minus_0, hk_st_binnacleref00_minus_0 N SZ7) := by
  intro a κ h
  simp only at h
  unfold hk_st_binnacleref00_minus_0 at h
  split at h
  · exact (eq_st_binnacleref00_minus_0 _ _ _ _ _ _ _ _).trans h
  · cases h
theorem ho_binnacleref00_minus_0 (N : Nat) (SZ7 : TSZ7) : HookOk ⟨Pg, ofList [(164, (FZ7 SZ7))], isref, N⟩ 0 (anZ89 N SZ7) (lp Pg 167 0) :=
  hooks_ok [(sh_st_binnacleref00_minus_0, hk_st_binnacleref00_minus_0 N SZ7)] (by kernel_rfl) ⟨hk1_st_binnacleref00_minus_0 _ _, trivial⟩
theorem eqZ89 (N : Nat) (SZ7 : TSZ7) (a b : List Int) (c_ : V -> List Blk -> Bool) : bodyZ ⟨Pg, ofList [(164, (FZ7 SZ7))], isref, N⟩ (anZ89 N SZ7) 167 (shFZ89.args [.ints a, .ints b]) [] c_ = GZ89 N SZ7 a b (fun r0 => c_ (.roi .u32 r0) []) := by kernel_rfl
theorem goodZ89 (N : Nat) (SZ7 : TSZ7) (hZ7 : GoodF Pg 164 (FZ7 SZ7)) : GoodF Pg 167 (FZ89 (GZ89 N SZ7)) := by
  refine good_fsZ (cx := ⟨Pg, ofList [(164, (FZ7 SZ7))], isref, N⟩) (ofList_cons hZ7 (ofList_nil _)) shFZ89 (spZ89 (GZ89 N SZ7)) (anZ89 N SZ7) 1 0 (by kernel_rfl) (fun i_ hi_ => by
    match i_, hi_ with
    | 0, _ => exact ho_binnacleref00_minus_0 _ _
    | (q + 1), h => omega) ?_
  intro a k h
  unfold spZ89 at h
  split at h
  · exact ⟨[], rfl, rfl, (eqZ89 _ _ _ _ _).trans h⟩
  · cases h

def anZ29 (N : Nat) (SZ106 : TSZ106) (SZ14 : TSZ14) (SZ70 : TSZ70) (SZ89 : TSZ89) : Nat -> Option Ann := fun b_ => none
theorem eqZ29 (N : Nat) (SZ106 : TSZ106) (SZ14 : TSZ14) (SZ70 : TSZ70) (SZ89 : TSZ89) (turn b b_1 : Bool) (b_2 : List Int) (b_3 : Bool) (b_4 : List Int) (c_ : V -> List Blk -> Bool) : bodyZ ⟨Pg, ofList [(165, (FZ106 SZ106)), (96, (FZ14 SZ14)), (166, (FZ70 SZ70)), (167, (FZ89 SZ89))], isref, N⟩ (anZ29 N SZ106 SZ14 SZ70 SZ89) 98 (shFZ29.args [.bool turn, .bool b, .bool b_1, .ints b_2, .bool b_3, .ints b_4]) [⟨91, 1, .cells [.bool b, .nil]⟩, ⟨91, 1, .cells [.bool b_1, .roi .u32 b_2]⟩, ⟨91, 1, .cells [.bool b_3, .roi .u32 b_4]⟩] c_ = GZ29 N SZ106 SZ14 SZ70 SZ89 turn b b_1 b_2 b_3 b_4 (fun r0 r1 => c_ (.ptr 0 0) [⟨91, 1, .cells [.bool r0, .roi .u32 r1]⟩, ⟨91, 1, .cells [.bool b_1, .roi .u32 b_2]⟩, ⟨91, 1, .cells [.bool b_3, .roi .u32 b_4]⟩]) := by kernel_rfl
theorem goodZ29 (N : Nat) (SZ106 : TSZ106) (SZ14 : TSZ14) (SZ70 : TSZ70) (SZ89 : TSZ89) (hZ106 : GoodF Pg 165 (FZ106 SZ106)) (hZ14 : GoodF Pg 96 (FZ14 SZ14)) (hZ70 : GoodF Pg 166 (FZ70 SZ70)) (hZ89 : GoodF Pg 167 (FZ89 SZ89)) : GoodF Pg 98 (FZ29 (GZ29 N SZ106 SZ14 SZ70 SZ89)) := by
  refine good_fsZ (cx := ⟨Pg, ofList [(165, (FZ106 SZ106)), (96, (FZ14 SZ14)), (166, (FZ70 SZ70)), (167, (FZ89 SZ89))], isref, N⟩) (ofList_cons hZ106 (ofList_cons hZ14 (ofList_cons hZ70 (ofList_cons hZ89 (ofList_nil _))))) shFZ29 (spZ29 (GZ29 N SZ106 SZ14 SZ70 SZ89)) (anZ29 N SZ106 SZ14 SZ70 SZ89) 0 3 (by kernel_rfl) (fun i_ hi_ => by omega) ?_
  intro a k h
  unfold spZ29 at h
  split at h
  · exact ⟨[_, _, _], rfl, rfl, (eqZ29 _ _ _ _ _ _ _ _ _ _ _ _).trans h⟩
  · cases h

def anZ16 (N : Nat) (SZ29 : TSZ29) : Nat -> Option Ann := fun b_ => none
theorem eqZ16 (N : Nat) (SZ29 : TSZ29) (b b_1 : Bool) (b_2 : List Int) (b_3 : Bool) (b_4 : List Int) (c_ : V -> List Blk -> Bool) : bodyZ ⟨Pg, ofList [(98, (FZ29 SZ29))], isref, N⟩ (anZ16 N SZ29) 43 (shFZ16.args [.bool b, .bool b_1, .ints b_2, .bool b_3, .ints b_4]) [⟨91, 1, .cells [.bool b, .nil]⟩, ⟨91, 1, .cells [.bool b_1, .roi .u32 b_2]⟩, ⟨91, 1, .cells [.bool b_3, .roi .u32 b_4]⟩] c_ = GZ16 N SZ29 b b_1 b_2 b_3 b_4 (fun r0 r1 => c_ (.ptr 0 0) [⟨91, 1, .cells [.bool r0, .roi .u32 r1]⟩, ⟨91, 1, .cells [.bool b_1, .roi .u32 b_2]⟩, ⟨91, 1, .cells [.bool b_3, .roi .u32 b_4]⟩]) := by kernel_rfl
theorem goodZ16 (N : Nat) (SZ29 : TSZ29) (hZ29 : GoodF Pg 98 (FZ29 SZ29)) : GoodF Pg 43 (FZ16 (GZ16 N SZ29)) := by
  refine good_fsZ (cx := ⟨Pg, ofList [(98, (FZ29 SZ29))], isref, N⟩) (ofList_cons hZ29 (ofList_nil _)) shFZ16 (spZ16 (GZ16 N SZ29)) (anZ16 N SZ29) 0 3 (by kernel_rfl) (fun i_ hi_ => by omega) ?_
  intro a k h
  unfold spZ16 at h
  split at h
  · exact ⟨[_, _, _], rfl, rfl, (eqZ16 _ _ _ _ _ _ _ _).trans h⟩
  · cases h

def anZ2 (N : Nat) (SZ77 : TSZ77) (SZ11 : TSZ11) (SZ13 : TSZ13) (SZ16 : TSZ16) : Nat -> Option Ann := fun b_ => none
theorem eqZ2 (N : Nat) (SZ77 : TSZ77) (SZ11 : TSZ11) (SZ13 : TSZ13) (SZ16 : TSZ16) (x y : Int) (b b_1 : Bool) (b_2 : List Int) (c_ : V -> List Blk -> Bool) : bodyV ⟨Pg, ofList [(14, (orFs (FZ77 SZ77) (FZ11 SZ11) shFZ77)), (44, (FZ13 SZ13)), (43, (FZ16 SZ16))], isref, N⟩ (anZ2 N SZ77 SZ11 SZ13 SZ16) 15 (shFZ2.args [.int x, .int y, .bool b, .bool b_1, .ints b_2]) [⟨91, 1, .cells [.bool b, .nil]⟩, ⟨91, 1, .cells [.bool b_1, .roi .u32 b_2]⟩] c_ = GZ2 N SZ77 SZ11 SZ13 SZ16 x y b b_1 b_2 (fun r2 => c_ (.agg [.ptr 1 0, .int .i64 y]) [⟨91, 1, .cells [.bool b, .roi .u32 r2]⟩, ⟨91, 1, .cells [.bool b_1, .roi .u32 b_2]⟩]) (fun r2 => c_ (.agg [.ptr 0 0, .int .i64 x]) [⟨91, 1, .cells [.bool b, .roi .u32 r2]⟩, ⟨91, 1, .cells [.bool b_1, .roi .u32 b_2]⟩]) (fun r0 r2 r5 r6 => c_ (.agg [.ptr 2 0, .int .i64 r0]) [⟨91, 1, .cells [.bool b, .roi .u32 r2]⟩, ⟨91, 1, .cells [.bool b_1, .roi .u32 b_2]⟩, ⟨91, 1, .cells [.bool r5, .roi .u32 r6]⟩]) := by kernel_rfl
theorem goodZ2 (N : Nat) (SZ77 : TSZ77) (SZ11 : TSZ11) (SZ13 : TSZ13) (SZ16 : TSZ16) (hZ77 : GoodF Pg 14 (FZ77 SZ77)) (hZ11 : GoodF Pg 14 (FZ11 SZ11)) (hZ13 : GoodF Pg 44 (FZ13 SZ13)) (hZ16 : GoodF Pg 43 (FZ16 SZ16)) : GoodF Pg 15 (FZ2 (GZ2 N SZ77 SZ11 SZ13 SZ16)) := by
  refine good_fs (cx := ⟨Pg, ofList [(14, (orFs (FZ77 SZ77) (FZ11 SZ11) shFZ77)), (44, (FZ13 SZ13)), (43, (FZ16 SZ16))], isref, N⟩) (ofList_cons (good_or hZ77 hZ11) (ofList_cons hZ13 (ofList_cons hZ16 (ofList_nil _)))) shFZ2 (spZ2 (GZ2 N SZ77 SZ11 SZ13 SZ16)) (anZ2 N SZ77 SZ11 SZ13 SZ16) 0 2 (by kernel_rfl) (fun i_ hi_ => by omega) ?_
  intro a k h
  unfold spZ2 at h
  split at h
  · exact ⟨[_, _], rfl, rfl, (eqZ2 _ _ _ _ _ _ _ _ _ _ _).trans h⟩
  · cases h

def anZ0 (N : Nat) (SZ11 : TSZ11) (SZ13 : TSZ13) (SZ16 : TSZ16) : Nat -> Option Ann := fun b_ => none
theorem eqZ0 (N : Nat) (SZ11 : TSZ11) (SZ13 : TSZ13) (SZ16 : TSZ16) (x y : Int) (b : Bool) (b_1 : List Int) (b_2 : Bool) (b_3 : List Int) (c_ : V -> List Blk -> Bool) : bodyV ⟨Pg, ofList [(14, (FZ11 SZ11)), (44, (FZ13 SZ13)), (43, (FZ16 SZ16))], isref, N⟩ (anZ0 N SZ11 SZ13 SZ16) 15 (shFZ0.args [.int x, .int y, .bool b, .ints b_1, .bool b_2, .ints b_3]) [⟨91, 1, .cells [.bool b, .roi .u32 b_1]⟩, ⟨91, 1, .cells [.bool b_2, .roi .u32 b_3]⟩] c_ = GZ0 N SZ11 SZ13 SZ16 x y b b_1 b_2 b_3 (c_ (.agg [.ptr 1 0, .int .i64 y]) [⟨91, 1, .cells [.bool b, .roi .u32 b_1]⟩, ⟨91, 1, .cells [.bool b_2, .roi .u32 b_3]⟩]) (c_ (.agg [.ptr 0 0, .int .i64 x]) [⟨91, 1, .cells [.bool b, .roi .u32 b_1]⟩, ⟨91, 1, .cells [.bool b_2, .roi .u32 b_3]⟩]) (fun r0 r5 r6 => c_ (.agg [.ptr 2 0, .int .i64 r0]) [⟨91, 1, .cells [.bool b, .roi .u32 b_1]⟩, ⟨91, 1, .cells [.bool b_2, .roi .u32 b_3]⟩, ⟨91, 1, .cells [.bool r5, .roi .u32 r6]⟩]) := by kernel_rfl
theorem goodZ0 (N : Nat) (SZ11 : TSZ11) (SZ13 : TSZ13) (SZ16 : TSZ16) (hZ11 : GoodF Pg 14 (FZ11 SZ11)) (hZ13 : GoodF Pg 44 (FZ13 SZ13)) (hZ16 : GoodF Pg 43 (FZ16 SZ16)) : GoodF Pg 15 (FZ0 (GZ0 N SZ11 SZ13 SZ16)) := by
  refine good_fs (cx := ⟨Pg, ofList [(14, (FZ11 SZ11)), (44, (FZ13 SZ13)), (43, (FZ16 SZ16))], isref, N⟩) (ofList_cons hZ11 (ofList_cons hZ13 (ofList_cons hZ16 (ofList_nil _)))) shFZ0 (spZ0 (GZ0 N SZ11 SZ13 SZ16)) (anZ0 N SZ11 SZ13 SZ16) 0 2 (by kernel_rfl) (fun i_ hi_ => by omega) ?_
  intro a k h
  unfold spZ0 at h
  split at h
  · exact ⟨[_, _], rfl, rfl, (eqZ0 _ _ _ _ _ _ _ _ _ _ _).trans h⟩
  · cases h

def sh_st_binnacleref03_Dot_0 : StSh := ⟨(.rof :: (.rof :: (.any :: (.any :: (.ptr 0 0 :: (.ptr 1 0 :: (.any :: (.any :: (.any :: (.int .i64 :: (.int .i64 :: (sqs 17 [])))))))))))), [some (42, 1, .cells [.val, .int .i64]), some (42, 1, .cells [.ptr 2 0, .int .i64]), some (91, 1, .cells [.bool, .roi .u32])]⟩
def sx0_st_binnacleref03_Dot_0 : StSh := ⟨(sqs 4 (.ptr 0 0 :: (.ptr 1 0 :: (sqs 22 [])))), [some (42, 1, .cells [.val, .int .i64]), some (42, 1, .cells [.ptr 2 0, .int .i64]), some (91, 1, .cells [.bool, .roi .u32])]⟩
def hk_st_binnacleref03_Dot_0 (N : Nat) (SZ41 : TSZ41) (SZ102 : TSZ102) (SZ1 : TSZ1) (SZ2 : TSZ2) (SZ0 : TSZ0) : List Atom -> K -> Bool := fun a_ κ => match a_ with
  | [.fls a_2, .fls b_2, .int t9_1, .int t10_1, .val t4_2, .int t4_3, .int s_1, .bool b2_1, .ints b2_2] => iterG N (st_z03_Dot_0 N SZ41 SZ102 SZ1 SZ2 SZ0 a_2 b_2 t9_1 t4_2 t4_3 (fun r2 r3 r4 => κ.ext 0 (sx0_st_binnacleref03_Dot_0.build [.val t4_2, .int t4_3, .int r2, .bool r3, .ints r4]))) (t10_1, s_1, b2_1, b2_2)
  | _ => false
def anZ119 (N : Nat) (SZ41 : TSZ41) (SZ102 : TSZ102) (SZ1 : TSZ1) (SZ2 : TSZ2) (SZ0 : TSZ0) : Nat -> Option Ann := fun b_ => cond (b_ == 0) (some ⟨⟨[0, 1, 4, 5, 9, 10], [], [(2, 1, some .u32)]⟩, [(0, ⟨[4, 5], [], []⟩)], some ⟨[4], [], []⟩, some (mkHooks [(sh_st_binnacleref03_Dot_0, hk_st_binnacleref03_Dot_0 N SZ41 SZ102 SZ1 SZ2 SZ0)])⟩) (none)
theorem eq_st_binnacleref03_Dot_0 (N : Nat) (SZ41 : TSZ41) (SZ102 : TSZ102) (SZ1 : TSZ1) (SZ2 : TSZ2) (SZ0 : TSZ0) (κ : K) (a_2 b_2 : List Fl) (t9_1 t10_1 : Int) (t4_2 : Value) (t4_3 s_1 : Int) (b2_1 : Bool) (b2_2 : List Int) : iter N (fun s k => codeV ⟨Pg, ofList [(41, (FZ41 SZ41)), (40, (FZ102 SZ102)), (13, (FZ1 SZ1)), (15, (orFs (FZ2 SZ2) (FZ0 SZ0) shFZ2))], isref, N⟩ 0 (anZ119 N SZ41 SZ102 SZ1 SZ2 SZ0) (lp Pg 87 0).2 (lp Pg 87 0).1 s (roundK Pg 0 ((anZ119 N SZ41 SZ102 SZ1 SZ2 SZ0) (lp Pg 87 0).1) κ k)) (sh_st_binnacleref03_Dot_0.build [.fls a_2, .fls b_2, .int t9_1, .int t10_1, .val t4_2, .int t4_3, .int s_1, .bool b2_1, .ints b2_2]) = iterG N (st_z03_Dot_0 N SZ41 SZ102 SZ1 SZ2 SZ0 a_2 b_2 t9_1 t4_2 t4_3 (fun r2 r3 r4 => κ.ext 0 (sx0_st_binnacleref03_Dot_0.build [.val t4_2, .int t4_3, .int r2, .bool r3, .ints r4]))) (t10_1, s_1, b2_1, b2_2) :=
  iter_tr (fun (v_ : Int × Int × Bool × List Int) => sh_st_binnacleref03_Dot_0.build [.fls a_2, .fls b_2, .int t9_1, .int v_.1, .val t4_2, .int t4_3, .int v_.2.1, .bool v_.2.2.1, .ints v_.2.2.2]) (fun v_ K_ => by obtain ⟨t10_1, s_1, b2_1, b2_2⟩ := v_; kernel_rfl) N (t10_1, s_1, b2_1, b2_2)
theorem hk1_st_binnacleref03_Dot_0 (N : Nat) (SZ41 : TSZ41) (SZ102 : TSZ102) (SZ1 : TSZ1) (SZ2 : TSZ2) (SZ0 : TSZ0) : HookFor ⟨Pg, ofList [(41, (FZ41 SZ41)), (40, (FZ102 SZ102)), (13, (FZ1 SZ1)), (15, (orFs (FZ2 SZ2) (FZ0 SZ0) shFZ2))], isref, N⟩ 0 (anZ119 N SZ41 SZ102 SZ1 SZ2 SZ0) (lp Pg 87 0) (sh_st_binnacleref03_Dot_0, hk_st_binnacleref03_Dot_0 N SZ41 SZ102 SZ1 SZ2 SZ0) := by
  intro a κ h
  simp only at h
  unfold hk_st_binnacleref03_Dot_0 at h
  split at h
  · exact (eq_st_binnacleref03_Dot_0 _ _ _ _ _ _ _ _ _ _ _ _ _ _ _ _).trans h
  · cases h
theorem ho_binnacleref03_Dot_0 (N : Nat) (SZ41 : TSZ41) (SZ102 : TSZ102) (SZ1 : TSZ1) (SZ2 : TSZ2) (SZ0 : TSZ0) : HookOk ⟨Pg, ofList [(41, (FZ41 SZ41)), (40, (FZ102 SZ102)), (13, (FZ1 SZ1)), (15, (orFs (FZ2 SZ2) (FZ0 SZ0) shFZ2))], isref, N⟩ 0 (anZ119 N SZ41 SZ102 SZ1 SZ2 SZ0) (lp Pg 87 0) :=
  hooks_ok [(sh_st_binnacleref03_Dot_0, hk_st_binnacleref03_Dot_0 N SZ41 SZ102 SZ1 SZ2 SZ0)] (by kernel_rfl) ⟨hk1_st_binnacleref03_Dot_0 _ _ _ _ _ _, trivial⟩
theorem eqZ119 (N : Nat) (SZ41 : TSZ41) (SZ102 : TSZ102) (SZ1 : TSZ1) (SZ2 : TSZ2) (SZ0 : TSZ0) (a b : List Fl) (c_ : V -> List Blk -> Bool) : bodyV ⟨Pg, ofList [(41, (FZ41 SZ41)), (40, (FZ102 SZ102)), (13, (FZ1 SZ1)), (15, (orFs (FZ2 SZ2) (FZ0 SZ0) shFZ2))], isref, N⟩ (anZ119 N SZ41 SZ102 SZ1 SZ2 SZ0) 87 (shFZ119.args [.fls a, .fls b]) [] c_ = GZ119 N SZ41 SZ102 SZ1 SZ2 SZ0 a b (fun r0 r1 r2 => c_ (.agg [.ptr 0 0, .int .i64 r0]) [⟨91, 1, .cells [.bool r1, .roi .u32 r2]⟩]) := by kernel_rfl
theorem goodZ119 (N : Nat) (SZ41 : TSZ41) (SZ102 : TSZ102) (SZ1 : TSZ1) (SZ2 : TSZ2) (SZ0 : TSZ0) (hZ41 : GoodF Pg 41 (FZ41 SZ41)) (hZ102 : GoodF Pg 40 (FZ102 SZ102)) (hZ1 : GoodF Pg 13 (FZ1 SZ1)) (hZ2 : GoodF Pg 15 (FZ2 SZ2)) (hZ0 : GoodF Pg 15 (FZ0 SZ0)) : GoodF Pg 87 (FZ119 (GZ119 N SZ41 SZ102 SZ1 SZ2 SZ0)) := by
  refine good_fs (cx := ⟨Pg, ofList [(41, (FZ41 SZ41)), (40, (FZ102 SZ102)), (13, (FZ1 SZ1)), (15, (orFs (FZ2 SZ2) (FZ0 SZ0) shFZ2))], isref, N⟩) (ofList_cons hZ41 (ofList_cons hZ102 (ofList_cons hZ1 (ofList_cons (good_or hZ2 hZ0) (ofList_nil _))))) shFZ119 (spZ119 (GZ119 N SZ41 SZ102 SZ1 SZ2 SZ0)) (anZ119 N SZ41 SZ102 SZ1 SZ2 SZ0) 1 0 (by kernel_rfl) (fun i_ hi_ => by
    match i_, hi_ with
    | 0, _ => exact ho_binnacleref03_Dot_0 _ _ _ _ _ _
    | (q + 1), h => omega) ?_
  intro a k h
  unfold spZ119 at h
  split at h
  · exact ⟨[], rfl, rfl, (eqZ119 _ _ _ _ _ _ _ _ _).trans h⟩
  · cases h

def anZ36 (N : Nat) (SZ71 : TSZ71) (SZ14 : TSZ14) : Nat -> Option Ann := fun b_ => none
theorem eqZ36 (N : Nat) (SZ71 : TSZ71) (SZ14 : TSZ14) (n : Int) (b : Bool) (c_ : V -> List Blk -> Bool) : bodyZ ⟨Pg, ofList [(163, (FZ71 SZ71)), (96, (FZ14 SZ14))], isref, N⟩ (anZ36 N SZ71 SZ14) 100 (shFZ36.args [.int n, .bool b]) [⟨91, 1, .cells [.bool b, .nil]⟩] c_ = GZ36 N SZ71 SZ14 n b (fun r0 r1 => c_ (.ptr 0 0) [⟨91, 1, .cells [.bool r0, .roi .u32 r1]⟩]) := by kernel_rfl
theorem goodZ36 (N : Nat) (SZ71 : TSZ71) (SZ14 : TSZ14) (hZ71 : GoodF Pg 163 (FZ71 SZ71)) (hZ14 : GoodF Pg 96 (FZ14 SZ14)) : GoodF Pg 100 (FZ36 (GZ36 N SZ71 SZ14)) := by
  refine good_fsZ (cx := ⟨Pg, ofList [(163, (FZ71 SZ71)), (96, (FZ14 SZ14))], isref, N⟩) (ofList_cons hZ71 (ofList_cons hZ14 (ofList_nil _))) shFZ36 (spZ36 (GZ36 N SZ71 SZ14)) (anZ36 N SZ71 SZ14) 0 1 (by kernel_rfl) (fun i_ hi_ => by omega) ?_
  intro a k h
  unfold spZ36 at h
  split at h
  · exact ⟨[_], rfl, rfl, (eqZ36 _ _ _ _ _ _).trans h⟩
  · cases h

def anZ47 (N : Nat) (SZ36 : TSZ36) : Nat -> Option Ann := fun b_ => none
theorem eqZ47 (N : Nat) (SZ36 : TSZ36) (n : Int) (c_ : V -> List Blk -> Bool) : bodyZ ⟨Pg, ofList [(100, (FZ36 SZ36))], isref, N⟩ (anZ47 N SZ36) 46 (shFZ47.args [.int n]) [] c_ = GZ47 N SZ36 n (fun r0 r1 => c_ (.ptr 0 0) [⟨91, 1, .cells [.bool r0, .roi .u32 r1]⟩]) := by kernel_rfl
theorem goodZ47 (N : Nat) (SZ36 : TSZ36) (hZ36 : GoodF Pg 100 (FZ36 SZ36)) : GoodF Pg 46 (FZ47 (GZ47 N SZ36)) := by
  refine good_fsZ (cx := ⟨Pg, ofList [(100, (FZ36 SZ36))], isref, N⟩) (ofList_cons hZ36 (ofList_nil _)) shFZ47 (spZ47 (GZ47 N SZ36)) (anZ47 N SZ36) 0 0 (by kernel_rfl) (fun i_ hi_ => by omega) ?_
  intro a k h
  unfold spZ47 at h
  split at h
  · exact ⟨[], rfl, rfl, (eqZ47 _ _ _ _).trans h⟩
  · cases h

def anZ98 (N : Nat) (SZ47 : TSZ47) : Nat -> Option Ann := fun b_ => none
theorem eqZ98 (N : Nat) (SZ47 : TSZ47) (n : Int) (c_ : V -> List Blk -> Bool) : bodyV ⟨Pg, ofList [(46, (FZ47 SZ47))], isref, N⟩ (anZ98 N SZ47) 88 (shFZ98.args [.int n]) [] c_ = GZ98 N SZ47 n (fun r0 r1 r2 => c_ (.agg [.ptr 0 0, .int .i64 r0]) [⟨91, 1, .cells [.bool r1, .roi .u32 r2]⟩]) := by kernel_rfl
theorem goodZ98 (N : Nat) (SZ47 : TSZ47) (hZ47 : GoodF Pg 46 (FZ47 SZ47)) : GoodF Pg 88 (FZ98 (GZ98 N SZ47)) := by
  refine good_fs (cx := ⟨Pg, ofList [(46, (FZ47 SZ47))], isref, N⟩) (ofList_cons hZ47 (ofList_nil _)) shFZ98 (spZ98 (GZ98 N SZ47)) (anZ98 N SZ47) 0 0 (by kernel_rfl) (fun i_ hi_ => by omega) ?_
  intro a k h
  unfold spZ98 at h
  split at h
  · exact ⟨[], rfl, rfl, (eqZ98 _ _ _ _).trans h⟩
  · cases h

def anZ32 (N : Nat) (SZ7 : TSZ7) : Nat -> Option Ann := fun b_ => none
theorem eqZ32 (N : Nat) (SZ7 : TSZ7) (neg b : Bool) (b_1 : List Int) (c_ : V -> List Blk -> Bool) : bodyZ ⟨Pg, ofList [(164, (FZ7 SZ7))], isref, N⟩ (anZ32 N SZ7) 96 (shFZ32.args [.bool neg, .bool b, .ints b_1]) [⟨91, 1, .cells [.bool b, .nil]⟩, ⟨213, 1, .ints .u32 b_1⟩] c_ = GZ32 N SZ7 neg b b_1 (fun r0 r1 r2 => c_ (.ptr 0 0) [⟨91, 1, .cells [.bool r0, .sl 1 r1 r2]⟩, ⟨213, 1, .ints .u32 b_1⟩]) := by kernel_rfl
theorem goodZ32 (N : Nat) (SZ7 : TSZ7) (hZ7 : GoodF Pg 164 (FZ7 SZ7)) : GoodF Pg 96 (FZ32 (GZ32 N SZ7)) := by
  refine good_fsZ (cx := ⟨Pg, ofList [(164, (FZ7 SZ7))], isref, N⟩) (ofList_cons hZ7 (ofList_nil _)) shFZ32 (spZ32 (GZ32 N SZ7)) (anZ32 N SZ7) 0 2 (by kernel_rfl) (fun i_ hi_ => by omega) ?_
  intro a k h
  unfold spZ32 at h
  split at h
  · exact ⟨[_, _], rfl, rfl, (eqZ32 _ _ _ _ _ _).trans h⟩
  · cases h

def anZ50 (N : Nat) (SZ32 : TSZ32) : Nat -> Option Ann := fun b_ => none
theorem eqZ50 (N : Nat) (SZ32 : TSZ32) (b b_1 : Bool) (b_2 : List Int) (c_ : V -> List Blk -> Bool) : bodyZ ⟨Pg, ofList [(96, (FZ32 SZ32))], isref, N⟩ (anZ50 N SZ32) 155 (shFZ50.args [.bool b, .bool b_1, .ints b_2]) [⟨91, 1, .cells [.bool b, .nil]⟩, ⟨91, 1, .cells [.bool b_1, .roi .u32 b_2]⟩] c_ = GZ50 N SZ32 b b_1 b_2 (fun r0 r1 => c_ (.ptr 0 0) [⟨91, 1, .cells [.bool r0, .roi .u32 r1]⟩, ⟨91, 1, .cells [.bool b_1, .roi .u32 b_2]⟩]) := by kernel_rfl
theorem goodZ50 (N : Nat) (SZ32 : TSZ32) (hZ32 : GoodF Pg 96 (FZ32 SZ32)) : GoodF Pg 155 (FZ50 (GZ50 N SZ32)) := by
  refine good_fsZ (cx := ⟨Pg, ofList [(96, (FZ32 SZ32))], isref, N⟩) (ofList_cons hZ32 (ofList_nil _)) shFZ50 (spZ50 (GZ50 N SZ32)) (anZ50 N SZ32) 0 2 (by kernel_rfl) (fun i_ hi_ => by omega) ?_
  intro a k h
  unfold spZ50 at h
  split at h
  · exact ⟨[_, _], rfl, rfl, (eqZ50 _ _ _ _ _ _).trans h⟩
  · cases h

def anZ20 (N : Nat) (SZ50 : TSZ50) : Nat -> Option Ann := fun b_ => none
theorem eqZ20 (N : Nat) (SZ50 : TSZ50) (x : Int) (b : Bool) (b_1 : List Int) (c_ : V -> List Blk -> Bool) : bodyV ⟨Pg, ofList [(155, (FZ50 SZ50))], isref, N⟩ (anZ20 N SZ50) 89 (shFZ20.args [.int x, .bool b, .ints b_1]) [⟨91, 1, .cells [.bool b, .roi .u32 b_1]⟩] c_ = GZ20 N SZ50 x b b_1 (fun r3 r4 => c_ (.agg [.ptr 1 0, .int .i64 x]) [⟨91, 1, .cells [.bool b, .roi .u32 b_1]⟩, ⟨91, 1, .cells [.bool r3, .roi .u32 r4]⟩]) := by kernel_rfl
theorem goodZ20 (N : Nat) (SZ50 : TSZ50) (hZ50 : GoodF Pg 155 (FZ50 SZ50)) : GoodF Pg 89 (FZ20 (GZ20 N SZ50)) := by
  refine good_fs (cx := ⟨Pg, ofList [(155, (FZ50 SZ50))], isref, N⟩) (ofList_cons hZ50 (ofList_nil _)) shFZ20 (spZ20 (GZ20 N SZ50)) (anZ20 N SZ50) 0 1 (by kernel_rfl) (fun i_ hi_ => by omega) ?_
  intro a k h
  unfold spZ20 at h
  split at h
  · exact ⟨[_], rfl, rfl, (eqZ20 _ _ _ _ _ _).trans h⟩
  · cases h

def anZ76 (N : Nat) (SZ64 : TSZ64) (SZ119 : TSZ119) (SZ98 : TSZ98) (SZ0 : TSZ0) (SZ20 : TSZ20) : Nat -> Option Ann := fun b_ => none
theorem eqZ76 (N : Nat) (SZ64 : TSZ64) (SZ119 : TSZ119) (SZ98 : TSZ98) (SZ0 : TSZ0) (SZ20 : TSZ20) (q_0 q_1 q_2 q_3 : Fl) (c_ : V -> List Blk -> Bool) : bodyV ⟨Pg, ofList [(86, (FZ64 SZ64)), (87, (FZ119 SZ119)), (88, (FZ98 SZ98)), (15, (FZ0 SZ0)), (89, (FZ20 SZ20))], isref, N⟩ (anZ76 N SZ64 SZ119 SZ98 SZ0 SZ20) 34 (shFZ76.args [.fl q_0, .fl q_1, .fl q_2, .fl q_3]) [] c_ = GZ76 N SZ64 SZ119 SZ98 SZ0 SZ20 q_0 q_1 q_2 q_3 (fun r0 r1 r2 => c_ (.agg [.ptr 0 0, .int .i64 r0]) [⟨91, 1, .cells [.bool r1, .roi .u32 r2]⟩]) := by kernel_rfl
theorem goodZ76 (N : Nat) (SZ64 : TSZ64) (SZ119 : TSZ119) (SZ98 : TSZ98) (SZ0 : TSZ0) (SZ20 : TSZ20) (hZ64 : GoodF Pg 86 (FZ64 SZ64)) (hZ119 : GoodF Pg 87 (FZ119 SZ119)) (hZ98 : GoodF Pg 88 (FZ98 SZ98)) (hZ0 : GoodF Pg 15 (FZ0 SZ0)) (hZ20 : GoodF Pg 89 (FZ20 SZ20)) : GoodF Pg 34 (FZ76 (GZ76 N SZ64 SZ119 SZ98 SZ0 SZ20)) := by
  refine good_fs (cx := ⟨Pg, ofList [(86, (FZ64 SZ64)), (87, (FZ119 SZ119)), (88, (FZ98 SZ98)), (15, (FZ0 SZ0)), (89, (FZ20 SZ20))], isref, N⟩) (ofList_cons hZ64 (ofList_cons hZ119 (ofList_cons hZ98 (ofList_cons hZ0 (ofList_cons hZ20 (ofList_nil _)))))) shFZ76 (spZ76 (GZ76 N SZ64 SZ119 SZ98 SZ0 SZ20)) (anZ76 N SZ64 SZ119 SZ98 SZ0 SZ20) 0 0 (by kernel_rfl) (fun i_ hi_ => by omega) ?_
  intro a k h
  unfold spZ76 at h
  split at h
  · exact ⟨[], rfl, rfl, (eqZ76 _ _ _ _ _ _ _ _ _ _ _).trans h⟩
  · cases h

def anZ23 (N : Nat) (SZ47 : TSZ47) : Nat -> Option Ann := fun b_ => none
theorem eqZ23 (N : Nat) (SZ47 : TSZ47) (e : Int) (c_ : V -> List Blk -> Bool) : bodyV ⟨Pg, ofList [(46, (FZ47 SZ47))], isref, N⟩ (anZ23 N SZ47) 18 (shFZ23.args [.int e]) [] c_ = GZ23 N SZ47 e (fun r1 r2 => c_ (.agg [.ptr 0 0, .int .i64 e]) [⟨91, 1, .cells [.bool r1, .roi .u32 r2]⟩]) := by kernel_rfl
theorem goodZ23 (N : Nat) (SZ47 : TSZ47) (hZ47 : GoodF Pg 46 (FZ47 SZ47)) : GoodF Pg 18 (FZ23 (GZ23 N SZ47)) := by
  refine good_fs (cx := ⟨Pg, ofList [(46, (FZ47 SZ47))], isref, N⟩) (ofList_cons hZ47 (ofList_nil _)) shFZ23 (spZ23 (GZ23 N SZ47)) (anZ23 N SZ47) 0 0 (by kernel_rfl) (fun i_ hi_ => by omega) ?_
  intro a k h
  unfold spZ23 at h
  split at h
  · exact ⟨[], rfl, rfl, (eqZ23 _ _ _ _).trans h⟩
  · cases h

def anZ52 (N : Nat) (SZ32 : TSZ32) : Nat -> Option Ann := fun b_ => none
theorem eqZ52 (N : Nat) (SZ32 : TSZ32) (b b_1 : Bool) (b_2 : List Int) (c_ : V -> List Blk -> Bool) : bodyZ ⟨Pg, ofList [(96, (FZ32 SZ32))], isref, N⟩ (anZ52 N SZ32) 45 (shFZ52.args [.bool b, .bool b_1, .ints b_2]) [⟨91, 1, .cells [.bool b, .nil]⟩, ⟨91, 1, .cells [.bool b_1, .roi .u32 b_2]⟩] c_ = GZ52 N SZ32 b b_1 b_2 (fun r0 r1 => c_ (.ptr 0 0) [⟨91, 1, .cells [.bool r0, .roi .u32 r1]⟩, ⟨91, 1, .cells [.bool b_1, .roi .u32 b_2]⟩]) := by kernel_rfl
theorem goodZ52 (N : Nat) (SZ32 : TSZ32) (hZ32 : GoodF Pg 96 (FZ32 SZ32)) : GoodF Pg 45 (FZ52 (GZ52 N SZ32)) := by
  refine good_fsZ (cx := ⟨Pg, ofList [(96, (FZ32 SZ32))], isref, N⟩) (ofList_cons hZ32 (ofList_nil _)) shFZ52 (spZ52 (GZ52 N SZ32)) (anZ52 N SZ32) 0 2 (by kernel_rfl) (fun i_ hi_ => by omega) ?_
  intro a k h
  unfold spZ52 at h
  split at h
  · exact ⟨[_, _], rfl, rfl, (eqZ52 _ _ _ _ _ _).trans h⟩
  · cases h

def anZ6 (N : Nat) (SZ52 : TSZ52) : Nat -> Option Ann := fun b_ => none
theorem eqZ6 (N : Nat) (SZ52 : TSZ52) (x : Int) (b : Bool) (b_1 : List Int) (c_ : V -> List Blk -> Bool) : bodyV ⟨Pg, ofList [(45, (FZ52 SZ52))], isref, N⟩ (anZ6 N SZ52) 16 (shFZ6.args [.int x, .bool b, .ints b_1]) [⟨91, 1, .cells [.bool b, .roi .u32 b_1]⟩] c_ = GZ6 N SZ52 x b b_1 (fun r3 r4 => c_ (.agg [.ptr 1 0, .int .i64 x]) [⟨91, 1, .cells [.bool b, .roi .u32 b_1]⟩, ⟨91, 1, .cells [.bool r3, .roi .u32 r4]⟩]) := by kernel_rfl
theorem goodZ6 (N : Nat) (SZ52 : TSZ52) (hZ52 : GoodF Pg 45 (FZ52 SZ52)) : GoodF Pg 16 (FZ6 (GZ6 N SZ52)) := by
  refine good_fs (cx := ⟨Pg, ofList [(45, (FZ52 SZ52))], isref, N⟩) (ofList_cons hZ52 (ofList_nil _)) shFZ6 (spZ6 (GZ6 N SZ52)) (anZ6 N SZ52) 0 1 (by kernel_rfl) (fun i_ hi_ => by omega) ?_
  intro a k h
  unfold spZ6 at h
  split at h
  · exact ⟨[_], rfl, rfl, (eqZ6 _ _ _ _ _ _).trans h⟩
  · cases h

def anZ4 (N : Nat) (SZ6 : TSZ6) (SZ0 : TSZ0) (SZ11 : TSZ11) : Nat -> Option Ann := fun b_ => none
theorem eqZ4 (N : Nat) (SZ6 : TSZ6) (SZ0 : TSZ0) (SZ11 : TSZ11) (x y : Int) (b : Bool) (b_1 : List Int) (b_2 : Bool) (b_3 : List Int) (c_ : V -> List Blk -> Bool) : bodyV ⟨Pg, ofList [(16, (FZ6 SZ6)), (15, (FZ0 SZ0)), (14, (FZ11 SZ11))], isref, N⟩ (anZ4 N SZ6 SZ0 SZ11) 17 (shFZ4.args [.int x, .int y, .bool b, .ints b_1, .bool b_2, .ints b_3]) [⟨91, 1, .cells [.bool b, .roi .u32 b_1]⟩, ⟨91, 1, .cells [.bool b_2, .roi .u32 b_3]⟩] c_ = GZ4 N SZ6 SZ0 SZ11 x y b b_1 b_2 b_3 (fun r0 => c_ (.int .i64 r0) [⟨91, 1, .cells [.bool b, .roi .u32 b_1]⟩, ⟨91, 1, .cells [.bool b_2, .roi .u32 b_3]⟩]) := by kernel_rfl
theorem goodZ4 (N : Nat) (SZ6 : TSZ6) (SZ0 : TSZ0) (SZ11 : TSZ11) (hZ6 : GoodF Pg 16 (FZ6 SZ6)) (hZ0 : GoodF Pg 15 (FZ0 SZ0)) (hZ11 : GoodF Pg 14 (FZ11 SZ11)) : GoodF Pg 17 (FZ4 (GZ4 N SZ6 SZ0 SZ11)) := by
  refine good_fs (cx := ⟨Pg, ofList [(16, (FZ6 SZ6)), (15, (FZ0 SZ0)), (14, (FZ11 SZ11))], isref, N⟩) (ofList_cons hZ6 (ofList_cons hZ0 (ofList_cons hZ11 (ofList_nil _)))) shFZ4 (spZ4 (GZ4 N SZ6 SZ0 SZ11)) (anZ4 N SZ6 SZ0 SZ11) 0 2 (by kernel_rfl) (fun i_ hi_ => by omega) ?_
  intro a k h
  unfold spZ4 at h
  split at h
  · exact ⟨[_, _], rfl, rfl, (eqZ4 _ _ _ _ _ _ _ _ _ _ _).trans h⟩
  · cases h

def anZ63 (N : Nat) (SZ87 : TSZ87) (SZ76 : TSZ76) (SZ23 : TSZ23) (SZ4 : TSZ4) : Nat -> Option Ann := fun b_ => none
theorem eqZ63 (N : Nat) (SZ87 : TSZ87) (SZ76 : TSZ76) (SZ23 : TSZ23) (SZ4 : TSZ4) (q_0 q_1 q_2 q_3 : Fl) (c_ : V -> List Blk -> Bool) : bodyV ⟨Pg, ofList [(33, (FZ87 SZ87)), (34, (FZ76 SZ76)), (18, (FZ23 SZ23)), (17, (FZ4 SZ4))], isref, N⟩ (anZ63 N SZ87 SZ76 SZ23 SZ4) 8 (shFZ63.args [.fl q_0, .fl q_1, .fl q_2, .fl q_3]) [] c_ = GZ63 N SZ87 SZ76 SZ23 SZ4 q_0 q_1 q_2 q_3 (fun r0 => c_ (.bool r0) []) := by kernel_rfl
theorem goodZ63 (N : Nat) (SZ87 : TSZ87) (SZ76 : TSZ76) (SZ23 : TSZ23) (SZ4 : TSZ4) (hZ87 : GoodF Pg 33 (FZ87 SZ87)) (hZ76 : GoodF Pg 34 (FZ76 SZ76)) (hZ23 : GoodF Pg 18 (FZ23 SZ23)) (hZ4 : GoodF Pg 17 (FZ4 SZ4)) : GoodF Pg 8 (FZ63 (GZ63 N SZ87 SZ76 SZ23 SZ4)) := by
  refine good_fs (cx := ⟨Pg, ofList [(33, (FZ87 SZ87)), (34, (FZ76 SZ76)), (18, (FZ23 SZ23)), (17, (FZ4 SZ4))], isref, N⟩) (ofList_cons hZ87 (ofList_cons hZ76 (ofList_cons hZ23 (ofList_cons hZ4 (ofList_nil _))))) shFZ63 (spZ63 (GZ63 N SZ87 SZ76 SZ23 SZ4)) (anZ63 N SZ87 SZ76 SZ23 SZ4) 0 0 (by kernel_rfl) (fun i_ hi_ => by omega) ?_
  intro a k h
  unfold spZ63 at h
  split at h
  · exact ⟨[], rfl, rfl, (eqZ63 _ _ _ _ _ _ _ _ _ _).trans h⟩
  · cases h


def anZ62 (N : Nat) (S_m_Abs : TS_m_Abs) : Nat -> Option Ann := fun b_ => none
theorem eqZ62 (N : Nat) (S_m_Abs : TS_m_Abs) (f : Fl) (sign : Int) (c_ : V -> List Blk -> Bool) : bodyV ⟨Pg, ofList [(35, (F_m_Abs S_m_Abs))], isref, N⟩ (anZ62 N S_m_Abs) 103 (shFZ62.args [.fl f, .int sign]) [] c_ = GZ62 N S_m_Abs f sign (fun r0 => c_ (.bool r0) []) := by kernel_rfl
theorem goodZ62 (N : Nat) (S_m_Abs : TS_m_Abs) (h_m_Abs : GoodF Pg 35 (F_m_Abs S_m_Abs)) : GoodF Pg 103 (FZ62 (GZ62 N S_m_Abs)) := by
  refine good_fs (cx := ⟨Pg, ofList [(35, (F_m_Abs S_m_Abs))], isref, N⟩) (ofList_cons h_m_Abs (ofList_nil _)) shFZ62 (spZ62 (GZ62 N S_m_Abs)) (anZ62 N S_m_Abs) 0 0 (by kernel_rfl) (fun i_ hi_ => by omega) ?_
  intro a k h
  unfold spZ62 at h
  split at h
  · exact ⟨[], rfl, rfl, (eqZ62 _ _ _ _ _).trans h⟩
  · cases h

def anZ84 (N : Nat) : Nat -> Option Ann := fun b_ => none
theorem eqZ84 (N : Nat) (f : Fl) (c_ : V -> List Blk -> Bool) : bodyV ⟨Pg, ofList [], isref, N⟩ (anZ84 N) 110 (shFZ84.args [.fl f]) [] c_ = GZ84 N f (fun r0 => c_ (.bool r0) []) := by kernel_rfl
theorem goodZ84 (N : Nat) : GoodF Pg 110 (FZ84 (GZ84 N)) := by
  refine good_fs (cx := ⟨Pg, ofList [], isref, N⟩) (ofList_nil _) shFZ84 (spZ84 (GZ84 N)) (anZ84 N) 0 0 (by kernel_rfl) (fun i_ hi_ => by omega) ?_
  intro a k h
  unfold spZ84 at h
  split at h
  · exact ⟨[], rfl, rfl, (eqZ84 _ _ _).trans h⟩
  · cases h

def anZ21 (N : Nat) (S_m_Abs : TS_m_Abs) : Nat -> Option Ann := fun b_ => none
theorem eqZ21 (N : Nat) (S_m_Abs : TS_m_Abs) (x : Fl) (c_ : V -> List Blk -> Bool) : bodyV ⟨Pg, ofList [(35, (F_m_Abs S_m_Abs))], isref, N⟩ (anZ21 N S_m_Abs) 111 (shFZ21.args [.fl x]) [] c_ = GZ21 N S_m_Abs x (fun r0 r1 => c_ (.tup [.flt r0, .int .i64 r1]) []) := by kernel_rfl
theorem goodZ21 (N : Nat) (S_m_Abs : TS_m_Abs) (h_m_Abs : GoodF Pg 35 (F_m_Abs S_m_Abs)) : GoodF Pg 111 (FZ21 (GZ21 N S_m_Abs)) := by
  refine good_fs (cx := ⟨Pg, ofList [(35, (F_m_Abs S_m_Abs))], isref, N⟩) (ofList_cons h_m_Abs (ofList_nil _)) shFZ21 (spZ21 (GZ21 N S_m_Abs)) (anZ21 N S_m_Abs) 0 0 (by kernel_rfl) (fun i_ hi_ => by omega) ?_
  intro a k h
  unfold spZ21 at h
  split at h
  · exact ⟨[], rfl, rfl, (eqZ21 _ _ _ _).trans h⟩
  · cases h

def anZ56 (N : Nat) (SZ57 : TSZ57) (SZ30 : TSZ30) : Nat -> Option Ann := fun b_ => none
theorem eqZ56 (N : Nat) (SZ57 : TSZ57) (SZ30 : TSZ30) (f sign : Fl) (c_ : V -> List Blk -> Bool) : bodyV ⟨Pg, ofList [(90, (FZ57 SZ57)), (31, (FZ30 SZ30))], isref, N⟩ (anZ56 N SZ57 SZ30) 112 (shFZ56.args [.fl f, .fl sign]) [] c_ = GZ56 N SZ57 SZ30 f sign (fun r0 => c_ (.flt r0) []) := by kernel_rfl
theorem goodZ56 (N : Nat) (SZ57 : TSZ57) (SZ30 : TSZ30) (hZ57 : GoodF Pg 90 (FZ57 SZ57)) (hZ30 : GoodF Pg 31 (FZ30 SZ30)) : GoodF Pg 112 (FZ56 (GZ56 N SZ57 SZ30)) := by
  refine good_fs (cx := ⟨Pg, ofList [(90, (FZ57 SZ57)), (31, (FZ30 SZ30))], isref, N⟩) (ofList_cons hZ57 (ofList_cons hZ30 (ofList_nil _))) shFZ56 (spZ56 (GZ56 N SZ57 SZ30)) (anZ56 N SZ57 SZ30) 0 0 (by kernel_rfl) (fun i_ hi_ => by omega) ?_
  intro a k h
  unfold spZ56 at h
  split at h
  · exact ⟨[], rfl, rfl, (eqZ56 _ _ _ _ _ _).trans h⟩
  · cases h

def an_m_Inf (N : Nat) (SZ30 : TSZ30) : Nat -> Option Ann := fun b_ => none
def ls_m_Inf_0 (d_ : List V) (u_ : List (Option Blk)) (sign v : Int) : St := ⟨(dqs d_ 0 3 (.int .u64 v :: (dqs d_ 3 4 []))), []⟩
theorem jn_m_Inf_0 (N : Nat) (SZ30 : TSZ30) (d_ : List V) (u_ : List (Option Blk)) (sign v : Int) (c_ : V -> List Blk -> Bool) : codesV ⟨Pg, ofList [(31, (FZ30 SZ30))], isref, N⟩ 0 (an_m_Inf N SZ30) ((cds Pg 113).drop 4) 0 (ls_m_Inf_0 d_ u_ sign v) (finV Pg 113 0 c_) = J_m_Inf_0 N SZ30 sign v (fun r0 => c_ (.flt r0) []) := by kernel_rfl
theorem hd_m_Inf_w (N : Nat) (SZ30 : TSZ30) (sign : Int) (c_ : V -> List Blk -> Bool) (κn_ : St -> Bool) : codesV ⟨Pg, ofList [(31, (FZ30 SZ30))], isref, N⟩ 0 (an_m_Inf N SZ30) (sg Pg 113 0 4) 0 (st0 Pg 113 (shF_m_Inf.args [.int sign]) []) { (finV Pg 113 0 c_) with nrm := κn_ } = (cond (decide (sign >= 0)) (κn_ (ls_m_Inf_0 [.int .i64 sign, .any, .flt (some 0), .int .i64 sign, .bool true, .any, .any] [] sign 9218868437227405312)) (κn_ (ls_m_Inf_0 [.int .i64 sign, .any, .flt (some 0), .int .i64 sign, .bool false, .any, .any] [] sign 18442240474082181120))) := by kernel_rfl
theorem jn_m_Inf_w (N : Nat) (SZ30 : TSZ30) (sign : Int) (c_ : V -> List Blk -> Bool) : codesV ⟨Pg, ofList [(31, (FZ30 SZ30))], isref, N⟩ 0 (an_m_Inf N SZ30) ((cds Pg 113).drop 0) 0 (st0 Pg 113 (shF_m_Inf.args [.int sign]) []) (finV Pg 113 0 c_) = G_m_Inf N SZ30 sign (fun r0 => c_ (.flt r0) []) := by
  rw [codesV_cut 0 4 4 rfl]
  refine (hd_m_Inf_w N SZ30 sign c_ _).trans ?_
  simp only [jn_m_Inf_0]
  kernel_rfl
theorem eq_m_Inf (N : Nat) (SZ30 : TSZ30) (sign : Int) (c_ : V -> List Blk -> Bool) : bodyV ⟨Pg, ofList [(31, (FZ30 SZ30))], isref, N⟩ (an_m_Inf N SZ30) 113 (shF_m_Inf.args [.int sign]) [] c_ = G_m_Inf N SZ30 sign (fun r0 => c_ (.flt r0) []) :=
  (bodyV_codes (by kernel_rfl)).trans (jn_m_Inf_w N SZ30 sign c_)
theorem good_m_Inf (N : Nat) (SZ30 : TSZ30) (hZ30 : GoodF Pg 31 (FZ30 SZ30)) : GoodF Pg 113 (F_m_Inf (G_m_Inf N SZ30)) := by
  refine good_fs (cx := ⟨Pg, ofList [(31, (FZ30 SZ30))], isref, N⟩) (ofList_cons hZ30 (ofList_nil _)) shF_m_Inf (sp_m_Inf (G_m_Inf N SZ30)) (an_m_Inf N SZ30) 0 0 (by kernel_rfl) (fun i_ hi_ => by omega) ?_
  intro a k h
  unfold sp_m_Inf at h
  split at h
  · exact ⟨[], rfl, rfl, (eq_m_Inf _ _ _ _).trans h⟩
  · cases h

def anZ115 (N : Nat) (SZ62 : TSZ62) (SZ84 : TSZ84) (SZ21 : TSZ21) (SZ57 : TSZ57) (SZ56 : TSZ56) (S_m_Inf : TS_m_Inf) (SZ30 : TSZ30) : Nat -> Option Ann := fun b_ => none
def lsZ133 (d_ : List V) (u_ : List (Option Blk)) (frac : Fl) (exp exp_1 x : Int) (m : Fl) : St := ⟨((dq d_ 0) :: (.int .i64 exp_1 :: (dqs d_ 1 4 (.int .u64 x :: (.flt m :: (dqs d_ 5 55 [])))))), []⟩
theorem jnZ133 (N : Nat) (SZ62 : TSZ62) (SZ84 : TSZ84) (SZ21 : TSZ21) (SZ57 : TSZ57) (SZ56 : TSZ56) (S_m_Inf : TS_m_Inf) (SZ30 : TSZ30) (d_ : List V) (u_ : List (Option Blk)) (frac : Fl) (exp exp_1 x : Int) (m : Fl) (c_ : V -> List Blk -> Bool) : codesV ⟨Pg, ofList [(103, (FZ62 SZ62)), (110, (FZ84 SZ84)), (111, (FZ21 SZ21)), (90, (FZ57 SZ57)), (112, (FZ56 SZ56)), (113, (F_m_Inf S_m_Inf)), (31, (FZ30 SZ30))], isref, N⟩ 0 (anZ115 N SZ62 SZ84 SZ21 SZ57 SZ56 S_m_Inf SZ30) ((cds Pg 61).drop 13) 0 (lsZ133 d_ u_ frac exp exp_1 x m) (finV Pg 61 0 c_) = JZ133 N SZ62 SZ84 SZ21 SZ57 SZ56 S_m_Inf SZ30 frac exp exp_1 x m (fun r0 => c_ (.flt r0) []) := by kernel_rfl
theorem hd_m_ldexp_w (N : Nat) (SZ62 : TSZ62) (SZ84 : TSZ84) (SZ21 : TSZ21) (SZ57 : TSZ57) (SZ56 : TSZ56) (S_m_Inf : TS_m_Inf) (SZ30 : TSZ30) (frac : Fl) (exp : Int) (c_ : V -> List Blk -> Bool) (κn_ : St -> Bool) : codesV ⟨Pg, ofList [(103, (FZ62 SZ62)), (110, (FZ84 SZ84)), (111, (FZ21 SZ21)), (90, (FZ57 SZ57)), (112, (FZ56 SZ56)), (113, (F_m_Inf S_m_Inf)), (31, (FZ30 SZ30))], isref, N⟩ 0 (anZ115 N SZ62 SZ84 SZ21 SZ57 SZ56 S_m_Inf SZ30) (sg Pg 61 0 13) 0 (st0 Pg 61 (shFZ115.args [.fl frac, .int exp]) []) { (finV Pg 61 0 c_) with nrm := κn_ } = (cond (feq frac (some 0)) (c_ (.flt frac) []) (SZ62 frac 0 (fun cr => (cond (cr == false) (SZ84 frac (fun cr_1 => (cond cr_1 (c_ (.flt frac) []) (SZ21 frac (fun xr nr => ((fits .i64 (exp + nr)) && (SZ57 xr (fun nr_1 => ((fits .i64 (Int.fdiv nr_1 (2 ^ 52))) && ((fits .i64 ((bitsN .and .i64 (Int.fdiv nr_1 (2 ^ 52)) 2047) - 1023)) && ((fits .i64 ((exp + nr) + ((bitsN .and .i64 (Int.fdiv nr_1 (2 ^ 52)) 2047) - 1023))) && (cond (decide (((exp + nr) + ((bitsN .and .i64 (Int.fdiv nr_1 (2 ^ 52)) 2047) - 1023)) < (-1075))) (SZ56 (some 0) xr (fun xr_1 => (c_ (.flt xr_1) []))) (cond (decide (((exp + nr) + ((bitsN .and .i64 (Int.fdiv nr_1 (2 ^ 52)) 2047) - 1023)) > 1023)) (cond (flt xr (some 0)) (S_m_Inf (-1) (fun xr_2 => (c_ (.flt xr_2) []))) (S_m_Inf 1 (fun xr_3 => (c_ (.flt xr_3) [])))) (cond (decide (((exp + nr) + ((bitsN .and .i64 (Int.fdiv nr_1 (2 ^ 52)) 2047) - 1023)) < (-1022))) ((fits .i64 (((exp + nr) + ((bitsN .and .i64 (Int.fdiv nr_1 (2 ^ 52)) 2047) - 1023)) + 53)) && (κn_ (lsZ133 [.flt xr, .any, .any, .flt (some 0), .int .i64 nr, .bool false, .flt frac, .bool (feq frac (some 0)), .any, .bool false, .flt frac, .bool cr, .bool false, .flt frac, .bool cr_1, .bool cr_1, .any, .tup [.flt xr, .int .i64 nr], .flt frac, .tup [.flt xr, .int .i64 nr], .flt xr, .int .i64 nr, .int .i64 exp, .int .i64 nr, .int .i64 (exp + nr), .flt xr, .int .u64 nr_1, .int .i64 (exp + nr), .int .u64 nr_1, .int .u64 (Int.fdiv nr_1 (2 ^ 52)), .int .i64 (Int.fdiv nr_1 (2 ^ 52)), .int .i64 (bitsN .and .i64 (Int.fdiv nr_1 (2 ^ 52)) 2047), .int .i64 ((bitsN .and .i64 (Int.fdiv nr_1 (2 ^ 52)) 2047) - 1023), .int .i64 ((exp + nr) + ((bitsN .and .i64 (Int.fdiv nr_1 (2 ^ 52)) 2047) - 1023)), .int .i64 ((exp + nr) + ((bitsN .and .i64 (Int.fdiv nr_1 (2 ^ 52)) 2047) - 1023)), .bool false, .any, .any, .int .i64 ((exp + nr) + ((bitsN .and .i64 (Int.fdiv nr_1 (2 ^ 52)) 2047) - 1023)), .bool false, .any, .any, .any, .any, .int .i64 ((exp + nr) + ((bitsN .and .i64 (Int.fdiv nr_1 (2 ^ 52)) 2047) - 1023)), .bool true, .int .i64 ((exp + nr) + ((bitsN .and .i64 (Int.fdiv nr_1 (2 ^ 52)) 2047) - 1023)), .int .i64 (((exp + nr) + ((bitsN .and .i64 (Int.fdiv nr_1 (2 ^ 52)) 2047) - 1023)) + 53), .any, .any, .any, .any, .any, .any, .any, .any, .any, .any, .any, .any] [] frac exp (((exp + nr) + ((bitsN .and .i64 (Int.fdiv nr_1 (2 ^ 52)) 2047) - 1023)) + 53) nr_1 (some 4368491638549381120)))) (κn_ (lsZ133 [.flt xr, .any, .any, .flt (some 0), .int .i64 nr, .bool false, .flt frac, .bool (feq frac (some 0)), .any, .bool false, .flt frac, .bool cr, .bool false, .flt frac, .bool cr_1, .bool cr_1, .any, .tup [.flt xr, .int .i64 nr], .flt frac, .tup [.flt xr, .int .i64 nr], .flt xr, .int .i64 nr, .int .i64 exp, .int .i64 nr, .int .i64 (exp + nr), .flt xr, .int .u64 nr_1, .int .i64 (exp + nr), .int .u64 nr_1, .int .u64 (Int.fdiv nr_1 (2 ^ 52)), .int .i64 (Int.fdiv nr_1 (2 ^ 52)), .int .i64 (bitsN .and .i64 (Int.fdiv nr_1 (2 ^ 52)) 2047), .int .i64 ((bitsN .and .i64 (Int.fdiv nr_1 (2 ^ 52)) 2047) - 1023), .int .i64 ((exp + nr) + ((bitsN .and .i64 (Int.fdiv nr_1 (2 ^ 52)) 2047) - 1023)), .int .i64 ((exp + nr) + ((bitsN .and .i64 (Int.fdiv nr_1 (2 ^ 52)) 2047) - 1023)), .bool false, .any, .any, .int .i64 ((exp + nr) + ((bitsN .and .i64 (Int.fdiv nr_1 (2 ^ 52)) 2047) - 1023)), .bool false, .any, .any, .any, .any, .int .i64 ((exp + nr) + ((bitsN .and .i64 (Int.fdiv nr_1 (2 ^ 52)) 2047) - 1023)), .bool false, .any, .any, .any, .any, .any, .any, .any, .any, .any, .any, .any, .any, .any, .any] [] frac exp ((exp + nr) + ((bitsN .and .i64 (Int.fdiv nr_1 (2 ^ 52)) 2047) - 1023)) nr_1 (some 4607182418800017408))))))))))))))))) (c_ (.flt frac) []))))) := by kernel_rfl
theorem jn_m_ldexp_w (N : Nat) (SZ62 : TSZ62) (SZ84 : TSZ84) (SZ21 : TSZ21) (SZ57 : TSZ57) (SZ56 : TSZ56) (S_m_Inf : TS_m_Inf) (SZ30 : TSZ30) (frac : Fl) (exp : Int) (c_ : V -> List Blk -> Bool) : codesV ⟨Pg, ofList [(103, (FZ62 SZ62)), (110, (FZ84 SZ84)), (111, (FZ21 SZ21)), (90, (FZ57 SZ57)), (112, (FZ56 SZ56)), (113, (F_m_Inf S_m_Inf)), (31, (FZ30 SZ30))], isref, N⟩ 0 (anZ115 N SZ62 SZ84 SZ21 SZ57 SZ56 S_m_Inf SZ30) ((cds Pg 61).drop 0) 0 (st0 Pg 61 (shFZ115.args [.fl frac, .int exp]) []) (finV Pg 61 0 c_) = GZ115 N SZ62 SZ84 SZ21 SZ57 SZ56 S_m_Inf SZ30 frac exp (fun r0 => c_ (.flt r0) []) := by
  rw [codesV_cut 0 13 13 rfl]
  refine (hd_m_ldexp_w N SZ62 SZ84 SZ21 SZ57 SZ56 S_m_Inf SZ30 frac exp c_ _).trans ?_
  simp only [jnZ133]
  kernel_rfl
theorem eqZ115 (N : Nat) (SZ62 : TSZ62) (SZ84 : TSZ84) (SZ21 : TSZ21) (SZ57 : TSZ57) (SZ56 : TSZ56) (S_m_Inf : TS_m_Inf) (SZ30 : TSZ30) (frac : Fl) (exp : Int) (c_ : V -> List Blk -> Bool) : bodyV ⟨Pg, ofList [(103, (FZ62 SZ62)), (110, (FZ84 SZ84)), (111, (FZ21 SZ21)), (90, (FZ57 SZ57)), (112, (FZ56 SZ56)), (113, (F_m_Inf S_m_Inf)), (31, (FZ30 SZ30))], isref, N⟩ (anZ115 N SZ62 SZ84 SZ21 SZ57 SZ56 S_m_Inf SZ30) 61 (shFZ115.args [.fl frac, .int exp]) [] c_ = GZ115 N SZ62 SZ84 SZ21 SZ57 SZ56 S_m_Inf SZ30 frac exp (fun r0 => c_ (.flt r0) []) :=
  (bodyV_codes (by kernel_rfl)).trans (jn_m_ldexp_w N SZ62 SZ84 SZ21 SZ57 SZ56 S_m_Inf SZ30 frac exp c_)
theorem goodZ115 (N : Nat) (SZ62 : TSZ62) (SZ84 : TSZ84) (SZ21 : TSZ21) (SZ57 : TSZ57) (SZ56 : TSZ56) (S_m_Inf : TS_m_Inf) (SZ30 : TSZ30) (hZ62 : GoodF Pg 103 (FZ62 SZ62)) (hZ84 : GoodF Pg 110 (FZ84 SZ84)) (hZ21 : GoodF Pg 111 (FZ21 SZ21)) (hZ57 : GoodF Pg 90 (FZ57 SZ57)) (hZ56 : GoodF Pg 112 (FZ56 SZ56)) (h_m_Inf : GoodF Pg 113 (F_m_Inf S_m_Inf)) (hZ30 : GoodF Pg 31 (FZ30 SZ30)) : GoodF Pg 61 (FZ115 (GZ115 N SZ62 SZ84 SZ21 SZ57 SZ56 S_m_Inf SZ30)) := by
  refine good_fs (cx := ⟨Pg, ofList [(103, (FZ62 SZ62)), (110, (FZ84 SZ84)), (111, (FZ21 SZ21)), (90, (FZ57 SZ57)), (112, (FZ56 SZ56)), (113, (F_m_Inf S_m_Inf)), (31, (FZ30 SZ30))], isref, N⟩) (ofList_cons hZ62 (ofList_cons hZ84 (ofList_cons hZ21 (ofList_cons hZ57 (ofList_cons hZ56 (ofList_cons h_m_Inf (ofList_cons hZ30 (ofList_nil _)))))))) shFZ115 (spZ115 (GZ115 N SZ62 SZ84 SZ21 SZ57 SZ56 S_m_Inf SZ30)) (anZ115 N SZ62 SZ84 SZ21 SZ57 SZ56 S_m_Inf SZ30) 0 0 (by kernel_rfl) (fun i_ hi_ => by omega) ?_
  intro a k h
  unfold spZ115 at h
  split at h
  · exact ⟨[], rfl, rfl, (eqZ115 _ _ _ _ _ _ _ _ _ _ _).trans h⟩
  · cases h

def anZ19 (N : Nat) (SZ115 : TSZ115) : Nat -> Option Ann := fun b_ => none
theorem eqZ19 (N : Nat) (SZ115 : TSZ115) (frac : Fl) (exp : Int) (c_ : V -> List Blk -> Bool) : bodyV ⟨Pg, ofList [(61, (FZ115 SZ115))], isref, N⟩ (anZ19 N SZ115) 22 (shFZ19.args [.fl frac, .int exp]) [] c_ = GZ19 N SZ115 frac exp (fun r0 => c_ (.flt r0) []) := by kernel_rfl
theorem goodZ19 (N : Nat) (SZ115 : TSZ115) (hZ115 : GoodF Pg 61 (FZ115 SZ115)) : GoodF Pg 22 (FZ19 (GZ19 N SZ115)) := by
  refine good_fs (cx := ⟨Pg, ofList [(61, (FZ115 SZ115))], isref, N⟩) (ofList_cons hZ115 (ofList_nil _)) shFZ19 (spZ19 (GZ19 N SZ115)) (anZ19 N SZ115) 0 0 (by kernel_rfl) (fun i_ hi_ => by omega) ?_
  intro a k h
  unfold spZ19 at h
  split at h
  · exact ⟨[], rfl, rfl, (eqZ19 _ _ _ _ _).trans h⟩
  · cases h

def anZ65 (N : Nat) (S_m_Abs : TS_m_Abs) (SZ19 : TSZ19) : Nat -> Option Ann := fun b_ => none
theorem eqZ65 (N : Nat) (S_m_Abs : TS_m_Abs) (SZ19 : TSZ19) (v_0 v_1 v_2 : Fl) (c_ : V -> List Blk -> Bool) : bodyV ⟨Pg, ofList [(35, (F_m_Abs S_m_Abs)), (22, (FZ19 SZ19))], isref, (N + 24)⟩ (anZ65 (N + 24) S_m_Abs SZ19) 9 (shFZ65.args [.fl v_0, .fl v_1, .fl v_2]) [] c_ = GZ65 (N + 24) S_m_Abs SZ19 v_0 v_1 v_2 (fun r0 => c_ (.bool r0) []) := by kernel_rfl
theorem goodZ65 (N : Nat) (S_m_Abs : TS_m_Abs) (SZ19 : TSZ19) (h_m_Abs : GoodF Pg 35 (F_m_Abs S_m_Abs)) (hZ19 : GoodF Pg 22 (FZ19 SZ19)) : GoodF Pg 9 (FZ65 (GZ65 (N + 24) S_m_Abs SZ19)) := by
  refine good_fs (cx := ⟨Pg, ofList [(35, (F_m_Abs S_m_Abs)), (22, (FZ19 SZ19))], isref, (N + 24)⟩) (ofList_cons h_m_Abs (ofList_cons hZ19 (ofList_nil _))) shFZ65 (spZ65 (GZ65 (N + 24) S_m_Abs SZ19)) (anZ65 (N + 24) S_m_Abs SZ19) 1 0 (by kernel_rfl) (fun i_ hi_ => by
    match i_, hi_ with
    | 0, _ => exact (fun hk e => by rw [show hookOf ((anZ65 (N + 24) S_m_Abs SZ19) (lp Pg 9 0).1) = none from by kernel_rfl] at e; cases e)
    | (q + 1), h => omega) ?_
  intro a k h
  unfold spZ65 at h
  split at h
  · exact ⟨[], rfl, rfl, (eqZ65 _ _ _ _ _ _ _).trans h⟩
  · cases h

def sh_st_quat_finite_0 : StSh := ⟨(.rof :: (sqs 4 (.int .i64 :: (.int .i64 :: (sqs 13 []))))), []⟩
def sx0_st_quat_finite_0 : StSh := ⟨(.any :: (.any :: (.bool :: (sqs 17 [])))), []⟩
def sx1_st_quat_finite_0 : StSh := ⟨(sqs 20 []), []⟩
def hk_st_quat_finite_0 (N : Nat) : List Atom -> K -> Bool := fun a_ κ => match a_ with
  | [.fls l_1, .int t5, .int t6] => iterG N (st_quat_finite_0 N l_1 t5 (fun r0 => κ.ret (sx0_st_quat_finite_0.build [.bool r0])) (κ.ext 0 (sx1_st_quat_finite_0.build []))) t6
  | _ => false
def anZ8 (N : Nat) : Nat -> Option Ann := fun b_ => cond (b_ == 0) (some ⟨⟨[0, 5, 6], [], []⟩, [(0, ⟨[], [], []⟩)], some ⟨[2], [], []⟩, some (mkHooks [(sh_st_quat_finite_0, hk_st_quat_finite_0 N)])⟩) (none)
theorem eq_st_quat_finite_0 (N : Nat) (κ : K) (l_1 : List Fl) (t5 t6 : Int) : iter N (fun s k => codeV ⟨Pg, ofList [], isref, N⟩ 0 (anZ8 N) (lp Pg 48 0).2 (lp Pg 48 0).1 s (roundK Pg 0 ((anZ8 N) (lp Pg 48 0).1) κ k)) (sh_st_quat_finite_0.build [.fls l_1, .int t5, .int t6]) = iterG N (st_quat_finite_0 N l_1 t5 (fun r0 => κ.ret (sx0_st_quat_finite_0.build [.bool r0])) (κ.ext 0 (sx1_st_quat_finite_0.build []))) t6 :=
  iter_tr (fun v_ => sh_st_quat_finite_0.build [.fls l_1, .int t5, .int v_]) (fun v_ K_ => by kernel_rfl) N t6
theorem hk1_st_quat_finite_0 (N : Nat) : HookFor ⟨Pg, ofList [], isref, N⟩ 0 (anZ8 N) (lp Pg 48 0) (sh_st_quat_finite_0, hk_st_quat_finite_0 N) := by
  intro a κ h
  simp only at h
  unfold hk_st_quat_finite_0 at h
  split at h
  · exact (eq_st_quat_finite_0 _ _ _ _ _).trans h
  · cases h
theorem ho_quat_finite_0 (N : Nat) : HookOk ⟨Pg, ofList [], isref, N⟩ 0 (anZ8 N) (lp Pg 48 0) :=
  hooks_ok [(sh_st_quat_finite_0, hk_st_quat_finite_0 N)] (by kernel_rfl) ⟨hk1_st_quat_finite_0 _, trivial⟩
theorem eqZ8 (N : Nat) (l : List Fl) (c_ : V -> List Blk -> Bool) : bodyV ⟨Pg, ofList [], isref, N⟩ (anZ8 N) 48 (shFZ8.args [.fls l]) [] c_ = GZ8 N l (fun r0 => c_ (.bool r0) []) := by kernel_rfl
theorem goodZ8 (N : Nat) : GoodF Pg 48 (FZ8 (GZ8 N)) := by
  refine good_fs (cx := ⟨Pg, ofList [], isref, N⟩) (ofList_nil _) shFZ8 (spZ8 (GZ8 N)) (anZ8 N) 1 0 (by kernel_rfl) (fun i_ hi_ => by
    match i_, hi_ with
    | 0, _ => exact ho_quat_finite_0 _
    | (q + 1), h => omega) ?_
  intro a k h
  unfold spZ8 at h
  split at h
  · exact ⟨[], rfl, rfl, (eqZ8 _ _ _).trans h⟩
  · cases h

def anZ15 (N : Nat) (SZ8 : TSZ8) : Nat -> Option Ann := fun b_ => none
theorem eqZ15 (N : Nat) (SZ8 : TSZ8) (qs_0 qs_1 qs_2 qs_3 : Fl) (c_ : V -> List Blk -> Bool) : bodyV ⟨Pg, ofList [(48, (FZ8 SZ8))], isref, (N + 24)⟩ (anZ15 (N + 24) SZ8) 47 (shFZ15.args [.fl qs_0, .fl qs_1, .fl qs_2, .fl qs_3]) [] c_ = GZ15 (N + 24) SZ8 qs_0 qs_1 qs_2 qs_3 (fun r0 => c_ (.bool r0) []) := by kernel_rfl
theorem goodZ15 (N : Nat) (SZ8 : TSZ8) (hZ8 : GoodF Pg 48 (FZ8 SZ8)) : GoodF Pg 47 (FZ15 (GZ15 (N + 24) SZ8)) := by
  refine good_fs (cx := ⟨Pg, ofList [(48, (FZ8 SZ8))], isref, (N + 24)⟩) (ofList_cons hZ8 (ofList_nil _)) shFZ15 (spZ15 (GZ15 (N + 24) SZ8)) (anZ15 (N + 24) SZ8) 1 0 (by kernel_rfl) (fun i_ hi_ => by
    match i_, hi_ with
    | 0, _ => exact (fun hk e => by rw [show hookOf ((anZ15 (N + 24) SZ8) (lp Pg 47 0).1) = none from by kernel_rfl] at e; cases e)
    | (q + 1), h => omega) ?_
  intro a k h
  unfold spZ15 at h
  split at h
  · exact ⟨[], rfl, rfl, (eqZ15 _ _ _ _ _ _ _).trans h⟩
  · cases h

def anZ91 (N : Nat) : Nat -> Option Ann := fun b_ => none
theorem eqZ91 (N : Nat) (q_0 q_1 q_2 q_3 : Fl) (c_ : V -> List Blk -> Bool) : bodyV ⟨Pg, ofList [], isref, N⟩ (anZ91 N) 156 (shFZ91.args [.fl q_0, .fl q_1, .fl q_2, .fl q_3]) [] c_ = GZ91 N q_0 q_1 q_2 q_3 (c_ (.agg [.flt q_0, .flt q_1, .flt q_2, .flt q_3]) []) := by kernel_rfl
theorem goodZ91 (N : Nat) : GoodF Pg 156 (FZ91 (GZ91 N)) := by
  refine good_fs (cx := ⟨Pg, ofList [], isref, N⟩) (ofList_nil _) shFZ91 (spZ91 (GZ91 N)) (anZ91 N) 0 0 (by kernel_rfl) (fun i_ hi_ => by omega) ?_
  intro a k h
  unfold spZ91 at h
  split at h
  · exact ⟨[], rfl, rfl, (eqZ91 _ _ _ _ _ _).trans h⟩
  · cases h

def anZ121 (N : Nat) (SZ62 : TSZ62) (SZ84 : TSZ84) (SZ21 : TSZ21) (SZ57 : TSZ57) (SZ30 : TSZ30) : Nat -> Option Ann := fun b_ => none
theorem eqZ121 (N : Nat) (SZ62 : TSZ62) (SZ84 : TSZ84) (SZ21 : TSZ21) (SZ57 : TSZ57) (SZ30 : TSZ30) (f : Fl) (c_ : V -> List Blk -> Bool) : bodyV ⟨Pg, ofList [(103, (FZ62 SZ62)), (110, (FZ84 SZ84)), (111, (FZ21 SZ21)), (90, (FZ57 SZ57)), (31, (FZ30 SZ30))], isref, N⟩ (anZ121 N SZ62 SZ84 SZ21 SZ57 SZ30) 196 (shFZ121.args [.fl f]) [] c_ = GZ121 N SZ62 SZ84 SZ21 SZ57 SZ30 f (fun r0 r1 => c_ (.tup [.flt r0, .int .i64 r1]) []) := by kernel_rfl
theorem goodZ121 (N : Nat) (SZ62 : TSZ62) (SZ84 : TSZ84) (SZ21 : TSZ21) (SZ57 : TSZ57) (SZ30 : TSZ30) (hZ62 : GoodF Pg 103 (FZ62 SZ62)) (hZ84 : GoodF Pg 110 (FZ84 SZ84)) (hZ21 : GoodF Pg 111 (FZ21 SZ21)) (hZ57 : GoodF Pg 90 (FZ57 SZ57)) (hZ30 : GoodF Pg 31 (FZ30 SZ30)) : GoodF Pg 196 (FZ121 (GZ121 N SZ62 SZ84 SZ21 SZ57 SZ30)) := by
  refine good_fs (cx := ⟨Pg, ofList [(103, (FZ62 SZ62)), (110, (FZ84 SZ84)), (111, (FZ21 SZ21)), (90, (FZ57 SZ57)), (31, (FZ30 SZ30))], isref, N⟩) (ofList_cons hZ62 (ofList_cons hZ84 (ofList_cons hZ21 (ofList_cons hZ57 (ofList_cons hZ30 (ofList_nil _)))))) shFZ121 (spZ121 (GZ121 N SZ62 SZ84 SZ21 SZ57 SZ30)) (anZ121 N SZ62 SZ84 SZ21 SZ57 SZ30) 0 0 (by kernel_rfl) (fun i_ hi_ => by omega) ?_
  intro a k h
  unfold spZ121 at h
  split at h
  · exact ⟨[], rfl, rfl, (eqZ121 _ _ _ _ _ _ _ _).trans h⟩
  · cases h

def anZ74 (N : Nat) (SZ121 : TSZ121) : Nat -> Option Ann := fun b_ => none
theorem eqZ74 (N : Nat) (SZ121 : TSZ121) (f : Fl) (c_ : V -> List Blk -> Bool) : bodyV ⟨Pg, ofList [(196, (FZ121 SZ121))], isref, N⟩ (anZ74 N SZ121) 157 (shFZ74.args [.fl f]) [] c_ = GZ74 N SZ121 f (fun r0 r1 => c_ (.tup [.flt r0, .int .i64 r1]) []) := by kernel_rfl
theorem goodZ74 (N : Nat) (SZ121 : TSZ121) (hZ121 : GoodF Pg 196 (FZ121 SZ121)) : GoodF Pg 157 (FZ74 (GZ74 N SZ121)) := by
  refine good_fs (cx := ⟨Pg, ofList [(196, (FZ121 SZ121))], isref, N⟩) (ofList_cons hZ121 (ofList_nil _)) shFZ74 (spZ74 (GZ74 N SZ121)) (anZ74 N SZ121) 0 0 (by kernel_rfl) (fun i_ hi_ => by omega) ?_
  intro a k h
  unfold spZ74 at h
  split at h
  · exact ⟨[], rfl, rfl, (eqZ74 _ _ _ _).trans h⟩
  · cases h


def anZ103 (N : Nat) (SZ130 : TSZ130) : Nat -> Option Ann := fun b_ => none
theorem eqZ103 (N : Nat) (SZ130 : TSZ130) (x : Fl) (c_ : V -> List Blk -> Bool) : bodyV ⟨Pg, ofList [(190, (FZ130 SZ130))], isref, N⟩ (anZ103 N SZ130) 153 (shFZ103.args [.fl x]) [] c_ = GZ103 N SZ130 x (fun r0 => c_ (.flt r0) []) := by kernel_rfl
theorem goodZ103 (N : Nat) (SZ130 : TSZ130) (hZ130 : GoodF Pg 190 (FZ130 SZ130)) : GoodF Pg 153 (FZ103 (GZ103 N SZ130)) := by
  refine good_fs (cx := ⟨Pg, ofList [(190, (FZ130 SZ130))], isref, N⟩) (ofList_cons hZ130 (ofList_nil _)) shFZ103 (spZ103 (GZ103 N SZ130)) (anZ103 N SZ130) 0 0 (by kernel_rfl) (fun i_ hi_ => by omega) ?_
  intro a k h
  unfold spZ103 at h
  split at h
  · exact ⟨[], rfl, rfl, (eqZ103 _ _ _ _).trans h⟩
  · cases h

def anZ96 (N : Nat) : Nat -> Option Ann := fun b_ => none
theorem eqZ96 (N : Nat) (l_0 l_1 l_2 l_3 : Fl) (c_ : V -> List Blk -> Bool) : bodyV ⟨Pg, ofList [], isref, N⟩ (anZ96 N) 158 (shFZ96.args [.fl l_0, .fl l_1, .fl l_2, .fl l_3]) [] c_ = GZ96 N l_0 l_1 l_2 l_3 (c_ (.agg [.flt l_0, .flt l_1, .flt l_2, .flt l_3]) []) := by kernel_rfl
theorem goodZ96 (N : Nat) : GoodF Pg 158 (FZ96 (GZ96 N)) := by
  refine good_fs (cx := ⟨Pg, ofList [], isref, N⟩) (ofList_nil _) shFZ96 (spZ96 (GZ96 N)) (anZ96 N) 0 0 (by kernel_rfl) (fun i_ hi_ => by omega) ?_
  intro a k h
  unfold spZ96 at h
  split at h
  · exact ⟨[], rfl, rfl, (eqZ96 _ _ _ _ _ _).trans h⟩
  · cases h

def anZ34 (N : Nat) (SZ15 : TSZ15) (SZ91 : TSZ91) (S_m_Abs : TS_m_Abs) (SZ74 : TSZ74) (SZ19 : TSZ19) (SZ103 : TSZ103) (SZ96 : TSZ96) : Nat -> Option Ann := fun b_ => none
theorem eqZ34 (N : Nat) (SZ15 : TSZ15) (SZ91 : TSZ91) (S_m_Abs : TS_m_Abs) (SZ74 : TSZ74) (SZ19 : TSZ19) (SZ103 : TSZ103) (SZ96 : TSZ96) (q_0 q_1 q_2 q_3 : Fl) (c_ : V -> List Blk -> Bool) : bodyV ⟨Pg, ofList [(47, (FZ15 SZ15)), (156, (FZ91 SZ91)), (35, (F_m_Abs S_m_Abs)), (157, (FZ74 SZ74)), (22, (FZ19 SZ19)), (153, (FZ103 SZ103)), (158, (FZ96 SZ96))], isref, (N + 24)⟩ (anZ34 (N + 24) SZ15 SZ91 S_m_Abs SZ74 SZ19 SZ103 SZ96) 91 (shFZ34.args [.fl q_0, .fl q_1, .fl q_2, .fl q_3]) [] c_ = GZ34 (N + 24) SZ15 SZ91 S_m_Abs SZ74 SZ19 SZ103 SZ96 q_0 q_1 q_2 q_3 (fun r0 r1 r2 r3 r4 => c_ (.tup [.agg [.flt r0, .flt r1, .flt r2, .flt r3], .int .i64 r4]) []) := by kernel_rfl
theorem goodZ34 (N : Nat) (SZ15 : TSZ15) (SZ91 : TSZ91) (S_m_Abs : TS_m_Abs) (SZ74 : TSZ74) (SZ19 : TSZ19) (SZ103 : TSZ103) (SZ96 : TSZ96) (hZ15 : GoodF Pg 47 (FZ15 SZ15)) (hZ91 : GoodF Pg 156 (FZ91 SZ91)) (h_m_Abs : GoodF Pg 35 (F_m_Abs S_m_Abs)) (hZ74 : GoodF Pg 157 (FZ74 SZ74)) (hZ19 : GoodF Pg 22 (FZ19 SZ19)) (hZ103 : GoodF Pg 153 (FZ103 SZ103)) (hZ96 : GoodF Pg 158 (FZ96 SZ96)) : GoodF Pg 91 (FZ34 (GZ34 (N + 24) SZ15 SZ91 S_m_Abs SZ74 SZ19 SZ103 SZ96)) := by
  refine good_fs (cx := ⟨Pg, ofList [(47, (FZ15 SZ15)), (156, (FZ91 SZ91)), (35, (F_m_Abs S_m_Abs)), (157, (FZ74 SZ74)), (22, (FZ19 SZ19)), (153, (FZ103 SZ103)), (158, (FZ96 SZ96))], isref, (N + 24)⟩) (ofList_cons hZ15 (ofList_cons hZ91 (ofList_cons h_m_Abs (ofList_cons hZ74 (ofList_cons hZ19 (ofList_cons hZ103 (ofList_cons hZ96 (ofList_nil _)))))))) shFZ34 (spZ34 (GZ34 (N + 24) SZ15 SZ91 S_m_Abs SZ74 SZ19 SZ103 SZ96)) (anZ34 (N + 24) SZ15 SZ91 S_m_Abs SZ74 SZ19 SZ103 SZ96) 3 0 (by kernel_rfl) (fun i_ hi_ => by
    match i_, hi_ with
    | 0, _ => exact (fun hk e => by rw [show hookOf ((anZ34 (N + 24) SZ15 SZ91 S_m_Abs SZ74 SZ19 SZ103 SZ96) (lp Pg 91 0).1) = none from by kernel_rfl] at e; cases e)
    | 1, _ => exact (fun hk e => by rw [show hookOf ((anZ34 (N + 24) SZ15 SZ91 S_m_Abs SZ74 SZ19 SZ103 SZ96) (lp Pg 91 1).1) = none from by kernel_rfl] at e; cases e)
    | 2, _ => exact (fun hk e => by rw [show hookOf ((anZ34 (N + 24) SZ15 SZ91 S_m_Abs SZ74 SZ19 SZ103 SZ96) (lp Pg 91 2).1) = none from by kernel_rfl] at e; cases e)
    | (q + 3), h => omega) ?_
  intro a k h
  unfold spZ34 at h
  split at h
  · exact ⟨[], rfl, rfl, (eqZ34 _ _ _ _ _ _ _ _ _ _ _ _ _).trans h⟩
  · cases h


end Go.Proofs.YtgngdkjghdohiaaGreat
