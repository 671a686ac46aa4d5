/-
  THE TIES: each printed meaning is what the program does (written by program).
  Conditions: none.
-/
import Derived.Test.YtccocdgimamdhaaGreatDoorGs
namespace Go.Proofs.YtccocdgimamdhaaGreatDoor
open Go Go.Mach Go.Proofs
set_option linter.unusedVariables false
set_option maxRecDepth 50000

def sh_st_big_Int_Or_p0p0p1rr_0 : StSh := ⟨(.ptr 0 0 :: (.ptr 0 0 :: (.ptr 1 0 :: (sqs 4 (.slw 2 :: (sqs 14 (.int .i64 :: (.int .i64 :: (sqs 23 []))))))))), [some (164, 1, .cells [.bool, .roi .u64]), some (164, 1, .cells [.bool, .roi .u64]), some (41, 1, .ints .u64)]⟩
def sx0_st_big_Int_Or_p0p0p1rr_0 : StSh := ⟨(.ptr 0 0 :: (sqs 6 (.slw 2 :: (sqs 39 [])))), [some (164, 1, .cells [.bool, .roi .u64]), some (164, 1, .cells [.bool, .roi .u64]), some (41, 1, .ints .u64)]⟩
def hk_st_big_Int_Or_p0p0p1rr_0 (N : Nat) (Sj19 : TSj19) (Sj1 : TSj1) (Sj47 : TSj47) : List Atom -> K -> Bool := fun a_ κ => match a_ with
  | [.int t22, .int t23, .bool z, .ints z_1, .bool y, .ints y_1, .ints r] => iterG N (stj211 N Sj19 Sj1 Sj47 t22 z z_1 y y_1 (fun r4 => κ.ext 0 (sx0_st_big_Int_Or_p0p0p1rr_0.build [.bool z, .ints z_1, .bool y, .ints y_1, .ints r4]))) (t23, r)
  | _ => false
def anj31 (N : Nat) (Sj19 : TSj19) (Sj1 : TSj1) (Sj47 : TSj47) : Nat -> Option Ann := fun b_ => cond (b_ == 0) (some ⟨⟨[0, 1, 2, 7, 22, 23], [], []⟩, [(0, ⟨[0, 7], [], []⟩)], some ⟨[6], [], []⟩, some (mkHooks [(sh_st_big_Int_Or_p0p0p1rr_0, hk_st_big_Int_Or_p0p0p1rr_0 N Sj19 Sj1 Sj47)])⟩) (none)
theorem eq_st_big_Int_Or_p0p0p1rr_0 (N : Nat) (Sj19 : TSj19) (Sj1 : TSj1) (Sj47 : TSj47) (κ : K) (t22 t23 : Int) (z : Bool) (z_1 : List Int) (y : Bool) (y_1 r : List Int) : iter N (fun s k => codeV ⟨Pg, ofList [(205, (Fj19 Sj19)), (202, (Fj1 Sj1)), (170, (Fj47 Sj47))], isref, N⟩ 2 (anj31 N Sj19 Sj1 Sj47) (lp Pg 173 0).2 (lp Pg 173 0).1 s (roundK Pg 2 ((anj31 N Sj19 Sj1 Sj47) (lp Pg 173 0).1) κ k)) (sh_st_big_Int_Or_p0p0p1rr_0.build [.int t22, .int t23, .bool z, .ints z_1, .bool y, .ints y_1, .ints r]) = iterG N (stj211 N Sj19 Sj1 Sj47 t22 z z_1 y y_1 (fun r4 => κ.ext 0 (sx0_st_big_Int_Or_p0p0p1rr_0.build [.bool z, .ints z_1, .bool y, .ints y_1, .ints r4]))) (t23, r) :=
  iter_tr (fun (v_ : Int × List Int) => sh_st_big_Int_Or_p0p0p1rr_0.build [.int t22, .int v_.1, .bool z, .ints z_1, .bool y, .ints y_1, .ints v_.2]) (fun v_ K_ => by obtain ⟨t23, r⟩ := v_; kernel_rfl) N (t23, r)
theorem hk1_st_big_Int_Or_p0p0p1rr_0 (N : Nat) (Sj19 : TSj19) (Sj1 : TSj1) (Sj47 : TSj47) : HookFor ⟨Pg, ofList [(205, (Fj19 Sj19)), (202, (Fj1 Sj1)), (170, (Fj47 Sj47))], isref, N⟩ 2 (anj31 N Sj19 Sj1 Sj47) (lp Pg 173 0) (sh_st_big_Int_Or_p0p0p1rr_0, hk_st_big_Int_Or_p0p0p1rr_0 N Sj19 Sj1 Sj47) := by
  intro a κ h
  simp only at h
  unfold hk_st_big_Int_Or_p0p0p1rr_0 at h
  split at h
  · exact (eq_st_big_Int_Or_p0p0p1rr_0 _ _ _ _ _ _ _ _ _ _ _ _).trans h
  · cases h
theorem ho_big_Int_Or_p0p0p1rr_0 (N : Nat) (Sj19 : TSj19) (Sj1 : TSj1) (Sj47 : TSj47) : HookOk ⟨Pg, ofList [(205, (Fj19 Sj19)), (202, (Fj1 Sj1)), (170, (Fj47 Sj47))], isref, N⟩ 2 (anj31 N Sj19 Sj1 Sj47) (lp Pg 173 0) :=
  hooks_ok [(sh_st_big_Int_Or_p0p0p1rr_0, hk_st_big_Int_Or_p0p0p1rr_0 N Sj19 Sj1 Sj47)] (by kernel_rfl) ⟨hk1_st_big_Int_Or_p0p0p1rr_0 _ _ _ _, trivial⟩
theorem eqj31 (N : Nat) (Sj19 : TSj19) (Sj1 : TSj1) (Sj47 : TSj47) (b : Bool) (b_1 : List Int) (b_2 : Bool) (b_3 : List Int) (c_ : V -> List Blk -> Bool) : bodyZ ⟨Pg, ofList [(205, (Fj19 Sj19)), (202, (Fj1 Sj1)), (170, (Fj47 Sj47))], isref, N⟩ (anj31 N Sj19 Sj1 Sj47) 173 (shFj31.args [.bool b, .ints b_1, .bool b_2, .ints b_3]) [⟨164, 1, .cells [.bool b, .roi .u64 b_1]⟩, ⟨164, 1, .cells [.bool b_2, .roi .u64 b_3]⟩] c_ = Gj31 N Sj19 Sj1 Sj47 b b_1 b_2 b_3 (fun r0 r1 => c_ (.ptr 0 0) [⟨164, 1, .cells [.bool r0, .roi .u64 r1]⟩, ⟨164, 1, .cells [.bool b_2, .roi .u64 b_3]⟩]) := by kernel_rfl
theorem goodj31 (N : Nat) (Sj19 : TSj19) (Sj1 : TSj1) (Sj47 : TSj47) (hj19 : GoodF Pg 205 (Fj19 Sj19)) (hj1 : GoodF Pg 202 (Fj1 Sj1)) (hj47 : GoodF Pg 170 (Fj47 Sj47)) : GoodF Pg 173 (Fj31 (Gj31 N Sj19 Sj1 Sj47)) := by
  refine good_fsZ (cx := ⟨Pg, ofList [(205, (Fj19 Sj19)), (202, (Fj1 Sj1)), (170, (Fj47 Sj47))], isref, N⟩) (ofList_cons hj19 (ofList_cons hj1 (ofList_cons hj47 (ofList_nil _)))) shFj31 (spj31 (Gj31 N Sj19 Sj1 Sj47)) (anj31 N Sj19 Sj1 Sj47) 1 2 (by kernel_rfl) (fun i_ hi_ => by
    match i_, hi_ with
    | 0, _ => exact ho_big_Int_Or_p0p0p1rr_0 _ _ _ _
    | (q + 1), h => omega) ?_
  intro a k h
  unfold spj31 at h
  split at h
  · exact ⟨[_, _], rfl, rfl, (eqj31 _ _ _ _ _ _ _ _ _).trans h⟩
  · cases h

def anj49 (N : Nat) (Sj119 : TSj119) (Sj33 : TSj33) : Nat -> Option Ann := fun b_ => none
theorem eqj49 (N : Nat) (Sj119 : TSj119) (Sj33 : TSj33) (n : Int) (b : Bool) (b_1 : List Int) (c_ : V -> List Blk -> Bool) : bodyZ ⟨Pg, ofList [(204, (Fj119 Sj119)), (170, (Fj33 Sj33))], isref, N⟩ (anj49 N Sj119 Sj33) 172 (shFj49.args [.int n, .bool b, .ints b_1]) [⟨164, 1, .cells [.bool b, .roi .u64 b_1]⟩] c_ = Gj49 N Sj119 Sj33 n b b_1 (fun r0 r1 => c_ (.ptr 0 0) [⟨164, 1, .cells [.bool r0, .roi .u64 r1]⟩]) := by kernel_rfl
theorem goodj49 (N : Nat) (Sj119 : TSj119) (Sj33 : TSj33) (hj119 : GoodF Pg 204 (Fj119 Sj119)) (hj33 : GoodF Pg 170 (Fj33 Sj33)) : GoodF Pg 172 (Fj49 (Gj49 N Sj119 Sj33)) := by
  refine good_fsZ (cx := ⟨Pg, ofList [(204, (Fj119 Sj119)), (170, (Fj33 Sj33))], isref, N⟩) (ofList_cons hj119 (ofList_cons hj33 (ofList_nil _))) shFj49 (spj49 (Gj49 N Sj119 Sj33)) (anj49 N Sj119 Sj33) 0 1 (by kernel_rfl) (fun i_ hi_ => by omega) ?_
  intro a k h
  unfold spj49 at h
  split at h
  · exact ⟨[_], rfl, rfl, (eqj49 _ _ _ _ _ _ _).trans h⟩
  · cases h

def sh_st_dyad_take_0 : StSh := ⟨(.any :: (.ptr 0 0 :: (.ptr 1 0 :: (.ptr 2 0 :: (.int .i64 :: (sqs 31 [])))))), [some (124, 1, .cells [.bool, .roi .u32, .int .i64]), some (166, 1, .cells [.val, .int .i64]), some (164, 1, .cells [.bool, .roi .u64])]⟩
def sx0_st_dyad_take_0 : StSh := ⟨(.any :: (.ptr 0 0 :: (.ptr 1 0 :: (.ptr 2 0 :: (sqs 32 []))))), [some (124, 1, .cells [.bool, .roi .u32, .int .i64]), some (166, 1, .cells [.val, .int .i64]), some (164, 1, .cells [.bool, .roi .u64])]⟩
def hk_st_dyad_take_0 (N : Nat) (Sj48 : TSj48) (Sj67 : TSj67) (Sj31 : TSj31) (Sj49 : TSj49) (Sj26 : TSj26) : List Atom -> K -> Bool := fun a_ κ => match a_ with
  | [.int i_1, .bool d_3, .ints d_4, .int d_5, .val t2_2, .int t2_3, .bool n_1, .ints n_2] => iterG N (st_dyad_take_0 N Sj48 Sj67 Sj31 Sj49 Sj26 d_3 d_4 d_5 t2_2 t2_3 (fun r5 r6 => κ.ext 0 (sx0_st_dyad_take_0.build [.bool d_3, .ints d_4, .int d_5, .val t2_2, .int t2_3, .bool r5, .ints r6]))) (i_1, n_1, n_2)
  | _ => false
def anj125 (N : Nat) (Sj48 : TSj48) (Sj67 : TSj67) (Sj31 : TSj31) (Sj49 : TSj49) (Sj26 : TSj26) : Nat -> Option Ann := fun b_ => cond (b_ == 0) (some ⟨⟨[1, 2, 3, 4], [], [(2, 1, some .u64)]⟩, [(0, ⟨[1, 2, 3], [], []⟩)], some ⟨[2], [], []⟩, some (mkHooks [(sh_st_dyad_take_0, hk_st_dyad_take_0 N Sj48 Sj67 Sj31 Sj49 Sj26)])⟩) (none)
theorem eq_st_dyad_take_0 (N : Nat) (Sj48 : TSj48) (Sj67 : TSj67) (Sj31 : TSj31) (Sj49 : TSj49) (Sj26 : TSj26) (κ : K) (i_1 : Int) (d_3 : Bool) (d_4 : List Int) (d_5 : Int) (t2_2 : Value) (t2_3 : Int) (n_1 : Bool) (n_2 : List Int) : iter N (fun s k => codeV ⟨Pg, ofList [(172, (orFs (Fj48 Sj48) (Fj49 Sj49) shFj48)), (165, (Fj67 Sj67)), (173, (Fj31 Sj31)), (131, (Fj26 Sj26))], isref, N⟩ 0 (anj125 N Sj48 Sj67 Sj31 Sj49 Sj26) (lp Pg 133 0).2 (lp Pg 133 0).1 s (roundK Pg 0 ((anj125 N Sj48 Sj67 Sj31 Sj49 Sj26) (lp Pg 133 0).1) κ k)) (sh_st_dyad_take_0.build [.int i_1, .bool d_3, .ints d_4, .int d_5, .val t2_2, .int t2_3, .bool n_1, .ints n_2]) = iterG N (st_dyad_take_0 N Sj48 Sj67 Sj31 Sj49 Sj26 d_3 d_4 d_5 t2_2 t2_3 (fun r5 r6 => κ.ext 0 (sx0_st_dyad_take_0.build [.bool d_3, .ints d_4, .int d_5, .val t2_2, .int t2_3, .bool r5, .ints r6]))) (i_1, n_1, n_2) :=
  iter_tr (fun (v_ : Int × Bool × List Int) => sh_st_dyad_take_0.build [.int v_.1, .bool d_3, .ints d_4, .int d_5, .val t2_2, .int t2_3, .bool v_.2.1, .ints v_.2.2]) (fun v_ K_ => by obtain ⟨i_1, n_1, n_2⟩ := v_; kernel_rfl) N (i_1, n_1, n_2)
theorem hk1_st_dyad_take_0 (N : Nat) (Sj48 : TSj48) (Sj67 : TSj67) (Sj31 : TSj31) (Sj49 : TSj49) (Sj26 : TSj26) : HookFor ⟨Pg, ofList [(172, (orFs (Fj48 Sj48) (Fj49 Sj49) shFj48)), (165, (Fj67 Sj67)), (173, (Fj31 Sj31)), (131, (Fj26 Sj26))], isref, N⟩ 0 (anj125 N Sj48 Sj67 Sj31 Sj49 Sj26) (lp Pg 133 0) (sh_st_dyad_take_0, hk_st_dyad_take_0 N Sj48 Sj67 Sj31 Sj49 Sj26) := by
  intro a κ h
  simp only at h
  unfold hk_st_dyad_take_0 at h
  split at h
  · exact (eq_st_dyad_take_0 _ _ _ _ _ _ _ _ _ _ _ _ _ _ _).trans h
  · cases h
theorem ho_dyad_take_0 (N : Nat) (Sj48 : TSj48) (Sj67 : TSj67) (Sj31 : TSj31) (Sj49 : TSj49) (Sj26 : TSj26) : HookOk ⟨Pg, ofList [(172, (orFs (Fj48 Sj48) (Fj49 Sj49) shFj48)), (165, (Fj67 Sj67)), (173, (Fj31 Sj31)), (131, (Fj26 Sj26))], isref, N⟩ 0 (anj125 N Sj48 Sj67 Sj31 Sj49 Sj26) (lp Pg 133 0) :=
  hooks_ok [(sh_st_dyad_take_0, hk_st_dyad_take_0 N Sj48 Sj67 Sj31 Sj49 Sj26)] (by kernel_rfl) ⟨hk1_st_dyad_take_0 _ _ _ _ _ _, trivial⟩
theorem eqj125 (N : Nat) (Sj48 : TSj48) (Sj67 : TSj67) (Sj31 : TSj31) (Sj49 : TSj49) (Sj26 : TSj26) (d_0 : Bool) (d_1 : List Int) (d_2 : Int) (c_ : V -> List Blk -> Bool) : bodyV ⟨Pg, ofList [(172, (orFs (Fj48 Sj48) (Fj49 Sj49) shFj48)), (165, (Fj67 Sj67)), (173, (Fj31 Sj31)), (131, (Fj26 Sj26))], isref, N⟩ (anj125 N Sj48 Sj67 Sj31 Sj49 Sj26) 133 (shFj125.args [.bool d_0, .ints d_1, .int d_2]) [] c_ = Gj125 N Sj48 Sj67 Sj31 Sj49 Sj26 d_0 d_1 d_2 (fun r1 r2 => c_ (.agg [.ptr 0 0, .int .i64 d_2]) [⟨164, 1, .cells [.bool r1, .roi .u64 r2]⟩]) := by kernel_rfl
theorem goodj125 (N : Nat) (Sj48 : TSj48) (Sj67 : TSj67) (Sj31 : TSj31) (Sj49 : TSj49) (Sj26 : TSj26) (hj48 : GoodF Pg 172 (Fj48 Sj48)) (hj67 : GoodF Pg 165 (Fj67 Sj67)) (hj31 : GoodF Pg 173 (Fj31 Sj31)) (hj49 : GoodF Pg 172 (Fj49 Sj49)) (hj26 : GoodF Pg 131 (Fj26 Sj26)) : GoodF Pg 133 (Fj125 (Gj125 N Sj48 Sj67 Sj31 Sj49 Sj26)) := by
  refine good_fs (cx := ⟨Pg, ofList [(172, (orFs (Fj48 Sj48) (Fj49 Sj49) shFj48)), (165, (Fj67 Sj67)), (173, (Fj31 Sj31)), (131, (Fj26 Sj26))], isref, N⟩) (ofList_cons (good_or hj48 hj49) (ofList_cons hj67 (ofList_cons hj31 (ofList_cons hj26 (ofList_nil _))))) shFj125 (spj125 (Gj125 N Sj48 Sj67 Sj31 Sj49 Sj26)) (anj125 N Sj48 Sj67 Sj31 Sj49 Sj26) 1 0 (by kernel_rfl) (fun i_ hi_ => by
    match i_, hi_ with
    | 0, _ => exact ho_dyad_take_0 _ _ _ _ _ _
    | (q + 1), h => omega) ?_
  intro a k h
  unfold spj125 at h
  split at h
  · exact ⟨[], rfl, rfl, (eqj125 _ _ _ _ _ _ _ _ _ _).trans h⟩
  · cases h

def anj45 (N : Nat) (Sj82 : TSj82) (Sj0 : TSj0) : Nat -> Option Ann := fun b_ => none
theorem eqj45 (N : Nat) (Sj82 : TSj82) (Sj0 : TSj0) (b b_1 : Bool) (b_2 : List Int) (c_ : V -> List Blk -> Bool) : bodyZ ⟨Pg, ofList [(171, (Fj82 Sj82)), (170, (Fj0 Sj0))], isref, N⟩ (anj45 N Sj82 Sj0) 131 (shFj45.args [.bool b, .bool b_1, .ints b_2]) [⟨164, 1, .cells [.bool b, .nil]⟩, ⟨164, 1, .cells [.bool b_1, .roi .u64 b_2]⟩] c_ = Gj45 N Sj82 Sj0 b b_1 b_2 (fun r0 r1 => c_ (.ptr 0 0) [⟨164, 1, .cells [.bool r0, .roi .u64 r1]⟩, ⟨164, 1, .cells [.bool b_1, .roi .u64 b_2]⟩]) := by kernel_rfl
theorem goodj45 (N : Nat) (Sj82 : TSj82) (Sj0 : TSj0) (hj82 : GoodF Pg 171 (Fj82 Sj82)) (hj0 : GoodF Pg 170 (Fj0 Sj0)) : GoodF Pg 131 (Fj45 (Gj45 N Sj82 Sj0)) := by
  refine good_fsZ (cx := ⟨Pg, ofList [(171, (Fj82 Sj82)), (170, (Fj0 Sj0))], isref, N⟩) (ofList_cons hj82 (ofList_cons hj0 (ofList_nil _))) shFj45 (spj45 (Gj45 N Sj82 Sj0)) (anj45 N Sj82 Sj0) 0 2 (by kernel_rfl) (fun i_ hi_ => by omega) ?_
  intro a k h
  unfold spj45 at h
  split at h
  · exact ⟨[_, _], rfl, rfl, (eqj45 _ _ _ _ _ _ _).trans h⟩
  · cases h

def anj80 (N : Nat) (Sj45 : TSj45) (Sj4 : TSj4) : Nat -> Option Ann := fun b_ => none
theorem eqj80 (N : Nat) (Sj45 : TSj45) (Sj4 : TSj4) (x y : Int) (b : Bool) (b_1 : List Int) (b_2 : Bool) (b_3 : List Int) (c_ : V -> List Blk -> Bool) : bodyV ⟨Pg, ofList [(131, (Fj45 Sj45)), (125, (Fj4 Sj4))], isref, N⟩ (anj80 N Sj45 Sj4) 130 (shFj80.args [.int x, .int y, .bool b, .ints b_1, .bool b_2, .ints b_3]) [⟨164, 1, .cells [.bool b, .roi .u64 b_1]⟩, ⟨164, 1, .cells [.bool b_2, .roi .u64 b_3]⟩] c_ = Gj80 N Sj45 Sj4 x y b b_1 b_2 b_3 (fun r0 r5 r6 => c_ (.agg [.ptr 2 0, .int .i64 r0]) [⟨164, 1, .cells [.bool b, .roi .u64 b_1]⟩, ⟨164, 1, .cells [.bool b_2, .roi .u64 b_3]⟩, ⟨164, 1, .cells [.bool r5, .roi .u64 r6]⟩]) (c_ (.agg [.ptr 0 0, .int .i64 x]) [⟨164, 1, .cells [.bool b, .roi .u64 b_1]⟩, ⟨164, 1, .cells [.bool b_2, .roi .u64 b_3]⟩]) := by kernel_rfl
theorem goodj80 (N : Nat) (Sj45 : TSj45) (Sj4 : TSj4) (hj45 : GoodF Pg 131 (Fj45 Sj45)) (hj4 : GoodF Pg 125 (Fj4 Sj4)) : GoodF Pg 130 (Fj80 (Gj80 N Sj45 Sj4)) := by
  refine good_fs (cx := ⟨Pg, ofList [(131, (Fj45 Sj45)), (125, (Fj4 Sj4))], isref, N⟩) (ofList_cons hj45 (ofList_cons hj4 (ofList_nil _))) shFj80 (spj80 (Gj80 N Sj45 Sj4)) (anj80 N Sj45 Sj4) 0 2 (by kernel_rfl) (fun i_ hi_ => by omega) ?_
  intro a k h
  unfold spj80 at h
  split at h
  · exact ⟨[_, _], rfl, rfl, (eqj80 _ _ _ _ _ _ _ _ _ _).trans h⟩
  · cases h

def anj132 (N : Nat) (Sj141 : TSj141) (Sj125 : TSj125) (Sj80 : TSj80) (Sj16 : TSj16) : Nat -> Option Ann := fun b_ => none
theorem eqj132 (N : Nat) (Sj141 : TSj141) (Sj125 : TSj125) (Sj80 : TSj80) (Sj16 : TSj16) (a_0 : Bool) (a_1 : List Int) (a_2 : Int) (b_0 : Bool) (b_1 : List Int) (b_2 : Int) (c_ : V -> List Blk -> Bool) : bodyV ⟨Pg, ofList [(132, (Fj141 Sj141)), (133, (Fj125 Sj125)), (130, (Fj80 Sj80)), (128, (Fj16 Sj16))], isref, N⟩ (anj132 N Sj141 Sj125 Sj80 Sj16) 129 (shFj132.args [.bool a_0, .ints a_1, .int a_2, .bool b_0, .ints b_1, .int b_2]) [] c_ = Gj132 N Sj141 Sj125 Sj80 Sj16 a_0 a_1 a_2 b_0 b_1 b_2 (fun r0 r1 r2 => c_ (.tup [.agg [.bool r0, .nil, .int .i64 r1], .int .i64 r2]) []) (fun r0 r1 r2 r3 => c_ (.tup [.agg [.bool r0, .slw 0, .int .i64 r1], .int .i64 r2]) [⟨127, 1, .ints .u32 r3⟩]) := by kernel_rfl
theorem goodj132 (N : Nat) (Sj141 : TSj141) (Sj125 : TSj125) (Sj80 : TSj80) (Sj16 : TSj16) (hj141 : GoodF Pg 132 (Fj141 Sj141)) (hj125 : GoodF Pg 133 (Fj125 Sj125)) (hj80 : GoodF Pg 130 (Fj80 Sj80)) (hj16 : GoodF Pg 128 (Fj16 Sj16)) : GoodF Pg 129 (Fj132 (Gj132 N Sj141 Sj125 Sj80 Sj16)) := by
  refine good_fs (cx := ⟨Pg, ofList [(132, (Fj141 Sj141)), (133, (Fj125 Sj125)), (130, (Fj80 Sj80)), (128, (Fj16 Sj16))], isref, N⟩) (ofList_cons hj141 (ofList_cons hj125 (ofList_cons hj80 (ofList_cons hj16 (ofList_nil _))))) shFj132 (spj132 (Gj132 N Sj141 Sj125 Sj80 Sj16)) (anj132 N Sj141 Sj125 Sj80 Sj16) 0 0 (by kernel_rfl) (fun i_ hi_ => by omega) ?_
  intro a k h
  unfold spj132 at h
  split at h
  · exact ⟨[], rfl, rfl, (eqj132 _ _ _ _ _ _ _ _ _ _ _ _).trans h⟩
  · cases h

def anj95 (N : Nat) (Sj132 : TSj132) : Nat -> Option Ann := fun b_ => none
theorem eqj95 (N : Nat) (Sj132 : TSj132) (a_0 : Bool) (a_1 : List Int) (a_2 : Int) (b_0 : Bool) (b_1 : List Int) (b_2 : Int) (c_ : V -> List Blk -> Bool) : bodyV ⟨Pg, ofList [(129, (Fj132 Sj132))], isref, N⟩ (anj95 N Sj132) 80 (shFj95.args [.bool a_0, .ints a_1, .int a_2, .bool b_0, .ints b_1, .int b_2]) [] c_ = Gj95 N Sj132 a_0 a_1 a_2 b_0 b_1 b_2 (fun r0 r1 r2 => c_ (.tup [.agg [.bool r0, .nil, .int .i64 r1], .int .i64 r2]) []) (fun r0 r1 r2 r3 => c_ (.tup [.agg [.bool r0, .slw 0, .int .i64 r1], .int .i64 r2]) [⟨127, 1, .ints .u32 r3⟩]) := by kernel_rfl
theorem goodj95 (N : Nat) (Sj132 : TSj132) (hj132 : GoodF Pg 129 (Fj132 Sj132)) : GoodF Pg 80 (Fj95 (Gj95 N Sj132)) := by
  refine good_fs (cx := ⟨Pg, ofList [(129, (Fj132 Sj132))], isref, N⟩) (ofList_cons hj132 (ofList_nil _)) shFj95 (spj95 (Gj95 N Sj132)) (anj95 N Sj132) 0 0 (by kernel_rfl) (fun i_ hi_ => by omega) ?_
  intro a k h
  unfold spj95 at h
  split at h
  · exact ⟨[], rfl, rfl, (eqj95 _ _ _ _ _ _ _ _ _).trans h⟩
  · cases h

def anj42 (N : Nat) (Sj141 : TSj141) (Sj125 : TSj125) (Sj45 : TSj45) (Sj4 : TSj4) (Sj3 : TSj3) : Nat -> Option Ann := fun b_ => none
theorem eqj42 (N : Nat) (Sj141 : TSj141) (Sj125 : TSj125) (Sj45 : TSj45) (Sj4 : TSj4) (Sj3 : TSj3) (a_0 : Bool) (a_1 : List Int) (a_2 : Int) (b_0 : Bool) (b_1 : List Int) (b_2 : Int) (c_ : V -> List Blk -> Bool) : bodyV ⟨Pg, ofList [(132, (Fj141 Sj141)), (133, (Fj125 Sj125)), (131, (Fj45 Sj45)), (125, (Fj4 Sj4)), (134, (Fj3 Sj3))], isref, N⟩ (anj42 N Sj141 Sj125 Sj45 Sj4 Sj3) 81 (shFj42.args [.bool a_0, .ints a_1, .int a_2, .bool b_0, .ints b_1, .int b_2]) [] c_ = Gj42 N Sj141 Sj125 Sj45 Sj4 Sj3 a_0 a_1 a_2 b_0 b_1 b_2 (fun r0 r1 => c_ (.tup [.int .i64 r0, .int .i64 r1]) []) := by kernel_rfl
theorem goodj42 (N : Nat) (Sj141 : TSj141) (Sj125 : TSj125) (Sj45 : TSj45) (Sj4 : TSj4) (Sj3 : TSj3) (hj141 : GoodF Pg 132 (Fj141 Sj141)) (hj125 : GoodF Pg 133 (Fj125 Sj125)) (hj45 : GoodF Pg 131 (Fj45 Sj45)) (hj4 : GoodF Pg 125 (Fj4 Sj4)) (hj3 : GoodF Pg 134 (Fj3 Sj3)) : GoodF Pg 81 (Fj42 (Gj42 N Sj141 Sj125 Sj45 Sj4 Sj3)) := by
  refine good_fs (cx := ⟨Pg, ofList [(132, (Fj141 Sj141)), (133, (Fj125 Sj125)), (131, (Fj45 Sj45)), (125, (Fj4 Sj4)), (134, (Fj3 Sj3))], isref, N⟩) (ofList_cons hj141 (ofList_cons hj125 (ofList_cons hj45 (ofList_cons hj4 (ofList_cons hj3 (ofList_nil _)))))) shFj42 (spj42 (Gj42 N Sj141 Sj125 Sj45 Sj4 Sj3)) (anj42 N Sj141 Sj125 Sj45 Sj4 Sj3) 0 0 (by kernel_rfl) (fun i_ hi_ => by omega) ?_
  intro a k h
  unfold spj42 at h
  split at h
  · exact ⟨[], rfl, rfl, (eqj42 _ _ _ _ _ _ _ _ _ _ _ _ _).trans h⟩
  · cases h

def anj98 (N : Nat) (Sj15 : TSj15) (Sj60 : TSj60) (Sj94 : TSj94) (Sj95 : TSj95) (Sj42 : TSj42) : Nat -> Option Ann := fun b_ => none
def lsj236 (d_ : List V) (u_ : List (Option Blk)) (q_0 q_1 q_2 q_3 : Fl) (b7 : List Int) (off_6 : Bool) (off_7 : Int) : St := ⟨(dqs d_ 0 7 (.ptr 8 0 :: (dqs d_ 7 39 []))), [(u_.getD 0 none), (u_.getD 1 none), (u_.getD 2 none), (u_.getD 3 none), (u_.getD 4 none), (u_.getD 5 none), (u_.getD 6 none), some ⟨127, 1, .ints .u32 b7⟩, some ⟨124, 1, .cells [.bool off_6, .slw 7, .int .i64 off_7]⟩]⟩
def lsj235 (d_ : List V) (u_ : List (Option Blk)) (q_0 q_1 q_2 q_3 : Fl) (off_4 : Bool) (off_5 : Int) : St := ⟨(dqs d_ 0 7 (.ptr 7 0 :: (dqs d_ 7 39 []))), [(u_.getD 0 none), (u_.getD 1 none), (u_.getD 2 none), (u_.getD 3 none), (u_.getD 4 none), (u_.getD 5 none), (u_.getD 6 none), some ⟨124, 1, .cells [.bool off_4, .nil, .int .i64 off_5]⟩]⟩
def lsj216 (d_ : List V) (u_ : List (Option Blk)) (q_0 q_1 q_2 q_3 : Fl) (b3 : List Int) (n_2 : Bool) (n_3 : Int) : St := ⟨(dqs d_ 0 4 (.ptr 4 0 :: (dqs d_ 4 42 []))), [(u_.getD 0 none), (u_.getD 1 none), (u_.getD 2 none), some ⟨127, 1, .ints .u32 b3⟩, some ⟨124, 1, .cells [.bool n_2, .slw 3, .int .i64 n_3]⟩]⟩
def lsj234 (d_ : List V) (u_ : List (Option Blk)) (q_0 q_1 q_2 q_3 : Fl) (b6 : List Int) (off_2 : Bool) (off_3 : Int) : St := ⟨(dqs d_ 0 7 (.ptr 7 0 :: (dqs d_ 7 39 []))), [(u_.getD 0 none), (u_.getD 1 none), (u_.getD 2 none), (u_.getD 3 none), (u_.getD 4 none), (u_.getD 5 none), some ⟨127, 1, .ints .u32 b6⟩, some ⟨124, 1, .cells [.bool off_2, .slw 6, .int .i64 off_3]⟩]⟩
def lsj233 (d_ : List V) (u_ : List (Option Blk)) (q_0 q_1 q_2 q_3 : Fl) (off : Bool) (off_1 : Int) : St := ⟨(dqs d_ 0 7 (.ptr 6 0 :: (dqs d_ 7 39 []))), [(u_.getD 0 none), (u_.getD 1 none), (u_.getD 2 none), (u_.getD 3 none), (u_.getD 4 none), (u_.getD 5 none), some ⟨124, 1, .cells [.bool off, .nil, .int .i64 off_1]⟩]⟩
def lsj215 (d_ : List V) (u_ : List (Option Blk)) (q_0 q_1 q_2 q_3 : Fl) (n : Bool) (n_1 : Int) : St := ⟨(dqs d_ 0 4 (.ptr 3 0 :: (dqs d_ 4 42 []))), [(u_.getD 0 none), (u_.getD 1 none), (u_.getD 2 none), some ⟨124, 1, .cells [.bool n, .nil, .int .i64 n_1]⟩]⟩
theorem jnj236 (N : Nat) (Sj15 : TSj15) (Sj60 : TSj60) (Sj94 : TSj94) (Sj95 : TSj95) (Sj42 : TSj42) (d_ : List V) (u_ : List (Option Blk)) (q_0 q_1 q_2 q_3 : Fl) (b7 : List Int) (off_6 : Bool) (off_7 : Int) (c_ : V -> List Blk -> Bool) : codesV ⟨Pg, ofList [(56, (Fj15 Sj15)), (68, (Fj60 Sj60)), (79, (Fj94 Sj94)), (80, (Fj95 Sj95)), (81, (Fj42 Sj42))], isref, N⟩ 0 (anj98 N Sj15 Sj60 Sj94 Sj95 Sj42) ((cds Pg 21).drop 11) 0 (lsj236 d_ u_ q_0 q_1 q_2 q_3 b7 off_6 off_7) (finV Pg 21 0 c_) = Jj236 N Sj15 Sj60 Sj94 Sj95 Sj42 q_0 q_1 q_2 q_3 b7 off_6 off_7 (fun r0 => c_ (.bool r0) []) := by kernel_rfl
theorem jnj235 (N : Nat) (Sj15 : TSj15) (Sj60 : TSj60) (Sj94 : TSj94) (Sj95 : TSj95) (Sj42 : TSj42) (d_ : List V) (u_ : List (Option Blk)) (q_0 q_1 q_2 q_3 : Fl) (off_4 : Bool) (off_5 : Int) (c_ : V -> List Blk -> Bool) : codesV ⟨Pg, ofList [(56, (Fj15 Sj15)), (68, (Fj60 Sj60)), (79, (Fj94 Sj94)), (80, (Fj95 Sj95)), (81, (Fj42 Sj42))], isref, N⟩ 0 (anj98 N Sj15 Sj60 Sj94 Sj95 Sj42) ((cds Pg 21).drop 11) 0 (lsj235 d_ u_ q_0 q_1 q_2 q_3 off_4 off_5) (finV Pg 21 0 c_) = Jj235 N Sj15 Sj60 Sj94 Sj95 Sj42 q_0 q_1 q_2 q_3 off_4 off_5 (fun r0 => c_ (.bool r0) []) := by kernel_rfl
theorem hdj216 (N : Nat) (Sj15 : TSj15) (Sj60 : TSj60) (Sj94 : TSj94) (Sj95 : TSj95) (Sj42 : TSj42) (d_ : List V) (u_ : List (Option Blk)) (q_0 q_1 q_2 q_3 : Fl) (b3 : List Int) (n_2 : Bool) (n_3 : Int) (c_ : V -> List Blk -> Bool) (κn_ : St -> Bool) : codesV ⟨Pg, ofList [(56, (Fj15 Sj15)), (68, (Fj60 Sj60)), (79, (Fj94 Sj94)), (80, (Fj95 Sj95)), (81, (Fj42 Sj42))], isref, N⟩ 0 (anj98 N Sj15 Sj60 Sj94 Sj95 Sj42) (sg Pg 21 7 4) 0 (lsj216 d_ u_ q_0 q_1 q_2 q_3 b3 n_2 n_3) { (finV Pg 21 0 c_) with nrm := κn_ } = (Sj95 n_2 b3 n_3 false [1] 0 (fun cr_5 nr_12 nr_13 => (cond (nr_13 != 0) (c_ (.bool false) []) (κn_ (lsj235 (dqs d_ 0 4 (.ptr 4 0 :: (.int .i64 nr_13 :: (.ptr 6 0 :: (dqs d_ 7 15 (.slw 5 :: (.agg [.bool false, .slw 5, .int .i64 0] :: (.tup [.agg [.bool cr_5, .nil, .int .i64 nr_12], .int .i64 nr_13] :: (.agg [.bool n_2, .slw 3, .int .i64 n_3] :: (.agg [.bool false, .slw 5, .int .i64 0] :: (.tup [.agg [.bool cr_5, .nil, .int .i64 nr_12], .int .i64 nr_13] :: (.agg [.bool cr_5, .nil, .int .i64 nr_12] :: (.int .i64 nr_13 :: (.int .i64 nr_13 :: (.bool false :: (dqs d_ 32 14 [])))))))))))))))) [(u_.getD 0 none), (u_.getD 1 none), (u_.getD 2 none), some ⟨127, 1, .ints .u32 b3⟩, some ⟨124, 1, .cells [.bool n_2, .slw 3, .int .i64 n_3]⟩, some ⟨127, 1, .ints .u32 [1]⟩, some ⟨124, 1, .cells [.bool false, .slw 5, .int .i64 0]⟩] q_0 q_1 q_2 q_3 cr_5 nr_12)))) (fun cr_6 nr_14 nr_15 nsr_2 => (cond (nr_15 != 0) (c_ (.bool false) []) (κn_ (lsj236 (dqs d_ 0 4 (.ptr 4 0 :: (.int .i64 nr_15 :: (.ptr 6 0 :: (dqs d_ 7 15 (.slw 5 :: (.agg [.bool false, .slw 5, .int .i64 0] :: (.tup [.agg [.bool cr_6, .slw 7, .int .i64 nr_14], .int .i64 nr_15] :: (.agg [.bool n_2, .slw 3, .int .i64 n_3] :: (.agg [.bool false, .slw 5, .int .i64 0] :: (.tup [.agg [.bool cr_6, .slw 7, .int .i64 nr_14], .int .i64 nr_15] :: (.agg [.bool cr_6, .slw 7, .int .i64 nr_14] :: (.int .i64 nr_15 :: (.int .i64 nr_15 :: (.bool false :: (dqs d_ 32 14 [])))))))))))))))) [(u_.getD 0 none), (u_.getD 1 none), (u_.getD 2 none), some ⟨127, 1, .ints .u32 b3⟩, some ⟨124, 1, .cells [.bool n_2, .slw 3, .int .i64 n_3]⟩, some ⟨127, 1, .ints .u32 [1]⟩, some ⟨124, 1, .cells [.bool false, .slw 5, .int .i64 0]⟩] q_0 q_1 q_2 q_3 nsr_2 cr_6 nr_14))))) := by kernel_rfl
theorem jnj216 (N : Nat) (Sj15 : TSj15) (Sj60 : TSj60) (Sj94 : TSj94) (Sj95 : TSj95) (Sj42 : TSj42) (d_ : List V) (u_ : List (Option Blk)) (q_0 q_1 q_2 q_3 : Fl) (b3 : List Int) (n_2 : Bool) (n_3 : Int) (c_ : V -> List Blk -> Bool) : codesV ⟨Pg, ofList [(56, (Fj15 Sj15)), (68, (Fj60 Sj60)), (79, (Fj94 Sj94)), (80, (Fj95 Sj95)), (81, (Fj42 Sj42))], isref, N⟩ 0 (anj98 N Sj15 Sj60 Sj94 Sj95 Sj42) ((cds Pg 21).drop 7) 0 (lsj216 d_ u_ q_0 q_1 q_2 q_3 b3 n_2 n_3) (finV Pg 21 0 c_) = Jj216 N Sj15 Sj60 Sj94 Sj95 Sj42 q_0 q_1 q_2 q_3 b3 n_2 n_3 (fun r0 => c_ (.bool r0) []) := by
  rw [codesV_cut 7 4 11 rfl]
  refine (hdj216 N Sj15 Sj60 Sj94 Sj95 Sj42 d_ u_ q_0 q_1 q_2 q_3 b3 n_2 n_3 c_ _).trans ?_
  simp only [jnj235, jnj236]
  kernel_rfl
theorem jnj234 (N : Nat) (Sj15 : TSj15) (Sj60 : TSj60) (Sj94 : TSj94) (Sj95 : TSj95) (Sj42 : TSj42) (d_ : List V) (u_ : List (Option Blk)) (q_0 q_1 q_2 q_3 : Fl) (b6 : List Int) (off_2 : Bool) (off_3 : Int) (c_ : V -> List Blk -> Bool) : codesV ⟨Pg, ofList [(56, (Fj15 Sj15)), (68, (Fj60 Sj60)), (79, (Fj94 Sj94)), (80, (Fj95 Sj95)), (81, (Fj42 Sj42))], isref, N⟩ 0 (anj98 N Sj15 Sj60 Sj94 Sj95 Sj42) ((cds Pg 21).drop 11) 0 (lsj234 d_ u_ q_0 q_1 q_2 q_3 b6 off_2 off_3) (finV Pg 21 0 c_) = Jj234 N Sj15 Sj60 Sj94 Sj95 Sj42 q_0 q_1 q_2 q_3 b6 off_2 off_3 (fun r0 => c_ (.bool r0) []) := by kernel_rfl
theorem jnj233 (N : Nat) (Sj15 : TSj15) (Sj60 : TSj60) (Sj94 : TSj94) (Sj95 : TSj95) (Sj42 : TSj42) (d_ : List V) (u_ : List (Option Blk)) (q_0 q_1 q_2 q_3 : Fl) (off : Bool) (off_1 : Int) (c_ : V -> List Blk -> Bool) : codesV ⟨Pg, ofList [(56, (Fj15 Sj15)), (68, (Fj60 Sj60)), (79, (Fj94 Sj94)), (80, (Fj95 Sj95)), (81, (Fj42 Sj42))], isref, N⟩ 0 (anj98 N Sj15 Sj60 Sj94 Sj95 Sj42) ((cds Pg 21).drop 11) 0 (lsj233 d_ u_ q_0 q_1 q_2 q_3 off off_1) (finV Pg 21 0 c_) = Jj233 N Sj15 Sj60 Sj94 Sj95 Sj42 q_0 q_1 q_2 q_3 off off_1 (fun r0 => c_ (.bool r0) []) := by kernel_rfl
theorem hdj215 (N : Nat) (Sj15 : TSj15) (Sj60 : TSj60) (Sj94 : TSj94) (Sj95 : TSj95) (Sj42 : TSj42) (d_ : List V) (u_ : List (Option Blk)) (q_0 q_1 q_2 q_3 : Fl) (n : Bool) (n_1 : Int) (c_ : V -> List Blk -> Bool) (κn_ : St -> Bool) : codesV ⟨Pg, ofList [(56, (Fj15 Sj15)), (68, (Fj60 Sj60)), (79, (Fj94 Sj94)), (80, (Fj95 Sj95)), (81, (Fj42 Sj42))], isref, N⟩ 0 (anj98 N Sj15 Sj60 Sj94 Sj95 Sj42) (sg Pg 21 7 4) 0 (lsj215 d_ u_ q_0 q_1 q_2 q_3 n n_1) { (finV Pg 21 0 c_) with nrm := κn_ } = (Sj95 n [] n_1 false [1] 0 (fun cr_3 nr_4 nr_5 => (cond (nr_5 != 0) (c_ (.bool false) []) (κn_ (lsj233 (dqs d_ 0 4 (.ptr 3 0 :: (.int .i64 nr_5 :: (.ptr 5 0 :: (dqs d_ 7 15 (.slw 4 :: (.agg [.bool false, .slw 4, .int .i64 0] :: (.tup [.agg [.bool cr_3, .nil, .int .i64 nr_4], .int .i64 nr_5] :: (.agg [.bool n, .nil, .int .i64 n_1] :: (.agg [.bool false, .slw 4, .int .i64 0] :: (.tup [.agg [.bool cr_3, .nil, .int .i64 nr_4], .int .i64 nr_5] :: (.agg [.bool cr_3, .nil, .int .i64 nr_4] :: (.int .i64 nr_5 :: (.int .i64 nr_5 :: (.bool false :: (dqs d_ 32 14 [])))))))))))))))) [(u_.getD 0 none), (u_.getD 1 none), (u_.getD 2 none), some ⟨124, 1, .cells [.bool n, .nil, .int .i64 n_1]⟩, some ⟨127, 1, .ints .u32 [1]⟩, some ⟨124, 1, .cells [.bool false, .slw 4, .int .i64 0]⟩] q_0 q_1 q_2 q_3 cr_3 nr_4)))) (fun cr_4 nr_6 nr_7 nsr_1 => (cond (nr_7 != 0) (c_ (.bool false) []) (κn_ (lsj234 (dqs d_ 0 4 (.ptr 3 0 :: (.int .i64 nr_7 :: (.ptr 5 0 :: (dqs d_ 7 15 (.slw 4 :: (.agg [.bool false, .slw 4, .int .i64 0] :: (.tup [.agg [.bool cr_4, .slw 6, .int .i64 nr_6], .int .i64 nr_7] :: (.agg [.bool n, .nil, .int .i64 n_1] :: (.agg [.bool false, .slw 4, .int .i64 0] :: (.tup [.agg [.bool cr_4, .slw 6, .int .i64 nr_6], .int .i64 nr_7] :: (.agg [.bool cr_4, .slw 6, .int .i64 nr_6] :: (.int .i64 nr_7 :: (.int .i64 nr_7 :: (.bool false :: (dqs d_ 32 14 [])))))))))))))))) [(u_.getD 0 none), (u_.getD 1 none), (u_.getD 2 none), some ⟨124, 1, .cells [.bool n, .nil, .int .i64 n_1]⟩, some ⟨127, 1, .ints .u32 [1]⟩, some ⟨124, 1, .cells [.bool false, .slw 4, .int .i64 0]⟩] q_0 q_1 q_2 q_3 nsr_1 cr_4 nr_6))))) := by kernel_rfl
theorem jnj215 (N : Nat) (Sj15 : TSj15) (Sj60 : TSj60) (Sj94 : TSj94) (Sj95 : TSj95) (Sj42 : TSj42) (d_ : List V) (u_ : List (Option Blk)) (q_0 q_1 q_2 q_3 : Fl) (n : Bool) (n_1 : Int) (c_ : V -> List Blk -> Bool) : codesV ⟨Pg, ofList [(56, (Fj15 Sj15)), (68, (Fj60 Sj60)), (79, (Fj94 Sj94)), (80, (Fj95 Sj95)), (81, (Fj42 Sj42))], isref, N⟩ 0 (anj98 N Sj15 Sj60 Sj94 Sj95 Sj42) ((cds Pg 21).drop 7) 0 (lsj215 d_ u_ q_0 q_1 q_2 q_3 n n_1) (finV Pg 21 0 c_) = Jj215 N Sj15 Sj60 Sj94 Sj95 Sj42 q_0 q_1 q_2 q_3 n n_1 (fun r0 => c_ (.bool r0) []) := by
  rw [codesV_cut 7 4 11 rfl]
  refine (hdj215 N Sj15 Sj60 Sj94 Sj95 Sj42 d_ u_ q_0 q_1 q_2 q_3 n n_1 c_ _).trans ?_
  simp only [jnj233, jnj234]
  kernel_rfl
theorem hd_quat_Good_w (N : Nat) (Sj15 : TSj15) (Sj60 : TSj60) (Sj94 : TSj94) (Sj95 : TSj95) (Sj42 : TSj42) (q_0 q_1 q_2 q_3 : Fl) (c_ : V -> List Blk -> Bool) (κn_ : St -> Bool) : codesV ⟨Pg, ofList [(56, (Fj15 Sj15)), (68, (Fj60 Sj60)), (79, (Fj94 Sj94)), (80, (Fj95 Sj95)), (81, (Fj42 Sj42))], isref, N⟩ 0 (anj98 N Sj15 Sj60 Sj94 Sj95 Sj42) (sg Pg 21 0 7) 0 (st0 Pg 21 (shFj98.args [.fl q_0, .fl q_1, .fl q_2, .fl q_3]) []) { (finV Pg 21 0 c_) with nrm := κn_ } = (Sj15 q_0 q_1 q_2 q_3 (fun cr => (cond (!cr) (c_ (.bool false) []) (Sj60 q_0 q_1 q_2 q_3 (Sj94 [q_0, q_1, q_2, q_3] [q_0, q_1, q_2, q_3] (fun cr_1 nr nr_1 => (cond (nr_1 != 0) (c_ (.bool false) []) (κn_ (lsj215 [.agg [.flt q_0, .flt q_1, .flt q_2, .flt q_3], .ptr 0 0, .bool false, .ptr 2 0, .int .i64 nr_1, .any, .any, .any, .agg [.flt q_0, .flt q_1, .flt q_2, .flt q_3], .slw 1, .bool cr, .bool false, .agg [.flt q_0, .flt q_1, .flt q_2, .flt q_3], .agg [.flt q_0, .flt q_1, .flt q_2, .flt q_3], .tup [.agg [.bool cr_1, .nil, .int .i64 nr], .int .i64 nr_1], .sl 2 0 (4 - 0), .sl 2 0 (4 - 0), .tup [.agg [.bool cr_1, .nil, .int .i64 nr], .int .i64 nr_1], .agg [.bool cr_1, .nil, .int .i64 nr], .int .i64 nr_1, .int .i64 nr_1, .bool false, .any, .any, .any, .any, .any, .any, .any, .any, .any, .any, .any, .any, .any, .any, .any, .any, .any, .any, .any, .any, .any, .any, .any, .any] [some ⟨26, 1, .cells [.flt q_0, .flt q_1, .flt q_2, .flt q_3]⟩, some ⟨26, 4, .cells [.flt q_0, .flt q_1, .flt q_2, .flt q_3]⟩, some ⟨113, 1, .flts [q_0, q_1, q_2, q_3]⟩] q_0 q_1 q_2 q_3 cr_1 nr)))) (fun cr_2 nr_2 nr_3 nsr => (cond (nr_3 != 0) (c_ (.bool false) []) (κn_ (lsj216 [.agg [.flt q_0, .flt q_1, .flt q_2, .flt q_3], .ptr 0 0, .bool false, .ptr 2 0, .int .i64 nr_3, .any, .any, .any, .agg [.flt q_0, .flt q_1, .flt q_2, .flt q_3], .slw 1, .bool cr, .bool false, .agg [.flt q_0, .flt q_1, .flt q_2, .flt q_3], .agg [.flt q_0, .flt q_1, .flt q_2, .flt q_3], .tup [.agg [.bool cr_2, .slw 3, .int .i64 nr_2], .int .i64 nr_3], .sl 2 0 (4 - 0), .sl 2 0 (4 - 0), .tup [.agg [.bool cr_2, .slw 3, .int .i64 nr_2], .int .i64 nr_3], .agg [.bool cr_2, .slw 3, .int .i64 nr_2], .int .i64 nr_3, .int .i64 nr_3, .bool false, .any, .any, .any, .any, .any, .any, .any, .any, .any, .any, .any, .any, .any, .any, .any, .any, .any, .any, .any, .any, .any, .any, .any, .any] [some ⟨26, 1, .cells [.flt q_0, .flt q_1, .flt q_2, .flt q_3]⟩, some ⟨26, 4, .cells [.flt q_0, .flt q_1, .flt q_2, .flt q_3]⟩, some ⟨113, 1, .flts [q_0, q_1, q_2, q_3]⟩] q_0 q_1 q_2 q_3 nsr cr_2 nr_2))))))))) := by kernel_rfl
theorem jn_quat_Good_w (N : Nat) (Sj15 : TSj15) (Sj60 : TSj60) (Sj94 : TSj94) (Sj95 : TSj95) (Sj42 : TSj42) (q_0 q_1 q_2 q_3 : Fl) (c_ : V -> List Blk -> Bool) : codesV ⟨Pg, ofList [(56, (Fj15 Sj15)), (68, (Fj60 Sj60)), (79, (Fj94 Sj94)), (80, (Fj95 Sj95)), (81, (Fj42 Sj42))], isref, N⟩ 0 (anj98 N Sj15 Sj60 Sj94 Sj95 Sj42) ((cds Pg 21).drop 0) 0 (st0 Pg 21 (shFj98.args [.fl q_0, .fl q_1, .fl q_2, .fl q_3]) []) (finV Pg 21 0 c_) = Gj98 N Sj15 Sj60 Sj94 Sj95 Sj42 q_0 q_1 q_2 q_3 (fun r0 => c_ (.bool r0) []) := by
  rw [codesV_cut 0 7 7 rfl]
  refine (hd_quat_Good_w N Sj15 Sj60 Sj94 Sj95 Sj42 q_0 q_1 q_2 q_3 c_ _).trans ?_
  simp only [jnj215, jnj216]
  kernel_rfl
theorem eqj98 (N : Nat) (Sj15 : TSj15) (Sj60 : TSj60) (Sj94 : TSj94) (Sj95 : TSj95) (Sj42 : TSj42) (q_0 q_1 q_2 q_3 : Fl) (c_ : V -> List Blk -> Bool) : bodyV ⟨Pg, ofList [(56, (Fj15 Sj15)), (68, (Fj60 Sj60)), (79, (Fj94 Sj94)), (80, (Fj95 Sj95)), (81, (Fj42 Sj42))], isref, N⟩ (anj98 N Sj15 Sj60 Sj94 Sj95 Sj42) 21 (shFj98.args [.fl q_0, .fl q_1, .fl q_2, .fl q_3]) [] c_ = Gj98 N Sj15 Sj60 Sj94 Sj95 Sj42 q_0 q_1 q_2 q_3 (fun r0 => c_ (.bool r0) []) :=
  (bodyV_codes (by kernel_rfl)).trans (jn_quat_Good_w N Sj15 Sj60 Sj94 Sj95 Sj42 q_0 q_1 q_2 q_3 c_)
theorem goodj98 (N : Nat) (Sj15 : TSj15) (Sj60 : TSj60) (Sj94 : TSj94) (Sj95 : TSj95) (Sj42 : TSj42) (hj15 : GoodF Pg 56 (Fj15 Sj15)) (hj60 : GoodF Pg 68 (Fj60 Sj60)) (hj94 : GoodF Pg 79 (Fj94 Sj94)) (hj95 : GoodF Pg 80 (Fj95 Sj95)) (hj42 : GoodF Pg 81 (Fj42 Sj42)) : GoodF Pg 21 (Fj98 (Gj98 N Sj15 Sj60 Sj94 Sj95 Sj42)) := by
  refine good_fs (cx := ⟨Pg, ofList [(56, (Fj15 Sj15)), (68, (Fj60 Sj60)), (79, (Fj94 Sj94)), (80, (Fj95 Sj95)), (81, (Fj42 Sj42))], isref, N⟩) (ofList_cons hj15 (ofList_cons hj60 (ofList_cons hj94 (ofList_cons hj95 (ofList_cons hj42 (ofList_nil _)))))) shFj98 (spj98 (Gj98 N Sj15 Sj60 Sj94 Sj95 Sj42)) (anj98 N Sj15 Sj60 Sj94 Sj95 Sj42) 0 0 (by kernel_rfl) (fun i_ hi_ => by omega) ?_
  intro a k h
  unfold spj98 at h
  split at h
  · exact ⟨[], rfl, rfl, (eqj98 _ _ _ _ _ _ _ _ _ _ _).trans h⟩
  · cases h

def anj145 (N : Nat) : Nat -> Option Ann := fun b_ => none
theorem eqj145 (N : Nat) (c_ : V -> List Blk -> Bool) : bodyV ⟨Pg, ofList [], isref, N⟩ (anj145 N) 110 (shFj145.args []) [] c_ = Gj145 N (fun r0 r1 => c_ (.agg [.ptr 0 0, .int .i64 r0]) [⟨105, 1, .cells [.bool r1, .nil]⟩]) := by kernel_rfl
theorem goodj145 (N : Nat) : GoodF Pg 110 (Fj145 (Gj145 N)) := by
  refine good_fs (cx := ⟨Pg, ofList [], isref, N⟩) (ofList_nil _) shFj145 (spj145 (Gj145 N)) (anj145 N) 0 0 (by kernel_rfl) (fun i_ hi_ => by omega) ?_
  intro a k h
  unfold spj145 at h
  split at h
  · exact ⟨[], rfl, rfl, (eqj145 _ _).trans h⟩
  · cases h

def sh_st_binnacleref01_odd_0 : StSh := ⟨(.int .u64 :: (.int .i64 :: (sqs 15 []))), []⟩
def sx0_st_binnacleref01_odd_0 : StSh := ⟨(.int .u64 :: (.int .i64 :: (sqs 15 []))), []⟩
def hk_st_binnacleref01_odd_0 (N : Nat) : List Atom -> K -> Bool := fun a_ κ => match a_ with
  | [.int m_1, .int e_1] => iterG N (st_z01_odd_0 N (fun r0 r1 => κ.ext 0 (sx0_st_binnacleref01_odd_0.build [.int r0, .int r1]))) (m_1, e_1)
  | _ => false
def anj163 (N : Nat) : Nat -> Option Ann := fun b_ => cond (b_ == 0) (some ⟨⟨[0, 1], [], []⟩, [(0, ⟨[0, 1], [], []⟩)], some ⟨[4, 5], [], []⟩, some (mkHooks [(sh_st_binnacleref01_odd_0, hk_st_binnacleref01_odd_0 N)])⟩) (none)
theorem eq_st_binnacleref01_odd_0 (N : Nat) (κ : K) (m_1 e_1 : Int) : iter N (fun s k => codeV ⟨Pg, ofList [], isref, N⟩ 0 (anj163 N) (lp Pg 116 0).2 (lp Pg 116 0).1 s (roundK Pg 0 ((anj163 N) (lp Pg 116 0).1) κ k)) (sh_st_binnacleref01_odd_0.build [.int m_1, .int e_1]) = iterG N (st_z01_odd_0 N (fun r0 r1 => κ.ext 0 (sx0_st_binnacleref01_odd_0.build [.int r0, .int r1]))) (m_1, e_1) :=
  iter_tr (fun (v_ : Int × Int) => sh_st_binnacleref01_odd_0.build [.int v_.1, .int v_.2]) (fun v_ K_ => by obtain ⟨m_1, e_1⟩ := v_; kernel_rfl) N (m_1, e_1)
theorem hk1_st_binnacleref01_odd_0 (N : Nat) : HookFor ⟨Pg, ofList [], isref, N⟩ 0 (anj163 N) (lp Pg 116 0) (sh_st_binnacleref01_odd_0, hk_st_binnacleref01_odd_0 N) := by
  intro a κ h
  simp only at h
  unfold hk_st_binnacleref01_odd_0 at h
  split at h
  · exact (eq_st_binnacleref01_odd_0 _ _ _ _).trans h
  · cases h
theorem ho_binnacleref01_odd_0 (N : Nat) : HookOk ⟨Pg, ofList [], isref, N⟩ 0 (anj163 N) (lp Pg 116 0) :=
  hooks_ok [(sh_st_binnacleref01_odd_0, hk_st_binnacleref01_odd_0 N)] (by kernel_rfl) ⟨hk1_st_binnacleref01_odd_0 _, trivial⟩
theorem eqj163 (N : Nat) (m e : Int) (c_ : V -> List Blk -> Bool) : bodyV ⟨Pg, ofList [], isref, N⟩ (anj163 N) 116 (shFj163.args [.int m, .int e]) [] c_ = Gj163 N m e (fun r0 r1 => c_ (.tup [.int .u64 r0, .int .i64 r1]) []) := by kernel_rfl
theorem goodj163 (N : Nat) : GoodF Pg 116 (Fj163 (Gj163 N)) := by
  refine good_fs (cx := ⟨Pg, ofList [], isref, N⟩) (ofList_nil _) shFj163 (spj163 (Gj163 N)) (anj163 N) 1 0 (by kernel_rfl) (fun i_ hi_ => by
    match i_, hi_ with
    | 0, _ => exact ho_binnacleref01_odd_0 _
    | (q + 1), h => omega) ?_
  intro a k h
  unfold spj163 at h
  split at h
  · exact ⟨[], rfl, rfl, (eqj163 _ _ _ _).trans h⟩
  · cases h

def anj154 (N : Nat) (Sj105 : TSj105) (Sj163 : TSj163) : Nat -> Option Ann := fun b_ => none
def lsj218 (d_ : List V) (u_ : List (Option Blk)) (x : Fl) (neg : Bool) (e f : Int) : St := ⟨((dq d_ 0) :: ((dq d_ 1) :: (.ptr 0 0 :: ((dq d_ 2) :: (.bool neg :: (.int .i64 e :: (.int .u64 f :: (dqs d_ 3 28 [])))))))), [some ⟨108, 1, .cells [.bool false, .int .u64 0, .int .i64 0]⟩]⟩
theorem jnj218 (N : Nat) (Sj105 : TSj105) (Sj163 : TSj163) (d_ : List V) (u_ : List (Option Blk)) (x : Fl) (neg : Bool) (e f : Int) (c_ : V -> List Blk -> Bool) : codesV ⟨Pg, ofList [(115, (Fj105 Sj105)), (116, (Fj163 Sj163))], isref, N⟩ 0 (anj154 N Sj105 Sj163) ((cds Pg 65).drop 6) 0 (lsj218 d_ u_ x neg e f) (finV Pg 65 0 c_) = Jj218 N Sj105 Sj163 x neg e f (fun r0 r1 r2 r3 => c_ (.tup [.agg [.bool r0, .int .u64 r1, .int .i64 r2], .int .i64 r3]) []) := by kernel_rfl
theorem hd_z01_Parts_w (N : Nat) (Sj105 : TSj105) (Sj163 : TSj163) (x : Fl) (c_ : V -> List Blk -> Bool) (κn_ : St -> Bool) : codesV ⟨Pg, ofList [(115, (Fj105 Sj105)), (116, (Fj163 Sj163))], isref, N⟩ 0 (anj154 N Sj105 Sj163) (sg Pg 65 0 6) 0 (st0 Pg 65 (shFj154.args [.fl x]) []) { (finV Pg 65 0 c_) with nrm := κn_ } = (Sj105 x (fun cr nr nr_1 => (cond (nr == 2047) (c_ (.tup [.agg [.bool false, .int .u64 0, .int .i64 0], .int .i64 4]) []) (cond (decide (nr > 0)) ((fits .i64 (nr - 1)) && (κn_ (lsj218 [.flt x, .any, .int .i64 0, .any, .any, .tup [.bool cr, .int .i64 nr, .int .u64 nr_1], .flt x, .tup [.bool cr, .int .i64 nr, .int .u64 nr_1], .bool cr, .int .i64 nr, .int .u64 nr_1, .int .i64 nr, .bool false, .any, .int .i64 nr, .bool true, .int .u64 nr_1, .int .u64 (IntKind.wrap .u64 (nr_1 + 4503599627370496)), .int .i64 nr, .int .i64 (nr - 1), .any, .any, .any, .any, .any, .any, .any, .any, .any, .any, .any] [] x cr (nr - 1) (IntKind.wrap .u64 (nr_1 + 4503599627370496))))) (κn_ (lsj218 [.flt x, .any, .int .i64 0, .any, .any, .tup [.bool cr, .int .i64 nr, .int .u64 nr_1], .flt x, .tup [.bool cr, .int .i64 nr, .int .u64 nr_1], .bool cr, .int .i64 nr, .int .u64 nr_1, .int .i64 nr, .bool false, .any, .int .i64 nr, .bool false, .any, .any, .any, .any, .any, .any, .any, .any, .any, .any, .any, .any, .any, .any, .any] [] x cr nr nr_1)))))) := by kernel_rfl
theorem jn_z01_Parts_w (N : Nat) (Sj105 : TSj105) (Sj163 : TSj163) (x : Fl) (c_ : V -> List Blk -> Bool) : codesV ⟨Pg, ofList [(115, (Fj105 Sj105)), (116, (Fj163 Sj163))], isref, N⟩ 0 (anj154 N Sj105 Sj163) ((cds Pg 65).drop 0) 0 (st0 Pg 65 (shFj154.args [.fl x]) []) (finV Pg 65 0 c_) = Gj154 N Sj105 Sj163 x (fun r0 r1 r2 r3 => c_ (.tup [.agg [.bool r0, .int .u64 r1, .int .i64 r2], .int .i64 r3]) []) := by
  rw [codesV_cut 0 6 6 rfl]
  refine (hd_z01_Parts_w N Sj105 Sj163 x c_ _).trans ?_
  simp only [jnj218]
  kernel_rfl
theorem eqj154 (N : Nat) (Sj105 : TSj105) (Sj163 : TSj163) (x : Fl) (c_ : V -> List Blk -> Bool) : bodyV ⟨Pg, ofList [(115, (Fj105 Sj105)), (116, (Fj163 Sj163))], isref, N⟩ (anj154 N Sj105 Sj163) 65 (shFj154.args [.fl x]) [] c_ = Gj154 N Sj105 Sj163 x (fun r0 r1 r2 r3 => c_ (.tup [.agg [.bool r0, .int .u64 r1, .int .i64 r2], .int .i64 r3]) []) :=
  (bodyV_codes (by kernel_rfl)).trans (jn_z01_Parts_w N Sj105 Sj163 x c_)
theorem goodj154 (N : Nat) (Sj105 : TSj105) (Sj163 : TSj163) (hj105 : GoodF Pg 115 (Fj105 Sj105)) (hj163 : GoodF Pg 116 (Fj163 Sj163)) : GoodF Pg 65 (Fj154 (Gj154 N Sj105 Sj163)) := by
  refine good_fs (cx := ⟨Pg, ofList [(115, (Fj105 Sj105)), (116, (Fj163 Sj163))], isref, N⟩) (ofList_cons hj105 (ofList_cons hj163 (ofList_nil _))) shFj154 (spj154 (Gj154 N Sj105 Sj163)) (anj154 N Sj105 Sj163) 0 0 (by kernel_rfl) (fun i_ hi_ => by omega) ?_
  intro a k h
  unfold spj154 at h
  split at h
  · exact ⟨[], rfl, rfl, (eqj154 _ _ _ _ _).trans h⟩
  · cases h

def anj128 (N : Nat) (Sj10 : TSj10) : Nat -> Option Ann := fun b_ => none
theorem eqj128 (N : Nat) (Sj10 : TSj10) (neg b : Bool) (b_1 b_2 : List Int) (c_ : V -> List Blk -> Bool) : bodyZ ⟨Pg, ofList [(147, (Fj10 Sj10))], isref, N⟩ (anj128 N Sj10) 113 (shFj128.args [.bool neg, .bool b, .ints b_1, .ints b_2]) [⟨105, 1, .cells [.bool b, .roi .u32 b_1]⟩, ⟨127, 1, .ints .u32 b_2⟩] c_ = Gj128 N Sj10 neg b b_1 b_2 (fun r0 r1 r2 => c_ (.ptr 0 0) [⟨105, 1, .cells [.bool r0, .sl 1 r1 r2]⟩, ⟨127, 1, .ints .u32 b_2⟩]) := by kernel_rfl
theorem goodj128 (N : Nat) (Sj10 : TSj10) (hj10 : GoodF Pg 147 (Fj10 Sj10)) : GoodF Pg 113 (Fj128 (Gj128 N Sj10)) := by
  refine good_fsZ (cx := ⟨Pg, ofList [(147, (Fj10 Sj10))], isref, N⟩) (ofList_cons hj10 (ofList_nil _)) shFj128 (spj128 (Gj128 N Sj10)) (anj128 N Sj10) 0 2 (by kernel_rfl) (fun i_ hi_ => by omega) ?_
  intro a k h
  unfold spj128 at h
  split at h
  · exact ⟨[_, _], rfl, rfl, (eqj128 _ _ _ _ _ _ _).trans h⟩
  · cases h

def anj124 (N : Nat) (Sj128 : TSj128) : Nat -> Option Ann := fun b_ => none
theorem eqj124 (N : Nat) (Sj128 : TSj128) (b : Bool) (b_1 : List Int) (c_ : V -> List Blk -> Bool) : bodyZ ⟨Pg, ofList [(113, (Fj128 Sj128))], isref, N⟩ (anj124 N Sj128) 67 (shFj124.args [.bool b, .ints b_1]) [⟨105, 1, .cells [.bool b, .roi .u32 b_1]⟩] c_ = Gj124 N Sj128 b b_1 (fun r0 r1 => c_ (.ptr 0 0) [⟨105, 1, .cells [.bool r0, .roi .u32 r1]⟩]) := by kernel_rfl
theorem goodj124 (N : Nat) (Sj128 : TSj128) (hj128 : GoodF Pg 113 (Fj128 Sj128)) : GoodF Pg 67 (Fj124 (Gj124 N Sj128)) := by
  refine good_fsZ (cx := ⟨Pg, ofList [(113, (Fj128 Sj128))], isref, N⟩) (ofList_cons hj128 (ofList_nil _)) shFj124 (spj124 (Gj124 N Sj128)) (anj124 N Sj128) 0 1 (by kernel_rfl) (fun i_ hi_ => by omega) ?_
  intro a k h
  unfold spj124 at h
  split at h
  · exact ⟨[_], rfl, rfl, (eqj124 _ _ _ _ _).trans h⟩
  · cases h

def anj189 (N : Nat) (Sj154 : TSj154) (Sj54 : TSj54) (Sj124 : TSj124) : Nat -> Option Ann := fun b_ => none
theorem eqj189 (N : Nat) (Sj154 : TSj154) (Sj54 : TSj54) (Sj124 : TSj124) (x : Fl) (c_ : V -> List Blk -> Bool) : bodyV ⟨Pg, ofList [(65, (Fj154 Sj154)), (66, (Fj54 Sj54)), (67, (Fj124 Sj124))], isref, N⟩ (anj189 N Sj154 Sj54 Sj124) 15 (shFj189.args [.fl x]) [] c_ = Gj189 N Sj154 Sj54 Sj124 x (fun r0 r1 r2 => c_ (.agg [.ptr 0 0, .int .i64 r0]) [⟨105, 1, .cells [.bool r1, .roi .u32 r2]⟩]) := by kernel_rfl
theorem goodj189 (N : Nat) (Sj154 : TSj154) (Sj54 : TSj54) (Sj124 : TSj124) (hj154 : GoodF Pg 65 (Fj154 Sj154)) (hj54 : GoodF Pg 66 (Fj54 Sj54)) (hj124 : GoodF Pg 67 (Fj124 Sj124)) : GoodF Pg 15 (Fj189 (Gj189 N Sj154 Sj54 Sj124)) := by
  refine good_fs (cx := ⟨Pg, ofList [(65, (Fj154 Sj154)), (66, (Fj54 Sj54)), (67, (Fj124 Sj124))], isref, N⟩) (ofList_cons hj154 (ofList_cons hj54 (ofList_cons hj124 (ofList_nil _)))) shFj189 (spj189 (Gj189 N Sj154 Sj54 Sj124)) (anj189 N Sj154 Sj54 Sj124) 0 0 (by kernel_rfl) (fun i_ hi_ => by omega) ?_
  intro a k h
  unfold spj189 at h
  split at h
  · exact ⟨[], rfl, rfl, (eqj189 _ _ _ _ _ _).trans h⟩
  · cases h

def sh_st_binnacleref00_times_2 : StSh := ⟨(.roi .u32 :: (.roi .u32 :: (.any :: (.any :: (.any :: (.slw 0 :: (.int .i64 :: (.int .u64 :: (.int .i64 :: (sqs 59 [])))))))))), [some (127, 1, .ints .u32)]⟩
def sx0_st_binnacleref00_times_2 : StSh := ⟨(.roi .u32 :: (.roi .u32 :: (.any :: (.any :: (.any :: (.slw 0 :: (.int .i64 :: (.int .u64 :: (sqs 60 []))))))))), [some (127, 1, .ints .u32)]⟩
def hk_st_binnacleref00_times_2 (N : Nat) (Sj10 : TSj10) : List Atom -> K -> Bool := fun a_ κ => match a_ with
  | [.ints a_2, .ints b_2, .int i_1, .int carry, .int k_, .ints out_1] => iterG N (st_z00_times_2 N Sj10 a_2 b_2 i_1 (fun r3 r4 => κ.ext 2 (sx0_st_binnacleref00_times_2.build [.ints a_2, .ints b_2, .int i_1, .int r3, .ints r4]))) (carry, k_, out_1)
  | _ => false
def sh_st_binnacleref00_times_0 : StSh := ⟨(.roi .u32 :: (.roi .u32 :: (.any :: (.any :: (.any :: (.slw 0 :: (.int .i64 :: (sqs 61 [])))))))), [some (127, 1, .ints .u32)]⟩
def sx0_st_binnacleref00_times_0 : StSh := ⟨(sqs 5 (.slw 0 :: (sqs 62 []))), [some (127, 1, .ints .u32)]⟩
def hk_st_binnacleref00_times_0 (N : Nat) (Sj10 : TSj10) : List Atom -> K -> Bool := fun a_ κ => match a_ with
  | [.ints a_1, .ints b_1, .int i, .ints out] => iterG N (st_z00_times_0 N Sj10 a_1 b_1 (fun r0 => κ.ext 0 (sx0_st_binnacleref00_times_0.build [.ints r0]))) (i, out)
  | _ => false
def anj153 (N : Nat) (Sj10 : TSj10) : Nat -> Option Ann := fun b_ => cond (b_ == 2) (some ⟨⟨[0, 1, 5, 6, 7, 8], [], []⟩, [(2, ⟨[0, 1, 5, 6, 7], [], []⟩)], some ⟨[4], [], []⟩, some (mkHooks [(sh_st_binnacleref00_times_2, hk_st_binnacleref00_times_2 N Sj10)])⟩) (cond (b_ == 0) (some ⟨⟨[0, 1, 5, 6], [], []⟩, [(0, ⟨[5], [], []⟩)], some ⟨[4], [], []⟩, some (mkHooks [(sh_st_binnacleref00_times_0, hk_st_binnacleref00_times_0 N Sj10)])⟩) (none))
theorem eq_st_binnacleref00_times_2 (N : Nat) (Sj10 : TSj10) (κ : K) (a_2 b_2 : List Int) (i_1 carry k_ : Int) (out_1 : List Int) : iter N (fun s k => codeV ⟨Pg, ofList [(147, (Fj10 Sj10))], isref, N⟩ 0 (anj153 N Sj10) (lp Pg 114 1).2 (lp Pg 114 1).1 s (roundK Pg 0 ((anj153 N Sj10) (lp Pg 114 1).1) κ k)) (sh_st_binnacleref00_times_2.build [.ints a_2, .ints b_2, .int i_1, .int carry, .int k_, .ints out_1]) = iterG N (st_z00_times_2 N Sj10 a_2 b_2 i_1 (fun r3 r4 => κ.ext 2 (sx0_st_binnacleref00_times_2.build [.ints a_2, .ints b_2, .int i_1, .int r3, .ints r4]))) (carry, k_, out_1) :=
  iter_tr (fun (v_ : Int × Int × List Int) => sh_st_binnacleref00_times_2.build [.ints a_2, .ints b_2, .int i_1, .int v_.1, .int v_.2.1, .ints v_.2.2]) (fun v_ K_ => by obtain ⟨carry, k_, out_1⟩ := v_; kernel_rfl) N (carry, k_, out_1)
theorem hk1_st_binnacleref00_times_2 (N : Nat) (Sj10 : TSj10) : HookFor ⟨Pg, ofList [(147, (Fj10 Sj10))], isref, N⟩ 0 (anj153 N Sj10) (lp Pg 114 1) (sh_st_binnacleref00_times_2, hk_st_binnacleref00_times_2 N Sj10) := by
  intro a κ h
  simp only at h
  unfold hk_st_binnacleref00_times_2 at h
  split at h
  · exact (eq_st_binnacleref00_times_2 _ _ _ _ _ _ _ _ _).trans h
  · cases h
theorem eq_st_binnacleref00_times_0 (N : Nat) (Sj10 : TSj10) (κ : K) (a_1 b_1 : List Int) (i : Int) (out : List Int) : iter N (fun s k => codeV ⟨Pg, ofList [(147, (Fj10 Sj10))], isref, N⟩ 0 (anj153 N Sj10) (lp Pg 114 0).2 (lp Pg 114 0).1 s (roundK Pg 0 ((anj153 N Sj10) (lp Pg 114 0).1) κ k)) (sh_st_binnacleref00_times_0.build [.ints a_1, .ints b_1, .int i, .ints out]) = iterG N (st_z00_times_0 N Sj10 a_1 b_1 (fun r0 => κ.ext 0 (sx0_st_binnacleref00_times_0.build [.ints r0]))) (i, out) :=
  iter_tr (fun (v_ : Int × List Int) => sh_st_binnacleref00_times_0.build [.ints a_1, .ints b_1, .int v_.1, .ints v_.2]) (fun v_ K_ => by obtain ⟨i, out⟩ := v_; kernel_rfl) N (i, out)
theorem hk1_st_binnacleref00_times_0 (N : Nat) (Sj10 : TSj10) : HookFor ⟨Pg, ofList [(147, (Fj10 Sj10))], isref, N⟩ 0 (anj153 N Sj10) (lp Pg 114 0) (sh_st_binnacleref00_times_0, hk_st_binnacleref00_times_0 N Sj10) := by
  intro a κ h
  simp only at h
  unfold hk_st_binnacleref00_times_0 at h
  split at h
  · exact (eq_st_binnacleref00_times_0 _ _ _ _ _ _ _).trans h
  · cases h
theorem ho_binnacleref00_times_2 (N : Nat) (Sj10 : TSj10) : HookOk ⟨Pg, ofList [(147, (Fj10 Sj10))], isref, N⟩ 0 (anj153 N Sj10) (lp Pg 114 1) :=
  hooks_ok [(sh_st_binnacleref00_times_2, hk_st_binnacleref00_times_2 N Sj10)] (by kernel_rfl) ⟨hk1_st_binnacleref00_times_2 _ _, trivial⟩
theorem ho_binnacleref00_times_0 (N : Nat) (Sj10 : TSj10) : HookOk ⟨Pg, ofList [(147, (Fj10 Sj10))], isref, N⟩ 0 (anj153 N Sj10) (lp Pg 114 0) :=
  hooks_ok [(sh_st_binnacleref00_times_0, hk_st_binnacleref00_times_0 N Sj10)] (by kernel_rfl) ⟨hk1_st_binnacleref00_times_0 _ _, trivial⟩
theorem eqj153 (N : Nat) (Sj10 : TSj10) (a b : List Int) (c_ : V -> List Blk -> Bool) : bodyZ ⟨Pg, ofList [(147, (Fj10 Sj10))], isref, N⟩ (anj153 N Sj10) 114 (shFj153.args [.ints a, .ints b]) [] c_ = Gj153 N Sj10 a b (fun r0 => c_ (.roi .u32 r0) []) := by kernel_rfl
theorem goodj153 (N : Nat) (Sj10 : TSj10) (hj10 : GoodF Pg 147 (Fj10 Sj10)) : GoodF Pg 114 (Fj153 (Gj153 N Sj10)) := by
  refine good_fsZ (cx := ⟨Pg, ofList [(147, (Fj10 Sj10))], isref, N⟩) (ofList_cons hj10 (ofList_nil _)) shFj153 (spj153 (Gj153 N Sj10)) (anj153 N Sj10) 2 0 (by kernel_rfl) (fun i_ hi_ => by
    match i_, hi_ with
    | 0, _ => exact ho_binnacleref00_times_0 _ _
    | 1, _ => exact ho_binnacleref00_times_2 _ _
    | (q + 2), h => omega) ?_
  intro a k h
  unfold spj153 at h
  split at h
  · exact ⟨[], rfl, rfl, (eqj153 _ _ _ _ _).trans h⟩
  · cases h

def anj84 (N : Nat) (Sj153 : TSj153) (Sj43 : TSj43) : Nat -> Option Ann := fun b_ => none
theorem eqj84 (N : Nat) (Sj153 : TSj153) (Sj43 : TSj43) (b b_1 : Bool) (b_2 : List Int) (b_3 : Bool) (b_4 : List Int) (c_ : V -> List Blk -> Bool) : bodyZ ⟨Pg, ofList [(114, (Fj153 Sj153)), (113, (Fj43 Sj43))], isref, N⟩ (anj84 N Sj153 Sj43) 64 (shFj84.args [.bool b, .bool b_1, .ints b_2, .bool b_3, .ints b_4]) [⟨105, 1, .cells [.bool b, .nil]⟩, ⟨105, 1, .cells [.bool b_1, .roi .u32 b_2]⟩, ⟨105, 1, .cells [.bool b_3, .roi .u32 b_4]⟩] c_ = Gj84 N Sj153 Sj43 b b_1 b_2 b_3 b_4 (fun r0 r1 => c_ (.ptr 0 0) [⟨105, 1, .cells [.bool r0, .roi .u32 r1]⟩, ⟨105, 1, .cells [.bool b_1, .roi .u32 b_2]⟩, ⟨105, 1, .cells [.bool b_3, .roi .u32 b_4]⟩]) := by kernel_rfl
theorem goodj84 (N : Nat) (Sj153 : TSj153) (Sj43 : TSj43) (hj153 : GoodF Pg 114 (Fj153 Sj153)) (hj43 : GoodF Pg 113 (Fj43 Sj43)) : GoodF Pg 64 (Fj84 (Gj84 N Sj153 Sj43)) := by
  refine good_fsZ (cx := ⟨Pg, ofList [(114, (Fj153 Sj153)), (113, (Fj43 Sj43))], isref, N⟩) (ofList_cons hj153 (ofList_cons hj43 (ofList_nil _))) shFj84 (spj84 (Gj84 N Sj153 Sj43)) (anj84 N Sj153 Sj43) 0 3 (by kernel_rfl) (fun i_ hi_ => by omega) ?_
  intro a k h
  unfold spj84 at h
  split at h
  · exact ⟨[_, _, _], rfl, rfl, (eqj84 _ _ _ _ _ _ _ _ _).trans h⟩
  · cases h

def anj24 (N : Nat) (Sj84 : TSj84) : Nat -> Option Ann := fun b_ => none
theorem eqj24 (N : Nat) (Sj84 : TSj84) (x y : Int) (b : Bool) (b_1 : List Int) (b_2 : Bool) (b_3 : List Int) (c_ : V -> List Blk -> Bool) : bodyV ⟨Pg, ofList [(64, (Fj84 Sj84))], isref, N⟩ (anj24 N Sj84) 13 (shFj24.args [.int x, .int y, .bool b, .ints b_1, .bool b_2, .ints b_3]) [⟨105, 1, .cells [.bool b, .roi .u32 b_1]⟩, ⟨105, 1, .cells [.bool b_2, .roi .u32 b_3]⟩] c_ = Gj24 N Sj84 x y b b_1 b_2 b_3 (fun r0 r5 r6 => c_ (.agg [.ptr 2 0, .int .i64 r0]) [⟨105, 1, .cells [.bool b, .roi .u32 b_1]⟩, ⟨105, 1, .cells [.bool b_2, .roi .u32 b_3]⟩, ⟨105, 1, .cells [.bool r5, .roi .u32 r6]⟩]) := by kernel_rfl
theorem goodj24 (N : Nat) (Sj84 : TSj84) (hj84 : GoodF Pg 64 (Fj84 Sj84)) : GoodF Pg 13 (Fj24 (Gj24 N Sj84)) := by
  refine good_fs (cx := ⟨Pg, ofList [(64, (Fj84 Sj84))], isref, N⟩) (ofList_cons hj84 (ofList_nil _)) shFj24 (spj24 (Gj24 N Sj84)) (anj24 N Sj84) 0 2 (by kernel_rfl) (fun i_ hi_ => by omega) ?_
  intro a k h
  unfold spj24 at h
  split at h
  · exact ⟨[_, _], rfl, rfl, (eqj24 _ _ _ _ _ _ _ _ _).trans h⟩
  · cases h

def anj135 (N : Nat) : Nat -> Option Ann := fun b_ => none
theorem eqj135 (N : Nat) (b : Bool) (c_ : V -> List Blk -> Bool) : bodyZ ⟨Pg, ofList [], isref, N⟩ (anj135 N) 63 (shFj135.args [.bool b]) [⟨105, 1, .cells [.bool b, .nil]⟩] c_ = Gj135 N b (fun r0 r2 => c_ (.int .i64 r0) [⟨105, 1, .cells [.bool b, .roi .u32 r2]⟩]) := by kernel_rfl
theorem goodj135 (N : Nat) : GoodF Pg 63 (Fj135 (Gj135 N)) := by
  refine good_fsZ (cx := ⟨Pg, ofList [], isref, N⟩) (ofList_nil _) shFj135 (spj135 (Gj135 N)) (anj135 N) 0 1 (by kernel_rfl) (fun i_ hi_ => by omega) ?_
  intro a k h
  unfold spj135 at h
  split at h
  · exact ⟨[_], rfl, rfl, (eqj135 _ _ _).trans h⟩
  · cases h

def anj32 (N : Nat) (Sj78 : TSj78) : Nat -> Option Ann := fun b_ => none
theorem eqj32 (N : Nat) (Sj78 : TSj78) (x e : Int) (b : Bool) (b_1 : List Int) (c_ : V -> List Blk -> Bool) : bodyV ⟨Pg, ofList [(146, (Fj78 Sj78))], isref, N⟩ (anj32 N Sj78) 112 (shFj32.args [.int x, .int e, .bool b, .ints b_1]) [⟨105, 1, .cells [.bool b, .roi .u32 b_1]⟩] c_ = Gj32 N Sj78 x e b b_1 (c_ (.agg [.ptr 0 0, .int .i64 x]) [⟨105, 1, .cells [.bool b, .roi .u32 b_1]⟩]) (fun r3 r4 => c_ (.agg [.ptr 1 0, .int .i64 e]) [⟨105, 1, .cells [.bool b, .roi .u32 b_1]⟩, ⟨105, 1, .cells [.bool r3, .roi .u32 r4]⟩]) := by kernel_rfl
theorem goodj32 (N : Nat) (Sj78 : TSj78) (hj78 : GoodF Pg 146 (Fj78 Sj78)) : GoodF Pg 112 (Fj32 (Gj32 N Sj78)) := by
  refine good_fs (cx := ⟨Pg, ofList [(146, (Fj78 Sj78))], isref, N⟩) (ofList_cons hj78 (ofList_nil _)) shFj32 (spj32 (Gj32 N Sj78)) (anj32 N Sj78) 0 1 (by kernel_rfl) (fun i_ hi_ => by omega) ?_
  intro a k h
  unfold spj32 at h
  split at h
  · exact ⟨[_], rfl, rfl, (eqj32 _ _ _ _ _ _ _).trans h⟩
  · cases h

def anj51 (N : Nat) (Sj57 : TSj57) : Nat -> Option Ann := fun b_ => none
theorem eqj51 (N : Nat) (Sj57 : TSj57) (b b_1 : Bool) (b_2 : List Int) (b_3 : Bool) (b_4 : List Int) (c_ : V -> List Blk -> Bool) : bodyZ ⟨Pg, ofList [(145, (Fj57 Sj57))], isref, N⟩ (anj51 N Sj57) 111 (shFj51.args [.bool b, .bool b_1, .ints b_2, .bool b_3, .ints b_4]) [⟨105, 1, .cells [.bool b, .nil]⟩, ⟨105, 1, .cells [.bool b_1, .roi .u32 b_2]⟩, ⟨105, 1, .cells [.bool b_3, .roi .u32 b_4]⟩] c_ = Gj51 N Sj57 b b_1 b_2 b_3 b_4 (fun r0 r1 => c_ (.ptr 0 0) [⟨105, 1, .cells [.bool r0, .roi .u32 r1]⟩, ⟨105, 1, .cells [.bool b_1, .roi .u32 b_2]⟩, ⟨105, 1, .cells [.bool b_3, .roi .u32 b_4]⟩]) := by kernel_rfl
theorem goodj51 (N : Nat) (Sj57 : TSj57) (hj57 : GoodF Pg 145 (Fj57 Sj57)) : GoodF Pg 111 (Fj51 (Gj51 N Sj57)) := by
  refine good_fsZ (cx := ⟨Pg, ofList [(145, (Fj57 Sj57))], isref, N⟩) (ofList_cons hj57 (ofList_nil _)) shFj51 (spj51 (Gj51 N Sj57)) (anj51 N Sj57) 0 3 (by kernel_rfl) (fun i_ hi_ => by omega) ?_
  intro a k h
  unfold spj51 at h
  split at h
  · exact ⟨[_, _, _], rfl, rfl, (eqj51 _ _ _ _ _ _ _ _).trans h⟩
  · cases h

def anj23 (N : Nat) (Sj135 : TSj135) (Sj38 : TSj38) (Sj32 : TSj32) (Sj51 : TSj51) : Nat -> Option Ann := fun b_ => none
theorem eqj23 (N : Nat) (Sj135 : TSj135) (Sj38 : TSj38) (Sj32 : TSj32) (Sj51 : TSj51) (x y : Int) (b b_1 : Bool) (b_2 : List Int) (c_ : V -> List Blk -> Bool) : bodyV ⟨Pg, ofList [(63, (orFs (Fj135 Sj135) (Fj38 Sj38) shFj135)), (112, (Fj32 Sj32)), (111, (Fj51 Sj51))], isref, N⟩ (anj23 N Sj135 Sj38 Sj32 Sj51) 61 (shFj23.args [.int x, .int y, .bool b, .bool b_1, .ints b_2]) [⟨105, 1, .cells [.bool b, .nil]⟩, ⟨105, 1, .cells [.bool b_1, .roi .u32 b_2]⟩] c_ = Gj23 N Sj135 Sj38 Sj32 Sj51 x y b b_1 b_2 (fun r2 => c_ (.agg [.ptr 1 0, .int .i64 y]) [⟨105, 1, .cells [.bool b, .roi .u32 r2]⟩, ⟨105, 1, .cells [.bool b_1, .roi .u32 b_2]⟩]) (fun r2 => c_ (.agg [.ptr 0 0, .int .i64 x]) [⟨105, 1, .cells [.bool b, .roi .u32 r2]⟩, ⟨105, 1, .cells [.bool b_1, .roi .u32 b_2]⟩]) (fun r0 r2 r5 r6 => c_ (.agg [.ptr 2 0, .int .i64 r0]) [⟨105, 1, .cells [.bool b, .roi .u32 r2]⟩, ⟨105, 1, .cells [.bool b_1, .roi .u32 b_2]⟩, ⟨105, 1, .cells [.bool r5, .roi .u32 r6]⟩]) := by kernel_rfl
theorem goodj23 (N : Nat) (Sj135 : TSj135) (Sj38 : TSj38) (Sj32 : TSj32) (Sj51 : TSj51) (hj135 : GoodF Pg 63 (Fj135 Sj135)) (hj38 : GoodF Pg 63 (Fj38 Sj38)) (hj32 : GoodF Pg 112 (Fj32 Sj32)) (hj51 : GoodF Pg 111 (Fj51 Sj51)) : GoodF Pg 61 (Fj23 (Gj23 N Sj135 Sj38 Sj32 Sj51)) := by
  refine good_fs (cx := ⟨Pg, ofList [(63, (orFs (Fj135 Sj135) (Fj38 Sj38) shFj135)), (112, (Fj32 Sj32)), (111, (Fj51 Sj51))], isref, N⟩) (ofList_cons (good_or hj135 hj38) (ofList_cons hj32 (ofList_cons hj51 (ofList_nil _)))) shFj23 (spj23 (Gj23 N Sj135 Sj38 Sj32 Sj51)) (anj23 N Sj135 Sj38 Sj32 Sj51) 0 2 (by kernel_rfl) (fun i_ hi_ => by omega) ?_
  intro a k h
  unfold spj23 at h
  split at h
  · exact ⟨[_, _], rfl, rfl, (eqj23 _ _ _ _ _ _ _ _ _ _ _).trans h⟩
  · cases h

def anj8 (N : Nat) (Sj38 : TSj38) (Sj32 : TSj32) (Sj51 : TSj51) : Nat -> Option Ann := fun b_ => none
theorem eqj8 (N : Nat) (Sj38 : TSj38) (Sj32 : TSj32) (Sj51 : TSj51) (x y : Int) (b : Bool) (b_1 : List Int) (b_2 : Bool) (b_3 : List Int) (c_ : V -> List Blk -> Bool) : bodyV ⟨Pg, ofList [(63, (Fj38 Sj38)), (112, (Fj32 Sj32)), (111, (Fj51 Sj51))], isref, N⟩ (anj8 N Sj38 Sj32 Sj51) 61 (shFj8.args [.int x, .int y, .bool b, .ints b_1, .bool b_2, .ints b_3]) [⟨105, 1, .cells [.bool b, .roi .u32 b_1]⟩, ⟨105, 1, .cells [.bool b_2, .roi .u32 b_3]⟩] c_ = Gj8 N Sj38 Sj32 Sj51 x y b b_1 b_2 b_3 (c_ (.agg [.ptr 1 0, .int .i64 y]) [⟨105, 1, .cells [.bool b, .roi .u32 b_1]⟩, ⟨105, 1, .cells [.bool b_2, .roi .u32 b_3]⟩]) (c_ (.agg [.ptr 0 0, .int .i64 x]) [⟨105, 1, .cells [.bool b, .roi .u32 b_1]⟩, ⟨105, 1, .cells [.bool b_2, .roi .u32 b_3]⟩]) (fun r0 r5 r6 => c_ (.agg [.ptr 2 0, .int .i64 r0]) [⟨105, 1, .cells [.bool b, .roi .u32 b_1]⟩, ⟨105, 1, .cells [.bool b_2, .roi .u32 b_3]⟩, ⟨105, 1, .cells [.bool r5, .roi .u32 r6]⟩]) := by kernel_rfl
theorem goodj8 (N : Nat) (Sj38 : TSj38) (Sj32 : TSj32) (Sj51 : TSj51) (hj38 : GoodF Pg 63 (Fj38 Sj38)) (hj32 : GoodF Pg 112 (Fj32 Sj32)) (hj51 : GoodF Pg 111 (Fj51 Sj51)) : GoodF Pg 61 (Fj8 (Gj8 N Sj38 Sj32 Sj51)) := by
  refine good_fs (cx := ⟨Pg, ofList [(63, (Fj38 Sj38)), (112, (Fj32 Sj32)), (111, (Fj51 Sj51))], isref, N⟩) (ofList_cons hj38 (ofList_cons hj32 (ofList_cons hj51 (ofList_nil _)))) shFj8 (spj8 (Gj8 N Sj38 Sj32 Sj51)) (anj8 N Sj38 Sj32 Sj51) 0 2 (by kernel_rfl) (fun i_ hi_ => by omega) ?_
  intro a k h
  unfold spj8 at h
  split at h
  · exact ⟨[_, _], rfl, rfl, (eqj8 _ _ _ _ _ _ _ _ _ _ _).trans h⟩
  · cases h

end Go.Proofs.YtccocdgimamdhaaGreatDoor
