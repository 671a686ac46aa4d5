/-
  THE TIES: each printed meaning is what the program does (written by program).
  Conditions: none.
-/
import Derived.Test.YtccocdgimamdhaaGreatDoorGs
namespace Go.Proofs.YtccocdgimamdhaaGreatDoor
open Go Go.Mach Go.Proofs
set_option linter.unusedVariables false
set_option maxRecDepth 50000

def sh_st_big_times_2 : StSh := ⟨[.any, .roi .u64, .any, .any, .any, .slw 0, .int .i64, .int .u64, .int .u64, .any, .any, .any, .any, .any, .any, .any, .any, .any, .any, .any, .any, .any, .any, .any, .any, .roi .u64, .int .i64, .int .i64, .any, .any, .any, .any, .roi .u64, .int .i64, .int .i64, .any, .any, .any, .any, .any, .any, .any, .any, .any, .any, .any, .any, .any, .any, .any, .any, .any, .any, .any, .any, .any, .any, .any, .any, .any, .any, .any, .any, .any, .any, .any, .any, .any], [some (41, 1, .ints .u64)]⟩
def sx0_st_big_times_2 : StSh := ⟨[.any, .roi .u64, .any, .any, .any, .slw 0, .int .i64, .any, .int .u64, .any, .any, .any, .any, .any, .any, .any, .any, .any, .any, .any, .any, .any, .any, .any, .any, .roi .u64, .int .i64, .int .i64, .any, .any, .any, .any, .any, .any, .any, .any, .any, .any, .any, .any, .any, .any, .any, .any, .any, .any, .any, .any, .any, .any, .any, .any, .any, .any, .any, .any, .any, .any, .any, .any, .any, .any, .any, .any, .any, .any, .any, .any], [some (41, 1, .ints .u64)]⟩
def hk_st_big_times_2 (N_ : Nat) (S_q79 : TS_q79) (S_q1 : TS_q1) : List Atom -> K -> Bool := fun a_ κ => match a_ with
  | [.ints y_2, .int i, .int a, .int carry, .ints t25_1, .int t26_1, .int t27_1, .ints t32, .int t33, .int t34, .ints z_1] => iterG N_ (st_big_times_2 N_ S_q79 S_q1 y_2 i a t25_1 t26_1 t27_1 t32 t33 (fun r2 r6 => κ.ext 2 (sx0_st_big_times_2.build [.ints y_2, .int i, .int r2, .ints t25_1, .int t26_1, .int t27_1, .ints r6]))) (carry, t34, z_1)
  | _ => false
def sh_st_big_times_0 : StSh := ⟨[.any, .roi .u64, .any, .any, .any, .slw 0, .any, .any, .any, .any, .any, .any, .any, .any, .any, .any, .any, .any, .any, .any, .any, .any, .any, .any, .any, .roi .u64, .int .i64, .int .i64, .any, .any, .any, .any, .any, .any, .any, .any, .any, .any, .any, .any, .any, .any, .any, .any, .any, .any, .any, .any, .any, .any, .any, .any, .any, .any, .any, .any, .any, .any, .any, .any, .any, .any, .any, .any, .any, .any, .any, .any], [some (41, 1, .ints .u64)]⟩
def sx0_st_big_times_0 : StSh := ⟨[.any, .any, .any, .any, .any, .slw 0, .any, .any, .any, .any, .any, .any, .any, .any, .any, .any, .any, .any, .any, .any, .any, .any, .any, .any, .any, .any, .any, .any, .any, .any, .any, .any, .any, .any, .any, .any, .any, .any, .any, .any, .any, .any, .any, .any, .any, .any, .any, .any, .any, .any, .any, .any, .any, .any, .any, .any, .any, .any, .any, .any, .any, .any, .any, .any, .any, .any, .any, .any], [some (41, 1, .ints .u64)]⟩
def hk_st_big_times_0 (N_ : Nat) (S_q79 : TS_q79) (S_q1 : TS_q1) : List Atom -> K -> Bool := fun a_ κ => match a_ with
  | [.ints y_1, .ints t25, .int t26, .int t27, .ints z] => iterG N_ (st_big_times_0 N_ S_q79 S_q1 y_1 t25 t26 (fun r0 => κ.ext 0 (sx0_st_big_times_0.build [.ints r0]))) (t27, z)
  | _ => false
def an_q105 (N_ : Nat) (S_q79 : TS_q79) (S_q1 : TS_q1) : Nat -> Option Ann := fun b_ => cond (b_ == 2) (some ⟨⟨[1, 5, 6, 7, 8, 25, 26, 27, 32, 33, 34], [], []⟩, [(2, ⟨[1, 5, 6, 8, 25, 26, 27], [], []⟩)], some ⟨[4], [], []⟩, some (mkHooks [(sh_st_big_times_2, hk_st_big_times_2 N_ S_q79 S_q1)])⟩) (cond (b_ == 0) (some ⟨⟨[1, 5, 25, 26, 27], [], []⟩, [(0, ⟨[5], [], []⟩)], some ⟨[4], [], []⟩, some (mkHooks [(sh_st_big_times_0, hk_st_big_times_0 N_ S_q79 S_q1)])⟩) (none))
theorem eq_st_big_times_2 (N_ : Nat) (S_q79 : TS_q79) (S_q1 : TS_q1) (κ : K) (y_2 : List Int) (i : Int) (a : Int) (carry : Int) (t25_1 : List Int) (t26_1 : Int) (t27_1 : Int) (t32 : List Int) (t33 : Int) (t34 : Int) (z_1 : List Int) : iter N_ (fun s k => codeV ⟨Pg, ofList [(219, (F_q79 S_q79)), (202, (F_q1 S_q1))], isref, N_⟩ 0 (an_q105 N_ S_q79 S_q1) (lp Pg 194 1).2 (lp Pg 194 1).1 s (roundK Pg 0 ((an_q105 N_ S_q79 S_q1) (lp Pg 194 1).1) κ k)) (sh_st_big_times_2.build [.ints y_2, .int i, .int a, .int carry, .ints t25_1, .int t26_1, .int t27_1, .ints t32, .int t33, .int t34, .ints z_1]) = iterG N_ (st_big_times_2 N_ S_q79 S_q1 y_2 i a t25_1 t26_1 t27_1 t32 t33 (fun r2 r6 => κ.ext 2 (sx0_st_big_times_2.build [.ints y_2, .int i, .int r2, .ints t25_1, .int t26_1, .int t27_1, .ints r6]))) (carry, t34, z_1) :=
  iter_tr (fun (v_ : Int × Int × List Int) => sh_st_big_times_2.build [.ints y_2, .int i, .int a, .int v_.1, .ints t25_1, .int t26_1, .int t27_1, .ints t32, .int t33, .int v_.2.1, .ints v_.2.2]) (fun v_ K_ => by obtain ⟨carry, t34, z_1⟩ := v_; kernel_rfl) N_ (carry, t34, z_1)
theorem hk1_st_big_times_2 (N_ : Nat) (S_q79 : TS_q79) (S_q1 : TS_q1) : HookFor ⟨Pg, ofList [(219, (F_q79 S_q79)), (202, (F_q1 S_q1))], isref, N_⟩ 0 (an_q105 N_ S_q79 S_q1) (lp Pg 194 1) (sh_st_big_times_2, hk_st_big_times_2 N_ S_q79 S_q1) := by
  intro a κ h
  simp only at h
  unfold hk_st_big_times_2 at h
  split at h
  · exact (eq_st_big_times_2 _ _ _ _ _ _ _ _ _ _ _ _ _ _ _).trans h
  · cases h
theorem eq_st_big_times_0 (N_ : Nat) (S_q79 : TS_q79) (S_q1 : TS_q1) (κ : K) (y_1 : List Int) (t25 : List Int) (t26 : Int) (t27 : Int) (z : List Int) : iter N_ (fun s k => codeV ⟨Pg, ofList [(219, (F_q79 S_q79)), (202, (F_q1 S_q1))], isref, N_⟩ 0 (an_q105 N_ S_q79 S_q1) (lp Pg 194 0).2 (lp Pg 194 0).1 s (roundK Pg 0 ((an_q105 N_ S_q79 S_q1) (lp Pg 194 0).1) κ k)) (sh_st_big_times_0.build [.ints y_1, .ints t25, .int t26, .int t27, .ints z]) = iterG N_ (st_big_times_0 N_ S_q79 S_q1 y_1 t25 t26 (fun r0 => κ.ext 0 (sx0_st_big_times_0.build [.ints r0]))) (t27, z) :=
  iter_tr (fun (v_ : Int × List Int) => sh_st_big_times_0.build [.ints y_1, .ints t25, .int t26, .int v_.1, .ints v_.2]) (fun v_ K_ => by obtain ⟨t27, z⟩ := v_; kernel_rfl) N_ (t27, z)
theorem hk1_st_big_times_0 (N_ : Nat) (S_q79 : TS_q79) (S_q1 : TS_q1) : HookFor ⟨Pg, ofList [(219, (F_q79 S_q79)), (202, (F_q1 S_q1))], isref, N_⟩ 0 (an_q105 N_ S_q79 S_q1) (lp Pg 194 0) (sh_st_big_times_0, hk_st_big_times_0 N_ S_q79 S_q1) := by
  intro a κ h
  simp only at h
  unfold hk_st_big_times_0 at h
  split at h
  · exact (eq_st_big_times_0 _ _ _ _ _ _ _ _ _).trans h
  · cases h
theorem ho_big_times_2 (N_ : Nat) (S_q79 : TS_q79) (S_q1 : TS_q1) : HookOk ⟨Pg, ofList [(219, (F_q79 S_q79)), (202, (F_q1 S_q1))], isref, N_⟩ 0 (an_q105 N_ S_q79 S_q1) (lp Pg 194 1) :=
  hooks_ok [(sh_st_big_times_2, hk_st_big_times_2 N_ S_q79 S_q1)] (by kernel_rfl) ⟨hk1_st_big_times_2 _ _ _, trivial⟩
theorem ho_big_times_0 (N_ : Nat) (S_q79 : TS_q79) (S_q1 : TS_q1) : HookOk ⟨Pg, ofList [(219, (F_q79 S_q79)), (202, (F_q1 S_q1))], isref, N_⟩ 0 (an_q105 N_ S_q79 S_q1) (lp Pg 194 0) :=
  hooks_ok [(sh_st_big_times_0, hk_st_big_times_0 N_ S_q79 S_q1)] (by kernel_rfl) ⟨hk1_st_big_times_0 _ _ _, trivial⟩
theorem eq_q105 (N_ : Nat) (S_q79 : TS_q79) (S_q1 : TS_q1) (x : List Int) (y : List Int) (c_ : V -> List Blk -> Bool) : bodyZ ⟨Pg, ofList [(219, (F_q79 S_q79)), (202, (F_q1 S_q1))], isref, N_⟩ (an_q105 N_ S_q79 S_q1) 194 (shF_q105.args [.ints x, .ints y]) [] c_ = G_q105 N_ S_q79 S_q1 x y (fun r0 => c_ (.roi .u64 r0) []) := by kernel_rfl
theorem good_q105 (N_ : Nat) (S_q79 : TS_q79) (S_q1 : TS_q1) (h_q79 : GoodF Pg 219 (F_q79 S_q79)) (h_q1 : GoodF Pg 202 (F_q1 S_q1)) : GoodF Pg 194 (F_q105 (G_q105 N_ S_q79 S_q1)) := by
  refine good_fsZ (cx := ⟨Pg, ofList [(219, (F_q79 S_q79)), (202, (F_q1 S_q1))], isref, N_⟩) (ofList_cons h_q79 (ofList_cons h_q1 (ofList_nil _))) shF_q105 (sp_q105 (G_q105 N_ S_q79 S_q1)) (an_q105 N_ S_q79 S_q1) 2 0 (by kernel_rfl) (fun i_ hi_ => by
    match i_, hi_ with
    | 0, _ => exact ho_big_times_0 _ _ _
    | 1, _ => exact ho_big_times_2 _ _ _
    | (q + 2), h => omega) ?_
  intro a k h
  unfold sp_q105 at h
  split at h
  · exact ⟨[], rfl, rfl, (eq_q105 _ _ _ _ _ _).trans h⟩
  · cases h

def an_q43 (N_ : Nat) (S_q105 : TS_q105) (S_q0 : TS_q0) : Nat -> Option Ann := fun b_ => none
theorem eq_q43 (N_ : Nat) (S_q105 : TS_q105) (S_q0 : TS_q0) (b : Bool) (b_1 : Bool) (b_2 : List Int) (b_3 : Bool) (b_4 : List Int) (c_ : V -> List Blk -> Bool) : bodyZ ⟨Pg, ofList [(194, (F_q105 S_q105)), (170, (F_q0 S_q0))], isref, N_⟩ (an_q43 N_ S_q105 S_q0) 162 (shF_q43.args [.bool b, .bool b_1, .ints b_2, .bool b_3, .ints b_4]) [⟨164, 1, .cells [.bool b, .nil]⟩, ⟨164, 1, .cells [.bool b_1, .roi .u64 b_2]⟩, ⟨164, 1, .cells [.bool b_3, .roi .u64 b_4]⟩] c_ = G_q43 N_ S_q105 S_q0 b b_1 b_2 b_3 b_4 (fun r0 r1 => c_ (.ptr 0 0) [⟨164, 1, .cells [.bool r0, .roi .u64 r1]⟩, ⟨164, 1, .cells [.bool b_1, .roi .u64 b_2]⟩, ⟨164, 1, .cells [.bool b_3, .roi .u64 b_4]⟩]) := by kernel_rfl
theorem good_q43 (N_ : Nat) (S_q105 : TS_q105) (S_q0 : TS_q0) (h_q105 : GoodF Pg 194 (F_q105 S_q105)) (h_q0 : GoodF Pg 170 (F_q0 S_q0)) : GoodF Pg 162 (F_q43 (G_q43 N_ S_q105 S_q0)) := by
  refine good_fsZ (cx := ⟨Pg, ofList [(194, (F_q105 S_q105)), (170, (F_q0 S_q0))], isref, N_⟩) (ofList_cons h_q105 (ofList_cons h_q0 (ofList_nil _))) shF_q43 (sp_q43 (G_q43 N_ S_q105 S_q0)) (an_q43 N_ S_q105 S_q0) 0 3 (by kernel_rfl) (fun i_ hi_ => by omega) ?_
  intro a k h
  unfold sp_q43 at h
  split at h
  · exact ⟨[_, _, _], rfl, rfl, (eq_q43 _ _ _ _ _ _ _ _ _).trans h⟩
  · cases h

def an_q14 (N_ : Nat) (S_q43 : TS_q43) : Nat -> Option Ann := fun b_ => none
theorem eq_q14 (N_ : Nat) (S_q43 : TS_q43) (x : Int) (y : Int) (b : Bool) (b_1 : List Int) (b_2 : Bool) (b_3 : List Int) (c_ : V -> List Blk -> Bool) : bodyV ⟨Pg, ofList [(162, (F_q43 S_q43))], isref, N_⟩ (an_q14 N_ S_q43) 127 (shF_q14.args [.int x, .int y, .bool b, .ints b_1, .bool b_2, .ints b_3]) [⟨164, 1, .cells [.bool b, .roi .u64 b_1]⟩, ⟨164, 1, .cells [.bool b_2, .roi .u64 b_3]⟩] c_ = G_q14 N_ S_q43 x y b b_1 b_2 b_3 (fun r0 r5 r6 => c_ (.agg [.ptr 2 0, .int .i64 r0]) [⟨164, 1, .cells [.bool b, .roi .u64 b_1]⟩, ⟨164, 1, .cells [.bool b_2, .roi .u64 b_3]⟩, ⟨164, 1, .cells [.bool r5, .roi .u64 r6]⟩]) := by kernel_rfl
theorem good_q14 (N_ : Nat) (S_q43 : TS_q43) (h_q43 : GoodF Pg 162 (F_q43 S_q43)) : GoodF Pg 127 (F_q14 (G_q14 N_ S_q43)) := by
  refine good_fs (cx := ⟨Pg, ofList [(162, (F_q43 S_q43))], isref, N_⟩) (ofList_cons h_q43 (ofList_nil _)) shF_q14 (sp_q14 (G_q14 N_ S_q43)) (an_q14 N_ S_q43) 0 2 (by kernel_rfl) (fun i_ hi_ => by omega) ?_
  intro a k h
  unfold sp_q14 at h
  split at h
  · exact ⟨[_, _], rfl, rfl, (eq_q14 _ _ _ _ _ _ _ _ _).trans h⟩
  · cases h

def an_q64 (N_ : Nat) : Nat -> Option Ann := fun b_ => none
theorem eq_q64 (N_ : Nat) (b : Bool) (c_ : V -> List Blk -> Bool) : bodyZ ⟨Pg, ofList [], isref, N_⟩ (an_q64 N_) 134 (shF_q64.args [.bool b]) [⟨164, 1, .cells [.bool b, .nil]⟩] c_ = G_q64 N_ b (fun r0 r2 => c_ (.int .i64 r0) [⟨164, 1, .cells [.bool b, .roi .u64 r2]⟩]) := by kernel_rfl
theorem good_q64 (N_ : Nat) : GoodF Pg 134 (F_q64 (G_q64 N_)) := by
  refine good_fsZ (cx := ⟨Pg, ofList [], isref, N_⟩) (ofList_nil _) shF_q64 (sp_q64 (G_q64 N_)) (an_q64 N_) 0 1 (by kernel_rfl) (fun i_ hi_ => by omega) ?_
  intro a k h
  unfold sp_q64 at h
  split at h
  · exact ⟨[_], rfl, rfl, (eq_q64 _ _ _).trans h⟩
  · cases h

def an_q3 (N_ : Nat) : Nat -> Option Ann := fun b_ => none
theorem eq_q3 (N_ : Nat) (b : Bool) (b_1 : List Int) (c_ : V -> List Blk -> Bool) : bodyZ ⟨Pg, ofList [], isref, N_⟩ (an_q3 N_) 134 (shF_q3.args [.bool b, .ints b_1]) [⟨164, 1, .cells [.bool b, .roi .u64 b_1]⟩] c_ = G_q3 N_ b b_1 (fun r0 => c_ (.int .i64 r0) [⟨164, 1, .cells [.bool b, .roi .u64 b_1]⟩]) := by kernel_rfl
theorem good_q3 (N_ : Nat) : GoodF Pg 134 (F_q3 (G_q3 N_)) := by
  refine good_fsZ (cx := ⟨Pg, ofList [], isref, N_⟩) (ofList_nil _) shF_q3 (sp_q3 (G_q3 N_)) (an_q3 N_) 0 1 (by kernel_rfl) (fun i_ hi_ => by omega) ?_
  intro a k h
  unfold sp_q3 at h
  split at h
  · exact ⟨[_], rfl, rfl, (eq_q3 _ _ _ _).trans h⟩
  · cases h

def sh_st_big_left_0 : StSh := ⟨[.any, .any, .any, .any, .any, .int .i64, .int .u64, .slw 0, .any, .any, .any, .any, .any, .any, .any, .any, .any, .any, .any, .any, .any, .any, .any, .any, .roi .u64, .int .i64, .int .i64, .any, .any, .any, .any, .any, .any, .any, .any, .any, .any, .any, .any, .any, .any, .any, .any, .any, .any, .any, .any, .any, .any, .any, .any, .any, .any, .any, .any], [some (41, 1, .ints .u64)]⟩
def sx0_st_big_left_0 : StSh := ⟨[.any, .any, .any, .any, .any, .any, .any, .slw 0, .any, .any, .any, .any, .any, .any, .any, .any, .any, .any, .any, .any, .any, .any, .any, .any, .any, .any, .any, .any, .any, .any, .any, .any, .any, .any, .any, .any, .any, .any, .any, .any, .any, .any, .any, .any, .any, .any, .any, .any, .any, .any, .any, .any, .any, .any, .any], [some (41, 1, .ints .u64)]⟩
def hk_st_big_left_0 (N_ : Nat) (S_q1 : TS_q1) : List Atom -> K -> Bool := fun a_ κ => match a_ with
  | [.int words, .int rest, .ints t24, .int t25, .int t26, .ints z] => iterG N_ (st_big_left_0 N_ S_q1 words rest t24 t25 (fun r0 => κ.ext 0 (sx0_st_big_left_0.build [.ints r0]))) (t26, z)
  | _ => false
def an_q80 (N_ : Nat) (S_q1 : TS_q1) : Nat -> Option Ann := fun b_ => cond (b_ == 0) (some ⟨⟨[5, 6, 7, 24, 25, 26], [], []⟩, [(0, ⟨[7], [], []⟩)], some ⟨[4], [], []⟩, some (mkHooks [(sh_st_big_left_0, hk_st_big_left_0 N_ S_q1)])⟩) (none)
theorem eq_st_big_left_0 (N_ : Nat) (S_q1 : TS_q1) (κ : K) (words : Int) (rest : Int) (t24 : List Int) (t25 : Int) (t26 : Int) (z : List Int) : iter N_ (fun s k => codeV ⟨Pg, ofList [(202, (F_q1 S_q1))], isref, N_⟩ 0 (an_q80 N_ S_q1) (lp Pg 204 0).2 (lp Pg 204 0).1 s (roundK Pg 0 ((an_q80 N_ S_q1) (lp Pg 204 0).1) κ k)) (sh_st_big_left_0.build [.int words, .int rest, .ints t24, .int t25, .int t26, .ints z]) = iterG N_ (st_big_left_0 N_ S_q1 words rest t24 t25 (fun r0 => κ.ext 0 (sx0_st_big_left_0.build [.ints r0]))) (t26, z) :=
  iter_tr (fun (v_ : Int × List Int) => sh_st_big_left_0.build [.int words, .int rest, .ints t24, .int t25, .int v_.1, .ints v_.2]) (fun v_ K_ => by obtain ⟨t26, z⟩ := v_; kernel_rfl) N_ (t26, z)
theorem hk1_st_big_left_0 (N_ : Nat) (S_q1 : TS_q1) : HookFor ⟨Pg, ofList [(202, (F_q1 S_q1))], isref, N_⟩ 0 (an_q80 N_ S_q1) (lp Pg 204 0) (sh_st_big_left_0, hk_st_big_left_0 N_ S_q1) := by
  intro a κ h
  simp only at h
  unfold hk_st_big_left_0 at h
  split at h
  · exact (eq_st_big_left_0 _ _ _ _ _ _ _ _ _).trans h
  · cases h
theorem ho_big_left_0 (N_ : Nat) (S_q1 : TS_q1) : HookOk ⟨Pg, ofList [(202, (F_q1 S_q1))], isref, N_⟩ 0 (an_q80 N_ S_q1) (lp Pg 204 0) :=
  hooks_ok [(sh_st_big_left_0, hk_st_big_left_0 N_ S_q1)] (by kernel_rfl) ⟨hk1_st_big_left_0 _ _, trivial⟩
theorem eq_q80 (N_ : Nat) (S_q1 : TS_q1) (x : List Int) (n : Int) (c_ : V -> List Blk -> Bool) : bodyZ ⟨Pg, ofList [(202, (F_q1 S_q1))], isref, N_⟩ (an_q80 N_ S_q1) 204 (shF_q80.args [.ints x, .int n]) [] c_ = G_q80 N_ S_q1 x n (fun r0 => c_ (.roi .u64 r0) []) := by kernel_rfl
theorem good_q80 (N_ : Nat) (S_q1 : TS_q1) (h_q1 : GoodF Pg 202 (F_q1 S_q1)) : GoodF Pg 204 (F_q80 (G_q80 N_ S_q1)) := by
  refine good_fsZ (cx := ⟨Pg, ofList [(202, (F_q1 S_q1))], isref, N_⟩) (ofList_cons h_q1 (ofList_nil _)) shF_q80 (sp_q80 (G_q80 N_ S_q1)) (an_q80 N_ S_q1) 1 0 (by kernel_rfl) (fun i_ hi_ => by
    match i_, hi_ with
    | 0, _ => exact ho_big_left_0 _ _
    | (q + 1), h => omega) ?_
  intro a k h
  unfold sp_q80 at h
  split at h
  · exact ⟨[], rfl, rfl, (eq_q80 _ _ _ _ _).trans h⟩
  · cases h

def an_q54 (N_ : Nat) (S_q80 : TS_q80) (S_q0 : TS_q0) : Nat -> Option Ann := fun b_ => none
theorem eq_q54 (N_ : Nat) (S_q80 : TS_q80) (S_q0 : TS_q0) (n : Int) (b : Bool) (b_1 : Bool) (b_2 : List Int) (c_ : V -> List Blk -> Bool) : bodyZ ⟨Pg, ofList [(204, (F_q80 S_q80)), (170, (F_q0 S_q0))], isref, N_⟩ (an_q54 N_ S_q80 S_q0) 172 (shF_q54.args [.int n, .bool b, .bool b_1, .ints b_2]) [⟨164, 1, .cells [.bool b, .nil]⟩, ⟨164, 1, .cells [.bool b_1, .roi .u64 b_2]⟩] c_ = G_q54 N_ S_q80 S_q0 n b b_1 b_2 (fun r0 r1 => c_ (.ptr 0 0) [⟨164, 1, .cells [.bool r0, .roi .u64 r1]⟩, ⟨164, 1, .cells [.bool b_1, .roi .u64 b_2]⟩]) := by kernel_rfl
theorem good_q54 (N_ : Nat) (S_q80 : TS_q80) (S_q0 : TS_q0) (h_q80 : GoodF Pg 204 (F_q80 S_q80)) (h_q0 : GoodF Pg 170 (F_q0 S_q0)) : GoodF Pg 172 (F_q54 (G_q54 N_ S_q80 S_q0)) := by
  refine good_fsZ (cx := ⟨Pg, ofList [(204, (F_q80 S_q80)), (170, (F_q0 S_q0))], isref, N_⟩) (ofList_cons h_q80 (ofList_cons h_q0 (ofList_nil _))) shF_q54 (sp_q54 (G_q54 N_ S_q80 S_q0)) (an_q54 N_ S_q80 S_q0) 0 2 (by kernel_rfl) (fun i_ hi_ => by omega) ?_
  intro a k h
  unfold sp_q54 at h
  split at h
  · exact ⟨[_, _], rfl, rfl, (eq_q54 _ _ _ _ _ _ _ _).trans h⟩
  · cases h

def an_q26 (N_ : Nat) (S_q54 : TS_q54) : Nat -> Option Ann := fun b_ => none
theorem eq_q26 (N_ : Nat) (S_q54 : TS_q54) (x : Int) (e : Int) (b : Bool) (b_1 : List Int) (c_ : V -> List Blk -> Bool) : bodyV ⟨Pg, ofList [(172, (F_q54 S_q54))], isref, N_⟩ (an_q26 N_ S_q54) 159 (shF_q26.args [.int x, .int e, .bool b, .ints b_1]) [⟨164, 1, .cells [.bool b, .roi .u64 b_1]⟩] c_ = G_q26 N_ S_q54 x e b b_1 (fun r2 r3 => c_ (.ptr 1 0) [⟨164, 1, .cells [.bool b, .roi .u64 b_1]⟩, ⟨164, 1, .cells [.bool r2, .roi .u64 r3]⟩]) := by kernel_rfl
theorem good_q26 (N_ : Nat) (S_q54 : TS_q54) (h_q54 : GoodF Pg 172 (F_q54 S_q54)) : GoodF Pg 159 (F_q26 (G_q26 N_ S_q54)) := by
  refine good_fs (cx := ⟨Pg, ofList [(172, (F_q54 S_q54))], isref, N_⟩) (ofList_cons h_q54 (ofList_nil _)) shF_q26 (sp_q26 (G_q26 N_ S_q54)) (an_q26 N_ S_q54) 0 1 (by kernel_rfl) (fun i_ hi_ => by omega) ?_
  intro a k h
  unfold sp_q26 at h
  split at h
  · exact ⟨[_], rfl, rfl, (eq_q26 _ _ _ _ _ _ _).trans h⟩
  · cases h

def an_q12 (N_ : Nat) : Nat -> Option Ann := fun b_ => none
theorem eq_q12 (N_ : Nat) (x : List Int) (i : Int) (c_ : V -> List Blk -> Bool) : bodyZ ⟨Pg, ofList [], isref, N_⟩ (an_q12 N_) 205 (shF_q12.args [.ints x, .int i]) [] c_ = G_q12 N_ x i (fun r0 => c_ (.int .u64 r0) []) := by kernel_rfl
theorem good_q12 (N_ : Nat) : GoodF Pg 205 (F_q12 (G_q12 N_)) := by
  refine good_fsZ (cx := ⟨Pg, ofList [], isref, N_⟩) (ofList_nil _) shF_q12 (sp_q12 (G_q12 N_)) (an_q12 N_) 0 0 (by kernel_rfl) (fun i_ hi_ => by omega) ?_
  intro a k h
  unfold sp_q12 at h
  split at h
  · exact ⟨[], rfl, rfl, (eq_q12 _ _ _ _).trans h⟩
  · cases h

def sh_st_big_sum_0 : StSh := ⟨[.roi .u64, .roi .u64, .any, .any, .any, .int .i64, .slw 0, .int .u64, .any, .any, .any, .any, .any, .any, .any, .any, .any, .int .i64, .int .i64, .any, .any, .any, .any, .any, .any, .any, .any, .any, .any, .any, .any, .any, .any, .any, .any, .any, .any, .any, .any, .any, .any, .any], [some (41, 1, .ints .u64)]⟩
def sx0_st_big_sum_0 : StSh := ⟨[.any, .any, .any, .any, .any, .int .i64, .slw 0, .int .u64, .any, .any, .any, .any, .any, .any, .any, .any, .any, .any, .any, .any, .any, .any, .any, .any, .any, .any, .any, .any, .any, .any, .any, .any, .any, .any, .any, .any, .any, .any, .any, .any, .any, .any], [some (41, 1, .ints .u64)]⟩
def hk_st_big_sum_0 (N_ : Nat) (S_q12 : TS_q12) (S_q56 : TS_q56) (S_q1 : TS_q1) : List Atom -> K -> Bool := fun a_ κ => match a_ with
  | [.ints x_1, .ints y_1, .int n, .int carry, .int t17, .int t18, .ints z] => iterG N_ (st_big_sum_0 N_ S_q12 S_q56 S_q1 x_1 y_1 n t17 (fun r1 r2 => κ.ext 0 (sx0_st_big_sum_0.build [.int n, .int r1, .ints r2]))) (carry, t18, z)
  | _ => false
def an_q115 (N_ : Nat) (S_q12 : TS_q12) (S_q56 : TS_q56) (S_q1 : TS_q1) : Nat -> Option Ann := fun b_ => cond (b_ == 0) (some ⟨⟨[0, 1, 5, 6, 7, 17, 18], [], []⟩, [(0, ⟨[5, 6, 7], [], []⟩)], some ⟨[4], [], []⟩, some (mkHooks [(sh_st_big_sum_0, hk_st_big_sum_0 N_ S_q12 S_q56 S_q1)])⟩) (none)
theorem eq_st_big_sum_0 (N_ : Nat) (S_q12 : TS_q12) (S_q56 : TS_q56) (S_q1 : TS_q1) (κ : K) (x_1 : List Int) (y_1 : List Int) (n : Int) (carry : Int) (t17 : Int) (t18 : Int) (z : List Int) : iter N_ (fun s k => codeV ⟨Pg, ofList [(205, (F_q12 S_q12)), (221, (F_q56 S_q56)), (202, (F_q1 S_q1))], isref, N_⟩ 0 (an_q115 N_ S_q12 S_q56 S_q1) (lp Pg 201 0).2 (lp Pg 201 0).1 s (roundK Pg 0 ((an_q115 N_ S_q12 S_q56 S_q1) (lp Pg 201 0).1) κ k)) (sh_st_big_sum_0.build [.ints x_1, .ints y_1, .int n, .int carry, .int t17, .int t18, .ints z]) = iterG N_ (st_big_sum_0 N_ S_q12 S_q56 S_q1 x_1 y_1 n t17 (fun r1 r2 => κ.ext 0 (sx0_st_big_sum_0.build [.int n, .int r1, .ints r2]))) (carry, t18, z) :=
  iter_tr (fun (v_ : Int × Int × List Int) => sh_st_big_sum_0.build [.ints x_1, .ints y_1, .int n, .int v_.1, .int t17, .int v_.2.1, .ints v_.2.2]) (fun v_ K_ => by obtain ⟨carry, t18, z⟩ := v_; kernel_rfl) N_ (carry, t18, z)
theorem hk1_st_big_sum_0 (N_ : Nat) (S_q12 : TS_q12) (S_q56 : TS_q56) (S_q1 : TS_q1) : HookFor ⟨Pg, ofList [(205, (F_q12 S_q12)), (221, (F_q56 S_q56)), (202, (F_q1 S_q1))], isref, N_⟩ 0 (an_q115 N_ S_q12 S_q56 S_q1) (lp Pg 201 0) (sh_st_big_sum_0, hk_st_big_sum_0 N_ S_q12 S_q56 S_q1) := by
  intro a κ h
  simp only at h
  unfold hk_st_big_sum_0 at h
  split at h
  · exact (eq_st_big_sum_0 _ _ _ _ _ _ _ _ _ _ _ _).trans h
  · cases h
theorem ho_big_sum_0 (N_ : Nat) (S_q12 : TS_q12) (S_q56 : TS_q56) (S_q1 : TS_q1) : HookOk ⟨Pg, ofList [(205, (F_q12 S_q12)), (221, (F_q56 S_q56)), (202, (F_q1 S_q1))], isref, N_⟩ 0 (an_q115 N_ S_q12 S_q56 S_q1) (lp Pg 201 0) :=
  hooks_ok [(sh_st_big_sum_0, hk_st_big_sum_0 N_ S_q12 S_q56 S_q1)] (by kernel_rfl) ⟨hk1_st_big_sum_0 _ _ _ _, trivial⟩
theorem eq_q115 (N_ : Nat) (S_q12 : TS_q12) (S_q56 : TS_q56) (S_q1 : TS_q1) (x : List Int) (y : List Int) (c_ : V -> List Blk -> Bool) : bodyZ ⟨Pg, ofList [(205, (F_q12 S_q12)), (221, (F_q56 S_q56)), (202, (F_q1 S_q1))], isref, N_⟩ (an_q115 N_ S_q12 S_q56 S_q1) 201 (shF_q115.args [.ints x, .ints y]) [] c_ = G_q115 N_ S_q12 S_q56 S_q1 x y (fun r0 => c_ (.roi .u64 r0) []) := by kernel_rfl
theorem good_q115 (N_ : Nat) (S_q12 : TS_q12) (S_q56 : TS_q56) (S_q1 : TS_q1) (h_q12 : GoodF Pg 205 (F_q12 S_q12)) (h_q56 : GoodF Pg 221 (F_q56 S_q56)) (h_q1 : GoodF Pg 202 (F_q1 S_q1)) : GoodF Pg 201 (F_q115 (G_q115 N_ S_q12 S_q56 S_q1)) := by
  refine good_fsZ (cx := ⟨Pg, ofList [(205, (F_q12 S_q12)), (221, (F_q56 S_q56)), (202, (F_q1 S_q1))], isref, N_⟩) (ofList_cons h_q12 (ofList_cons h_q56 (ofList_cons h_q1 (ofList_nil _)))) shF_q115 (sp_q115 (G_q115 N_ S_q12 S_q56 S_q1)) (an_q115 N_ S_q12 S_q56 S_q1) 1 0 (by kernel_rfl) (fun i_ hi_ => by
    match i_, hi_ with
    | 0, _ => exact ho_big_sum_0 _ _ _ _
    | (q + 1), h => omega) ?_
  intro a k h
  unfold sp_q115 at h
  split at h
  · exact ⟨[], rfl, rfl, (eq_q115 _ _ _ _ _ _ _).trans h⟩
  · cases h

def sh_st_big_compare_0 : StSh := ⟨[.roi .u64, .roi .u64, .any, .any, .any, .int .i64, .any, .any, .any, .any, .any, .any, .any, .any, .any, .any, .any, .any, .any, .any, .any, .any, .any, .any, .any, .any, .any, .any, .any, .any, .any, .any, .any, .any, .any, .any, .any, .any, .any, .any, .any], []⟩
def sx0_st_big_compare_0 : StSh := ⟨[.any, .any, .any, .any, .int .i64, .any, .any, .any, .any, .any, .any, .any, .any, .any, .any, .any, .any, .any, .any, .any, .any, .any, .any, .any, .any, .any, .any, .any, .any, .any, .any, .any, .any, .any, .any, .any, .any, .any, .any, .any, .any], []⟩
def sx1_st_big_compare_0 : StSh := ⟨[.any, .any, .any, .any, .any, .any, .any, .any, .any, .any, .any, .any, .any, .any, .any, .any, .any, .any, .any, .any, .any, .any, .any, .any, .any, .any, .any, .any, .any, .any, .any, .any, .any, .any, .any, .any, .any, .any, .any, .any, .any], []⟩
def hk_st_big_compare_0 (N_ : Nat) : List Atom -> K -> Bool := fun a_ κ => match a_ with
  | [.ints x_1, .ints y_1, .int i] => iterG N_ (st_big_compare_0 N_ x_1 y_1 (fun r0 => κ.ret (sx0_st_big_compare_0.build [.int r0])) (κ.ext 0 (sx1_st_big_compare_0.build []))) i
  | _ => false
def an_q89 (N_ : Nat) : Nat -> Option Ann := fun b_ => cond (b_ == 0) (some ⟨⟨[0, 1, 5], [], []⟩, [(0, ⟨[], [], []⟩)], some ⟨[4], [], []⟩, some (mkHooks [(sh_st_big_compare_0, hk_st_big_compare_0 N_)])⟩) (none)
theorem eq_st_big_compare_0 (N_ : Nat) (κ : K) (x_1 : List Int) (y_1 : List Int) (i : Int) : iter N_ (fun s k => codeV ⟨Pg, ofList [], isref, N_⟩ 0 (an_q89 N_) (lp Pg 215 0).2 (lp Pg 215 0).1 s (roundK Pg 0 ((an_q89 N_) (lp Pg 215 0).1) κ k)) (sh_st_big_compare_0.build [.ints x_1, .ints y_1, .int i]) = iterG N_ (st_big_compare_0 N_ x_1 y_1 (fun r0 => κ.ret (sx0_st_big_compare_0.build [.int r0])) (κ.ext 0 (sx1_st_big_compare_0.build []))) i :=
  iter_tr (fun v_ => sh_st_big_compare_0.build [.ints x_1, .ints y_1, .int v_]) (fun v_ K_ => by kernel_rfl) N_ i
theorem hk1_st_big_compare_0 (N_ : Nat) : HookFor ⟨Pg, ofList [], isref, N_⟩ 0 (an_q89 N_) (lp Pg 215 0) (sh_st_big_compare_0, hk_st_big_compare_0 N_) := by
  intro a κ h
  simp only at h
  unfold hk_st_big_compare_0 at h
  split at h
  · exact (eq_st_big_compare_0 _ _ _ _ _).trans h
  · cases h
theorem ho_big_compare_0 (N_ : Nat) : HookOk ⟨Pg, ofList [], isref, N_⟩ 0 (an_q89 N_) (lp Pg 215 0) :=
  hooks_ok [(sh_st_big_compare_0, hk_st_big_compare_0 N_)] (by kernel_rfl) ⟨hk1_st_big_compare_0 _, trivial⟩
theorem eq_q89 (N_ : Nat) (x : List Int) (y : List Int) (c_ : V -> List Blk -> Bool) : bodyZ ⟨Pg, ofList [], isref, N_⟩ (an_q89 N_) 215 (shF_q89.args [.ints x, .ints y]) [] c_ = G_q89 N_ x y (fun r0 => c_ (.int .i64 r0) []) := by kernel_rfl
theorem good_q89 (N_ : Nat) : GoodF Pg 215 (F_q89 (G_q89 N_)) := by
  refine good_fsZ (cx := ⟨Pg, ofList [], isref, N_⟩) (ofList_nil _) shF_q89 (sp_q89 (G_q89 N_)) (an_q89 N_) 1 0 (by kernel_rfl) (fun i_ hi_ => by
    match i_, hi_ with
    | 0, _ => exact ho_big_compare_0 _
    | (q + 1), h => omega) ?_
  intro a k h
  unfold sp_q89 at h
  split at h
  · exact ⟨[], rfl, rfl, (eq_q89 _ _ _ _).trans h⟩
  · cases h


def sh_st_big_less_0 : StSh := ⟨[.roi .u64, .roi .u64, .any, .any, .any, .slw 0, .int .u64, .any, .any, .any, .any, .any, .int .i64, .int .i64, .any, .any, .any, .any, .any, .any, .any, .any, .any, .any, .any, .any, .any, .any, .any, .any, .any, .any, .any, .any], [some (41, 1, .ints .u64)]⟩
def sx0_st_big_less_0 : StSh := ⟨[.any, .any, .any, .any, .any, .slw 0, .any, .any, .any, .any, .any, .any, .any, .any, .any, .any, .any, .any, .any, .any, .any, .any, .any, .any, .any, .any, .any, .any, .any, .any, .any, .any, .any, .any], [some (41, 1, .ints .u64)]⟩
def hk_st_big_less_0 (N_ : Nat) (S_q12 : TS_q12) (S_q71 : TS_q71) (S_q1 : TS_q1) : List Atom -> K -> Bool := fun a_ κ => match a_ with
  | [.ints x_1, .ints y_1, .int borrow, .int t12, .int t13, .ints z] => iterG N_ (st_big_less_0 N_ S_q12 S_q71 S_q1 x_1 y_1 t12 (fun r0 => κ.ext 0 (sx0_st_big_less_0.build [.ints r0]))) (borrow, t13, z)
  | _ => false
def an_q121 (N_ : Nat) (S_q12 : TS_q12) (S_q71 : TS_q71) (S_q1 : TS_q1) : Nat -> Option Ann := fun b_ => cond (b_ == 0) (some ⟨⟨[0, 1, 5, 6, 12, 13], [], []⟩, [(0, ⟨[5], [], []⟩)], some ⟨[4], [], []⟩, some (mkHooks [(sh_st_big_less_0, hk_st_big_less_0 N_ S_q12 S_q71 S_q1)])⟩) (none)
theorem eq_st_big_less_0 (N_ : Nat) (S_q12 : TS_q12) (S_q71 : TS_q71) (S_q1 : TS_q1) (κ : K) (x_1 : List Int) (y_1 : List Int) (borrow : Int) (t12 : Int) (t13 : Int) (z : List Int) : iter N_ (fun s k => codeV ⟨Pg, ofList [(205, (F_q12 S_q12)), (230, (F_q71 S_q71)), (202, (F_q1 S_q1))], isref, N_⟩ 0 (an_q121 N_ S_q12 S_q71 S_q1) (lp Pg 216 0).2 (lp Pg 216 0).1 s (roundK Pg 0 ((an_q121 N_ S_q12 S_q71 S_q1) (lp Pg 216 0).1) κ k)) (sh_st_big_less_0.build [.ints x_1, .ints y_1, .int borrow, .int t12, .int t13, .ints z]) = iterG N_ (st_big_less_0 N_ S_q12 S_q71 S_q1 x_1 y_1 t12 (fun r0 => κ.ext 0 (sx0_st_big_less_0.build [.ints r0]))) (borrow, t13, z) :=
  iter_tr (fun (v_ : Int × Int × List Int) => sh_st_big_less_0.build [.ints x_1, .ints y_1, .int v_.1, .int t12, .int v_.2.1, .ints v_.2.2]) (fun v_ K_ => by obtain ⟨borrow, t13, z⟩ := v_; kernel_rfl) N_ (borrow, t13, z)
theorem hk1_st_big_less_0 (N_ : Nat) (S_q12 : TS_q12) (S_q71 : TS_q71) (S_q1 : TS_q1) : HookFor ⟨Pg, ofList [(205, (F_q12 S_q12)), (230, (F_q71 S_q71)), (202, (F_q1 S_q1))], isref, N_⟩ 0 (an_q121 N_ S_q12 S_q71 S_q1) (lp Pg 216 0) (sh_st_big_less_0, hk_st_big_less_0 N_ S_q12 S_q71 S_q1) := by
  intro a κ h
  simp only at h
  unfold hk_st_big_less_0 at h
  split at h
  · exact (eq_st_big_less_0 _ _ _ _ _ _ _ _ _ _ _).trans h
  · cases h
theorem ho_big_less_0 (N_ : Nat) (S_q12 : TS_q12) (S_q71 : TS_q71) (S_q1 : TS_q1) : HookOk ⟨Pg, ofList [(205, (F_q12 S_q12)), (230, (F_q71 S_q71)), (202, (F_q1 S_q1))], isref, N_⟩ 0 (an_q121 N_ S_q12 S_q71 S_q1) (lp Pg 216 0) :=
  hooks_ok [(sh_st_big_less_0, hk_st_big_less_0 N_ S_q12 S_q71 S_q1)] (by kernel_rfl) ⟨hk1_st_big_less_0 _ _ _ _, trivial⟩
theorem eq_q121 (N_ : Nat) (S_q12 : TS_q12) (S_q71 : TS_q71) (S_q1 : TS_q1) (x : List Int) (y : List Int) (c_ : V -> List Blk -> Bool) : bodyZ ⟨Pg, ofList [(205, (F_q12 S_q12)), (230, (F_q71 S_q71)), (202, (F_q1 S_q1))], isref, N_⟩ (an_q121 N_ S_q12 S_q71 S_q1) 216 (shF_q121.args [.ints x, .ints y]) [] c_ = G_q121 N_ S_q12 S_q71 S_q1 x y (fun r0 => c_ (.roi .u64 r0) []) := by kernel_rfl
theorem good_q121 (N_ : Nat) (S_q12 : TS_q12) (S_q71 : TS_q71) (S_q1 : TS_q1) (h_q12 : GoodF Pg 205 (F_q12 S_q12)) (h_q71 : GoodF Pg 230 (F_q71 S_q71)) (h_q1 : GoodF Pg 202 (F_q1 S_q1)) : GoodF Pg 216 (F_q121 (G_q121 N_ S_q12 S_q71 S_q1)) := by
  refine good_fsZ (cx := ⟨Pg, ofList [(205, (F_q12 S_q12)), (230, (F_q71 S_q71)), (202, (F_q1 S_q1))], isref, N_⟩) (ofList_cons h_q12 (ofList_cons h_q71 (ofList_cons h_q1 (ofList_nil _)))) shF_q121 (sp_q121 (G_q121 N_ S_q12 S_q71 S_q1)) (an_q121 N_ S_q12 S_q71 S_q1) 1 0 (by kernel_rfl) (fun i_ hi_ => by
    match i_, hi_ with
    | 0, _ => exact ho_big_less_0 _ _ _ _
    | (q + 1), h => omega) ?_
  intro a k h
  unfold sp_q121 at h
  split at h
  · exact ⟨[], rfl, rfl, (eq_q121 _ _ _ _ _ _ _).trans h⟩
  · cases h

def an_q52 (N_ : Nat) (S_q115 : TS_q115) (S_q0 : TS_q0) (S_q89 : TS_q89) (S_q121 : TS_q121) : Nat -> Option Ann := fun b_ => none
theorem eq_q52 (N_ : Nat) (S_q115 : TS_q115) (S_q0 : TS_q0) (S_q89 : TS_q89) (S_q121 : TS_q121) (neg : Bool) (y : List Int) (b : Bool) (b_1 : Bool) (b_2 : List Int) (c_ : V -> List Blk -> Bool) : bodyZ ⟨Pg, ofList [(201, (F_q115 S_q115)), (170, (F_q0 S_q0)), (215, (F_q89 S_q89)), (216, (F_q121 S_q121))], isref, N_⟩ (an_q52 N_ S_q115 S_q0 S_q89 S_q121) 191 (shF_q52.args [.bool neg, .ints y, .bool b, .bool b_1, .ints b_2]) [⟨164, 1, .cells [.bool b, .nil]⟩, ⟨164, 1, .cells [.bool b_1, .roi .u64 b_2]⟩] c_ = G_q52 N_ S_q115 S_q0 S_q89 S_q121 neg y b b_1 b_2 (fun r0 r1 => c_ (.ptr 0 0) [⟨164, 1, .cells [.bool r0, .roi .u64 r1]⟩, ⟨164, 1, .cells [.bool b_1, .roi .u64 b_2]⟩]) := by kernel_rfl
theorem good_q52 (N_ : Nat) (S_q115 : TS_q115) (S_q0 : TS_q0) (S_q89 : TS_q89) (S_q121 : TS_q121) (h_q115 : GoodF Pg 201 (F_q115 S_q115)) (h_q0 : GoodF Pg 170 (F_q0 S_q0)) (h_q89 : GoodF Pg 215 (F_q89 S_q89)) (h_q121 : GoodF Pg 216 (F_q121 S_q121)) : GoodF Pg 191 (F_q52 (G_q52 N_ S_q115 S_q0 S_q89 S_q121)) := by
  refine good_fsZ (cx := ⟨Pg, ofList [(201, (F_q115 S_q115)), (170, (F_q0 S_q0)), (215, (F_q89 S_q89)), (216, (F_q121 S_q121))], isref, N_⟩) (ofList_cons h_q115 (ofList_cons h_q0 (ofList_cons h_q89 (ofList_cons h_q121 (ofList_nil _))))) shF_q52 (sp_q52 (G_q52 N_ S_q115 S_q0 S_q89 S_q121)) (an_q52 N_ S_q115 S_q0 S_q89 S_q121) 0 2 (by kernel_rfl) (fun i_ hi_ => by omega) ?_
  intro a k h
  unfold sp_q52 at h
  split at h
  · exact ⟨[_, _], rfl, rfl, (eq_q52 _ _ _ _ _ _ _ _ _ _ _).trans h⟩
  · cases h

def an_q19 (N_ : Nat) (S_q52 : TS_q52) : Nat -> Option Ann := fun b_ => none
theorem eq_q19 (N_ : Nat) (S_q52 : TS_q52) (b : Bool) (b_1 : Bool) (b_2 : List Int) (b_3 : Bool) (b_4 : List Int) (c_ : V -> List Blk -> Bool) : bodyZ ⟨Pg, ofList [(191, (F_q52 S_q52))], isref, N_⟩ (an_q19 N_ S_q52) 158 (shF_q19.args [.bool b, .bool b_1, .ints b_2, .bool b_3, .ints b_4]) [⟨164, 1, .cells [.bool b, .nil]⟩, ⟨164, 1, .cells [.bool b_1, .roi .u64 b_2]⟩, ⟨164, 1, .cells [.bool b_3, .roi .u64 b_4]⟩] c_ = G_q19 N_ S_q52 b b_1 b_2 b_3 b_4 (fun r0 r1 => c_ (.ptr 0 0) [⟨164, 1, .cells [.bool r0, .roi .u64 r1]⟩, ⟨164, 1, .cells [.bool b_1, .roi .u64 b_2]⟩, ⟨164, 1, .cells [.bool b_3, .roi .u64 b_4]⟩]) := by kernel_rfl
theorem good_q19 (N_ : Nat) (S_q52 : TS_q52) (h_q52 : GoodF Pg 191 (F_q52 S_q52)) : GoodF Pg 158 (F_q19 (G_q19 N_ S_q52)) := by
  refine good_fsZ (cx := ⟨Pg, ofList [(191, (F_q52 S_q52))], isref, N_⟩) (ofList_cons h_q52 (ofList_nil _)) shF_q19 (sp_q19 (G_q19 N_ S_q52)) (an_q19 N_ S_q52) 0 3 (by kernel_rfl) (fun i_ hi_ => by omega) ?_
  intro a k h
  unfold sp_q19 at h
  split at h
  · exact ⟨[_, _, _], rfl, rfl, (eq_q19 _ _ _ _ _ _ _ _).trans h⟩
  · cases h

def an_q13 (N_ : Nat) (S_q64 : TS_q64) (S_q3 : TS_q3) (S_q26 : TS_q26) (S_q19 : TS_q19) : Nat -> Option Ann := fun b_ => none
theorem eq_q13 (N_ : Nat) (S_q64 : TS_q64) (S_q3 : TS_q3) (S_q26 : TS_q26) (S_q19 : TS_q19) (x : Int) (y : Int) (b : Bool) (b_1 : Bool) (b_2 : List Int) (c_ : V -> List Blk -> Bool) : bodyV ⟨Pg, ofList [(134, (orFs (F_q64 S_q64) (F_q3 S_q3) shF_q64)), (159, (F_q26 S_q26)), (158, (F_q19 S_q19))], isref, N_⟩ (an_q13 N_ S_q64 S_q3 S_q26 S_q19) 125 (shF_q13.args [.int x, .int y, .bool b, .bool b_1, .ints b_2]) [⟨164, 1, .cells [.bool b, .nil]⟩, ⟨164, 1, .cells [.bool b_1, .roi .u64 b_2]⟩] c_ = G_q13 N_ S_q64 S_q3 S_q26 S_q19 x y b b_1 b_2 (fun r2 => c_ (.agg [.ptr 1 0, .int .i64 y]) [⟨164, 1, .cells [.bool b, .roi .u64 r2]⟩, ⟨164, 1, .cells [.bool b_1, .roi .u64 b_2]⟩]) (fun r2 => c_ (.agg [.ptr 0 0, .int .i64 x]) [⟨164, 1, .cells [.bool b, .roi .u64 r2]⟩, ⟨164, 1, .cells [.bool b_1, .roi .u64 b_2]⟩]) (fun r0 r2 r5 r6 => c_ (.agg [.ptr 2 0, .int .i64 r0]) [⟨164, 1, .cells [.bool b, .roi .u64 r2]⟩, ⟨164, 1, .cells [.bool b_1, .roi .u64 b_2]⟩, ⟨164, 1, .cells [.bool r5, .roi .u64 r6]⟩]) := by kernel_rfl
theorem good_q13 (N_ : Nat) (S_q64 : TS_q64) (S_q3 : TS_q3) (S_q26 : TS_q26) (S_q19 : TS_q19) (h_q64 : GoodF Pg 134 (F_q64 S_q64)) (h_q3 : GoodF Pg 134 (F_q3 S_q3)) (h_q26 : GoodF Pg 159 (F_q26 S_q26)) (h_q19 : GoodF Pg 158 (F_q19 S_q19)) : GoodF Pg 125 (F_q13 (G_q13 N_ S_q64 S_q3 S_q26 S_q19)) := by
  refine good_fs (cx := ⟨Pg, ofList [(134, (orFs (F_q64 S_q64) (F_q3 S_q3) shF_q64)), (159, (F_q26 S_q26)), (158, (F_q19 S_q19))], isref, N_⟩) (ofList_cons (good_or h_q64 h_q3) (ofList_cons h_q26 (ofList_cons h_q19 (ofList_nil _)))) shF_q13 (sp_q13 (G_q13 N_ S_q64 S_q3 S_q26 S_q19)) (an_q13 N_ S_q64 S_q3 S_q26 S_q19) 0 2 (by kernel_rfl) (fun i_ hi_ => by omega) ?_
  intro a k h
  unfold sp_q13 at h
  split at h
  · exact ⟨[_, _], rfl, rfl, (eq_q13 _ _ _ _ _ _ _ _ _ _ _).trans h⟩
  · cases h

def an_q2 (N_ : Nat) (S_q3 : TS_q3) (S_q26 : TS_q26) (S_q19 : TS_q19) : Nat -> Option Ann := fun b_ => none
theorem eq_q2 (N_ : Nat) (S_q3 : TS_q3) (S_q26 : TS_q26) (S_q19 : TS_q19) (x : Int) (y : Int) (b : Bool) (b_1 : List Int) (b_2 : Bool) (b_3 : List Int) (c_ : V -> List Blk -> Bool) : bodyV ⟨Pg, ofList [(134, (F_q3 S_q3)), (159, (F_q26 S_q26)), (158, (F_q19 S_q19))], isref, N_⟩ (an_q2 N_ S_q3 S_q26 S_q19) 125 (shF_q2.args [.int x, .int y, .bool b, .ints b_1, .bool b_2, .ints b_3]) [⟨164, 1, .cells [.bool b, .roi .u64 b_1]⟩, ⟨164, 1, .cells [.bool b_2, .roi .u64 b_3]⟩] c_ = G_q2 N_ S_q3 S_q26 S_q19 x y b b_1 b_2 b_3 (c_ (.agg [.ptr 1 0, .int .i64 y]) [⟨164, 1, .cells [.bool b, .roi .u64 b_1]⟩, ⟨164, 1, .cells [.bool b_2, .roi .u64 b_3]⟩]) (c_ (.agg [.ptr 0 0, .int .i64 x]) [⟨164, 1, .cells [.bool b, .roi .u64 b_1]⟩, ⟨164, 1, .cells [.bool b_2, .roi .u64 b_3]⟩]) (fun r0 r5 r6 => c_ (.agg [.ptr 2 0, .int .i64 r0]) [⟨164, 1, .cells [.bool b, .roi .u64 b_1]⟩, ⟨164, 1, .cells [.bool b_2, .roi .u64 b_3]⟩, ⟨164, 1, .cells [.bool r5, .roi .u64 r6]⟩]) := by kernel_rfl
theorem good_q2 (N_ : Nat) (S_q3 : TS_q3) (S_q26 : TS_q26) (S_q19 : TS_q19) (h_q3 : GoodF Pg 134 (F_q3 S_q3)) (h_q26 : GoodF Pg 159 (F_q26 S_q26)) (h_q19 : GoodF Pg 158 (F_q19 S_q19)) : GoodF Pg 125 (F_q2 (G_q2 N_ S_q3 S_q26 S_q19)) := by
  refine good_fs (cx := ⟨Pg, ofList [(134, (F_q3 S_q3)), (159, (F_q26 S_q26)), (158, (F_q19 S_q19))], isref, N_⟩) (ofList_cons h_q3 (ofList_cons h_q26 (ofList_cons h_q19 (ofList_nil _)))) shF_q2 (sp_q2 (G_q2 N_ S_q3 S_q26 S_q19)) (an_q2 N_ S_q3 S_q26 S_q19) 0 2 (by kernel_rfl) (fun i_ hi_ => by omega) ?_
  intro a k h
  unfold sp_q2 at h
  split at h
  · exact ⟨[_, _], rfl, rfl, (eq_q2 _ _ _ _ _ _ _ _ _ _ _).trans h⟩
  · cases h

def an_q29 (N_ : Nat) (S_q65 : TS_q65) (S_q0 : TS_q0) : Nat -> Option Ann := fun b_ => none
theorem eq_q29 (N_ : Nat) (S_q65 : TS_q65) (S_q0 : TS_q0) (b : Bool) (b_1 : Bool) (b_2 : List Int) (c_ : V -> List Blk -> Bool) : bodyZ ⟨Pg, ofList [(171, (F_q65 S_q65)), (170, (F_q0 S_q0))], isref, N_⟩ (an_q29 N_ S_q65 S_q0) 195 (shF_q29.args [.bool b, .bool b_1, .ints b_2]) [⟨164, 1, .cells [.bool b, .nil]⟩, ⟨164, 1, .cells [.bool b_1, .roi .u64 b_2]⟩] c_ = G_q29 N_ S_q65 S_q0 b b_1 b_2 (fun r0 r1 => c_ (.ptr 0 0) [⟨164, 1, .cells [.bool r0, .roi .u64 r1]⟩, ⟨164, 1, .cells [.bool b_1, .roi .u64 b_2]⟩]) := by kernel_rfl
theorem good_q29 (N_ : Nat) (S_q65 : TS_q65) (S_q0 : TS_q0) (h_q65 : GoodF Pg 171 (F_q65 S_q65)) (h_q0 : GoodF Pg 170 (F_q0 S_q0)) : GoodF Pg 195 (F_q29 (G_q29 N_ S_q65 S_q0)) := by
  refine good_fsZ (cx := ⟨Pg, ofList [(171, (F_q65 S_q65)), (170, (F_q0 S_q0))], isref, N_⟩) (ofList_cons h_q65 (ofList_cons h_q0 (ofList_nil _))) shF_q29 (sp_q29 (G_q29 N_ S_q65 S_q0)) (an_q29 N_ S_q65 S_q0) 0 2 (by kernel_rfl) (fun i_ hi_ => by omega) ?_
  intro a k h
  unfold sp_q29 at h
  split at h
  · exact ⟨[_, _], rfl, rfl, (eq_q29 _ _ _ _ _ _ _).trans h⟩
  · cases h

def an_q45 (N_ : Nat) (S_q12 : TS_q12) : Nat -> Option Ann := fun b_ => none
theorem eq_q45 (N_ : Nat) (S_q12 : TS_q12) (i : Int) (b : Bool) (b_1 : List Int) (c_ : V -> List Blk -> Bool) : bodyZ ⟨Pg, ofList [(205, (F_q12 S_q12))], isref, N_⟩ (an_q45 N_ S_q12) 196 (shF_q45.args [.int i, .bool b, .ints b_1]) [⟨164, 1, .cells [.bool b, .roi .u64 b_1]⟩] c_ = G_q45 N_ S_q12 i b b_1 (fun r0 => c_ (.int .u64 r0) [⟨164, 1, .cells [.bool b, .roi .u64 b_1]⟩]) := by kernel_rfl
theorem good_q45 (N_ : Nat) (S_q12 : TS_q12) (h_q12 : GoodF Pg 205 (F_q12 S_q12)) : GoodF Pg 196 (F_q45 (G_q45 N_ S_q12)) := by
  refine good_fsZ (cx := ⟨Pg, ofList [(205, (F_q12 S_q12))], isref, N_⟩) (ofList_cons h_q12 (ofList_nil _)) shF_q45 (sp_q45 (G_q45 N_ S_q12)) (an_q45 N_ S_q12) 0 1 (by kernel_rfl) (fun i_ hi_ => by omega) ?_
  intro a k h
  unfold sp_q45 at h
  split at h
  · exact ⟨[_], rfl, rfl, (eq_q45 _ _ _ _ _ _).trans h⟩
  · cases h

def sh_st_big_Int_TrailingZeroBits_p0r_0 : StSh := ⟨[.any, .any, .any, .any, .any, .any, .any, .any, .roi .u64, .int .i64, .int .i64, .any, .any, .any, .any, .any, .any, .any, .any, .any, .any, .any, .any, .any], [some (164, 1, .cells [.bool, .roi .u64])]⟩
def sx0_st_big_Int_TrailingZeroBits_p0r_0 : StSh := ⟨[.any, .any, .int .u64, .any, .any, .any, .any, .any, .any, .any, .any, .any, .any, .any, .any, .any, .any, .any, .any, .any, .any, .any, .any, .any], [some (164, 1, .cells [.bool, .roi .u64])]⟩
def sx1_st_big_Int_TrailingZeroBits_p0r_0 : StSh := ⟨[.any, .any, .any, .any, .any, .any, .any, .any, .any, .any, .any, .any, .any, .any, .any, .any, .any, .any, .any, .any, .any, .any, .any, .any], [some (164, 1, .cells [.bool, .roi .u64])]⟩
def hk_st_big_Int_TrailingZeroBits_p0r_0 (N_ : Nat) (S_q4 : TS_q4) : List Atom -> K -> Bool := fun a_ κ => match a_ with
  | [.ints t8, .int t9, .int t10, .bool b0, .ints b0_1] => iterG N_ (st_q145 N_ S_q4 t8 t9 b0 b0_1 (fun r0 => κ.ret (sx0_st_big_Int_TrailingZeroBits_p0r_0.build [.int r0, .bool b0, .ints b0_1])) (κ.ext 0 (sx1_st_big_Int_TrailingZeroBits_p0r_0.build [.bool b0, .ints b0_1]))) t10
  | _ => false
def an_q6 (N_ : Nat) (S_q4 : TS_q4) : Nat -> Option Ann := fun b_ => cond (b_ == 0) (some ⟨⟨[8, 9, 10], [], []⟩, [(0, ⟨[], [], []⟩)], some ⟨[2], [], []⟩, some (mkHooks [(sh_st_big_Int_TrailingZeroBits_p0r_0, hk_st_big_Int_TrailingZeroBits_p0r_0 N_ S_q4)])⟩) (none)
theorem eq_st_big_Int_TrailingZeroBits_p0r_0 (N_ : Nat) (S_q4 : TS_q4) (κ : K) (t8 : List Int) (t9 : Int) (t10 : Int) (b0 : Bool) (b0_1 : List Int) : iter N_ (fun s k => codeV ⟨Pg, ofList [(218, (F_q4 S_q4))], isref, N_⟩ 1 (an_q6 N_ S_q4) (lp Pg 197 0).2 (lp Pg 197 0).1 s (roundK Pg 1 ((an_q6 N_ S_q4) (lp Pg 197 0).1) κ k)) (sh_st_big_Int_TrailingZeroBits_p0r_0.build [.ints t8, .int t9, .int t10, .bool b0, .ints b0_1]) = iterG N_ (st_q145 N_ S_q4 t8 t9 b0 b0_1 (fun r0 => κ.ret (sx0_st_big_Int_TrailingZeroBits_p0r_0.build [.int r0, .bool b0, .ints b0_1])) (κ.ext 0 (sx1_st_big_Int_TrailingZeroBits_p0r_0.build [.bool b0, .ints b0_1]))) t10 :=
  iter_tr (fun v_ => sh_st_big_Int_TrailingZeroBits_p0r_0.build [.ints t8, .int t9, .int v_, .bool b0, .ints b0_1]) (fun v_ K_ => by kernel_rfl) N_ t10
theorem hk1_st_big_Int_TrailingZeroBits_p0r_0 (N_ : Nat) (S_q4 : TS_q4) : HookFor ⟨Pg, ofList [(218, (F_q4 S_q4))], isref, N_⟩ 1 (an_q6 N_ S_q4) (lp Pg 197 0) (sh_st_big_Int_TrailingZeroBits_p0r_0, hk_st_big_Int_TrailingZeroBits_p0r_0 N_ S_q4) := by
  intro a κ h
  simp only at h
  unfold hk_st_big_Int_TrailingZeroBits_p0r_0 at h
  split at h
  · exact (eq_st_big_Int_TrailingZeroBits_p0r_0 _ _ _ _ _ _ _ _).trans h
  · cases h
theorem ho_big_Int_TrailingZeroBits_p0r_0 (N_ : Nat) (S_q4 : TS_q4) : HookOk ⟨Pg, ofList [(218, (F_q4 S_q4))], isref, N_⟩ 1 (an_q6 N_ S_q4) (lp Pg 197 0) :=
  hooks_ok [(sh_st_big_Int_TrailingZeroBits_p0r_0, hk_st_big_Int_TrailingZeroBits_p0r_0 N_ S_q4)] (by kernel_rfl) ⟨hk1_st_big_Int_TrailingZeroBits_p0r_0 _ _, trivial⟩
theorem eq_q6 (N_ : Nat) (S_q4 : TS_q4) (b : Bool) (b_1 : List Int) (c_ : V -> List Blk -> Bool) : bodyZ ⟨Pg, ofList [(218, (F_q4 S_q4))], isref, N_⟩ (an_q6 N_ S_q4) 197 (shF_q6.args [.bool b, .ints b_1]) [⟨164, 1, .cells [.bool b, .roi .u64 b_1]⟩] c_ = G_q6 N_ S_q4 b b_1 (fun r0 => c_ (.int .u64 r0) [⟨164, 1, .cells [.bool b, .roi .u64 b_1]⟩]) := by kernel_rfl
theorem good_q6 (N_ : Nat) (S_q4 : TS_q4) (h_q4 : GoodF Pg 218 (F_q4 S_q4)) : GoodF Pg 197 (F_q6 (G_q6 N_ S_q4)) := by
  refine good_fsZ (cx := ⟨Pg, ofList [(218, (F_q4 S_q4))], isref, N_⟩) (ofList_cons h_q4 (ofList_nil _)) shF_q6 (sp_q6 (G_q6 N_ S_q4)) (an_q6 N_ S_q4) 1 1 (by kernel_rfl) (fun i_ hi_ => by
    match i_, hi_ with
    | 0, _ => exact ho_big_Int_TrailingZeroBits_p0r_0 _ _
    | (q + 1), h => omega) ?_
  intro a k h
  unfold sp_q6 at h
  split at h
  · exact ⟨[_], rfl, rfl, (eq_q6 _ _ _ _ _).trans h⟩
  · cases h

def sh_st_big_right_0 : StSh := ⟨[.roi .u64, .any, .any, .any, .any, .any, .int .i64, .int .u64, .int .u64, .any, .any, .any, .any, .any, .any, .any, .any, .any, .any, .any, .any, .any, .any, .any, .any, .any, .any, .any, .any, .any, .any, .any, .any, .any, .any, .any, .any, .roi .u64, .int .i64, .int .i64, .any, .any, .any, .any, .any, .any, .any, .any, .any, .any, .any, .any, .any, .any, .any, .any, .any, .any, .any, .any, .any, .any, .any, .any, .any, .any, .any, .any, .any, .any, .any, .any, .any, .any, .any, .any, .any, .any, .any, .any, .any, .any], []⟩
def sx0_st_big_right_0 : StSh := ⟨[.roi .u64, .any, .any, .any, .any, .any, .int .i64, .int .u64, .int .u64, .any, .any, .any, .any, .any, .any, .any, .any, .any, .any, .any, .any, .any, .any, .any, .any, .any, .any, .any, .any, .any, .any, .any, .any, .any, .any, .any, .any, .any, .any, .any, .any, .any, .any, .any, .any, .any, .any, .any, .any, .any, .any, .any, .any, .any, .any, .any, .any, .any, .any, .any, .any, .any, .any, .any, .any, .any, .any, .any, .any, .any, .any, .any, .any, .any, .any, .any, .any, .any, .any, .any, .any, .any], []⟩
def hk_st_big_right_0 (N_ : Nat) (S_q12 : TS_q12) (S_q1 : TS_q1) : List Atom -> K -> Bool := fun a_ κ => match a_ with
  | [.ints x_1, .int words, .int rest, .int lost, .ints t37, .int t38, .int t39] => iterG N_ (st_big_right_0 N_ S_q12 S_q1 x_1 words rest t37 t38 (fun r3 => κ.ext 0 (sx0_st_big_right_0.build [.ints x_1, .int words, .int rest, .int r3]))) (lost, t39)
  | _ => false
def sh_st_big_right_2 : StSh := ⟨[.roi .u64, .any, .any, .any, .any, .any, .int .i64, .int .u64, .int .u64, .any, .any, .slw 0, .any, .any, .any, .any, .any, .any, .any, .any, .any, .any, .any, .any, .any, .any, .any, .any, .any, .any, .any, .any, .any, .any, .any, .any, .any, .any, .any, .any, .any, .any, .any, .any, .any, .any, .any, .any, .any, .any, .any, .any, .any, .int .i64, .int .i64, .any, .any, .any, .any, .any, .any, .any, .any, .any, .any, .any, .any, .any, .any, .any, .any, .any, .any, .any, .any, .any, .any, .any, .any, .any, .any, .any], [some (41, 1, .ints .u64)]⟩
def sx0_st_big_right_2 : StSh := ⟨[.any, .any, .any, .any, .any, .any, .any, .any, .int .u64, .any, .any, .slw 0, .any, .any, .any, .any, .any, .any, .any, .any, .any, .any, .any, .any, .any, .any, .any, .any, .any, .any, .any, .any, .any, .any, .any, .any, .any, .any, .any, .any, .any, .any, .any, .any, .any, .any, .any, .any, .any, .any, .any, .any, .any, .any, .any, .any, .any, .any, .any, .any, .any, .any, .any, .any, .any, .any, .any, .any, .any, .any, .any, .any, .any, .any, .any, .any, .any, .any, .any, .any, .any, .any], [some (41, 1, .ints .u64)]⟩
def hk_st_big_right_2 (N_ : Nat) (S_q12 : TS_q12) (S_q1 : TS_q1) : List Atom -> K -> Bool := fun a_ κ => match a_ with
  | [.ints x_2, .int words_1, .int rest_1, .int lost_2, .int t53, .int t54, .ints z] => iterG N_ (st_big_right_2 N_ S_q12 S_q1 x_2 words_1 rest_1 lost_2 t53 (fun r1 => κ.ext 2 (sx0_st_big_right_2.build [.int lost_2, .ints r1]))) (t54, z)
  | _ => false
def an_q104 (N_ : Nat) (S_q12 : TS_q12) (S_q1 : TS_q1) : Nat -> Option Ann := fun b_ => cond (b_ == 0) (some ⟨⟨[0, 6, 7, 8, 37, 38, 39], [], []⟩, [(0, ⟨[0, 6, 7, 8], [], []⟩)], some ⟨[4, 5], [], []⟩, some (mkHooks [(sh_st_big_right_0, hk_st_big_right_0 N_ S_q12 S_q1)])⟩) (cond (b_ == 2) (some ⟨⟨[0, 6, 7, 8, 11, 53, 54], [], []⟩, [(2, ⟨[8, 11], [], []⟩)], some ⟨[4, 5], [], []⟩, some (mkHooks [(sh_st_big_right_2, hk_st_big_right_2 N_ S_q12 S_q1)])⟩) (none))
theorem eq_st_big_right_0 (N_ : Nat) (S_q12 : TS_q12) (S_q1 : TS_q1) (κ : K) (x_1 : List Int) (words : Int) (rest : Int) (lost : Int) (t37 : List Int) (t38 : Int) (t39 : Int) : iter N_ (fun s k => codeV ⟨Pg, ofList [(205, (F_q12 S_q12)), (202, (F_q1 S_q1))], isref, N_⟩ 0 (an_q104 N_ S_q12 S_q1) (lp Pg 200 0).2 (lp Pg 200 0).1 s (roundK Pg 0 ((an_q104 N_ S_q12 S_q1) (lp Pg 200 0).1) κ k)) (sh_st_big_right_0.build [.ints x_1, .int words, .int rest, .int lost, .ints t37, .int t38, .int t39]) = iterG N_ (st_big_right_0 N_ S_q12 S_q1 x_1 words rest t37 t38 (fun r3 => κ.ext 0 (sx0_st_big_right_0.build [.ints x_1, .int words, .int rest, .int r3]))) (lost, t39) :=
  iter_tr (fun (v_ : Int × Int) => sh_st_big_right_0.build [.ints x_1, .int words, .int rest, .int v_.1, .ints t37, .int t38, .int v_.2]) (fun v_ K_ => by obtain ⟨lost, t39⟩ := v_; kernel_rfl) N_ (lost, t39)
theorem hk1_st_big_right_0 (N_ : Nat) (S_q12 : TS_q12) (S_q1 : TS_q1) : HookFor ⟨Pg, ofList [(205, (F_q12 S_q12)), (202, (F_q1 S_q1))], isref, N_⟩ 0 (an_q104 N_ S_q12 S_q1) (lp Pg 200 0) (sh_st_big_right_0, hk_st_big_right_0 N_ S_q12 S_q1) := by
  intro a κ h
  simp only at h
  unfold hk_st_big_right_0 at h
  split at h
  · exact (eq_st_big_right_0 _ _ _ _ _ _ _ _ _ _ _).trans h
  · cases h
theorem eq_st_big_right_2 (N_ : Nat) (S_q12 : TS_q12) (S_q1 : TS_q1) (κ : K) (x_2 : List Int) (words_1 : Int) (rest_1 : Int) (lost_2 : Int) (t53 : Int) (t54 : Int) (z : List Int) : iter N_ (fun s k => codeV ⟨Pg, ofList [(205, (F_q12 S_q12)), (202, (F_q1 S_q1))], isref, N_⟩ 0 (an_q104 N_ S_q12 S_q1) (lp Pg 200 1).2 (lp Pg 200 1).1 s (roundK Pg 0 ((an_q104 N_ S_q12 S_q1) (lp Pg 200 1).1) κ k)) (sh_st_big_right_2.build [.ints x_2, .int words_1, .int rest_1, .int lost_2, .int t53, .int t54, .ints z]) = iterG N_ (st_big_right_2 N_ S_q12 S_q1 x_2 words_1 rest_1 lost_2 t53 (fun r1 => κ.ext 2 (sx0_st_big_right_2.build [.int lost_2, .ints r1]))) (t54, z) :=
  iter_tr (fun (v_ : Int × List Int) => sh_st_big_right_2.build [.ints x_2, .int words_1, .int rest_1, .int lost_2, .int t53, .int v_.1, .ints v_.2]) (fun v_ K_ => by obtain ⟨t54, z⟩ := v_; kernel_rfl) N_ (t54, z)
theorem hk1_st_big_right_2 (N_ : Nat) (S_q12 : TS_q12) (S_q1 : TS_q1) : HookFor ⟨Pg, ofList [(205, (F_q12 S_q12)), (202, (F_q1 S_q1))], isref, N_⟩ 0 (an_q104 N_ S_q12 S_q1) (lp Pg 200 1) (sh_st_big_right_2, hk_st_big_right_2 N_ S_q12 S_q1) := by
  intro a κ h
  simp only at h
  unfold hk_st_big_right_2 at h
  split at h
  · exact (eq_st_big_right_2 _ _ _ _ _ _ _ _ _ _ _).trans h
  · cases h
theorem ho_big_right_0 (N_ : Nat) (S_q12 : TS_q12) (S_q1 : TS_q1) : HookOk ⟨Pg, ofList [(205, (F_q12 S_q12)), (202, (F_q1 S_q1))], isref, N_⟩ 0 (an_q104 N_ S_q12 S_q1) (lp Pg 200 0) :=
  hooks_ok [(sh_st_big_right_0, hk_st_big_right_0 N_ S_q12 S_q1)] (by kernel_rfl) ⟨hk1_st_big_right_0 _ _ _, trivial⟩
theorem ho_big_right_2 (N_ : Nat) (S_q12 : TS_q12) (S_q1 : TS_q1) : HookOk ⟨Pg, ofList [(205, (F_q12 S_q12)), (202, (F_q1 S_q1))], isref, N_⟩ 0 (an_q104 N_ S_q12 S_q1) (lp Pg 200 1) :=
  hooks_ok [(sh_st_big_right_2, hk_st_big_right_2 N_ S_q12 S_q1)] (by kernel_rfl) ⟨hk1_st_big_right_2 _ _ _, trivial⟩
theorem eq_q104 (N_ : Nat) (S_q12 : TS_q12) (S_q1 : TS_q1) (x : List Int) (n : Int) (c_ : V -> List Blk -> Bool) : bodyZ ⟨Pg, ofList [(205, (F_q12 S_q12)), (202, (F_q1 S_q1))], isref, N_⟩ (an_q104 N_ S_q12 S_q1) 200 (shF_q104.args [.ints x, .int n]) [] c_ = G_q104 N_ S_q12 S_q1 x n (fun r0 r1 => c_ (.tup [.roi .u64 r0, .bool r1]) []) := by kernel_rfl
theorem good_q104 (N_ : Nat) (S_q12 : TS_q12) (S_q1 : TS_q1) (h_q12 : GoodF Pg 205 (F_q12 S_q12)) (h_q1 : GoodF Pg 202 (F_q1 S_q1)) : GoodF Pg 200 (F_q104 (G_q104 N_ S_q12 S_q1)) := by
  refine good_fsZ (cx := ⟨Pg, ofList [(205, (F_q12 S_q12)), (202, (F_q1 S_q1))], isref, N_⟩) (ofList_cons h_q12 (ofList_cons h_q1 (ofList_nil _))) shF_q104 (sp_q104 (G_q104 N_ S_q12 S_q1)) (an_q104 N_ S_q12 S_q1) 2 0 (by kernel_rfl) (fun i_ hi_ => by
    match i_, hi_ with
    | 0, _ => exact ho_big_right_0 _ _ _
    | 1, _ => exact ho_big_right_2 _ _ _
    | (q + 2), h => omega) ?_
  intro a k h
  unfold sp_q104 at h
  split at h
  · exact ⟨[], rfl, rfl, (eq_q104 _ _ _ _ _ _).trans h⟩
  · cases h

def an_q11 (N_ : Nat) (S_q104 : TS_q104) (S_q115 : TS_q115) (S_q25 : TS_q25) : Nat -> Option Ann := fun b_ => none
theorem eq_q11 (N_ : Nat) (S_q104 : TS_q104) (S_q115 : TS_q115) (S_q25 : TS_q25) (n : Int) (b : Bool) (b_1 : List Int) (c_ : V -> List Blk -> Bool) : bodyZ ⟨Pg, ofList [(200, (F_q104 S_q104)), (201, (F_q115 S_q115)), (170, (F_q25 S_q25))], isref, N_⟩ (an_q11 N_ S_q104 S_q115 S_q25) 167 (shF_q11.args [.int n, .bool b, .ints b_1]) [⟨164, 1, .cells [.bool b, .roi .u64 b_1]⟩] c_ = G_q11 N_ S_q104 S_q115 S_q25 n b b_1 (fun r0 r1 => c_ (.ptr 0 0) [⟨164, 1, .cells [.bool r0, .roi .u64 r1]⟩]) := by kernel_rfl
theorem good_q11 (N_ : Nat) (S_q104 : TS_q104) (S_q115 : TS_q115) (S_q25 : TS_q25) (h_q104 : GoodF Pg 200 (F_q104 S_q104)) (h_q115 : GoodF Pg 201 (F_q115 S_q115)) (h_q25 : GoodF Pg 170 (F_q25 S_q25)) : GoodF Pg 167 (F_q11 (G_q11 N_ S_q104 S_q115 S_q25)) := by
  refine good_fsZ (cx := ⟨Pg, ofList [(200, (F_q104 S_q104)), (201, (F_q115 S_q115)), (170, (F_q25 S_q25))], isref, N_⟩) (ofList_cons h_q104 (ofList_cons h_q115 (ofList_cons h_q25 (ofList_nil _)))) shF_q11 (sp_q11 (G_q11 N_ S_q104 S_q115 S_q25)) (an_q11 N_ S_q104 S_q115 S_q25) 0 1 (by kernel_rfl) (fun i_ hi_ => by omega) ?_
  intro a k h
  unfold sp_q11 at h
  split at h
  · exact ⟨[_], rfl, rfl, (eq_q11 _ _ _ _ _ _ _ _).trans h⟩
  · cases h

def sh_st_v_dyad_exact_halve_p0r_0 : StSh := ⟨[.any, .any, .ptr 1 0, .ptr 2 0, .int .i64, .any, .any, .any, .any, .any, .any, .any, .any, .any, .any, .any, .any, .any, .any, .any, .any, .any, .any, .any, .any, .any, .any, .any, .any, .any, .any, .any, .any], [some (164, 1, .cells [.bool, .roi .u64]), some (166, 1, .cells [.val, .int .i64]), some (164, 1, .cells [.bool, .roi .u64])]⟩
def sx0_st_v_dyad_exact_halve_p0r_0 : StSh := ⟨[.any, .any, .ptr 1 0, .ptr 2 0, .int .i64, .any, .any, .any, .any, .any, .any, .any, .any, .any, .any, .any, .any, .any, .any, .any, .any, .any, .any, .any, .any, .any, .any, .any, .any, .any, .any, .any, .any], [some (164, 1, .cells [.bool, .roi .u64]), some (166, 1, .cells [.val, .int .i64]), some (164, 1, .cells [.bool, .roi .u64])]⟩
def hk_st_v_dyad_exact_halve_p0r_0 (N_ : Nat) (S_q29 : TS_q29) (S_q3 : TS_q3) (S_q45 : TS_q45) (S_q6 : TS_q6) (S_q11 : TS_q11) : List Atom -> K -> Bool := fun a_ κ => match a_ with
  | [.int e, .bool b0, .ints b0_1, .val t2, .int t2_1, .bool n, .ints n_1] => iterG N_ (st_q150 N_ S_q29 S_q3 S_q45 S_q6 S_q11 b0 b0_1 t2 t2_1 (fun r0 r5 r6 => κ.ext 0 (sx0_st_v_dyad_exact_halve_p0r_0.build [.int r0, .bool b0, .ints b0_1, .val t2, .int t2_1, .bool r5, .ints r6]))) (e, n, n_1)
  | _ => false
def an_q15 (N_ : Nat) (S_q29 : TS_q29) (S_q3 : TS_q3) (S_q45 : TS_q45) (S_q6 : TS_q6) (S_q11 : TS_q11) : Nat -> Option Ann := fun b_ => cond (b_ == 0) (some ⟨⟨[2, 3, 4], [], []⟩, [(0, ⟨[2, 3, 4], [], []⟩)], some ⟨[2], [], []⟩, some (mkHooks [(sh_st_v_dyad_exact_halve_p0r_0, hk_st_v_dyad_exact_halve_p0r_0 N_ S_q29 S_q3 S_q45 S_q6 S_q11)])⟩) (none)
theorem eq_st_v_dyad_exact_halve_p0r_0 (N_ : Nat) (S_q29 : TS_q29) (S_q3 : TS_q3) (S_q45 : TS_q45) (S_q6 : TS_q6) (S_q11 : TS_q11) (κ : K) (e : Int) (b0 : Bool) (b0_1 : List Int) (t2 : Value) (t2_1 : Int) (n : Bool) (n_1 : List Int) : iter N_ (fun s k => codeV ⟨Pg, ofList [(195, (F_q29 S_q29)), (134, (F_q3 S_q3)), (196, (F_q45 S_q45)), (197, (F_q6 S_q6)), (167, (F_q11 S_q11))], isref, N_⟩ 1 (an_q15 N_ S_q29 S_q3 S_q45 S_q6 S_q11) (lp Pg 163 0).2 (lp Pg 163 0).1 s (roundK Pg 1 ((an_q15 N_ S_q29 S_q3 S_q45 S_q6 S_q11) (lp Pg 163 0).1) κ k)) (sh_st_v_dyad_exact_halve_p0r_0.build [.int e, .bool b0, .ints b0_1, .val t2, .int t2_1, .bool n, .ints n_1]) = iterG N_ (st_q150 N_ S_q29 S_q3 S_q45 S_q6 S_q11 b0 b0_1 t2 t2_1 (fun r0 r5 r6 => κ.ext 0 (sx0_st_v_dyad_exact_halve_p0r_0.build [.int r0, .bool b0, .ints b0_1, .val t2, .int t2_1, .bool r5, .ints r6]))) (e, n, n_1) :=
  iter_tr (fun (v_ : Int × Bool × List Int) => sh_st_v_dyad_exact_halve_p0r_0.build [.int v_.1, .bool b0, .ints b0_1, .val t2, .int t2_1, .bool v_.2.1, .ints v_.2.2]) (fun v_ K_ => by obtain ⟨e, n, n_1⟩ := v_; kernel_rfl) N_ (e, n, n_1)
theorem hk1_st_v_dyad_exact_halve_p0r_0 (N_ : Nat) (S_q29 : TS_q29) (S_q3 : TS_q3) (S_q45 : TS_q45) (S_q6 : TS_q6) (S_q11 : TS_q11) : HookFor ⟨Pg, ofList [(195, (F_q29 S_q29)), (134, (F_q3 S_q3)), (196, (F_q45 S_q45)), (197, (F_q6 S_q6)), (167, (F_q11 S_q11))], isref, N_⟩ 1 (an_q15 N_ S_q29 S_q3 S_q45 S_q6 S_q11) (lp Pg 163 0) (sh_st_v_dyad_exact_halve_p0r_0, hk_st_v_dyad_exact_halve_p0r_0 N_ S_q29 S_q3 S_q45 S_q6 S_q11) := by
  intro a κ h
  simp only at h
  unfold hk_st_v_dyad_exact_halve_p0r_0 at h
  split at h
  · exact (eq_st_v_dyad_exact_halve_p0r_0 _ _ _ _ _ _ _ _ _ _ _ _ _ _).trans h
  · cases h
theorem ho_v_dyad_exact_halve_p0r_0 (N_ : Nat) (S_q29 : TS_q29) (S_q3 : TS_q3) (S_q45 : TS_q45) (S_q6 : TS_q6) (S_q11 : TS_q11) : HookOk ⟨Pg, ofList [(195, (F_q29 S_q29)), (134, (F_q3 S_q3)), (196, (F_q45 S_q45)), (197, (F_q6 S_q6)), (167, (F_q11 S_q11))], isref, N_⟩ 1 (an_q15 N_ S_q29 S_q3 S_q45 S_q6 S_q11) (lp Pg 163 0) :=
  hooks_ok [(sh_st_v_dyad_exact_halve_p0r_0, hk_st_v_dyad_exact_halve_p0r_0 N_ S_q29 S_q3 S_q45 S_q6 S_q11)] (by kernel_rfl) ⟨hk1_st_v_dyad_exact_halve_p0r_0 _ _ _ _ _ _, trivial⟩
theorem eq_q15 (N_ : Nat) (S_q29 : TS_q29) (S_q3 : TS_q3) (S_q45 : TS_q45) (S_q6 : TS_q6) (S_q11 : TS_q11) (x : Int) (b : Bool) (b_1 : List Int) (c_ : V -> List Blk -> Bool) : bodyV ⟨Pg, ofList [(195, (F_q29 S_q29)), (134, (F_q3 S_q3)), (196, (F_q45 S_q45)), (197, (F_q6 S_q6)), (167, (F_q11 S_q11))], isref, N_⟩ (an_q15 N_ S_q29 S_q3 S_q45 S_q6 S_q11) 163 (shF_q15.args [.int x, .bool b, .ints b_1]) [⟨164, 1, .cells [.bool b, .roi .u64 b_1]⟩] c_ = G_q15 N_ S_q29 S_q3 S_q45 S_q6 S_q11 x b b_1 (fun r0 r3 r4 => c_ (.agg [.ptr 1 0, .int .i64 r0]) [⟨164, 1, .cells [.bool b, .roi .u64 b_1]⟩, ⟨164, 1, .cells [.bool r3, .roi .u64 r4]⟩]) := by kernel_rfl
theorem good_q15 (N_ : Nat) (S_q29 : TS_q29) (S_q3 : TS_q3) (S_q45 : TS_q45) (S_q6 : TS_q6) (S_q11 : TS_q11) (h_q29 : GoodF Pg 195 (F_q29 S_q29)) (h_q3 : GoodF Pg 134 (F_q3 S_q3)) (h_q45 : GoodF Pg 196 (F_q45 S_q45)) (h_q6 : GoodF Pg 197 (F_q6 S_q6)) (h_q11 : GoodF Pg 167 (F_q11 S_q11)) : GoodF Pg 163 (F_q15 (G_q15 N_ S_q29 S_q3 S_q45 S_q6 S_q11)) := by
  refine good_fs (cx := ⟨Pg, ofList [(195, (F_q29 S_q29)), (134, (F_q3 S_q3)), (196, (F_q45 S_q45)), (197, (F_q6 S_q6)), (167, (F_q11 S_q11))], isref, N_⟩) (ofList_cons h_q29 (ofList_cons h_q3 (ofList_cons h_q45 (ofList_cons h_q6 (ofList_cons h_q11 (ofList_nil _)))))) shF_q15 (sp_q15 (G_q15 N_ S_q29 S_q3 S_q45 S_q6 S_q11)) (an_q15 N_ S_q29 S_q3 S_q45 S_q6 S_q11) 1 1 (by kernel_rfl) (fun i_ hi_ => by
    match i_, hi_ with
    | 0, _ => exact ho_v_dyad_exact_halve_p0r_0 _ _ _ _ _ _
    | (q + 1), h => omega) ?_
  intro a k h
  unfold sp_q15 at h
  split at h
  · exact ⟨[_], rfl, rfl, (eq_q15 _ _ _ _ _ _ _ _ _ _).trans h⟩
  · cases h

def an_q74 (N_ : Nat) : Nat -> Option Ann := fun b_ => none
def ls_q144 (d_ : List V) (u_ : List (Option Blk)) (x : Int) (x_2 : Int) (n_1 : Int) : St := ⟨[.int .u64 x_2, (dq d_ 0), .int .i64 n_1, (dq d_ 1), (dq d_ 2), (dq d_ 3), (dq d_ 4), (dq d_ 5), (dq d_ 6), (dq d_ 7), (dq d_ 8), (dq d_ 9), (dq d_ 10), (dq d_ 11), (dq d_ 12), (dq d_ 13), (dq d_ 14), (dq d_ 15), (dq d_ 16), (dq d_ 17), (dq d_ 18), (dq d_ 19), (dq d_ 20), (dq d_ 21), (dq d_ 22)], []⟩
def ls_q142 (d_ : List V) (u_ : List (Option Blk)) (x : Int) (x_1 : Int) (n : Int) : St := ⟨[.int .u64 x_1, (dq d_ 0), .int .i64 n, (dq d_ 1), (dq d_ 2), (dq d_ 3), (dq d_ 4), (dq d_ 5), (dq d_ 6), (dq d_ 7), (dq d_ 8), (dq d_ 9), (dq d_ 10), (dq d_ 11), (dq d_ 12), (dq d_ 13), (dq d_ 14), (dq d_ 15), (dq d_ 16), (dq d_ 17), (dq d_ 18), (dq d_ 19), (dq d_ 20), (dq d_ 21), (dq d_ 22)], []⟩
theorem jn_q144 (N_ : Nat) (d_ : List V) (u_ : List (Option Blk)) (x : Int) (x_2 : Int) (n_1 : Int) (c_ : V -> List Blk -> Bool) : codesV ⟨Pg, ofList [], isref, N_⟩ 0 (an_q74 N_) ((cds Pg 220).drop 5) 0 (ls_q144 d_ u_ x x_2 n_1) (finV Pg 220 0 c_) = J_q144 N_ x x_2 n_1 (fun r0 => c_ (.int .i64 r0) []) := by kernel_rfl
theorem hd_q142 (N_ : Nat) (d_ : List V) (u_ : List (Option Blk)) (x : Int) (x_1 : Int) (n : Int) (c_ : V -> List Blk -> Bool) (κn_ : St -> Bool) : codesV ⟨Pg, ofList [], isref, N_⟩ 0 (an_q74 N_) (sg Pg 220 3 2) 0 (ls_q142 d_ u_ x x_1 n) { (finV Pg 220 0 c_) with nrm := κn_ } = (cond (decide (x_1 >= 65536)) ((fits .i64 (n + 16)) && (κn_ (ls_q144 (dqs d_ 0 5 [.int .u64 x_1, .bool true, .int .u64 x_1, .int .u64 (Int.fdiv x_1 (2 ^ 16)), .int .i64 n, .int .i64 (n + 16), (dq d_ 11), (dq d_ 12), (dq d_ 13), (dq d_ 14), (dq d_ 15), (dq d_ 16), (dq d_ 17), (dq d_ 18), (dq d_ 19), (dq d_ 20), (dq d_ 21), (dq d_ 22)]) [] x (Int.fdiv x_1 (2 ^ 16)) (n + 16)))) (κn_ (ls_q144 (dqs d_ 0 5 [.int .u64 x_1, .bool false, (dq d_ 7), (dq d_ 8), (dq d_ 9), (dq d_ 10), (dq d_ 11), (dq d_ 12), (dq d_ 13), (dq d_ 14), (dq d_ 15), (dq d_ 16), (dq d_ 17), (dq d_ 18), (dq d_ 19), (dq d_ 20), (dq d_ 21), (dq d_ 22)]) [] x x_1 n))) := by kernel_rfl
theorem jn_q142 (N_ : Nat) (d_ : List V) (u_ : List (Option Blk)) (x : Int) (x_1 : Int) (n : Int) (c_ : V -> List Blk -> Bool) : codesV ⟨Pg, ofList [], isref, N_⟩ 0 (an_q74 N_) ((cds Pg 220).drop 3) 0 (ls_q142 d_ u_ x x_1 n) (finV Pg 220 0 c_) = J_q142 N_ x x_1 n (fun r0 => c_ (.int .i64 r0) []) := by
  rw [codesV_cut 3 2 5 rfl]
  refine (hd_q142 N_ d_ u_ x x_1 n c_ _).trans ?_
  simp only [jn_q144]
  kernel_rfl
theorem hd_m_bits_Len64_w (N_ : Nat) (x : Int) (c_ : V -> List Blk -> Bool) (κn_ : St -> Bool) : codesV ⟨Pg, ofList [], isref, N_⟩ 0 (an_q74 N_) (sg Pg 220 0 3) 0 (st0 Pg 220 (shF_q74.args [.int x]) []) { (finV Pg 220 0 c_) with nrm := κn_ } = (cond (decide (x >= 4294967296)) (κn_ (ls_q142 [.any, .int .u64 x, .bool true, .int .u64 x, .int .u64 (Int.fdiv x (2 ^ 32)), .any, .any, .any, .any, .any, .any, .any, .any, .any, .any, .any, .any, .any, .any, .any, .any, .any, .any] [] x (Int.fdiv x (2 ^ 32)) 32)) (κn_ (ls_q142 [.any, .int .u64 x, .bool false, .any, .any, .any, .any, .any, .any, .any, .any, .any, .any, .any, .any, .any, .any, .any, .any, .any, .any, .any, .any] [] x x 0))) := by kernel_rfl
theorem jn_m_bits_Len64_w (N_ : Nat) (x : Int) (c_ : V -> List Blk -> Bool) : codesV ⟨Pg, ofList [], isref, N_⟩ 0 (an_q74 N_) ((cds Pg 220).drop 0) 0 (st0 Pg 220 (shF_q74.args [.int x]) []) (finV Pg 220 0 c_) = G_q74 N_ x (fun r0 => c_ (.int .i64 r0) []) := by
  rw [codesV_cut 0 3 3 rfl]
  refine (hd_m_bits_Len64_w N_ x c_ _).trans ?_
  simp only [jn_q142]
  kernel_rfl
theorem eq_q74 (N_ : Nat) (x : Int) (c_ : V -> List Blk -> Bool) : bodyV ⟨Pg, ofList [], isref, N_⟩ (an_q74 N_) 220 (shF_q74.args [.int x]) [] c_ = G_q74 N_ x (fun r0 => c_ (.int .i64 r0) []) :=
  (bodyV_codes (by kernel_rfl)).trans (jn_m_bits_Len64_w N_ x c_)
theorem good_q74 (N_ : Nat) : GoodF Pg 220 (F_q74 (G_q74 N_)) := by
  refine good_fs (cx := ⟨Pg, ofList [], isref, N_⟩) (ofList_nil _) shF_q74 (sp_q74 (G_q74 N_)) (an_q74 N_) 0 0 (by kernel_rfl) (fun i_ hi_ => by omega) ?_
  intro a k h
  unfold sp_q74 at h
  split at h
  · exact ⟨[], rfl, rfl, (eq_q74 _ _ _).trans h⟩
  · cases h

def an_q102 (N_ : Nat) (S_q74 : TS_q74) : Nat -> Option Ann := fun b_ => none
theorem eq_q102 (N_ : Nat) (S_q74 : TS_q74) (x : List Int) (c_ : V -> List Blk -> Bool) : bodyZ ⟨Pg, ofList [(220, (F_q74 S_q74))], isref, N_⟩ (an_q102 N_ S_q74) 198 (shF_q102.args [.ints x]) [] c_ = G_q102 N_ S_q74 x (fun r0 => c_ (.int .i64 r0) []) := by kernel_rfl
theorem good_q102 (N_ : Nat) (S_q74 : TS_q74) (h_q74 : GoodF Pg 220 (F_q74 S_q74)) : GoodF Pg 198 (F_q102 (G_q102 N_ S_q74)) := by
  refine good_fsZ (cx := ⟨Pg, ofList [(220, (F_q74 S_q74))], isref, N_⟩) (ofList_cons h_q74 (ofList_nil _)) shF_q102 (sp_q102 (G_q102 N_ S_q74)) (an_q102 N_ S_q74) 0 0 (by kernel_rfl) (fun i_ hi_ => by omega) ?_
  intro a k h
  unfold sp_q102 at h
  split at h
  · exact ⟨[], rfl, rfl, (eq_q102 _ _ _ _).trans h⟩
  · cases h

def an_q28 (N_ : Nat) (S_q102 : TS_q102) : Nat -> Option Ann := fun b_ => none
theorem eq_q28 (N_ : Nat) (S_q102 : TS_q102) (b : Bool) (b_1 : List Int) (c_ : V -> List Blk -> Bool) : bodyZ ⟨Pg, ofList [(198, (F_q102 S_q102))], isref, N_⟩ (an_q28 N_ S_q102) 164 (shF_q28.args [.bool b, .ints b_1]) [⟨164, 1, .cells [.bool b, .roi .u64 b_1]⟩] c_ = G_q28 N_ S_q102 b b_1 (fun r0 => c_ (.int .i64 r0) [⟨164, 1, .cells [.bool b, .roi .u64 b_1]⟩]) := by kernel_rfl
theorem good_q28 (N_ : Nat) (S_q102 : TS_q102) (h_q102 : GoodF Pg 198 (F_q102 S_q102)) : GoodF Pg 164 (F_q28 (G_q28 N_ S_q102)) := by
  refine good_fsZ (cx := ⟨Pg, ofList [(198, (F_q102 S_q102))], isref, N_⟩) (ofList_cons h_q102 (ofList_nil _)) shF_q28 (sp_q28 (G_q28 N_ S_q102)) (an_q28 N_ S_q102) 0 1 (by kernel_rfl) (fun i_ hi_ => by omega) ?_
  intro a k h
  unfold sp_q28 at h
  split at h
  · exact ⟨[_], rfl, rfl, (eq_q28 _ _ _ _ _).trans h⟩
  · cases h

def an_q47 (N_ : Nat) (S_q100 : TS_q100) (S_q0 : TS_q0) : Nat -> Option Ann := fun b_ => none
theorem eq_q47 (N_ : Nat) (S_q100 : TS_q100) (S_q0 : TS_q0) (n : Int) (b : Bool) (c_ : V -> List Blk -> Bool) : bodyZ ⟨Pg, ofList [(193, (F_q100 S_q100)), (170, (F_q0 S_q0))], isref, N_⟩ (an_q47 N_ S_q100 S_q0) 199 (shF_q47.args [.int n, .bool b]) [⟨164, 1, .cells [.bool b, .nil]⟩] c_ = G_q47 N_ S_q100 S_q0 n b (fun r0 r1 => c_ (.ptr 0 0) [⟨164, 1, .cells [.bool r0, .roi .u64 r1]⟩]) := by kernel_rfl
theorem good_q47 (N_ : Nat) (S_q100 : TS_q100) (S_q0 : TS_q0) (h_q100 : GoodF Pg 193 (F_q100 S_q100)) (h_q0 : GoodF Pg 170 (F_q0 S_q0)) : GoodF Pg 199 (F_q47 (G_q47 N_ S_q100 S_q0)) := by
  refine good_fsZ (cx := ⟨Pg, ofList [(193, (F_q100 S_q100)), (170, (F_q0 S_q0))], isref, N_⟩) (ofList_cons h_q100 (ofList_cons h_q0 (ofList_nil _))) shF_q47 (sp_q47 (G_q47 N_ S_q100 S_q0)) (an_q47 N_ S_q100 S_q0) 0 1 (by kernel_rfl) (fun i_ hi_ => by omega) ?_
  intro a k h
  unfold sp_q47 at h
  split at h
  · exact ⟨[_], rfl, rfl, (eq_q47 _ _ _ _ _ _).trans h⟩
  · cases h

def an_q51 (N_ : Nat) (S_q47 : TS_q47) : Nat -> Option Ann := fun b_ => none
theorem eq_q51 (N_ : Nat) (S_q47 : TS_q47) (n : Int) (c_ : V -> List Blk -> Bool) : bodyZ ⟨Pg, ofList [(199, (F_q47 S_q47))], isref, N_⟩ (an_q51 N_ S_q47) 165 (shF_q51.args [.int n]) [] c_ = G_q51 N_ S_q47 n (fun r0 r1 => c_ (.ptr 0 0) [⟨164, 1, .cells [.bool r0, .roi .u64 r1]⟩]) := by kernel_rfl
theorem good_q51 (N_ : Nat) (S_q47 : TS_q47) (h_q47 : GoodF Pg 199 (F_q47 S_q47)) : GoodF Pg 165 (F_q51 (G_q51 N_ S_q47)) := by
  refine good_fsZ (cx := ⟨Pg, ofList [(199, (F_q47 S_q47))], isref, N_⟩) (ofList_cons h_q47 (ofList_nil _)) shF_q51 (sp_q51 (G_q51 N_ S_q47)) (an_q51 N_ S_q47) 0 0 (by kernel_rfl) (fun i_ hi_ => by omega) ?_
  intro a k h
  unfold sp_q51 at h
  split at h
  · exact ⟨[], rfl, rfl, (eq_q51 _ _ _ _).trans h⟩
  · cases h

def an_q27 (N_ : Nat) (S_q65 : TS_q65) (S_q0 : TS_q0) : Nat -> Option Ann := fun b_ => none
theorem eq_q27 (N_ : Nat) (S_q65 : TS_q65) (S_q0 : TS_q0) (b : Bool) (b_1 : Bool) (b_2 : List Int) (c_ : V -> List Blk -> Bool) : bodyZ ⟨Pg, ofList [(171, (F_q65 S_q65)), (170, (F_q0 S_q0))], isref, N_⟩ (an_q27 N_ S_q65 S_q0) 166 (shF_q27.args [.bool b, .bool b_1, .ints b_2]) [⟨164, 1, .cells [.bool b, .nil]⟩, ⟨164, 1, .cells [.bool b_1, .roi .u64 b_2]⟩] c_ = G_q27 N_ S_q65 S_q0 b b_1 b_2 (fun r0 r1 => c_ (.ptr 0 0) [⟨164, 1, .cells [.bool r0, .roi .u64 r1]⟩, ⟨164, 1, .cells [.bool b_1, .roi .u64 b_2]⟩]) := by kernel_rfl
theorem good_q27 (N_ : Nat) (S_q65 : TS_q65) (S_q0 : TS_q0) (h_q65 : GoodF Pg 171 (F_q65 S_q65)) (h_q0 : GoodF Pg 170 (F_q0 S_q0)) : GoodF Pg 166 (F_q27 (G_q27 N_ S_q65 S_q0)) := by
  refine good_fsZ (cx := ⟨Pg, ofList [(171, (F_q65 S_q65)), (170, (F_q0 S_q0))], isref, N_⟩) (ofList_cons h_q65 (ofList_cons h_q0 (ofList_nil _))) shF_q27 (sp_q27 (G_q27 N_ S_q65 S_q0)) (an_q27 N_ S_q65 S_q0) 0 2 (by kernel_rfl) (fun i_ hi_ => by omega) ?_
  intro a k h
  unfold sp_q27 at h
  split at h
  · exact ⟨[_, _], rfl, rfl, (eq_q27 _ _ _ _ _ _ _).trans h⟩
  · cases h

def an_q31 (N_ : Nat) : Nat -> Option Ann := fun b_ => none
theorem eq_q31 (N_ : Nat) (neg : Bool) (abs_0 : Nat) (abs_1 : Nat) (b : Bool) (b_1 : List Int) (c_ : V -> List Blk -> Bool) : bodyZ ⟨Pg, ofList [], isref, N_⟩ (an_q31 N_) 170 (shF_q31.args [.bool neg, .nat abs_0, .nat abs_1, .bool b, .ints b_1]) [⟨164, 1, .cells [.bool b, .nil]⟩, ⟨41, 1, .ints .u64 b_1⟩] c_ = G_q31 N_ neg abs_0 abs_1 b b_1 (fun r0 => c_ (.ptr 0 0) [⟨164, 1, .cells [.bool r0, .sl 1 abs_0 abs_1]⟩, ⟨41, 1, .ints .u64 b_1⟩]) := by kernel_rfl
theorem good_q31 (N_ : Nat) : GoodF Pg 170 (F_q31 (G_q31 N_)) := by
  refine good_fsZ (cx := ⟨Pg, ofList [], isref, N_⟩) (ofList_nil _) shF_q31 (sp_q31 (G_q31 N_)) (an_q31 N_) 0 2 (by kernel_rfl) (fun i_ hi_ => by omega) ?_
  intro a k h
  unfold sp_q31 at h
  split at h
  · exact ⟨[_, _], rfl, rfl, (eq_q31 _ _ _ _ _ _ _).trans h⟩
  · cases h

def sh_st_big_Int_And_p0p1p2nrr_0 : StSh := ⟨[.ptr 0 0, .ptr 1 0, .ptr 2 0, .any, .any, .any, .any, .slw 3, .any, .any, .any, .any, .any, .any, .any, .any, .any, .any, .any, .any, .any, .any, .int .i64, .int .i64, .any, .any, .any, .any, .any, .any, .any, .any, .any, .any, .any, .any, .any, .any, .any, .any, .any, .any, .any, .any, .any, .any, .any, .any, .any], [some (164, 1, .cells [.bool, .nil]), some (164, 1, .cells [.bool, .roi .u64]), some (164, 1, .cells [.bool, .roi .u64]), some (41, 1, .ints .u64)]⟩
def sx0_st_big_Int_And_p0p1p2nrr_0 : StSh := ⟨[.ptr 0 0, .any, .any, .any, .any, .any, .any, .slw 3, .any, .any, .any, .any, .any, .any, .any, .any, .any, .any, .any, .any, .any, .any, .any, .any, .any, .any, .any, .any, .any, .any, .any, .any, .any, .any, .any, .any, .any, .any, .any, .any, .any, .any, .any, .any, .any, .any, .any, .any, .any], [some (164, 1, .cells [.bool, .nil]), some (164, 1, .cells [.bool, .roi .u64]), some (164, 1, .cells [.bool, .roi .u64]), some (41, 1, .ints .u64)]⟩
def hk_st_big_Int_And_p0p1p2nrr_0 (N_ : Nat) (S_q1 : TS_q1) (S_q31 : TS_q31) : List Atom -> K -> Bool := fun a_ κ => match a_ with
  | [.int t22, .int t23, .bool z, .bool x, .ints x_1, .bool y, .ints y_1, .ints r] => iterG N_ (st_q151 N_ S_q1 S_q31 t22 z x x_1 y y_1 (fun r5 => κ.ext 0 (sx0_st_big_Int_And_p0p1p2nrr_0.build [.bool z, .bool x, .ints x_1, .bool y, .ints y_1, .ints r5]))) (t23, r)
  | _ => false
def an_q17 (N_ : Nat) (S_q1 : TS_q1) (S_q31 : TS_q31) : Nat -> Option Ann := fun b_ => cond (b_ == 0) (some ⟨⟨[0, 1, 2, 7, 22, 23], [], []⟩, [(0, ⟨[0, 7], [], []⟩)], some ⟨[6], [], []⟩, some (mkHooks [(sh_st_big_Int_And_p0p1p2nrr_0, hk_st_big_Int_And_p0p1p2nrr_0 N_ S_q1 S_q31)])⟩) (none)
theorem eq_st_big_Int_And_p0p1p2nrr_0 (N_ : Nat) (S_q1 : TS_q1) (S_q31 : TS_q31) (κ : K) (t22 : Int) (t23 : Int) (z : Bool) (x : Bool) (x_1 : List Int) (y : Bool) (y_1 : List Int) (r : List Int) : iter N_ (fun s k => codeV ⟨Pg, ofList [(202, (F_q1 S_q1)), (170, (F_q31 S_q31))], isref, N_⟩ 3 (an_q17 N_ S_q1 S_q31) (lp Pg 168 0).2 (lp Pg 168 0).1 s (roundK Pg 3 ((an_q17 N_ S_q1 S_q31) (lp Pg 168 0).1) κ k)) (sh_st_big_Int_And_p0p1p2nrr_0.build [.int t22, .int t23, .bool z, .bool x, .ints x_1, .bool y, .ints y_1, .ints r]) = iterG N_ (st_q151 N_ S_q1 S_q31 t22 z x x_1 y y_1 (fun r5 => κ.ext 0 (sx0_st_big_Int_And_p0p1p2nrr_0.build [.bool z, .bool x, .ints x_1, .bool y, .ints y_1, .ints r5]))) (t23, r) :=
  iter_tr (fun (v_ : Int × List Int) => sh_st_big_Int_And_p0p1p2nrr_0.build [.int t22, .int v_.1, .bool z, .bool x, .ints x_1, .bool y, .ints y_1, .ints v_.2]) (fun v_ K_ => by obtain ⟨t23, r⟩ := v_; kernel_rfl) N_ (t23, r)
theorem hk1_st_big_Int_And_p0p1p2nrr_0 (N_ : Nat) (S_q1 : TS_q1) (S_q31 : TS_q31) : HookFor ⟨Pg, ofList [(202, (F_q1 S_q1)), (170, (F_q31 S_q31))], isref, N_⟩ 3 (an_q17 N_ S_q1 S_q31) (lp Pg 168 0) (sh_st_big_Int_And_p0p1p2nrr_0, hk_st_big_Int_And_p0p1p2nrr_0 N_ S_q1 S_q31) := by
  intro a κ h
  simp only at h
  unfold hk_st_big_Int_And_p0p1p2nrr_0 at h
  split at h
  · exact (eq_st_big_Int_And_p0p1p2nrr_0 _ _ _ _ _ _ _ _ _ _ _ _).trans h
  · cases h
theorem ho_big_Int_And_p0p1p2nrr_0 (N_ : Nat) (S_q1 : TS_q1) (S_q31 : TS_q31) : HookOk ⟨Pg, ofList [(202, (F_q1 S_q1)), (170, (F_q31 S_q31))], isref, N_⟩ 3 (an_q17 N_ S_q1 S_q31) (lp Pg 168 0) :=
  hooks_ok [(sh_st_big_Int_And_p0p1p2nrr_0, hk_st_big_Int_And_p0p1p2nrr_0 N_ S_q1 S_q31)] (by kernel_rfl) ⟨hk1_st_big_Int_And_p0p1p2nrr_0 _ _ _, trivial⟩
theorem eq_q17 (N_ : Nat) (S_q1 : TS_q1) (S_q31 : TS_q31) (b : Bool) (b_1 : Bool) (b_2 : List Int) (b_3 : Bool) (b_4 : List Int) (c_ : V -> List Blk -> Bool) : bodyZ ⟨Pg, ofList [(202, (F_q1 S_q1)), (170, (F_q31 S_q31))], isref, N_⟩ (an_q17 N_ S_q1 S_q31) 168 (shF_q17.args [.bool b, .bool b_1, .ints b_2, .bool b_3, .ints b_4]) [⟨164, 1, .cells [.bool b, .nil]⟩, ⟨164, 1, .cells [.bool b_1, .roi .u64 b_2]⟩, ⟨164, 1, .cells [.bool b_3, .roi .u64 b_4]⟩] c_ = G_q17 N_ S_q1 S_q31 b b_1 b_2 b_3 b_4 (fun r0 r1 => c_ (.ptr 0 0) [⟨164, 1, .cells [.bool r0, .roi .u64 r1]⟩, ⟨164, 1, .cells [.bool b_1, .roi .u64 b_2]⟩, ⟨164, 1, .cells [.bool b_3, .roi .u64 b_4]⟩]) := by kernel_rfl
theorem good_q17 (N_ : Nat) (S_q1 : TS_q1) (S_q31 : TS_q31) (h_q1 : GoodF Pg 202 (F_q1 S_q1)) (h_q31 : GoodF Pg 170 (F_q31 S_q31)) : GoodF Pg 168 (F_q17 (G_q17 N_ S_q1 S_q31)) := by
  refine good_fsZ (cx := ⟨Pg, ofList [(202, (F_q1 S_q1)), (170, (F_q31 S_q31))], isref, N_⟩) (ofList_cons h_q1 (ofList_cons h_q31 (ofList_nil _))) shF_q17 (sp_q17 (G_q17 N_ S_q1 S_q31)) (an_q17 N_ S_q1 S_q31) 1 3 (by kernel_rfl) (fun i_ hi_ => by
    match i_, hi_ with
    | 0, _ => exact ho_big_Int_And_p0p1p2nrr_0 _ _ _
    | (q + 1), h => omega) ?_
  intro a k h
  unfold sp_q17 at h
  split at h
  · exact ⟨[_, _, _], rfl, rfl, (eq_q17 _ _ _ _ _ _ _ _ _).trans h⟩
  · cases h

def an_q134 (N_ : Nat) (S_q12 : TS_q12) : Nat -> Option Ann := fun b_ => none
theorem eq_q134 (N_ : Nat) (S_q12 : TS_q12) (x : List Int) (c_ : V -> List Blk -> Bool) : bodyZ ⟨Pg, ofList [(205, (F_q12 S_q12))], isref, N_⟩ (an_q134 N_ S_q12) 203 (shF_q134.args [.ints x]) [] c_ = G_q134 N_ S_q12 x (fun r0 => c_ (.int .u64 r0) []) := by kernel_rfl
theorem good_q134 (N_ : Nat) (S_q12 : TS_q12) (h_q12 : GoodF Pg 205 (F_q12 S_q12)) : GoodF Pg 203 (F_q134 (G_q134 N_ S_q12)) := by
  refine good_fsZ (cx := ⟨Pg, ofList [(205, (F_q12 S_q12))], isref, N_⟩) (ofList_cons h_q12 (ofList_nil _)) shF_q134 (sp_q134 (G_q134 N_ S_q12)) (an_q134 N_ S_q12) 0 0 (by kernel_rfl) (fun i_ hi_ => by omega) ?_
  intro a k h
  unfold sp_q134 at h
  split at h
  · exact ⟨[], rfl, rfl, (eq_q134 _ _ _ _).trans h⟩
  · cases h

def an_q30 (N_ : Nat) (S_q134 : TS_q134) : Nat -> Option Ann := fun b_ => none
theorem eq_q30 (N_ : Nat) (S_q134 : TS_q134) (b : Bool) (b_1 : List Int) (c_ : V -> List Blk -> Bool) : bodyZ ⟨Pg, ofList [(203, (F_q134 S_q134))], isref, N_⟩ (an_q30 N_ S_q134) 169 (shF_q30.args [.bool b, .ints b_1]) [⟨164, 1, .cells [.bool b, .roi .u64 b_1]⟩] c_ = G_q30 N_ S_q134 b b_1 (fun r0 => c_ (.int .u64 r0) [⟨164, 1, .cells [.bool b, .roi .u64 b_1]⟩]) := by kernel_rfl
theorem good_q30 (N_ : Nat) (S_q134 : TS_q134) (h_q134 : GoodF Pg 203 (F_q134 S_q134)) : GoodF Pg 169 (F_q30 (G_q30 N_ S_q134)) := by
  refine good_fsZ (cx := ⟨Pg, ofList [(203, (F_q134 S_q134))], isref, N_⟩) (ofList_cons h_q134 (ofList_nil _)) shF_q30 (sp_q30 (G_q30 N_ S_q134)) (an_q30 N_ S_q134) 0 1 (by kernel_rfl) (fun i_ hi_ => by omega) ?_
  intro a k h
  unfold sp_q30 at h
  split at h
  · exact ⟨[_], rfl, rfl, (eq_q30 _ _ _ _ _).trans h⟩
  · cases h

end Go.Proofs.YtccocdgimamdhaaGreatDoor
