/-
  THE TIES: each printed meaning is what the program does (written by program).
  Conditions: none.
-/
import Derived.Test.YtccocdgimamdhaaGreatDoorGs
namespace Go.Proofs.YtccocdgimamdhaaGreatDoor
open Go Go.Mach Go.Proofs
set_option linter.unusedVariables false
set_option maxRecDepth 50000

def an_q120 (N_ : Nat) (S_q22 : TS_q22) : Nat -> Option Ann := fun b_ => none
theorem eq_q120 (N_ : Nat) (S_q22 : TS_q22) (neg : Bool) (b : Bool) (b_1 : List Int) (c_ : V -> List Blk -> Bool) : bodyZ ⟨Pg, ofList [(147, (F_q22 S_q22))], isref, N_⟩ (an_q120 N_ S_q22) 113 (shF_q120.args [.bool neg, .bool b, .ints b_1]) [⟨105, 1, .cells [.bool b, .nil]⟩, ⟨127, 1, .ints .u32 b_1⟩] c_ = G_q120 N_ S_q22 neg b b_1 (fun r0 r1 r2 => c_ (.ptr 0 0) [⟨105, 1, .cells [.bool r0, .sl 1 r1 r2]⟩, ⟨127, 1, .ints .u32 b_1⟩]) := by kernel_rfl
theorem good_q120 (N_ : Nat) (S_q22 : TS_q22) (h_q22 : GoodF Pg 147 (F_q22 S_q22)) : GoodF Pg 113 (F_q120 (G_q120 N_ S_q22)) := by
  refine good_fsZ (cx := ⟨Pg, ofList [(147, (F_q22 S_q22))], isref, N_⟩) (ofList_cons h_q22 (ofList_nil _)) shF_q120 (sp_q120 (G_q120 N_ S_q22)) (an_q120 N_ S_q22) 0 2 (by kernel_rfl) (fun i_ hi_ => by omega) ?_
  intro a k h
  unfold sp_q120 at h
  split at h
  · exact ⟨[_, _], rfl, rfl, (eq_q120 _ _ _ _ _ _).trans h⟩
  · cases h

def an_q8 (N_ : Nat) (S_q120 : TS_q120) : Nat -> Option Ann := fun b_ => none
theorem eq_q8 (N_ : Nat) (S_q120 : TS_q120) (b : Bool) (b_1 : Bool) (b_2 : List Int) (c_ : V -> List Blk -> Bool) : bodyZ ⟨Pg, ofList [(113, (F_q120 S_q120))], isref, N_⟩ (an_q8 N_ S_q120) 208 (shF_q8.args [.bool b, .bool b_1, .ints b_2]) [⟨105, 1, .cells [.bool b, .nil]⟩, ⟨105, 1, .cells [.bool b_1, .roi .u32 b_2]⟩] c_ = G_q8 N_ S_q120 b b_1 b_2 (fun r0 r1 => c_ (.ptr 0 0) [⟨105, 1, .cells [.bool r0, .roi .u32 r1]⟩, ⟨105, 1, .cells [.bool b_1, .roi .u32 b_2]⟩]) := by kernel_rfl
theorem good_q8 (N_ : Nat) (S_q120 : TS_q120) (h_q120 : GoodF Pg 113 (F_q120 S_q120)) : GoodF Pg 208 (F_q8 (G_q8 N_ S_q120)) := by
  refine good_fsZ (cx := ⟨Pg, ofList [(113, (F_q120 S_q120))], isref, N_⟩) (ofList_cons h_q120 (ofList_nil _)) shF_q8 (sp_q8 (G_q8 N_ S_q120)) (an_q8 N_ S_q120) 0 2 (by kernel_rfl) (fun i_ hi_ => by omega) ?_
  intro a k h
  unfold sp_q8 at h
  split at h
  · exact ⟨[_, _], rfl, rfl, (eq_q8 _ _ _ _ _ _).trans h⟩
  · cases h

def sh_st_binnacleref00_left_0 : StSh := ⟨[.roi .u32, .any, .any, .any, .any, .int .i64, .int .u64, .slw 0, .int .i64, .any, .any, .any, .any, .any, .any, .any, .any, .any, .any, .any, .any, .any, .any, .any, .any, .any, .any, .any, .any, .any, .any, .any, .any, .any, .any, .any, .any, .any, .any, .any, .any, .any, .any, .any, .any, .any, .any, .any, .any, .any, .any, .any, .any, .any, .any, .any, .any, .any], [some (127, 1, .ints .u32)]⟩
def sx0_st_binnacleref00_left_0 : StSh := ⟨[.any, .any, .any, .any, .any, .any, .any, .slw 0, .any, .any, .any, .any, .any, .any, .any, .any, .any, .any, .any, .any, .any, .any, .any, .any, .any, .any, .any, .any, .any, .any, .any, .any, .any, .any, .any, .any, .any, .any, .any, .any, .any, .any, .any, .any, .any, .any, .any, .any, .any, .any, .any, .any, .any, .any, .any, .any, .any, .any], [some (127, 1, .ints .u32)]⟩
def hk_st_binnacleref00_left_0 (N_ : Nat) (S_q22 : TS_q22) : List Atom -> K -> Bool := fun a_ κ => match a_ with
  | [.ints m_1, .int w, .int s, .int i, .ints out] => iterG N_ (st_z00_left_0 N_ S_q22 m_1 w s (fun r0 => κ.ext 0 (sx0_st_binnacleref00_left_0.build [.ints r0]))) (i, out)
  | _ => false
def an_q130 (N_ : Nat) (S_q22 : TS_q22) : Nat -> Option Ann := fun b_ => cond (b_ == 0) (some ⟨⟨[0, 5, 6, 7, 8], [], []⟩, [(0, ⟨[7], [], []⟩)], some ⟨[4], [], []⟩, some (mkHooks [(sh_st_binnacleref00_left_0, hk_st_binnacleref00_left_0 N_ S_q22)])⟩) (none)
theorem eq_st_binnacleref00_left_0 (N_ : Nat) (S_q22 : TS_q22) (κ : K) (m_1 : List Int) (w : Int) (s : Int) (i : Int) (out : List Int) : iter N_ (fun s k => codeV ⟨Pg, ofList [(147, (F_q22 S_q22))], isref, N_⟩ 0 (an_q130 N_ S_q22) (lp Pg 183 0).2 (lp Pg 183 0).1 s (roundK Pg 0 ((an_q130 N_ S_q22) (lp Pg 183 0).1) κ k)) (sh_st_binnacleref00_left_0.build [.ints m_1, .int w, .int s, .int i, .ints out]) = iterG N_ (st_z00_left_0 N_ S_q22 m_1 w s (fun r0 => κ.ext 0 (sx0_st_binnacleref00_left_0.build [.ints r0]))) (i, out) :=
  iter_tr (fun (v_ : Int × List Int) => sh_st_binnacleref00_left_0.build [.ints m_1, .int w, .int s, .int v_.1, .ints v_.2]) (fun v_ K_ => by obtain ⟨i, out⟩ := v_; kernel_rfl) N_ (i, out)
theorem hk1_st_binnacleref00_left_0 (N_ : Nat) (S_q22 : TS_q22) : HookFor ⟨Pg, ofList [(147, (F_q22 S_q22))], isref, N_⟩ 0 (an_q130 N_ S_q22) (lp Pg 183 0) (sh_st_binnacleref00_left_0, hk_st_binnacleref00_left_0 N_ S_q22) := by
  intro a κ h
  simp only at h
  unfold hk_st_binnacleref00_left_0 at h
  split at h
  · exact (eq_st_binnacleref00_left_0 _ _ _ _ _ _ _ _).trans h
  · cases h
theorem ho_binnacleref00_left_0 (N_ : Nat) (S_q22 : TS_q22) : HookOk ⟨Pg, ofList [(147, (F_q22 S_q22))], isref, N_⟩ 0 (an_q130 N_ S_q22) (lp Pg 183 0) :=
  hooks_ok [(sh_st_binnacleref00_left_0, hk_st_binnacleref00_left_0 N_ S_q22)] (by kernel_rfl) ⟨hk1_st_binnacleref00_left_0 _ _, trivial⟩
theorem eq_q130 (N_ : Nat) (S_q22 : TS_q22) (m : List Int) (n : Int) (c_ : V -> List Blk -> Bool) : bodyZ ⟨Pg, ofList [(147, (F_q22 S_q22))], isref, N_⟩ (an_q130 N_ S_q22) 183 (shF_q130.args [.ints m, .int n]) [] c_ = G_q130 N_ S_q22 m n (fun r0 => c_ (.roi .u32 r0) []) := by kernel_rfl
theorem good_q130 (N_ : Nat) (S_q22 : TS_q22) (h_q22 : GoodF Pg 147 (F_q22 S_q22)) : GoodF Pg 183 (F_q130 (G_q130 N_ S_q22)) := by
  refine good_fsZ (cx := ⟨Pg, ofList [(147, (F_q22 S_q22))], isref, N_⟩) (ofList_cons h_q22 (ofList_nil _)) shF_q130 (sp_q130 (G_q130 N_ S_q22)) (an_q130 N_ S_q22) 1 0 (by kernel_rfl) (fun i_ hi_ => by
    match i_, hi_ with
    | 0, _ => exact ho_binnacleref00_left_0 _ _
    | (q + 1), h => omega) ?_
  intro a k h
  unfold sp_q130 at h
  split at h
  · exact ⟨[], rfl, rfl, (eq_q130 _ _ _ _ _).trans h⟩
  · cases h

def an_q10 (N_ : Nat) (S_q130 : TS_q130) (S_q62 : TS_q62) : Nat -> Option Ann := fun b_ => none
theorem eq_q10 (N_ : Nat) (S_q130 : TS_q130) (S_q62 : TS_q62) (n : Int) (b : Bool) (b_1 : List Int) (c_ : V -> List Blk -> Bool) : bodyZ ⟨Pg, ofList [(183, (F_q130 S_q130)), (113, (F_q62 S_q62))], isref, N_⟩ (an_q10 N_ S_q130 S_q62) 146 (shF_q10.args [.int n, .bool b, .ints b_1]) [⟨105, 1, .cells [.bool b, .roi .u32 b_1]⟩] c_ = G_q10 N_ S_q130 S_q62 n b b_1 (fun r0 r1 => c_ (.ptr 0 0) [⟨105, 1, .cells [.bool r0, .roi .u32 r1]⟩]) := by kernel_rfl
theorem good_q10 (N_ : Nat) (S_q130 : TS_q130) (S_q62 : TS_q62) (h_q130 : GoodF Pg 183 (F_q130 S_q130)) (h_q62 : GoodF Pg 113 (F_q62 S_q62)) : GoodF Pg 146 (F_q10 (G_q10 N_ S_q130 S_q62)) := by
  refine good_fsZ (cx := ⟨Pg, ofList [(183, (F_q130 S_q130)), (113, (F_q62 S_q62))], isref, N_⟩) (ofList_cons h_q130 (ofList_cons h_q62 (ofList_nil _))) shF_q10 (sp_q10 (G_q10 N_ S_q130 S_q62)) (an_q10 N_ S_q130 S_q62) 0 1 (by kernel_rfl) (fun i_ hi_ => by omega) ?_
  intro a k h
  unfold sp_q10 at h
  split at h
  · exact ⟨[_], rfl, rfl, (eq_q10 _ _ _ _ _ _ _).trans h⟩
  · cases h

def sh_st_binnacleref00_right_0 : StSh := ⟨[.roi .u32, .any, .any, .any, .any, .int .i64, .int .u64, .slw 0, .int .i64, .any, .any, .any, .any, .any, .any, .any, .any, .any, .any, .any, .any, .any, .any, .any, .any, .any, .any, .any, .any, .any, .any, .any, .any, .any, .any, .any, .any, .any, .any, .any, .any, .any, .any, .any, .any, .any, .any, .any, .any, .any, .any, .any, .any, .any, .any, .any, .any, .any, .any, .any, .any, .any, .any, .any], [some (127, 1, .ints .u32)]⟩
def sx0_st_binnacleref00_right_0 : StSh := ⟨[.any, .any, .any, .any, .any, .any, .any, .slw 0, .any, .any, .any, .any, .any, .any, .any, .any, .any, .any, .any, .any, .any, .any, .any, .any, .any, .any, .any, .any, .any, .any, .any, .any, .any, .any, .any, .any, .any, .any, .any, .any, .any, .any, .any, .any, .any, .any, .any, .any, .any, .any, .any, .any, .any, .any, .any, .any, .any, .any, .any, .any, .any, .any, .any, .any], [some (127, 1, .ints .u32)]⟩
def hk_st_binnacleref00_right_0 (N_ : Nat) (S_q22 : TS_q22) : List Atom -> K -> Bool := fun a_ κ => match a_ with
  | [.ints m_1, .int w, .int s, .int i, .ints out] => iterG N_ (st_z00_right_0 N_ S_q22 m_1 w s (fun r0 => κ.ext 0 (sx0_st_binnacleref00_right_0.build [.ints r0]))) (i, out)
  | _ => false
def an_q118 (N_ : Nat) (S_q22 : TS_q22) : Nat -> Option Ann := fun b_ => cond (b_ == 0) (some ⟨⟨[0, 5, 6, 7, 8], [], []⟩, [(0, ⟨[7], [], []⟩)], some ⟨[4], [], []⟩, some (mkHooks [(sh_st_binnacleref00_right_0, hk_st_binnacleref00_right_0 N_ S_q22)])⟩) (none)
theorem eq_st_binnacleref00_right_0 (N_ : Nat) (S_q22 : TS_q22) (κ : K) (m_1 : List Int) (w : Int) (s : Int) (i : Int) (out : List Int) : iter N_ (fun s k => codeV ⟨Pg, ofList [(147, (F_q22 S_q22))], isref, N_⟩ 0 (an_q118 N_ S_q22) (lp Pg 226 0).2 (lp Pg 226 0).1 s (roundK Pg 0 ((an_q118 N_ S_q22) (lp Pg 226 0).1) κ k)) (sh_st_binnacleref00_right_0.build [.ints m_1, .int w, .int s, .int i, .ints out]) = iterG N_ (st_z00_right_0 N_ S_q22 m_1 w s (fun r0 => κ.ext 0 (sx0_st_binnacleref00_right_0.build [.ints r0]))) (i, out) :=
  iter_tr (fun (v_ : Int × List Int) => sh_st_binnacleref00_right_0.build [.ints m_1, .int w, .int s, .int v_.1, .ints v_.2]) (fun v_ K_ => by obtain ⟨i, out⟩ := v_; kernel_rfl) N_ (i, out)
theorem hk1_st_binnacleref00_right_0 (N_ : Nat) (S_q22 : TS_q22) : HookFor ⟨Pg, ofList [(147, (F_q22 S_q22))], isref, N_⟩ 0 (an_q118 N_ S_q22) (lp Pg 226 0) (sh_st_binnacleref00_right_0, hk_st_binnacleref00_right_0 N_ S_q22) := by
  intro a κ h
  simp only at h
  unfold hk_st_binnacleref00_right_0 at h
  split at h
  · exact (eq_st_binnacleref00_right_0 _ _ _ _ _ _ _ _).trans h
  · cases h
theorem ho_binnacleref00_right_0 (N_ : Nat) (S_q22 : TS_q22) : HookOk ⟨Pg, ofList [(147, (F_q22 S_q22))], isref, N_⟩ 0 (an_q118 N_ S_q22) (lp Pg 226 0) :=
  hooks_ok [(sh_st_binnacleref00_right_0, hk_st_binnacleref00_right_0 N_ S_q22)] (by kernel_rfl) ⟨hk1_st_binnacleref00_right_0 _ _, trivial⟩
theorem eq_q118 (N_ : Nat) (S_q22 : TS_q22) (m : List Int) (n : Int) (c_ : V -> List Blk -> Bool) : bodyZ ⟨Pg, ofList [(147, (F_q22 S_q22))], isref, N_⟩ (an_q118 N_ S_q22) 226 (shF_q118.args [.ints m, .int n]) [] c_ = G_q118 N_ S_q22 m n (fun r0 => c_ (.roi .u32 r0) []) := by kernel_rfl
theorem good_q118 (N_ : Nat) (S_q22 : TS_q22) (h_q22 : GoodF Pg 147 (F_q22 S_q22)) : GoodF Pg 226 (F_q118 (G_q118 N_ S_q22)) := by
  refine good_fsZ (cx := ⟨Pg, ofList [(147, (F_q22 S_q22))], isref, N_⟩) (ofList_cons h_q22 (ofList_nil _)) shF_q118 (sp_q118 (G_q118 N_ S_q22)) (an_q118 N_ S_q22) 1 0 (by kernel_rfl) (fun i_ hi_ => by
    match i_, hi_ with
    | 0, _ => exact ho_binnacleref00_right_0 _ _
    | (q + 1), h => omega) ?_
  intro a k h
  unfold sp_q118 at h
  split at h
  · exact ⟨[], rfl, rfl, (eq_q118 _ _ _ _ _).trans h⟩
  · cases h

def sh_st_binnacleref00_minus_0 : StSh := ⟨[.roi .u32, .roi .u32, .any, .any, .any, .slw 0, .int .u64, .int .i64, .any, .any, .any, .any, .any, .any, .any, .any, .any, .any, .any, .any, .any, .any, .any, .any, .any, .any, .any, .any, .any, .any, .any, .any, .any, .any, .any, .any, .any, .any, .any, .any, .any, .any, .any, .any, .any, .any, .any, .any, .any, .any, .any, .any, .any, .any, .any, .any], [some (127, 1, .ints .u32)]⟩
def sx0_st_binnacleref00_minus_0 : StSh := ⟨[.any, .any, .any, .any, .any, .slw 0, .any, .any, .any, .any, .any, .any, .any, .any, .any, .any, .any, .any, .any, .any, .any, .any, .any, .any, .any, .any, .any, .any, .any, .any, .any, .any, .any, .any, .any, .any, .any, .any, .any, .any, .any, .any, .any, .any, .any, .any, .any, .any, .any, .any, .any, .any, .any, .any, .any, .any], [some (127, 1, .ints .u32)]⟩
def hk_st_binnacleref00_minus_0 (N_ : Nat) (S_q22 : TS_q22) : List Atom -> K -> Bool := fun a_ κ => match a_ with
  | [.ints a_1, .ints b_1, .int borrow, .int i, .ints out] => iterG N_ (st_z00_minus_0 N_ S_q22 a_1 b_1 (fun r0 => κ.ext 0 (sx0_st_binnacleref00_minus_0.build [.ints r0]))) (borrow, i, out)
  | _ => false
def an_q35 (N_ : Nat) (S_q22 : TS_q22) : Nat -> Option Ann := fun b_ => cond (b_ == 0) (some ⟨⟨[0, 1, 5, 6, 7], [], []⟩, [(0, ⟨[5], [], []⟩)], some ⟨[4], [], []⟩, some (mkHooks [(sh_st_binnacleref00_minus_0, hk_st_binnacleref00_minus_0 N_ S_q22)])⟩) (none)
theorem eq_st_binnacleref00_minus_0 (N_ : Nat) (S_q22 : TS_q22) (κ : K) (a_1 : List Int) (b_1 : List Int) (borrow : Int) (i : Int) (out : List Int) : iter N_ (fun s k => codeV ⟨Pg, ofList [(147, (F_q22 S_q22))], isref, N_⟩ 0 (an_q35 N_ S_q22) (lp Pg 182 0).2 (lp Pg 182 0).1 s (roundK Pg 0 ((an_q35 N_ S_q22) (lp Pg 182 0).1) κ k)) (sh_st_binnacleref00_minus_0.build [.ints a_1, .ints b_1, .int borrow, .int i, .ints out]) = iterG N_ (st_z00_minus_0 N_ S_q22 a_1 b_1 (fun r0 => κ.ext 0 (sx0_st_binnacleref00_minus_0.build [.ints r0]))) (borrow, i, out) :=
  iter_tr (fun (v_ : Int × Int × List Int) => sh_st_binnacleref00_minus_0.build [.ints a_1, .ints b_1, .int v_.1, .int v_.2.1, .ints v_.2.2]) (fun v_ K_ => by obtain ⟨borrow, i, out⟩ := v_; kernel_rfl) N_ (borrow, i, out)
theorem hk1_st_binnacleref00_minus_0 (N_ : Nat) (S_q22 : TS_q22) : HookFor ⟨Pg, ofList [(147, (F_q22 S_q22))], isref, N_⟩ 0 (an_q35 N_ S_q22) (lp Pg 182 0) (sh_st_binnacleref00_minus_0, hk_st_binnacleref00_minus_0 N_ S_q22) := by
  intro a κ h
  simp only at h
  unfold hk_st_binnacleref00_minus_0 at h
  split at h
  · exact (eq_st_binnacleref00_minus_0 _ _ _ _ _ _ _ _).trans h
  · cases h
theorem ho_binnacleref00_minus_0 (N_ : Nat) (S_q22 : TS_q22) : HookOk ⟨Pg, ofList [(147, (F_q22 S_q22))], isref, N_⟩ 0 (an_q35 N_ S_q22) (lp Pg 182 0) :=
  hooks_ok [(sh_st_binnacleref00_minus_0, hk_st_binnacleref00_minus_0 N_ S_q22)] (by kernel_rfl) ⟨hk1_st_binnacleref00_minus_0 _ _, trivial⟩
theorem eq_q35 (N_ : Nat) (S_q22 : TS_q22) (a : List Int) (b : List Int) (c_ : V -> List Blk -> Bool) : bodyZ ⟨Pg, ofList [(147, (F_q22 S_q22))], isref, N_⟩ (an_q35 N_ S_q22) 182 (shF_q35.args [.ints a, .ints b]) [] c_ = G_q35 N_ S_q22 a b (fun r0 => c_ (.roi .u32 r0) []) := by kernel_rfl
theorem good_q35 (N_ : Nat) (S_q22 : TS_q22) (h_q22 : GoodF Pg 147 (F_q22 S_q22)) : GoodF Pg 182 (F_q35 (G_q35 N_ S_q22)) := by
  refine good_fsZ (cx := ⟨Pg, ofList [(147, (F_q22 S_q22))], isref, N_⟩) (ofList_cons h_q22 (ofList_nil _)) shF_q35 (sp_q35 (G_q35 N_ S_q22)) (an_q35 N_ S_q22) 1 0 (by kernel_rfl) (fun i_ hi_ => by
    match i_, hi_ with
    | 0, _ => exact ho_binnacleref00_minus_0 _ _
    | (q + 1), h => omega) ?_
  intro a k h
  unfold sp_q35 at h
  split at h
  · exact ⟨[], rfl, rfl, (eq_q35 _ _ _ _ _).trans h⟩
  · cases h

def sh_st_binnacleref00_plus_0 : StSh := ⟨[.roi .u32, .roi .u32, .any, .any, .any, .any, .slw 0, .int .u64, .int .i64, .any, .any, .any, .any, .any, .any, .any, .any, .any, .any, .any, .any, .any, .any, .any, .any, .any, .any, .any, .any, .any, .any, .any, .any, .any, .any, .any, .any, .any, .any, .any, .any, .any, .any, .any, .any, .any, .any, .any, .any, .any, .any, .any, .any, .any, .any, .any, .any, .any, .any, .any, .any], [some (127, 1, .ints .u32)]⟩
def sx0_st_binnacleref00_plus_0 : StSh := ⟨[.roi .u32, .any, .any, .any, .any, .any, .slw 0, .int .u64, .any, .any, .any, .any, .any, .any, .any, .any, .any, .any, .any, .any, .any, .any, .any, .any, .any, .any, .any, .any, .any, .any, .any, .any, .any, .any, .any, .any, .any, .any, .any, .any, .any, .any, .any, .any, .any, .any, .any, .any, .any, .any, .any, .any, .any, .any, .any, .any, .any, .any, .any, .any, .any], [some (127, 1, .ints .u32)]⟩
def hk_st_binnacleref00_plus_0 (N_ : Nat) (S_q22 : TS_q22) : List Atom -> K -> Bool := fun a_ κ => match a_ with
  | [.ints a_1, .ints b_1, .int carry, .int i, .ints out] => iterG N_ (st_z00_plus_0 N_ S_q22 a_1 b_1 (fun r1 r2 => κ.ext 0 (sx0_st_binnacleref00_plus_0.build [.ints a_1, .int r1, .ints r2]))) (carry, i, out)
  | _ => false
def an_q95 (N_ : Nat) (S_q22 : TS_q22) : Nat -> Option Ann := fun b_ => cond (b_ == 0) (some ⟨⟨[0, 1, 6, 7, 8], [], []⟩, [(0, ⟨[0, 6, 7], [], []⟩)], some ⟨[4], [], []⟩, some (mkHooks [(sh_st_binnacleref00_plus_0, hk_st_binnacleref00_plus_0 N_ S_q22)])⟩) (none)
theorem eq_st_binnacleref00_plus_0 (N_ : Nat) (S_q22 : TS_q22) (κ : K) (a_1 : List Int) (b_1 : List Int) (carry : Int) (i : Int) (out : List Int) : iter N_ (fun s k => codeV ⟨Pg, ofList [(147, (F_q22 S_q22))], isref, N_⟩ 0 (an_q95 N_ S_q22) (lp Pg 180 0).2 (lp Pg 180 0).1 s (roundK Pg 0 ((an_q95 N_ S_q22) (lp Pg 180 0).1) κ k)) (sh_st_binnacleref00_plus_0.build [.ints a_1, .ints b_1, .int carry, .int i, .ints out]) = iterG N_ (st_z00_plus_0 N_ S_q22 a_1 b_1 (fun r1 r2 => κ.ext 0 (sx0_st_binnacleref00_plus_0.build [.ints a_1, .int r1, .ints r2]))) (carry, i, out) :=
  iter_tr (fun (v_ : Int × Int × List Int) => sh_st_binnacleref00_plus_0.build [.ints a_1, .ints b_1, .int v_.1, .int v_.2.1, .ints v_.2.2]) (fun v_ K_ => by obtain ⟨carry, i, out⟩ := v_; kernel_rfl) N_ (carry, i, out)
theorem hk1_st_binnacleref00_plus_0 (N_ : Nat) (S_q22 : TS_q22) : HookFor ⟨Pg, ofList [(147, (F_q22 S_q22))], isref, N_⟩ 0 (an_q95 N_ S_q22) (lp Pg 180 0) (sh_st_binnacleref00_plus_0, hk_st_binnacleref00_plus_0 N_ S_q22) := by
  intro a κ h
  simp only at h
  unfold hk_st_binnacleref00_plus_0 at h
  split at h
  · exact (eq_st_binnacleref00_plus_0 _ _ _ _ _ _ _ _).trans h
  · cases h
theorem ho_binnacleref00_plus_0 (N_ : Nat) (S_q22 : TS_q22) : HookOk ⟨Pg, ofList [(147, (F_q22 S_q22))], isref, N_⟩ 0 (an_q95 N_ S_q22) (lp Pg 180 0) :=
  hooks_ok [(sh_st_binnacleref00_plus_0, hk_st_binnacleref00_plus_0 N_ S_q22)] (by kernel_rfl) ⟨hk1_st_binnacleref00_plus_0 _ _, trivial⟩
theorem eq_q95 (N_ : Nat) (S_q22 : TS_q22) (a : List Int) (b : List Int) (c_ : V -> List Blk -> Bool) : bodyZ ⟨Pg, ofList [(147, (F_q22 S_q22))], isref, N_⟩ (an_q95 N_ S_q22) 180 (shF_q95.args [.ints a, .ints b]) [] c_ = G_q95 N_ S_q22 a b (fun r0 => c_ (.roi .u32 r0) []) := by kernel_rfl
theorem good_q95 (N_ : Nat) (S_q22 : TS_q22) (h_q22 : GoodF Pg 147 (F_q22 S_q22)) : GoodF Pg 180 (F_q95 (G_q95 N_ S_q22)) := by
  refine good_fsZ (cx := ⟨Pg, ofList [(147, (F_q22 S_q22))], isref, N_⟩) (ofList_cons h_q22 (ofList_nil _)) shF_q95 (sp_q95 (G_q95 N_ S_q22)) (an_q95 N_ S_q22) 1 0 (by kernel_rfl) (fun i_ hi_ => by
    match i_, hi_ with
    | 0, _ => exact ho_binnacleref00_plus_0 _ _
    | (q + 1), h => omega) ?_
  intro a k h
  unfold sp_q95 at h
  split at h
  · exact ⟨[], rfl, rfl, (eq_q95 _ _ _ _ _).trans h⟩
  · cases h

def an_q110 (N_ : Nat) (S_q118 : TS_q118) (S_q51 : TS_q51) (S_q35 : TS_q35) (S_q95 : TS_q95) : Nat -> Option Ann := fun b_ => none
theorem eq_q110 (N_ : Nat) (S_q118 : TS_q118) (S_q51 : TS_q51) (S_q35 : TS_q35) (S_q95 : TS_q95) (n : Int) (b : Bool) (b_1 : Bool) (b_2 : List Int) (c_ : V -> List Blk -> Bool) : bodyZ ⟨Pg, ofList [(226, (F_q118 S_q118)), (113, (F_q51 S_q51)), (182, (F_q35 S_q35)), (180, (F_q95 S_q95))], isref, N_⟩ (an_q110 N_ S_q118 S_q51 S_q35 S_q95) 211 (shF_q110.args [.int n, .bool b, .bool b_1, .ints b_2]) [⟨105, 1, .cells [.bool b, .nil]⟩, ⟨105, 1, .cells [.bool b_1, .roi .u32 b_2]⟩] c_ = G_q110 N_ S_q118 S_q51 S_q35 S_q95 n b b_1 b_2 (fun r0 r1 => c_ (.ptr 0 0) [⟨105, 1, .cells [.bool r0, .roi .u32 r1]⟩, ⟨105, 1, .cells [.bool b_1, .roi .u32 b_2]⟩]) := by kernel_rfl
theorem good_q110 (N_ : Nat) (S_q118 : TS_q118) (S_q51 : TS_q51) (S_q35 : TS_q35) (S_q95 : TS_q95) (h_q118 : GoodF Pg 226 (F_q118 S_q118)) (h_q51 : GoodF Pg 113 (F_q51 S_q51)) (h_q35 : GoodF Pg 182 (F_q35 S_q35)) (h_q95 : GoodF Pg 180 (F_q95 S_q95)) : GoodF Pg 211 (F_q110 (G_q110 N_ S_q118 S_q51 S_q35 S_q95)) := by
  refine good_fsZ (cx := ⟨Pg, ofList [(226, (F_q118 S_q118)), (113, (F_q51 S_q51)), (182, (F_q35 S_q35)), (180, (F_q95 S_q95))], isref, N_⟩) (ofList_cons h_q118 (ofList_cons h_q51 (ofList_cons h_q35 (ofList_cons h_q95 (ofList_nil _))))) shF_q110 (sp_q110 (G_q110 N_ S_q118 S_q51 S_q35 S_q95)) (an_q110 N_ S_q118 S_q51 S_q35 S_q95) 0 2 (by kernel_rfl) (fun i_ hi_ => by omega) ?_
  intro a k h
  unfold sp_q110 at h
  split at h
  · exact ⟨[_, _], rfl, rfl, (eq_q110 _ _ _ _ _ _ _ _ _ _).trans h⟩
  · cases h

def an_q105 (N_ : Nat) (S_q130 : TS_q130) (S_q51 : TS_q51) : Nat -> Option Ann := fun b_ => none
theorem eq_q105 (N_ : Nat) (S_q130 : TS_q130) (S_q51 : TS_q51) (n : Int) (b : Bool) (b_1 : Bool) (b_2 : List Int) (c_ : V -> List Blk -> Bool) : bodyZ ⟨Pg, ofList [(183, (F_q130 S_q130)), (113, (F_q51 S_q51))], isref, N_⟩ (an_q105 N_ S_q130 S_q51) 146 (shF_q105.args [.int n, .bool b, .bool b_1, .ints b_2]) [⟨105, 1, .cells [.bool b, .nil]⟩, ⟨105, 1, .cells [.bool b_1, .roi .u32 b_2]⟩] c_ = G_q105 N_ S_q130 S_q51 n b b_1 b_2 (fun r0 r1 => c_ (.ptr 0 0) [⟨105, 1, .cells [.bool r0, .roi .u32 r1]⟩, ⟨105, 1, .cells [.bool b_1, .roi .u32 b_2]⟩]) := by kernel_rfl
theorem good_q105 (N_ : Nat) (S_q130 : TS_q130) (S_q51 : TS_q51) (h_q130 : GoodF Pg 183 (F_q130 S_q130)) (h_q51 : GoodF Pg 113 (F_q51 S_q51)) : GoodF Pg 146 (F_q105 (G_q105 N_ S_q130 S_q51)) := by
  refine good_fsZ (cx := ⟨Pg, ofList [(183, (F_q130 S_q130)), (113, (F_q51 S_q51))], isref, N_⟩) (ofList_cons h_q130 (ofList_cons h_q51 (ofList_nil _))) shF_q105 (sp_q105 (G_q105 N_ S_q130 S_q51)) (an_q105 N_ S_q130 S_q51) 0 2 (by kernel_rfl) (fun i_ hi_ => by omega) ?_
  intro a k h
  unfold sp_q105 at h
  split at h
  · exact ⟨[_, _], rfl, rfl, (eq_q105 _ _ _ _ _ _ _ _).trans h⟩
  · cases h

def sh_st_binnacleref00_compare_0 : StSh := ⟨[.roi .u32, .roi .u32, .any, .any, .any, .int .i64, .any, .any, .any, .any, .any, .any, .any, .any, .any, .any, .any, .any, .any, .any, .any, .any, .any, .any, .any, .any, .any, .any, .any, .any, .any, .any, .any, .any, .any, .any, .any, .any, .any, .any, .any], []⟩
def sx0_st_binnacleref00_compare_0 : StSh := ⟨[.any, .any, .any, .any, .int .i64, .any, .any, .any, .any, .any, .any, .any, .any, .any, .any, .any, .any, .any, .any, .any, .any, .any, .any, .any, .any, .any, .any, .any, .any, .any, .any, .any, .any, .any, .any, .any, .any, .any, .any, .any, .any], []⟩
def sx1_st_binnacleref00_compare_0 : StSh := ⟨[.any, .any, .any, .any, .any, .any, .any, .any, .any, .any, .any, .any, .any, .any, .any, .any, .any, .any, .any, .any, .any, .any, .any, .any, .any, .any, .any, .any, .any, .any, .any, .any, .any, .any, .any, .any, .any, .any, .any, .any, .any], []⟩
def hk_st_binnacleref00_compare_0 (N_ : Nat) : List Atom -> K -> Bool := fun a_ κ => match a_ with
  | [.ints a_1, .ints b_1, .int i] => iterG N_ (st_q205 N_ a_1 b_1 (fun r0 => κ.ret (sx0_st_binnacleref00_compare_0.build [.int r0])) (κ.ext 0 (sx1_st_binnacleref00_compare_0.build []))) i
  | _ => false
def an_q66 (N_ : Nat) : Nat -> Option Ann := fun b_ => cond (b_ == 0) (some ⟨⟨[0, 1, 5], [], []⟩, [(0, ⟨[], [], []⟩)], some ⟨[4], [], []⟩, some (mkHooks [(sh_st_binnacleref00_compare_0, hk_st_binnacleref00_compare_0 N_)])⟩) (none)
theorem eq_st_binnacleref00_compare_0 (N_ : Nat) (κ : K) (a_1 : List Int) (b_1 : List Int) (i : Int) : iter N_ (fun s k => codeV ⟨Pg, ofList [], isref, N_⟩ 0 (an_q66 N_) (lp Pg 181 0).2 (lp Pg 181 0).1 s (roundK Pg 0 ((an_q66 N_) (lp Pg 181 0).1) κ k)) (sh_st_binnacleref00_compare_0.build [.ints a_1, .ints b_1, .int i]) = iterG N_ (st_q205 N_ a_1 b_1 (fun r0 => κ.ret (sx0_st_binnacleref00_compare_0.build [.int r0])) (κ.ext 0 (sx1_st_binnacleref00_compare_0.build []))) i :=
  iter_tr (fun v_ => sh_st_binnacleref00_compare_0.build [.ints a_1, .ints b_1, .int v_]) (fun v_ K_ => by kernel_rfl) N_ i
theorem hk1_st_binnacleref00_compare_0 (N_ : Nat) : HookFor ⟨Pg, ofList [], isref, N_⟩ 0 (an_q66 N_) (lp Pg 181 0) (sh_st_binnacleref00_compare_0, hk_st_binnacleref00_compare_0 N_) := by
  intro a κ h
  simp only at h
  unfold hk_st_binnacleref00_compare_0 at h
  split at h
  · exact (eq_st_binnacleref00_compare_0 _ _ _ _ _).trans h
  · cases h
theorem ho_binnacleref00_compare_0 (N_ : Nat) : HookOk ⟨Pg, ofList [], isref, N_⟩ 0 (an_q66 N_) (lp Pg 181 0) :=
  hooks_ok [(sh_st_binnacleref00_compare_0, hk_st_binnacleref00_compare_0 N_)] (by kernel_rfl) ⟨hk1_st_binnacleref00_compare_0 _, trivial⟩
theorem eq_q66 (N_ : Nat) (a : List Int) (b : List Int) (c_ : V -> List Blk -> Bool) : bodyZ ⟨Pg, ofList [], isref, N_⟩ (an_q66 N_) 181 (shF_q66.args [.ints a, .ints b]) [] c_ = G_q66 N_ a b (fun r0 => c_ (.int .i64 r0) []) := by kernel_rfl
theorem good_q66 (N_ : Nat) : GoodF Pg 181 (F_q66 (G_q66 N_)) := by
  refine good_fsZ (cx := ⟨Pg, ofList [], isref, N_⟩) (ofList_nil _) shF_q66 (sp_q66 (G_q66 N_)) (an_q66 N_) 1 0 (by kernel_rfl) (fun i_ hi_ => by
    match i_, hi_ with
    | 0, _ => exact ho_binnacleref00_compare_0 _
    | (q + 1), h => omega) ?_
  intro a k h
  unfold sp_q66 at h
  split at h
  · exact ⟨[], rfl, rfl, (eq_q66 _ _ _ _).trans h⟩
  · cases h

def an_q79 (N_ : Nat) (S_q95 : TS_q95) (S_q51 : TS_q51) (S_q66 : TS_q66) (S_q35 : TS_q35) : Nat -> Option Ann := fun b_ => none
theorem eq_q79 (N_ : Nat) (S_q95 : TS_q95) (S_q51 : TS_q51) (S_q66 : TS_q66) (S_q35 : TS_q35) (turn : Bool) (b : Bool) (b_1 : Bool) (b_2 : List Int) (b_3 : Bool) (b_4 : List Int) (c_ : V -> List Blk -> Bool) : bodyZ ⟨Pg, ofList [(180, (F_q95 S_q95)), (113, (F_q51 S_q51)), (181, (F_q66 S_q66)), (182, (F_q35 S_q35))], isref, N_⟩ (an_q79 N_ S_q95 S_q51 S_q66 S_q35) 145 (shF_q79.args [.bool turn, .bool b, .bool b_1, .ints b_2, .bool b_3, .ints b_4]) [⟨105, 1, .cells [.bool b, .nil]⟩, ⟨105, 1, .cells [.bool b_1, .roi .u32 b_2]⟩, ⟨105, 1, .cells [.bool b_3, .roi .u32 b_4]⟩] c_ = G_q79 N_ S_q95 S_q51 S_q66 S_q35 turn b b_1 b_2 b_3 b_4 (fun r0 r1 => c_ (.ptr 0 0) [⟨105, 1, .cells [.bool r0, .roi .u32 r1]⟩, ⟨105, 1, .cells [.bool b_1, .roi .u32 b_2]⟩, ⟨105, 1, .cells [.bool b_3, .roi .u32 b_4]⟩]) := by kernel_rfl
theorem good_q79 (N_ : Nat) (S_q95 : TS_q95) (S_q51 : TS_q51) (S_q66 : TS_q66) (S_q35 : TS_q35) (h_q95 : GoodF Pg 180 (F_q95 S_q95)) (h_q51 : GoodF Pg 113 (F_q51 S_q51)) (h_q66 : GoodF Pg 181 (F_q66 S_q66)) (h_q35 : GoodF Pg 182 (F_q35 S_q35)) : GoodF Pg 145 (F_q79 (G_q79 N_ S_q95 S_q51 S_q66 S_q35)) := by
  refine good_fsZ (cx := ⟨Pg, ofList [(180, (F_q95 S_q95)), (113, (F_q51 S_q51)), (181, (F_q66 S_q66)), (182, (F_q35 S_q35))], isref, N_⟩) (ofList_cons h_q95 (ofList_cons h_q51 (ofList_cons h_q66 (ofList_cons h_q35 (ofList_nil _))))) shF_q79 (sp_q79 (G_q79 N_ S_q95 S_q51 S_q66 S_q35)) (an_q79 N_ S_q95 S_q51 S_q66 S_q35) 0 3 (by kernel_rfl) (fun i_ hi_ => by omega) ?_
  intro a k h
  unfold sp_q79 at h
  split at h
  · exact ⟨[_, _, _], rfl, rfl, (eq_q79 _ _ _ _ _ _ _ _ _ _ _ _).trans h⟩
  · cases h

def an_q78 (N_ : Nat) (S_q79 : TS_q79) : Nat -> Option Ann := fun b_ => none
theorem eq_q78 (N_ : Nat) (S_q79 : TS_q79) (b : Bool) (b_1 : Bool) (b_2 : List Int) (b_3 : Bool) (b_4 : List Int) (c_ : V -> List Blk -> Bool) : bodyZ ⟨Pg, ofList [(145, (F_q79 S_q79))], isref, N_⟩ (an_q78 N_ S_q79) 223 (shF_q78.args [.bool b, .bool b_1, .ints b_2, .bool b_3, .ints b_4]) [⟨105, 1, .cells [.bool b, .nil]⟩, ⟨105, 1, .cells [.bool b_1, .roi .u32 b_2]⟩, ⟨105, 1, .cells [.bool b_3, .roi .u32 b_4]⟩] c_ = G_q78 N_ S_q79 b b_1 b_2 b_3 b_4 (fun r0 r1 => c_ (.ptr 0 0) [⟨105, 1, .cells [.bool r0, .roi .u32 r1]⟩, ⟨105, 1, .cells [.bool b_1, .roi .u32 b_2]⟩, ⟨105, 1, .cells [.bool b_3, .roi .u32 b_4]⟩]) := by kernel_rfl
theorem good_q78 (N_ : Nat) (S_q79 : TS_q79) (h_q79 : GoodF Pg 145 (F_q79 S_q79)) : GoodF Pg 223 (F_q78 (G_q78 N_ S_q79)) := by
  refine good_fsZ (cx := ⟨Pg, ofList [(145, (F_q79 S_q79))], isref, N_⟩) (ofList_cons h_q79 (ofList_nil _)) shF_q78 (sp_q78 (G_q78 N_ S_q79)) (an_q78 N_ S_q79) 0 3 (by kernel_rfl) (fun i_ hi_ => by omega) ?_
  intro a k h
  unfold sp_q78 at h
  split at h
  · exact ⟨[_, _, _], rfl, rfl, (eq_q78 _ _ _ _ _ _ _ _).trans h⟩
  · cases h

def an_q90 (N_ : Nat) (S_q102 : TS_q102) (S_q51 : TS_q51) : Nat -> Option Ann := fun b_ => none
theorem eq_q90 (N_ : Nat) (S_q102 : TS_q102) (S_q51 : TS_q51) (n : Int) (b : Bool) (c_ : V -> List Blk -> Bool) : bodyZ ⟨Pg, ofList [(117, (F_q102 S_q102)), (113, (F_q51 S_q51))], isref, N_⟩ (an_q90 N_ S_q102 S_q51) 175 (shF_q90.args [.int n, .bool b]) [⟨105, 1, .cells [.bool b, .nil]⟩] c_ = G_q90 N_ S_q102 S_q51 n b (fun r0 r1 => c_ (.ptr 0 0) [⟨105, 1, .cells [.bool r0, .roi .u32 r1]⟩]) := by kernel_rfl
theorem good_q90 (N_ : Nat) (S_q102 : TS_q102) (S_q51 : TS_q51) (h_q102 : GoodF Pg 117 (F_q102 S_q102)) (h_q51 : GoodF Pg 113 (F_q51 S_q51)) : GoodF Pg 175 (F_q90 (G_q90 N_ S_q102 S_q51)) := by
  refine good_fsZ (cx := ⟨Pg, ofList [(117, (F_q102 S_q102)), (113, (F_q51 S_q51))], isref, N_⟩) (ofList_cons h_q102 (ofList_cons h_q51 (ofList_nil _))) shF_q90 (sp_q90 (G_q90 N_ S_q102 S_q51)) (an_q90 N_ S_q102 S_q51) 0 1 (by kernel_rfl) (fun i_ hi_ => by omega) ?_
  intro a k h
  unfold sp_q90 at h
  split at h
  · exact ⟨[_], rfl, rfl, (eq_q90 _ _ _ _ _ _).trans h⟩
  · cases h

def an_q13 (N_ : Nat) (S_q90 : TS_q90) : Nat -> Option Ann := fun b_ => none
theorem eq_q13 (N_ : Nat) (S_q90 : TS_q90) (n : Int) (c_ : V -> List Blk -> Bool) : bodyZ ⟨Pg, ofList [(175, (F_q90 S_q90))], isref, N_⟩ (an_q13 N_ S_q90) 137 (shF_q13.args [.int n]) [] c_ = G_q13 N_ S_q90 n (fun r0 r1 => c_ (.ptr 0 0) [⟨105, 1, .cells [.bool r0, .roi .u32 r1]⟩]) := by kernel_rfl
theorem good_q13 (N_ : Nat) (S_q90 : TS_q90) (h_q90 : GoodF Pg 175 (F_q90 S_q90)) : GoodF Pg 137 (F_q13 (G_q13 N_ S_q90)) := by
  refine good_fsZ (cx := ⟨Pg, ofList [(175, (F_q90 S_q90))], isref, N_⟩) (ofList_cons h_q90 (ofList_nil _)) shF_q13 (sp_q13 (G_q13 N_ S_q90)) (an_q13 N_ S_q90) 0 0 (by kernel_rfl) (fun i_ hi_ => by omega) ?_
  intro a k h
  unfold sp_q13 at h
  split at h
  · exact ⟨[], rfl, rfl, (eq_q13 _ _ _ _).trans h⟩
  · cases h

def an_q109 (N_ : Nat) (S_q66 : TS_q66) : Nat -> Option Ann := fun b_ => none
theorem eq_q109 (N_ : Nat) (S_q66 : TS_q66) (b : Bool) (b_1 : List Int) (b_2 : Bool) (b_3 : List Int) (c_ : V -> List Blk -> Bool) : bodyZ ⟨Pg, ofList [(181, (F_q66 S_q66))], isref, N_⟩ (an_q109 N_ S_q66) 224 (shF_q109.args [.bool b, .ints b_1, .bool b_2, .ints b_3]) [⟨105, 1, .cells [.bool b, .roi .u32 b_1]⟩, ⟨105, 1, .cells [.bool b_2, .roi .u32 b_3]⟩] c_ = G_q109 N_ S_q66 b b_1 b_2 b_3 (fun r0 => c_ (.int .i64 r0) [⟨105, 1, .cells [.bool b, .roi .u32 b_1]⟩, ⟨105, 1, .cells [.bool b_2, .roi .u32 b_3]⟩]) := by kernel_rfl
theorem good_q109 (N_ : Nat) (S_q66 : TS_q66) (h_q66 : GoodF Pg 181 (F_q66 S_q66)) : GoodF Pg 224 (F_q109 (G_q109 N_ S_q66)) := by
  refine good_fsZ (cx := ⟨Pg, ofList [(181, (F_q66 S_q66))], isref, N_⟩) (ofList_cons h_q66 (ofList_nil _)) shF_q109 (sp_q109 (G_q109 N_ S_q66)) (an_q109 N_ S_q66) 0 2 (by kernel_rfl) (fun i_ hi_ => by omega) ?_
  intro a k h
  unfold sp_q109 at h
  split at h
  · exact ⟨[_, _], rfl, rfl, (eq_q109 _ _ _ _ _ _ _).trans h⟩
  · cases h

def an_q59 (N_ : Nat) (S_q110 : TS_q110) (S_q105 : TS_q105) (S_q78 : TS_q78) (S_q96 : TS_q96) (S_q13 : TS_q13) (S_q109 : TS_q109) : Nat -> Option Ann := fun b_ => none
theorem eq_q59 (N_ : Nat) (S_q110 : TS_q110) (S_q105 : TS_q105) (S_q78 : TS_q78) (S_q96 : TS_q96) (S_q13 : TS_q13) (S_q109 : TS_q109) (s : Int) (b : Bool) (b_1 : List Int) (c_ : V -> List Blk -> Bool) : bodyV ⟨Pg, ofList [(211, (F_q110 S_q110)), (146, (F_q105 S_q105)), (223, (F_q78 S_q78)), (63, (F_q96 S_q96)), (137, (F_q13 S_q13)), (224, (F_q109 S_q109))], isref, N_⟩ (an_q59 N_ S_q110 S_q105 S_q78 S_q96 S_q13 S_q109) 209 (shF_q59.args [.int s, .bool b, .ints b_1]) [⟨105, 1, .cells [.bool b, .roi .u32 b_1]⟩] c_ = G_q59 N_ S_q110 S_q105 S_q78 S_q96 S_q13 S_q109 s b b_1 (fun r0 r3 r4 => c_ (.tup [.ptr 1 0, .int .i64 r0]) [⟨105, 1, .cells [.bool b, .roi .u32 b_1]⟩, ⟨105, 1, .cells [.bool r3, .roi .u32 r4]⟩]) := by kernel_rfl
theorem good_q59 (N_ : Nat) (S_q110 : TS_q110) (S_q105 : TS_q105) (S_q78 : TS_q78) (S_q96 : TS_q96) (S_q13 : TS_q13) (S_q109 : TS_q109) (h_q110 : GoodF Pg 211 (F_q110 S_q110)) (h_q105 : GoodF Pg 146 (F_q105 S_q105)) (h_q78 : GoodF Pg 223 (F_q78 S_q78)) (h_q96 : GoodF Pg 63 (F_q96 S_q96)) (h_q13 : GoodF Pg 137 (F_q13 S_q13)) (h_q109 : GoodF Pg 224 (F_q109 S_q109)) : GoodF Pg 209 (F_q59 (G_q59 N_ S_q110 S_q105 S_q78 S_q96 S_q13 S_q109)) := by
  refine good_fs (cx := ⟨Pg, ofList [(211, (F_q110 S_q110)), (146, (F_q105 S_q105)), (223, (F_q78 S_q78)), (63, (F_q96 S_q96)), (137, (F_q13 S_q13)), (224, (F_q109 S_q109))], isref, N_⟩) (ofList_cons h_q110 (ofList_cons h_q105 (ofList_cons h_q78 (ofList_cons h_q96 (ofList_cons h_q13 (ofList_cons h_q109 (ofList_nil _))))))) shF_q59 (sp_q59 (G_q59 N_ S_q110 S_q105 S_q78 S_q96 S_q13 S_q109)) (an_q59 N_ S_q110 S_q105 S_q78 S_q96 S_q13 S_q109) 0 1 (by kernel_rfl) (fun i_ hi_ => by omega) ?_
  intro a k h
  unfold sp_q59 at h
  split at h
  · exact ⟨[_], rfl, rfl, (eq_q59 _ _ _ _ _ _ _ _ _ _ _).trans h⟩
  · cases h

def an_q124 (N_ : Nat) (S_q35 : TS_q35) : Nat -> Option Ann := fun b_ => none
def ls_q198 (d_ : List V) (u_ : List (Option Blk)) (i : Int) (b : Bool) (b_1 : List Int) (b_3 : Int) : St := ⟨[.ptr 0 0, (dq d_ 0), (dq d_ 1), (dq d_ 2), (dq d_ 3), (dq d_ 4), .int .u32 b_3, (dq d_ 5), (dq d_ 6), (dq d_ 7), (dq d_ 8), (dq d_ 9), (dq d_ 10), (dq d_ 11), (dq d_ 12), (dq d_ 13), (dq d_ 14), (dq d_ 15), (dq d_ 16), (dq d_ 17), (dq d_ 18), (dq d_ 19), (dq d_ 20), (dq d_ 21), (dq d_ 22), (dq d_ 23), (dq d_ 24), (dq d_ 25), (dq d_ 26), (dq d_ 27), (dq d_ 28), (dq d_ 29), (dq d_ 30), (dq d_ 31), (dq d_ 32), (dq d_ 33), (dq d_ 34), (dq d_ 35), (dq d_ 36), (dq d_ 37), (dq d_ 38)], [some ⟨105, 1, .cells [.bool b, .roi .u32 b_1]⟩]⟩
def ls_q195 (d_ : List V) (u_ : List (Option Blk)) (i : Int) (b : Bool) (b_1 : List Int) : St := ⟨[.ptr 0 0, .int .i64 i, (dq d_ 0), (dq d_ 1), (dq d_ 2), .roi .u32 b_1, (dq d_ 3), (dq d_ 4), (dq d_ 5), (dq d_ 6), (dq d_ 7), (dq d_ 8), (dq d_ 9), (dq d_ 10), (dq d_ 11), (dq d_ 12), (dq d_ 13), (dq d_ 14), (dq d_ 15), (dq d_ 16), (dq d_ 17), (dq d_ 18), (dq d_ 19), (dq d_ 20), (dq d_ 21), (dq d_ 22), (dq d_ 23), (dq d_ 24), (dq d_ 25), (dq d_ 26), (dq d_ 27), (dq d_ 28), (dq d_ 29), (dq d_ 30), (dq d_ 31), (dq d_ 32), (dq d_ 33), (dq d_ 34), (dq d_ 35), (dq d_ 36), (dq d_ 37)], [some ⟨105, 1, .cells [.bool b, .roi .u32 b_1]⟩]⟩
def ls_q206 (d_ : List V) (u_ : List (Option Blk)) (i : Int) (b : Bool) (b_1 : List Int) (b_2 : Int) : St := ⟨[.ptr 0 0, (dq d_ 0), (dq d_ 1), (dq d_ 2), (dq d_ 3), (dq d_ 4), .int .u32 b_2, (dq d_ 5), (dq d_ 6), (dq d_ 7), (dq d_ 8), (dq d_ 9), (dq d_ 10), (dq d_ 11), (dq d_ 12), (dq d_ 13), (dq d_ 14), (dq d_ 15), (dq d_ 16), (dq d_ 17), (dq d_ 18), (dq d_ 19), (dq d_ 20), (dq d_ 21), (dq d_ 22), (dq d_ 23), (dq d_ 24), (dq d_ 25), (dq d_ 26), (dq d_ 27), (dq d_ 28), (dq d_ 29), (dq d_ 30), (dq d_ 31), (dq d_ 32), (dq d_ 33), (dq d_ 34), (dq d_ 35), (dq d_ 36), (dq d_ 37), (dq d_ 38)], [some ⟨105, 1, .cells [.bool b, .roi .u32 b_1]⟩, (u_.getD 0 none)]⟩
def ls_q197 (d_ : List V) (u_ : List (Option Blk)) (i : Int) (b : Bool) (b_1 : List Int) (m : List Int) : St := ⟨[.ptr 0 0, .int .i64 i, (dq d_ 0), (dq d_ 1), (dq d_ 2), .roi .u32 m, (dq d_ 3), (dq d_ 4), (dq d_ 5), (dq d_ 6), (dq d_ 7), (dq d_ 8), (dq d_ 9), (dq d_ 10), (dq d_ 11), (dq d_ 12), (dq d_ 13), (dq d_ 14), (dq d_ 15), (dq d_ 16), (dq d_ 17), (dq d_ 18), (dq d_ 19), (dq d_ 20), (dq d_ 21), (dq d_ 22), (dq d_ 23), (dq d_ 24), (dq d_ 25), (dq d_ 26), (dq d_ 27), (dq d_ 28), (dq d_ 29), (dq d_ 30), (dq d_ 31), (dq d_ 32), (dq d_ 33), (dq d_ 34), (dq d_ 35), (dq d_ 36), (dq d_ 37)], [some ⟨105, 1, .cells [.bool b, .roi .u32 b_1]⟩, (u_.getD 0 none)]⟩
theorem jn_q198 (N_ : Nat) (S_q35 : TS_q35) (d_ : List V) (u_ : List (Option Blk)) (i : Int) (b : Bool) (b_1 : List Int) (b_3 : Int) (c_ : V -> List Blk -> Bool) : codesV ⟨Pg, ofList [(182, (F_q35 S_q35))], isref, N_⟩ 1 (an_q124 N_ S_q35) ((cds Pg 225).drop 7) 0 (ls_q198 d_ u_ i b b_1 b_3) (finZ Pg 225 1 c_) = J_q198 N_ S_q35 i b b_1 b_3 (fun r0 => c_ (.int .u64 r0) [⟨105, 1, .cells [.bool b, .roi .u32 b_1]⟩]) := by kernel_rfl
theorem hd_q195 (N_ : Nat) (S_q35 : TS_q35) (d_ : List V) (u_ : List (Option Blk)) (i : Int) (b : Bool) (b_1 : List Int) (c_ : V -> List Blk -> Bool) (κn_ : St -> Bool) : codesV ⟨Pg, ofList [(182, (F_q35 S_q35))], isref, N_⟩ 1 (an_q124 N_ S_q35) (sg Pg 225 4 3) 0 (ls_q195 d_ u_ i b b_1) { (finZ Pg 225 1 c_) with nrm := κn_ } = ((fits .i64 (Int.tdiv i 32)) && (cond (decide ((Int.tdiv i 32) < (((List.length b_1) : Nat) : Int))) ((fits .i64 (Int.tdiv i 32)) && ((inR (Int.tdiv i 32) (List.length b_1)) && ((decide (0 <= (IntKind.wrap .u64 (Int.tmod i 32)))) && (κn_ (ls_q198 [.int .i64 i, (dq d_ 0), (dq d_ 1), (dq d_ 2), .roi .u32 b_1, (dq d_ 4), (dq d_ 5), (dq d_ 6), (dq d_ 7), (dq d_ 8), (dq d_ 9), (dq d_ 10), (dq d_ 11), (dq d_ 12), (dq d_ 13), (dq d_ 14), .int .i64 i, .int .i64 (Int.tdiv i 32), .roi .u32 b_1, .int .i64 (((List.length b_1) : Nat) : Int), .bool true, .roi .u32 b_1, .int .i64 i, .int .i64 (Int.tdiv i 32), .pi .u32 b_1 (Int.toNat (Int.tdiv i 32)), .int .u32 (List.getD b_1 (Int.toNat (Int.tdiv i 32)) 0), .int .i64 i, .int .i64 (Int.tmod i 32), .int .u64 (IntKind.wrap .u64 (Int.tmod i 32)), .int .u32 (Int.fdiv (List.getD b_1 (Int.toNat (Int.tdiv i 32)) 0) (2 ^ (min (Int.toNat (IntKind.wrap .u64 (Int.tmod i 32))) 32))), .int .u32 (bitsN .and .u32 (Int.fdiv (List.getD b_1 (Int.toNat (Int.tdiv i 32)) 0) (2 ^ (min (Int.toNat (IntKind.wrap .u64 (Int.tmod i 32))) 32))) 1), (dq d_ 30), (dq d_ 31), (dq d_ 32), (dq d_ 33), (dq d_ 34), (dq d_ 35), (dq d_ 36), (dq d_ 37)] [] i b b_1 (bitsN .and .u32 (Int.fdiv (List.getD b_1 (Int.toNat (Int.tdiv i 32)) 0) (2 ^ (min (Int.toNat (IntKind.wrap .u64 (Int.tmod i 32))) 32))) 1)))))) (κn_ (ls_q198 [.int .i64 i, (dq d_ 0), (dq d_ 1), (dq d_ 2), .roi .u32 b_1, (dq d_ 4), (dq d_ 5), (dq d_ 6), (dq d_ 7), (dq d_ 8), (dq d_ 9), (dq d_ 10), (dq d_ 11), (dq d_ 12), (dq d_ 13), (dq d_ 14), .int .i64 i, .int .i64 (Int.tdiv i 32), .roi .u32 b_1, .int .i64 (((List.length b_1) : Nat) : Int), .bool false, (dq d_ 20), (dq d_ 21), (dq d_ 22), (dq d_ 23), (dq d_ 24), (dq d_ 25), (dq d_ 26), (dq d_ 27), (dq d_ 28), (dq d_ 29), (dq d_ 30), (dq d_ 31), (dq d_ 32), (dq d_ 33), (dq d_ 34), (dq d_ 35), (dq d_ 36), (dq d_ 37)] [] i b b_1 0)))) := by kernel_rfl
theorem jn_q195 (N_ : Nat) (S_q35 : TS_q35) (d_ : List V) (u_ : List (Option Blk)) (i : Int) (b : Bool) (b_1 : List Int) (c_ : V -> List Blk -> Bool) : codesV ⟨Pg, ofList [(182, (F_q35 S_q35))], isref, N_⟩ 1 (an_q124 N_ S_q35) ((cds Pg 225).drop 4) 0 (ls_q195 d_ u_ i b b_1) (finZ Pg 225 1 c_) = J_q195 N_ S_q35 i b b_1 (fun r0 => c_ (.int .u64 r0) [⟨105, 1, .cells [.bool b, .roi .u32 b_1]⟩]) := by
  rw [codesV_cut 4 3 7 rfl]
  refine (hd_q195 N_ S_q35 d_ u_ i b b_1 c_ _).trans ?_
  simp only [jn_q198]
  kernel_rfl
theorem jn_q206 (N_ : Nat) (S_q35 : TS_q35) (d_ : List V) (u_ : List (Option Blk)) (i : Int) (b : Bool) (b_1 : List Int) (b_2 : Int) (c_ : V -> List Blk -> Bool) : codesV ⟨Pg, ofList [(182, (F_q35 S_q35))], isref, N_⟩ 1 (an_q124 N_ S_q35) ((cds Pg 225).drop 7) 0 (ls_q206 d_ u_ i b b_1 b_2) (finZ Pg 225 1 c_) = J_q206 N_ S_q35 i b b_1 b_2 (fun r0 => c_ (.int .u64 r0) [⟨105, 1, .cells [.bool b, .roi .u32 b_1]⟩]) := by kernel_rfl
theorem hd_q197 (N_ : Nat) (S_q35 : TS_q35) (d_ : List V) (u_ : List (Option Blk)) (i : Int) (b : Bool) (b_1 : List Int) (m : List Int) (c_ : V -> List Blk -> Bool) (κn_ : St -> Bool) : codesV ⟨Pg, ofList [(182, (F_q35 S_q35))], isref, N_⟩ 1 (an_q124 N_ S_q35) (sg Pg 225 4 3) 0 (ls_q197 d_ u_ i b b_1 m) { (finZ Pg 225 1 c_) with nrm := κn_ } = ((fits .i64 (Int.tdiv i 32)) && (cond (decide ((Int.tdiv i 32) < (((List.length m) : Nat) : Int))) ((fits .i64 (Int.tdiv i 32)) && ((inR (Int.tdiv i 32) (List.length m)) && ((decide (0 <= (IntKind.wrap .u64 (Int.tmod i 32)))) && (κn_ (ls_q206 [.int .i64 i, (dq d_ 0), (dq d_ 1), (dq d_ 2), .roi .u32 m, (dq d_ 4), (dq d_ 5), (dq d_ 6), (dq d_ 7), (dq d_ 8), (dq d_ 9), (dq d_ 10), (dq d_ 11), (dq d_ 12), (dq d_ 13), (dq d_ 14), .int .i64 i, .int .i64 (Int.tdiv i 32), .roi .u32 m, .int .i64 (((List.length m) : Nat) : Int), .bool true, .roi .u32 m, .int .i64 i, .int .i64 (Int.tdiv i 32), .pi .u32 m (Int.toNat (Int.tdiv i 32)), .int .u32 (List.getD m (Int.toNat (Int.tdiv i 32)) 0), .int .i64 i, .int .i64 (Int.tmod i 32), .int .u64 (IntKind.wrap .u64 (Int.tmod i 32)), .int .u32 (Int.fdiv (List.getD m (Int.toNat (Int.tdiv i 32)) 0) (2 ^ (min (Int.toNat (IntKind.wrap .u64 (Int.tmod i 32))) 32))), .int .u32 (bitsN .and .u32 (Int.fdiv (List.getD m (Int.toNat (Int.tdiv i 32)) 0) (2 ^ (min (Int.toNat (IntKind.wrap .u64 (Int.tmod i 32))) 32))) 1), (dq d_ 30), (dq d_ 31), (dq d_ 32), (dq d_ 33), (dq d_ 34), (dq d_ 35), (dq d_ 36), (dq d_ 37)] [(u_.getD 0 none)] i b b_1 (bitsN .and .u32 (Int.fdiv (List.getD m (Int.toNat (Int.tdiv i 32)) 0) (2 ^ (min (Int.toNat (IntKind.wrap .u64 (Int.tmod i 32))) 32))) 1)))))) (κn_ (ls_q206 [.int .i64 i, (dq d_ 0), (dq d_ 1), (dq d_ 2), .roi .u32 m, (dq d_ 4), (dq d_ 5), (dq d_ 6), (dq d_ 7), (dq d_ 8), (dq d_ 9), (dq d_ 10), (dq d_ 11), (dq d_ 12), (dq d_ 13), (dq d_ 14), .int .i64 i, .int .i64 (Int.tdiv i 32), .roi .u32 m, .int .i64 (((List.length m) : Nat) : Int), .bool false, (dq d_ 20), (dq d_ 21), (dq d_ 22), (dq d_ 23), (dq d_ 24), (dq d_ 25), (dq d_ 26), (dq d_ 27), (dq d_ 28), (dq d_ 29), (dq d_ 30), (dq d_ 31), (dq d_ 32), (dq d_ 33), (dq d_ 34), (dq d_ 35), (dq d_ 36), (dq d_ 37)] [(u_.getD 0 none)] i b b_1 0)))) := by kernel_rfl
theorem jn_q197 (N_ : Nat) (S_q35 : TS_q35) (d_ : List V) (u_ : List (Option Blk)) (i : Int) (b : Bool) (b_1 : List Int) (m : List Int) (c_ : V -> List Blk -> Bool) : codesV ⟨Pg, ofList [(182, (F_q35 S_q35))], isref, N_⟩ 1 (an_q124 N_ S_q35) ((cds Pg 225).drop 4) 0 (ls_q197 d_ u_ i b b_1 m) (finZ Pg 225 1 c_) = J_q197 N_ S_q35 i b b_1 m (fun r0 => c_ (.int .u64 r0) [⟨105, 1, .cells [.bool b, .roi .u32 b_1]⟩]) := by
  rw [codesV_cut 4 3 7 rfl]
  refine (hd_q197 N_ S_q35 d_ u_ i b b_1 m c_ _).trans ?_
  simp only [jn_q206]
  kernel_rfl
theorem hd_zi_Bit_p0r_w (N_ : Nat) (S_q35 : TS_q35) (i : Int) (b : Bool) (b_1 : List Int) (c_ : V -> List Blk -> Bool) (κn_ : St -> Bool) : codesV ⟨Pg, ofList [(182, (F_q35 S_q35))], isref, N_⟩ 1 (an_q124 N_ S_q35) (sg Pg 225 0 4) 0 (st0 Pg 225 (shF_q124.args [.int i, .bool b, .ints b_1]) [⟨105, 1, .cells [.bool b, .roi .u32 b_1]⟩]) { (finZ Pg 225 1 c_) with nrm := κn_ } = (cond b (S_q35 b_1 [1] (fun nsr => (κn_ (ls_q197 [.any, .any, .int .u64 0, .any, .ptr 0 0, .ptr 0 0, .ptr 0 1, .roi .u32 b_1, .ptr 0 0, .ptr 0 0, .ptr 0 0, .bool true, .roi .u32 b_1, .slw 1, .roi .u32 nsr, .any, .any, .any, .any, .any, .any, .any, .any, .any, .any, .any, .any, .any, .any, .any, .any, .any, .any, .any, .any, .any, .any, .any] [none] i b b_1 nsr)))) (κn_ (ls_q195 [.any, .any, .int .u64 0, .any, .ptr 0 0, .ptr 0 0, .ptr 0 1, .roi .u32 b_1, .ptr 0 0, .ptr 0 0, .ptr 0 0, .bool false, .any, .any, .any, .any, .any, .any, .any, .any, .any, .any, .any, .any, .any, .any, .any, .any, .any, .any, .any, .any, .any, .any, .any, .any, .any, .any] [] i b b_1))) := by kernel_rfl
theorem jn_zi_Bit_p0r_w (N_ : Nat) (S_q35 : TS_q35) (i : Int) (b : Bool) (b_1 : List Int) (c_ : V -> List Blk -> Bool) : codesV ⟨Pg, ofList [(182, (F_q35 S_q35))], isref, N_⟩ 1 (an_q124 N_ S_q35) ((cds Pg 225).drop 0) 0 (st0 Pg 225 (shF_q124.args [.int i, .bool b, .ints b_1]) [⟨105, 1, .cells [.bool b, .roi .u32 b_1]⟩]) (finZ Pg 225 1 c_) = G_q124 N_ S_q35 i b b_1 (fun r0 => c_ (.int .u64 r0) [⟨105, 1, .cells [.bool b, .roi .u32 b_1]⟩]) := by
  rw [codesV_cut 0 4 4 rfl]
  refine (hd_zi_Bit_p0r_w N_ S_q35 i b b_1 c_ _).trans ?_
  simp only [jn_q197, jn_q195]
  kernel_rfl
theorem eq_q124 (N_ : Nat) (S_q35 : TS_q35) (i : Int) (b : Bool) (b_1 : List Int) (c_ : V -> List Blk -> Bool) : bodyZ ⟨Pg, ofList [(182, (F_q35 S_q35))], isref, N_⟩ (an_q124 N_ S_q35) 225 (shF_q124.args [.int i, .bool b, .ints b_1]) [⟨105, 1, .cells [.bool b, .roi .u32 b_1]⟩] c_ = G_q124 N_ S_q35 i b b_1 (fun r0 => c_ (.int .u64 r0) [⟨105, 1, .cells [.bool b, .roi .u32 b_1]⟩]) :=
  (bodyZ_codes (by kernel_rfl)).trans (jn_zi_Bit_p0r_w N_ S_q35 i b b_1 c_)
theorem good_q124 (N_ : Nat) (S_q35 : TS_q35) (h_q35 : GoodF Pg 182 (F_q35 S_q35)) : GoodF Pg 225 (F_q124 (G_q124 N_ S_q35)) := by
  refine good_fsZ (cx := ⟨Pg, ofList [(182, (F_q35 S_q35))], isref, N_⟩) (ofList_cons h_q35 (ofList_nil _)) shF_q124 (sp_q124 (G_q124 N_ S_q35)) (an_q124 N_ S_q35) 0 1 (by kernel_rfl) (fun i_ hi_ => by omega) ?_
  intro a k h
  unfold sp_q124 at h
  split at h
  · exact ⟨[_], rfl, rfl, (eq_q124 _ _ _ _ _ _).trans h⟩
  · cases h

def an_q23 (N_ : Nat) (S_q124 : TS_q124) : Nat -> Option Ann := fun b_ => none
theorem eq_q23 (N_ : Nat) (S_q124 : TS_q124) (neg : Bool) (c : Int) (b : Bool) (b_1 : List Int) (c_ : V -> List Blk -> Bool) : bodyV ⟨Pg, ofList [(225, (F_q124 S_q124))], isref, N_⟩ (an_q23 N_ S_q124) 210 (shF_q23.args [.bool neg, .int c, .bool b, .ints b_1]) [⟨105, 1, .cells [.bool b, .roi .u32 b_1]⟩] c_ = G_q23 N_ S_q124 neg c b b_1 (fun r0 => c_ (.bool r0) [⟨105, 1, .cells [.bool b, .roi .u32 b_1]⟩]) := by kernel_rfl
theorem good_q23 (N_ : Nat) (S_q124 : TS_q124) (h_q124 : GoodF Pg 225 (F_q124 S_q124)) : GoodF Pg 210 (F_q23 (G_q23 N_ S_q124)) := by
  refine good_fs (cx := ⟨Pg, ofList [(225, (F_q124 S_q124))], isref, N_⟩) (ofList_cons h_q124 (ofList_nil _)) shF_q23 (sp_q23 (G_q23 N_ S_q124)) (an_q23 N_ S_q124) 0 1 (by kernel_rfl) (fun i_ hi_ => by omega) ?_
  intro a k h
  unfold sp_q23 at h
  split at h
  · exact ⟨[_], rfl, rfl, (eq_q23 _ _ _ _ _ _ _).trans h⟩
  · cases h

def an_q87 (N_ : Nat) (S_q95 : TS_q95) (S_q62 : TS_q62) (S_q66 : TS_q66) (S_q35 : TS_q35) : Nat -> Option Ann := fun b_ => none
theorem eq_q87 (N_ : Nat) (S_q95 : TS_q95) (S_q62 : TS_q62) (S_q66 : TS_q66) (S_q35 : TS_q35) (turn : Bool) (b : Bool) (b_1 : List Int) (b_2 : Bool) (b_3 : List Int) (c_ : V -> List Blk -> Bool) : bodyZ ⟨Pg, ofList [(180, (F_q95 S_q95)), (113, (F_q62 S_q62)), (181, (F_q66 S_q66)), (182, (F_q35 S_q35))], isref, N_⟩ (an_q87 N_ S_q95 S_q62 S_q66 S_q35) 145 (shF_q87.args [.bool turn, .bool b, .ints b_1, .bool b_2, .ints b_3]) [⟨105, 1, .cells [.bool b, .roi .u32 b_1]⟩, ⟨105, 1, .cells [.bool b_2, .roi .u32 b_3]⟩] c_ = G_q87 N_ S_q95 S_q62 S_q66 S_q35 turn b b_1 b_2 b_3 (fun r0 r1 => c_ (.ptr 0 0) [⟨105, 1, .cells [.bool r0, .roi .u32 r1]⟩, ⟨105, 1, .cells [.bool b_2, .roi .u32 b_3]⟩]) := by kernel_rfl
theorem good_q87 (N_ : Nat) (S_q95 : TS_q95) (S_q62 : TS_q62) (S_q66 : TS_q66) (S_q35 : TS_q35) (h_q95 : GoodF Pg 180 (F_q95 S_q95)) (h_q62 : GoodF Pg 113 (F_q62 S_q62)) (h_q66 : GoodF Pg 181 (F_q66 S_q66)) (h_q35 : GoodF Pg 182 (F_q35 S_q35)) : GoodF Pg 145 (F_q87 (G_q87 N_ S_q95 S_q62 S_q66 S_q35)) := by
  refine good_fsZ (cx := ⟨Pg, ofList [(180, (F_q95 S_q95)), (113, (F_q62 S_q62)), (181, (F_q66 S_q66)), (182, (F_q35 S_q35))], isref, N_⟩) (ofList_cons h_q95 (ofList_cons h_q62 (ofList_cons h_q66 (ofList_cons h_q35 (ofList_nil _))))) shF_q87 (sp_q87 (G_q87 N_ S_q95 S_q62 S_q66 S_q35)) (an_q87 N_ S_q95 S_q62 S_q66 S_q35) 0 2 (by kernel_rfl) (fun i_ hi_ => by omega) ?_
  intro a k h
  unfold sp_q87 at h
  split at h
  · exact ⟨[_, _], rfl, rfl, (eq_q87 _ _ _ _ _ _ _ _ _ _ _).trans h⟩
  · cases h

def an_q2 (N_ : Nat) (S_q87 : TS_q87) : Nat -> Option Ann := fun b_ => none
theorem eq_q2 (N_ : Nat) (S_q87 : TS_q87) (b : Bool) (b_1 : List Int) (b_2 : Bool) (b_3 : List Int) (c_ : V -> List Blk -> Bool) : bodyZ ⟨Pg, ofList [(145, (F_q87 S_q87))], isref, N_⟩ (an_q2 N_ S_q87) 111 (shF_q2.args [.bool b, .ints b_1, .bool b_2, .ints b_3]) [⟨105, 1, .cells [.bool b, .roi .u32 b_1]⟩, ⟨105, 1, .cells [.bool b_2, .roi .u32 b_3]⟩] c_ = G_q2 N_ S_q87 b b_1 b_2 b_3 (fun r0 r1 => c_ (.ptr 0 0) [⟨105, 1, .cells [.bool r0, .roi .u32 r1]⟩, ⟨105, 1, .cells [.bool b_2, .roi .u32 b_3]⟩]) := by kernel_rfl
theorem good_q2 (N_ : Nat) (S_q87 : TS_q87) (h_q87 : GoodF Pg 145 (F_q87 S_q87)) : GoodF Pg 111 (F_q2 (G_q2 N_ S_q87)) := by
  refine good_fsZ (cx := ⟨Pg, ofList [(145, (F_q87 S_q87))], isref, N_⟩) (ofList_cons h_q87 (ofList_nil _)) shF_q2 (sp_q2 (G_q2 N_ S_q87)) (an_q2 N_ S_q87) 0 2 (by kernel_rfl) (fun i_ hi_ => by omega) ?_
  intro a k h
  unfold sp_q2 at h
  split at h
  · exact ⟨[_, _], rfl, rfl, (eq_q2 _ _ _ _ _ _ _).trans h⟩
  · cases h

def an_q9 (N_ : Nat) (S_q118 : TS_q118) (S_q62 : TS_q62) (S_q35 : TS_q35) (S_q95 : TS_q95) : Nat -> Option Ann := fun b_ => none
theorem eq_q9 (N_ : Nat) (S_q118 : TS_q118) (S_q62 : TS_q62) (S_q35 : TS_q35) (S_q95 : TS_q95) (n : Int) (b : Bool) (b_1 : List Int) (c_ : V -> List Blk -> Bool) : bodyZ ⟨Pg, ofList [(226, (F_q118 S_q118)), (113, (F_q62 S_q62)), (182, (F_q35 S_q35)), (180, (F_q95 S_q95))], isref, N_⟩ (an_q9 N_ S_q118 S_q62 S_q35 S_q95) 211 (shF_q9.args [.int n, .bool b, .ints b_1]) [⟨105, 1, .cells [.bool b, .roi .u32 b_1]⟩] c_ = G_q9 N_ S_q118 S_q62 S_q35 S_q95 n b b_1 (fun r0 r1 => c_ (.ptr 0 0) [⟨105, 1, .cells [.bool r0, .roi .u32 r1]⟩]) := by kernel_rfl
theorem good_q9 (N_ : Nat) (S_q118 : TS_q118) (S_q62 : TS_q62) (S_q35 : TS_q35) (S_q95 : TS_q95) (h_q118 : GoodF Pg 226 (F_q118 S_q118)) (h_q62 : GoodF Pg 113 (F_q62 S_q62)) (h_q35 : GoodF Pg 182 (F_q35 S_q35)) (h_q95 : GoodF Pg 180 (F_q95 S_q95)) : GoodF Pg 211 (F_q9 (G_q9 N_ S_q118 S_q62 S_q35 S_q95)) := by
  refine good_fsZ (cx := ⟨Pg, ofList [(226, (F_q118 S_q118)), (113, (F_q62 S_q62)), (182, (F_q35 S_q35)), (180, (F_q95 S_q95))], isref, N_⟩) (ofList_cons h_q118 (ofList_cons h_q62 (ofList_cons h_q35 (ofList_cons h_q95 (ofList_nil _))))) shF_q9 (sp_q9 (G_q9 N_ S_q118 S_q62 S_q35 S_q95)) (an_q9 N_ S_q118 S_q62 S_q35 S_q95) 0 1 (by kernel_rfl) (fun i_ hi_ => by omega) ?_
  intro a k h
  unfold sp_q9 at h
  split at h
  · exact ⟨[_], rfl, rfl, (eq_q9 _ _ _ _ _ _ _ _ _).trans h⟩
  · cases h

def an_q58 (N_ : Nat) (S_q101 : TS_q101) : Nat -> Option Ann := fun b_ => none
theorem eq_q58 (N_ : Nat) (S_q101 : TS_q101) (neg : Bool) (c_ : V -> List Blk -> Bool) : bodyV ⟨Pg, ofList [(185, (F_q101 S_q101))], isref, N_⟩ (an_q58 N_ S_q101) 212 (shF_q58.args [.bool neg]) [] c_ = G_q58 N_ S_q101 neg (fun r0 => c_ (.int .u64 r0) []) := by kernel_rfl
theorem good_q58 (N_ : Nat) (S_q101 : TS_q101) (h_q101 : GoodF Pg 185 (F_q101 S_q101)) : GoodF Pg 212 (F_q58 (G_q58 N_ S_q101)) := by
  refine good_fs (cx := ⟨Pg, ofList [(185, (F_q101 S_q101))], isref, N_⟩) (ofList_cons h_q101 (ofList_nil _)) shF_q58 (sp_q58 (G_q58 N_ S_q101)) (an_q58 N_ S_q101) 0 0 (by kernel_rfl) (fun i_ hi_ => by omega) ?_
  intro a k h
  unfold sp_q58 at h
  split at h
  · exact ⟨[], rfl, rfl, (eq_q58 _ _ _ _).trans h⟩
  · cases h

def an_q6 (N_ : Nat) : Nat -> Option Ann := fun b_ => none
def ls_q191 (d_ : List V) (u_ : List (Option Blk)) (b : Bool) (b_1 : List Int) (u : Int) : St := ⟨[.ptr 0 0, (dq d_ 0), (dq d_ 1), .int .u64 u, (dq d_ 2), (dq d_ 3), (dq d_ 4), (dq d_ 5), (dq d_ 6), (dq d_ 7), (dq d_ 8), (dq d_ 9), (dq d_ 10), (dq d_ 11), (dq d_ 12), (dq d_ 13), (dq d_ 14), (dq d_ 15), (dq d_ 16), (dq d_ 17), (dq d_ 18), (dq d_ 19), (dq d_ 20), (dq d_ 21), (dq d_ 22), (dq d_ 23), (dq d_ 24), (dq d_ 25), (dq d_ 26), (dq d_ 27), (dq d_ 28), (dq d_ 29), (dq d_ 30), (dq d_ 31)], [some ⟨105, 1, .cells [.bool b, .roi .u32 b_1]⟩]⟩
theorem jn_q191 (N_ : Nat) (d_ : List V) (u_ : List (Option Blk)) (b : Bool) (b_1 : List Int) (u : Int) (c_ : V -> List Blk -> Bool) : codesV ⟨Pg, ofList [], isref, N_⟩ 1 (an_q6 N_) ((cds Pg 213).drop 4) 0 (ls_q191 d_ u_ b b_1 u) (finZ Pg 213 1 c_) = J_q191 N_ b b_1 u (fun r0 => c_ (.int .u64 r0) [⟨105, 1, .cells [.bool b, .roi .u32 b_1]⟩]) := by kernel_rfl
theorem hd_zi_Uint64_p0r_w (N_ : Nat) (b : Bool) (b_1 : List Int) (c_ : V -> List Blk -> Bool) (κn_ : St -> Bool) : codesV ⟨Pg, ofList [], isref, N_⟩ 1 (an_q6 N_) (sg Pg 213 0 4) 0 (st0 Pg 213 (shF_q6.args [.bool b, .ints b_1]) [⟨105, 1, .cells [.bool b, .roi .u32 b_1]⟩]) { (finZ Pg 213 1 c_) with nrm := κn_ } = (cond (decide ((((List.length b_1) : Nat) : Int) > 0)) ((inR 0 (List.length b_1)) && (κn_ (ls_q191 [.any, .int .u64 0, .ptr 0 0, .ptr 0 0, .ptr 0 1, .roi .u32 b_1, .int .i64 (((List.length b_1) : Nat) : Int), .bool true, .ptr 0 0, .ptr 0 0, .ptr 0 1, .roi .u32 b_1, .pi .u32 b_1 0, .int .u32 (List.getD b_1 0 0), .int .u64 (IntKind.wrap .u64 (List.getD b_1 0 0)), .any, .any, .any, .any, .any, .any, .any, .any, .any, .any, .any, .any, .any, .any, .any, .any, .any] [] b b_1 (IntKind.wrap .u64 (List.getD b_1 0 0))))) (κn_ (ls_q191 [.any, .int .u64 0, .ptr 0 0, .ptr 0 0, .ptr 0 1, .roi .u32 b_1, .int .i64 (((List.length b_1) : Nat) : Int), .bool false, .any, .any, .any, .any, .any, .any, .any, .any, .any, .any, .any, .any, .any, .any, .any, .any, .any, .any, .any, .any, .any, .any, .any, .any] [] b b_1 0))) := by kernel_rfl
theorem jn_zi_Uint64_p0r_w (N_ : Nat) (b : Bool) (b_1 : List Int) (c_ : V -> List Blk -> Bool) : codesV ⟨Pg, ofList [], isref, N_⟩ 1 (an_q6 N_) ((cds Pg 213).drop 0) 0 (st0 Pg 213 (shF_q6.args [.bool b, .ints b_1]) [⟨105, 1, .cells [.bool b, .roi .u32 b_1]⟩]) (finZ Pg 213 1 c_) = G_q6 N_ b b_1 (fun r0 => c_ (.int .u64 r0) [⟨105, 1, .cells [.bool b, .roi .u32 b_1]⟩]) := by
  rw [codesV_cut 0 4 4 rfl]
  refine (hd_zi_Uint64_p0r_w N_ b b_1 c_ _).trans ?_
  simp only [jn_q191]
  kernel_rfl
theorem eq_q6 (N_ : Nat) (b : Bool) (b_1 : List Int) (c_ : V -> List Blk -> Bool) : bodyZ ⟨Pg, ofList [], isref, N_⟩ (an_q6 N_) 213 (shF_q6.args [.bool b, .ints b_1]) [⟨105, 1, .cells [.bool b, .roi .u32 b_1]⟩] c_ = G_q6 N_ b b_1 (fun r0 => c_ (.int .u64 r0) [⟨105, 1, .cells [.bool b, .roi .u32 b_1]⟩]) :=
  (bodyZ_codes (by kernel_rfl)).trans (jn_zi_Uint64_p0r_w N_ b b_1 c_)
theorem good_q6 (N_ : Nat) : GoodF Pg 213 (F_q6 (G_q6 N_)) := by
  refine good_fsZ (cx := ⟨Pg, ofList [], isref, N_⟩) (ofList_nil _) shF_q6 (sp_q6 (G_q6 N_)) (an_q6 N_) 0 1 (by kernel_rfl) (fun i_ hi_ => by omega) ?_
  intro a k h
  unfold sp_q6 at h
  split at h
  · exact ⟨[_], rfl, rfl, (eq_q6 _ _ _ _).trans h⟩
  · cases h

end Go.Proofs.YtccocdgimamdhaaGreatDoor
