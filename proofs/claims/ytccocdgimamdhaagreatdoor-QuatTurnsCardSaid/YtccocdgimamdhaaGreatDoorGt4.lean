/-
  THE TIES: each printed meaning is what the program does (written by program).
  Conditions: none.
-/
import Derived.Test.YtccocdgimamdhaaGreatDoorGs
namespace Go.Proofs.YtccocdgimamdhaaGreatDoor
open Go Go.Mach Go.Proofs
set_option linter.unusedVariables false
set_option maxRecDepth 50000

def sh_st_binnacleref00_plus_0 : StSh := ⟨[.roi .u32, .roi .u32, .any, .any, .any, .any, .slw 0, .int .u64, .int .i64, .any, .any, .any, .any, .any, .any, .any, .any, .any, .any, .any, .any, .any, .any, .any, .any, .any, .any, .any, .any, .any, .any, .any, .any, .any, .any, .any, .any, .any, .any, .any, .any, .any, .any, .any, .any, .any, .any, .any, .any, .any, .any, .any, .any, .any, .any, .any, .any, .any, .any, .any, .any], [some (127, 1, .ints .u32)]⟩
def sx0_st_binnacleref00_plus_0 : StSh := ⟨[.roi .u32, .any, .any, .any, .any, .any, .slw 0, .int .u64, .any, .any, .any, .any, .any, .any, .any, .any, .any, .any, .any, .any, .any, .any, .any, .any, .any, .any, .any, .any, .any, .any, .any, .any, .any, .any, .any, .any, .any, .any, .any, .any, .any, .any, .any, .any, .any, .any, .any, .any, .any, .any, .any, .any, .any, .any, .any, .any, .any, .any, .any, .any, .any], [some (127, 1, .ints .u32)]⟩
def hk_st_binnacleref00_plus_0 (N_ : Nat) (S_q21 : TS_q21) : List Atom -> K -> Bool := fun a_ κ => match a_ with
  | [.ints a_1, .ints b_1, .int carry, .int i, .ints out] => iterG N_ (st_z00_plus_0 N_ S_q21 a_1 b_1 (fun r1 r2 => κ.ext 0 (sx0_st_binnacleref00_plus_0.build [.ints a_1, .int r1, .ints r2]))) (carry, i, out)
  | _ => false
def an_q98 (N_ : Nat) (S_q21 : TS_q21) : Nat -> Option Ann := fun b_ => cond (b_ == 0) (some ⟨⟨[0, 1, 6, 7, 8], [], []⟩, [(0, ⟨[0, 6, 7], [], []⟩)], some ⟨[4], [], []⟩, some (mkHooks [(sh_st_binnacleref00_plus_0, hk_st_binnacleref00_plus_0 N_ S_q21)])⟩) (none)
theorem eq_st_binnacleref00_plus_0 (N_ : Nat) (S_q21 : TS_q21) (κ : K) (a_1 : List Int) (b_1 : List Int) (carry : Int) (i : Int) (out : List Int) : iter N_ (fun s k => codeV ⟨Pg, ofList [(147, (F_q21 S_q21))], isref, N_⟩ 0 (an_q98 N_ S_q21) (lp Pg 180 0).2 (lp Pg 180 0).1 s (roundK Pg 0 ((an_q98 N_ S_q21) (lp Pg 180 0).1) κ k)) (sh_st_binnacleref00_plus_0.build [.ints a_1, .ints b_1, .int carry, .int i, .ints out]) = iterG N_ (st_z00_plus_0 N_ S_q21 a_1 b_1 (fun r1 r2 => κ.ext 0 (sx0_st_binnacleref00_plus_0.build [.ints a_1, .int r1, .ints r2]))) (carry, i, out) :=
  iter_tr (fun (v_ : Int × Int × List Int) => sh_st_binnacleref00_plus_0.build [.ints a_1, .ints b_1, .int v_.1, .int v_.2.1, .ints v_.2.2]) (fun v_ K_ => by obtain ⟨carry, i, out⟩ := v_; kernel_rfl) N_ (carry, i, out)
theorem hk1_st_binnacleref00_plus_0 (N_ : Nat) (S_q21 : TS_q21) : HookFor ⟨Pg, ofList [(147, (F_q21 S_q21))], isref, N_⟩ 0 (an_q98 N_ S_q21) (lp Pg 180 0) (sh_st_binnacleref00_plus_0, hk_st_binnacleref00_plus_0 N_ S_q21) := by
  intro a κ h
  simp only at h
  unfold hk_st_binnacleref00_plus_0 at h
  split at h
  · exact (eq_st_binnacleref00_plus_0 _ _ _ _ _ _ _ _).trans h
  · cases h
theorem ho_binnacleref00_plus_0 (N_ : Nat) (S_q21 : TS_q21) : HookOk ⟨Pg, ofList [(147, (F_q21 S_q21))], isref, N_⟩ 0 (an_q98 N_ S_q21) (lp Pg 180 0) :=
  hooks_ok [(sh_st_binnacleref00_plus_0, hk_st_binnacleref00_plus_0 N_ S_q21)] (by kernel_rfl) ⟨hk1_st_binnacleref00_plus_0 _ _, trivial⟩
theorem eq_q98 (N_ : Nat) (S_q21 : TS_q21) (a : List Int) (b : List Int) (c_ : V -> List Blk -> Bool) : bodyZ ⟨Pg, ofList [(147, (F_q21 S_q21))], isref, N_⟩ (an_q98 N_ S_q21) 180 (shF_q98.args [.ints a, .ints b]) [] c_ = G_q98 N_ S_q21 a b (fun r0 => c_ (.roi .u32 r0) []) := by kernel_rfl
theorem good_q98 (N_ : Nat) (S_q21 : TS_q21) (h_q21 : GoodF Pg 147 (F_q21 S_q21)) : GoodF Pg 180 (F_q98 (G_q98 N_ S_q21)) := by
  refine good_fsZ (cx := ⟨Pg, ofList [(147, (F_q21 S_q21))], isref, N_⟩) (ofList_cons h_q21 (ofList_nil _)) shF_q98 (sp_q98 (G_q98 N_ S_q21)) (an_q98 N_ S_q21) 1 0 (by kernel_rfl) (fun i_ hi_ => by
    match i_, hi_ with
    | 0, _ => exact ho_binnacleref00_plus_0 _ _
    | (q + 1), h => omega) ?_
  intro a k h
  unfold sp_q98 at h
  split at h
  · exact ⟨[], rfl, rfl, (eq_q98 _ _ _ _ _).trans h⟩
  · cases h

def an_q113 (N_ : Nat) (S_q126 : TS_q126) (S_q53 : TS_q53) (S_q33 : TS_q33) (S_q98 : TS_q98) : Nat -> Option Ann := fun b_ => none
theorem eq_q113 (N_ : Nat) (S_q126 : TS_q126) (S_q53 : TS_q53) (S_q33 : TS_q33) (S_q98 : TS_q98) (n : Int) (b : Bool) (b_1 : Bool) (b_2 : List Int) (c_ : V -> List Blk -> Bool) : bodyZ ⟨Pg, ofList [(226, (F_q126 S_q126)), (113, (F_q53 S_q53)), (182, (F_q33 S_q33)), (180, (F_q98 S_q98))], isref, N_⟩ (an_q113 N_ S_q126 S_q53 S_q33 S_q98) 211 (shF_q113.args [.int n, .bool b, .bool b_1, .ints b_2]) [⟨105, 1, .cells [.bool b, .nil]⟩, ⟨105, 1, .cells [.bool b_1, .roi .u32 b_2]⟩] c_ = G_q113 N_ S_q126 S_q53 S_q33 S_q98 n b b_1 b_2 (fun r0 r1 => c_ (.ptr 0 0) [⟨105, 1, .cells [.bool r0, .roi .u32 r1]⟩, ⟨105, 1, .cells [.bool b_1, .roi .u32 b_2]⟩]) := by kernel_rfl
theorem good_q113 (N_ : Nat) (S_q126 : TS_q126) (S_q53 : TS_q53) (S_q33 : TS_q33) (S_q98 : TS_q98) (h_q126 : GoodF Pg 226 (F_q126 S_q126)) (h_q53 : GoodF Pg 113 (F_q53 S_q53)) (h_q33 : GoodF Pg 182 (F_q33 S_q33)) (h_q98 : GoodF Pg 180 (F_q98 S_q98)) : GoodF Pg 211 (F_q113 (G_q113 N_ S_q126 S_q53 S_q33 S_q98)) := by
  refine good_fsZ (cx := ⟨Pg, ofList [(226, (F_q126 S_q126)), (113, (F_q53 S_q53)), (182, (F_q33 S_q33)), (180, (F_q98 S_q98))], isref, N_⟩) (ofList_cons h_q126 (ofList_cons h_q53 (ofList_cons h_q33 (ofList_cons h_q98 (ofList_nil _))))) shF_q113 (sp_q113 (G_q113 N_ S_q126 S_q53 S_q33 S_q98)) (an_q113 N_ S_q126 S_q53 S_q33 S_q98) 0 2 (by kernel_rfl) (fun i_ hi_ => by omega) ?_
  intro a k h
  unfold sp_q113 at h
  split at h
  · exact ⟨[_, _], rfl, rfl, (eq_q113 _ _ _ _ _ _ _ _ _ _).trans h⟩
  · cases h

def an_q109 (N_ : Nat) (S_q139 : TS_q139) (S_q53 : TS_q53) : Nat -> Option Ann := fun b_ => none
theorem eq_q109 (N_ : Nat) (S_q139 : TS_q139) (S_q53 : TS_q53) (n : Int) (b : Bool) (b_1 : Bool) (b_2 : List Int) (c_ : V -> List Blk -> Bool) : bodyZ ⟨Pg, ofList [(183, (F_q139 S_q139)), (113, (F_q53 S_q53))], isref, N_⟩ (an_q109 N_ S_q139 S_q53) 146 (shF_q109.args [.int n, .bool b, .bool b_1, .ints b_2]) [⟨105, 1, .cells [.bool b, .nil]⟩, ⟨105, 1, .cells [.bool b_1, .roi .u32 b_2]⟩] c_ = G_q109 N_ S_q139 S_q53 n b b_1 b_2 (fun r0 r1 => c_ (.ptr 0 0) [⟨105, 1, .cells [.bool r0, .roi .u32 r1]⟩, ⟨105, 1, .cells [.bool b_1, .roi .u32 b_2]⟩]) := by kernel_rfl
theorem good_q109 (N_ : Nat) (S_q139 : TS_q139) (S_q53 : TS_q53) (h_q139 : GoodF Pg 183 (F_q139 S_q139)) (h_q53 : GoodF Pg 113 (F_q53 S_q53)) : GoodF Pg 146 (F_q109 (G_q109 N_ S_q139 S_q53)) := by
  refine good_fsZ (cx := ⟨Pg, ofList [(183, (F_q139 S_q139)), (113, (F_q53 S_q53))], isref, N_⟩) (ofList_cons h_q139 (ofList_cons h_q53 (ofList_nil _))) shF_q109 (sp_q109 (G_q109 N_ S_q139 S_q53)) (an_q109 N_ S_q139 S_q53) 0 2 (by kernel_rfl) (fun i_ hi_ => by omega) ?_
  intro a k h
  unfold sp_q109 at h
  split at h
  · exact ⟨[_, _], rfl, rfl, (eq_q109 _ _ _ _ _ _ _ _).trans h⟩
  · cases h

def sh_st_binnacleref00_compare_0 : StSh := ⟨[.roi .u32, .roi .u32, .any, .any, .any, .int .i64, .any, .any, .any, .any, .any, .any, .any, .any, .any, .any, .any, .any, .any, .any, .any, .any, .any, .any, .any, .any, .any, .any, .any, .any, .any, .any, .any, .any, .any, .any, .any, .any, .any, .any, .any], []⟩
def sx0_st_binnacleref00_compare_0 : StSh := ⟨[.any, .any, .any, .any, .int .i64, .any, .any, .any, .any, .any, .any, .any, .any, .any, .any, .any, .any, .any, .any, .any, .any, .any, .any, .any, .any, .any, .any, .any, .any, .any, .any, .any, .any, .any, .any, .any, .any, .any, .any, .any, .any], []⟩
def sx1_st_binnacleref00_compare_0 : StSh := ⟨[.any, .any, .any, .any, .any, .any, .any, .any, .any, .any, .any, .any, .any, .any, .any, .any, .any, .any, .any, .any, .any, .any, .any, .any, .any, .any, .any, .any, .any, .any, .any, .any, .any, .any, .any, .any, .any, .any, .any, .any, .any], []⟩
def hk_st_binnacleref00_compare_0 (N_ : Nat) : List Atom -> K -> Bool := fun a_ κ => match a_ with
  | [.ints a_1, .ints b_1, .int i] => iterG N_ (st_q212 N_ a_1 b_1 (fun r0 => κ.ret (sx0_st_binnacleref00_compare_0.build [.int r0])) (κ.ext 0 (sx1_st_binnacleref00_compare_0.build []))) i
  | _ => false
def an_q69 (N_ : Nat) : Nat -> Option Ann := fun b_ => cond (b_ == 0) (some ⟨⟨[0, 1, 5], [], []⟩, [(0, ⟨[], [], []⟩)], some ⟨[4], [], []⟩, some (mkHooks [(sh_st_binnacleref00_compare_0, hk_st_binnacleref00_compare_0 N_)])⟩) (none)
theorem eq_st_binnacleref00_compare_0 (N_ : Nat) (κ : K) (a_1 : List Int) (b_1 : List Int) (i : Int) : iter N_ (fun s k => codeV ⟨Pg, ofList [], isref, N_⟩ 0 (an_q69 N_) (lp Pg 181 0).2 (lp Pg 181 0).1 s (roundK Pg 0 ((an_q69 N_) (lp Pg 181 0).1) κ k)) (sh_st_binnacleref00_compare_0.build [.ints a_1, .ints b_1, .int i]) = iterG N_ (st_q212 N_ a_1 b_1 (fun r0 => κ.ret (sx0_st_binnacleref00_compare_0.build [.int r0])) (κ.ext 0 (sx1_st_binnacleref00_compare_0.build []))) i :=
  iter_tr (fun v_ => sh_st_binnacleref00_compare_0.build [.ints a_1, .ints b_1, .int v_]) (fun v_ K_ => by kernel_rfl) N_ i
theorem hk1_st_binnacleref00_compare_0 (N_ : Nat) : HookFor ⟨Pg, ofList [], isref, N_⟩ 0 (an_q69 N_) (lp Pg 181 0) (sh_st_binnacleref00_compare_0, hk_st_binnacleref00_compare_0 N_) := by
  intro a κ h
  simp only at h
  unfold hk_st_binnacleref00_compare_0 at h
  split at h
  · exact (eq_st_binnacleref00_compare_0 _ _ _ _ _).trans h
  · cases h
theorem ho_binnacleref00_compare_0 (N_ : Nat) : HookOk ⟨Pg, ofList [], isref, N_⟩ 0 (an_q69 N_) (lp Pg 181 0) :=
  hooks_ok [(sh_st_binnacleref00_compare_0, hk_st_binnacleref00_compare_0 N_)] (by kernel_rfl) ⟨hk1_st_binnacleref00_compare_0 _, trivial⟩
theorem eq_q69 (N_ : Nat) (a : List Int) (b : List Int) (c_ : V -> List Blk -> Bool) : bodyZ ⟨Pg, ofList [], isref, N_⟩ (an_q69 N_) 181 (shF_q69.args [.ints a, .ints b]) [] c_ = G_q69 N_ a b (fun r0 => c_ (.int .i64 r0) []) := by kernel_rfl
theorem good_q69 (N_ : Nat) : GoodF Pg 181 (F_q69 (G_q69 N_)) := by
  refine good_fsZ (cx := ⟨Pg, ofList [], isref, N_⟩) (ofList_nil _) shF_q69 (sp_q69 (G_q69 N_)) (an_q69 N_) 1 0 (by kernel_rfl) (fun i_ hi_ => by
    match i_, hi_ with
    | 0, _ => exact ho_binnacleref00_compare_0 _
    | (q + 1), h => omega) ?_
  intro a k h
  unfold sp_q69 at h
  split at h
  · exact ⟨[], rfl, rfl, (eq_q69 _ _ _ _).trans h⟩
  · cases h

def an_q82 (N_ : Nat) (S_q98 : TS_q98) (S_q53 : TS_q53) (S_q69 : TS_q69) (S_q33 : TS_q33) : Nat -> Option Ann := fun b_ => none
theorem eq_q82 (N_ : Nat) (S_q98 : TS_q98) (S_q53 : TS_q53) (S_q69 : TS_q69) (S_q33 : TS_q33) (turn : Bool) (b : Bool) (b_1 : Bool) (b_2 : List Int) (b_3 : Bool) (b_4 : List Int) (c_ : V -> List Blk -> Bool) : bodyZ ⟨Pg, ofList [(180, (F_q98 S_q98)), (113, (F_q53 S_q53)), (181, (F_q69 S_q69)), (182, (F_q33 S_q33))], isref, N_⟩ (an_q82 N_ S_q98 S_q53 S_q69 S_q33) 145 (shF_q82.args [.bool turn, .bool b, .bool b_1, .ints b_2, .bool b_3, .ints b_4]) [⟨105, 1, .cells [.bool b, .nil]⟩, ⟨105, 1, .cells [.bool b_1, .roi .u32 b_2]⟩, ⟨105, 1, .cells [.bool b_3, .roi .u32 b_4]⟩] c_ = G_q82 N_ S_q98 S_q53 S_q69 S_q33 turn b b_1 b_2 b_3 b_4 (fun r0 r1 => c_ (.ptr 0 0) [⟨105, 1, .cells [.bool r0, .roi .u32 r1]⟩, ⟨105, 1, .cells [.bool b_1, .roi .u32 b_2]⟩, ⟨105, 1, .cells [.bool b_3, .roi .u32 b_4]⟩]) := by kernel_rfl
theorem good_q82 (N_ : Nat) (S_q98 : TS_q98) (S_q53 : TS_q53) (S_q69 : TS_q69) (S_q33 : TS_q33) (h_q98 : GoodF Pg 180 (F_q98 S_q98)) (h_q53 : GoodF Pg 113 (F_q53 S_q53)) (h_q69 : GoodF Pg 181 (F_q69 S_q69)) (h_q33 : GoodF Pg 182 (F_q33 S_q33)) : GoodF Pg 145 (F_q82 (G_q82 N_ S_q98 S_q53 S_q69 S_q33)) := by
  refine good_fsZ (cx := ⟨Pg, ofList [(180, (F_q98 S_q98)), (113, (F_q53 S_q53)), (181, (F_q69 S_q69)), (182, (F_q33 S_q33))], isref, N_⟩) (ofList_cons h_q98 (ofList_cons h_q53 (ofList_cons h_q69 (ofList_cons h_q33 (ofList_nil _))))) shF_q82 (sp_q82 (G_q82 N_ S_q98 S_q53 S_q69 S_q33)) (an_q82 N_ S_q98 S_q53 S_q69 S_q33) 0 3 (by kernel_rfl) (fun i_ hi_ => by omega) ?_
  intro a k h
  unfold sp_q82 at h
  split at h
  · exact ⟨[_, _, _], rfl, rfl, (eq_q82 _ _ _ _ _ _ _ _ _ _ _ _).trans h⟩
  · cases h

def an_q81 (N_ : Nat) (S_q82 : TS_q82) : Nat -> Option Ann := fun b_ => none
theorem eq_q81 (N_ : Nat) (S_q82 : TS_q82) (b : Bool) (b_1 : Bool) (b_2 : List Int) (b_3 : Bool) (b_4 : List Int) (c_ : V -> List Blk -> Bool) : bodyZ ⟨Pg, ofList [(145, (F_q82 S_q82))], isref, N_⟩ (an_q81 N_ S_q82) 223 (shF_q81.args [.bool b, .bool b_1, .ints b_2, .bool b_3, .ints b_4]) [⟨105, 1, .cells [.bool b, .nil]⟩, ⟨105, 1, .cells [.bool b_1, .roi .u32 b_2]⟩, ⟨105, 1, .cells [.bool b_3, .roi .u32 b_4]⟩] c_ = G_q81 N_ S_q82 b b_1 b_2 b_3 b_4 (fun r0 r1 => c_ (.ptr 0 0) [⟨105, 1, .cells [.bool r0, .roi .u32 r1]⟩, ⟨105, 1, .cells [.bool b_1, .roi .u32 b_2]⟩, ⟨105, 1, .cells [.bool b_3, .roi .u32 b_4]⟩]) := by kernel_rfl
theorem good_q81 (N_ : Nat) (S_q82 : TS_q82) (h_q82 : GoodF Pg 145 (F_q82 S_q82)) : GoodF Pg 223 (F_q81 (G_q81 N_ S_q82)) := by
  refine good_fsZ (cx := ⟨Pg, ofList [(145, (F_q82 S_q82))], isref, N_⟩) (ofList_cons h_q82 (ofList_nil _)) shF_q81 (sp_q81 (G_q81 N_ S_q82)) (an_q81 N_ S_q82) 0 3 (by kernel_rfl) (fun i_ hi_ => by omega) ?_
  intro a k h
  unfold sp_q81 at h
  split at h
  · exact ⟨[_, _, _], rfl, rfl, (eq_q81 _ _ _ _ _ _ _ _).trans h⟩
  · cases h

def an_q93 (N_ : Nat) (S_q106 : TS_q106) (S_q53 : TS_q53) : Nat -> Option Ann := fun b_ => none
theorem eq_q93 (N_ : Nat) (S_q106 : TS_q106) (S_q53 : TS_q53) (n : Int) (b : Bool) (c_ : V -> List Blk -> Bool) : bodyZ ⟨Pg, ofList [(117, (F_q106 S_q106)), (113, (F_q53 S_q53))], isref, N_⟩ (an_q93 N_ S_q106 S_q53) 175 (shF_q93.args [.int n, .bool b]) [⟨105, 1, .cells [.bool b, .nil]⟩] c_ = G_q93 N_ S_q106 S_q53 n b (fun r0 r1 => c_ (.ptr 0 0) [⟨105, 1, .cells [.bool r0, .roi .u32 r1]⟩]) := by kernel_rfl
theorem good_q93 (N_ : Nat) (S_q106 : TS_q106) (S_q53 : TS_q53) (h_q106 : GoodF Pg 117 (F_q106 S_q106)) (h_q53 : GoodF Pg 113 (F_q53 S_q53)) : GoodF Pg 175 (F_q93 (G_q93 N_ S_q106 S_q53)) := by
  refine good_fsZ (cx := ⟨Pg, ofList [(117, (F_q106 S_q106)), (113, (F_q53 S_q53))], isref, N_⟩) (ofList_cons h_q106 (ofList_cons h_q53 (ofList_nil _))) shF_q93 (sp_q93 (G_q93 N_ S_q106 S_q53)) (an_q93 N_ S_q106 S_q53) 0 1 (by kernel_rfl) (fun i_ hi_ => by omega) ?_
  intro a k h
  unfold sp_q93 at h
  split at h
  · exact ⟨[_], rfl, rfl, (eq_q93 _ _ _ _ _ _).trans h⟩
  · cases h

def an_q15 (N_ : Nat) (S_q93 : TS_q93) : Nat -> Option Ann := fun b_ => none
theorem eq_q15 (N_ : Nat) (S_q93 : TS_q93) (n : Int) (c_ : V -> List Blk -> Bool) : bodyZ ⟨Pg, ofList [(175, (F_q93 S_q93))], isref, N_⟩ (an_q15 N_ S_q93) 137 (shF_q15.args [.int n]) [] c_ = G_q15 N_ S_q93 n (fun r0 r1 => c_ (.ptr 0 0) [⟨105, 1, .cells [.bool r0, .roi .u32 r1]⟩]) := by kernel_rfl
theorem good_q15 (N_ : Nat) (S_q93 : TS_q93) (h_q93 : GoodF Pg 175 (F_q93 S_q93)) : GoodF Pg 137 (F_q15 (G_q15 N_ S_q93)) := by
  refine good_fsZ (cx := ⟨Pg, ofList [(175, (F_q93 S_q93))], isref, N_⟩) (ofList_cons h_q93 (ofList_nil _)) shF_q15 (sp_q15 (G_q15 N_ S_q93)) (an_q15 N_ S_q93) 0 0 (by kernel_rfl) (fun i_ hi_ => by omega) ?_
  intro a k h
  unfold sp_q15 at h
  split at h
  · exact ⟨[], rfl, rfl, (eq_q15 _ _ _ _).trans h⟩
  · cases h

def an_q112 (N_ : Nat) (S_q69 : TS_q69) : Nat -> Option Ann := fun b_ => none
theorem eq_q112 (N_ : Nat) (S_q69 : TS_q69) (b : Bool) (b_1 : List Int) (b_2 : Bool) (b_3 : List Int) (c_ : V -> List Blk -> Bool) : bodyZ ⟨Pg, ofList [(181, (F_q69 S_q69))], isref, N_⟩ (an_q112 N_ S_q69) 224 (shF_q112.args [.bool b, .ints b_1, .bool b_2, .ints b_3]) [⟨105, 1, .cells [.bool b, .roi .u32 b_1]⟩, ⟨105, 1, .cells [.bool b_2, .roi .u32 b_3]⟩] c_ = G_q112 N_ S_q69 b b_1 b_2 b_3 (fun r0 => c_ (.int .i64 r0) [⟨105, 1, .cells [.bool b, .roi .u32 b_1]⟩, ⟨105, 1, .cells [.bool b_2, .roi .u32 b_3]⟩]) := by kernel_rfl
theorem good_q112 (N_ : Nat) (S_q69 : TS_q69) (h_q69 : GoodF Pg 181 (F_q69 S_q69)) : GoodF Pg 224 (F_q112 (G_q112 N_ S_q69)) := by
  refine good_fsZ (cx := ⟨Pg, ofList [(181, (F_q69 S_q69))], isref, N_⟩) (ofList_cons h_q69 (ofList_nil _)) shF_q112 (sp_q112 (G_q112 N_ S_q69)) (an_q112 N_ S_q69) 0 2 (by kernel_rfl) (fun i_ hi_ => by omega) ?_
  intro a k h
  unfold sp_q112 at h
  split at h
  · exact ⟨[_, _], rfl, rfl, (eq_q112 _ _ _ _ _ _ _).trans h⟩
  · cases h

def an_q60 (N_ : Nat) (S_q113 : TS_q113) (S_q109 : TS_q109) (S_q81 : TS_q81) (S_q99 : TS_q99) (S_q15 : TS_q15) (S_q112 : TS_q112) : Nat -> Option Ann := fun b_ => none
theorem eq_q60 (N_ : Nat) (S_q113 : TS_q113) (S_q109 : TS_q109) (S_q81 : TS_q81) (S_q99 : TS_q99) (S_q15 : TS_q15) (S_q112 : TS_q112) (s : Int) (b : Bool) (b_1 : List Int) (c_ : V -> List Blk -> Bool) : bodyV ⟨Pg, ofList [(211, (F_q113 S_q113)), (146, (F_q109 S_q109)), (223, (F_q81 S_q81)), (63, (F_q99 S_q99)), (137, (F_q15 S_q15)), (224, (F_q112 S_q112))], isref, N_⟩ (an_q60 N_ S_q113 S_q109 S_q81 S_q99 S_q15 S_q112) 209 (shF_q60.args [.int s, .bool b, .ints b_1]) [⟨105, 1, .cells [.bool b, .roi .u32 b_1]⟩] c_ = G_q60 N_ S_q113 S_q109 S_q81 S_q99 S_q15 S_q112 s b b_1 (fun r0 r3 r4 => c_ (.tup [.ptr 1 0, .int .i64 r0]) [⟨105, 1, .cells [.bool b, .roi .u32 b_1]⟩, ⟨105, 1, .cells [.bool r3, .roi .u32 r4]⟩]) := by kernel_rfl
theorem good_q60 (N_ : Nat) (S_q113 : TS_q113) (S_q109 : TS_q109) (S_q81 : TS_q81) (S_q99 : TS_q99) (S_q15 : TS_q15) (S_q112 : TS_q112) (h_q113 : GoodF Pg 211 (F_q113 S_q113)) (h_q109 : GoodF Pg 146 (F_q109 S_q109)) (h_q81 : GoodF Pg 223 (F_q81 S_q81)) (h_q99 : GoodF Pg 63 (F_q99 S_q99)) (h_q15 : GoodF Pg 137 (F_q15 S_q15)) (h_q112 : GoodF Pg 224 (F_q112 S_q112)) : GoodF Pg 209 (F_q60 (G_q60 N_ S_q113 S_q109 S_q81 S_q99 S_q15 S_q112)) := by
  refine good_fs (cx := ⟨Pg, ofList [(211, (F_q113 S_q113)), (146, (F_q109 S_q109)), (223, (F_q81 S_q81)), (63, (F_q99 S_q99)), (137, (F_q15 S_q15)), (224, (F_q112 S_q112))], isref, N_⟩) (ofList_cons h_q113 (ofList_cons h_q109 (ofList_cons h_q81 (ofList_cons h_q99 (ofList_cons h_q15 (ofList_cons h_q112 (ofList_nil _))))))) shF_q60 (sp_q60 (G_q60 N_ S_q113 S_q109 S_q81 S_q99 S_q15 S_q112)) (an_q60 N_ S_q113 S_q109 S_q81 S_q99 S_q15 S_q112) 0 1 (by kernel_rfl) (fun i_ hi_ => by omega) ?_
  intro a k h
  unfold sp_q60 at h
  split at h
  · exact ⟨[_], rfl, rfl, (eq_q60 _ _ _ _ _ _ _ _ _ _ _).trans h⟩
  · cases h

def an_q135 (N_ : Nat) (S_q33 : TS_q33) : Nat -> Option Ann := fun b_ => none
def ls_q206 (d_ : List V) (u_ : List (Option Blk)) (i : Int) (b : Bool) (b_1 : List Int) (b_3 : Int) : St := ⟨[.ptr 0 0, (dq d_ 0), (dq d_ 1), (dq d_ 2), (dq d_ 3), (dq d_ 4), .int .u32 b_3, (dq d_ 5), (dq d_ 6), (dq d_ 7), (dq d_ 8), (dq d_ 9), (dq d_ 10), (dq d_ 11), (dq d_ 12), (dq d_ 13), (dq d_ 14), (dq d_ 15), (dq d_ 16), (dq d_ 17), (dq d_ 18), (dq d_ 19), (dq d_ 20), (dq d_ 21), (dq d_ 22), (dq d_ 23), (dq d_ 24), (dq d_ 25), (dq d_ 26), (dq d_ 27), (dq d_ 28), (dq d_ 29), (dq d_ 30), (dq d_ 31), (dq d_ 32), (dq d_ 33), (dq d_ 34), (dq d_ 35), (dq d_ 36), (dq d_ 37), (dq d_ 38)], [some ⟨105, 1, .cells [.bool b, .roi .u32 b_1]⟩]⟩
def ls_q203 (d_ : List V) (u_ : List (Option Blk)) (i : Int) (b : Bool) (b_1 : List Int) : St := ⟨[.ptr 0 0, .int .i64 i, (dq d_ 0), (dq d_ 1), (dq d_ 2), .roi .u32 b_1, (dq d_ 3), (dq d_ 4), (dq d_ 5), (dq d_ 6), (dq d_ 7), (dq d_ 8), (dq d_ 9), (dq d_ 10), (dq d_ 11), (dq d_ 12), (dq d_ 13), (dq d_ 14), (dq d_ 15), (dq d_ 16), (dq d_ 17), (dq d_ 18), (dq d_ 19), (dq d_ 20), (dq d_ 21), (dq d_ 22), (dq d_ 23), (dq d_ 24), (dq d_ 25), (dq d_ 26), (dq d_ 27), (dq d_ 28), (dq d_ 29), (dq d_ 30), (dq d_ 31), (dq d_ 32), (dq d_ 33), (dq d_ 34), (dq d_ 35), (dq d_ 36), (dq d_ 37)], [some ⟨105, 1, .cells [.bool b, .roi .u32 b_1]⟩]⟩
def ls_q213 (d_ : List V) (u_ : List (Option Blk)) (i : Int) (b : Bool) (b_1 : List Int) (b_2 : Int) : St := ⟨[.ptr 0 0, (dq d_ 0), (dq d_ 1), (dq d_ 2), (dq d_ 3), (dq d_ 4), .int .u32 b_2, (dq d_ 5), (dq d_ 6), (dq d_ 7), (dq d_ 8), (dq d_ 9), (dq d_ 10), (dq d_ 11), (dq d_ 12), (dq d_ 13), (dq d_ 14), (dq d_ 15), (dq d_ 16), (dq d_ 17), (dq d_ 18), (dq d_ 19), (dq d_ 20), (dq d_ 21), (dq d_ 22), (dq d_ 23), (dq d_ 24), (dq d_ 25), (dq d_ 26), (dq d_ 27), (dq d_ 28), (dq d_ 29), (dq d_ 30), (dq d_ 31), (dq d_ 32), (dq d_ 33), (dq d_ 34), (dq d_ 35), (dq d_ 36), (dq d_ 37), (dq d_ 38)], [some ⟨105, 1, .cells [.bool b, .roi .u32 b_1]⟩, (u_.getD 0 none)]⟩
def ls_q205 (d_ : List V) (u_ : List (Option Blk)) (i : Int) (b : Bool) (b_1 : List Int) (m : List Int) : St := ⟨[.ptr 0 0, .int .i64 i, (dq d_ 0), (dq d_ 1), (dq d_ 2), .roi .u32 m, (dq d_ 3), (dq d_ 4), (dq d_ 5), (dq d_ 6), (dq d_ 7), (dq d_ 8), (dq d_ 9), (dq d_ 10), (dq d_ 11), (dq d_ 12), (dq d_ 13), (dq d_ 14), (dq d_ 15), (dq d_ 16), (dq d_ 17), (dq d_ 18), (dq d_ 19), (dq d_ 20), (dq d_ 21), (dq d_ 22), (dq d_ 23), (dq d_ 24), (dq d_ 25), (dq d_ 26), (dq d_ 27), (dq d_ 28), (dq d_ 29), (dq d_ 30), (dq d_ 31), (dq d_ 32), (dq d_ 33), (dq d_ 34), (dq d_ 35), (dq d_ 36), (dq d_ 37)], [some ⟨105, 1, .cells [.bool b, .roi .u32 b_1]⟩, (u_.getD 0 none)]⟩
theorem jn_q206 (N_ : Nat) (S_q33 : TS_q33) (d_ : List V) (u_ : List (Option Blk)) (i : Int) (b : Bool) (b_1 : List Int) (b_3 : Int) (c_ : V -> List Blk -> Bool) : codesV ⟨Pg, ofList [(182, (F_q33 S_q33))], isref, N_⟩ 1 (an_q135 N_ S_q33) ((cds Pg 225).drop 7) 0 (ls_q206 d_ u_ i b b_1 b_3) (finZ Pg 225 1 c_) = J_q206 N_ S_q33 i b b_1 b_3 (fun r0 => c_ (.int .u64 r0) [⟨105, 1, .cells [.bool b, .roi .u32 b_1]⟩]) := by kernel_rfl
theorem hd_q203 (N_ : Nat) (S_q33 : TS_q33) (d_ : List V) (u_ : List (Option Blk)) (i : Int) (b : Bool) (b_1 : List Int) (c_ : V -> List Blk -> Bool) (κn_ : St -> Bool) : codesV ⟨Pg, ofList [(182, (F_q33 S_q33))], isref, N_⟩ 1 (an_q135 N_ S_q33) (sg Pg 225 4 3) 0 (ls_q203 d_ u_ i b b_1) { (finZ Pg 225 1 c_) with nrm := κn_ } = ((fits .i64 (Int.tdiv i 32)) && (cond (decide ((Int.tdiv i 32) < (((List.length b_1) : Nat) : Int))) ((fits .i64 (Int.tdiv i 32)) && ((inR (Int.tdiv i 32) (List.length b_1)) && ((decide (0 <= (IntKind.wrap .u64 (Int.tmod i 32)))) && (κn_ (ls_q206 [.int .i64 i, (dq d_ 0), (dq d_ 1), (dq d_ 2), .roi .u32 b_1, (dq d_ 4), (dq d_ 5), (dq d_ 6), (dq d_ 7), (dq d_ 8), (dq d_ 9), (dq d_ 10), (dq d_ 11), (dq d_ 12), (dq d_ 13), (dq d_ 14), .int .i64 i, .int .i64 (Int.tdiv i 32), .roi .u32 b_1, .int .i64 (((List.length b_1) : Nat) : Int), .bool true, .roi .u32 b_1, .int .i64 i, .int .i64 (Int.tdiv i 32), .pi .u32 b_1 (Int.toNat (Int.tdiv i 32)), .int .u32 (List.getD b_1 (Int.toNat (Int.tdiv i 32)) 0), .int .i64 i, .int .i64 (Int.tmod i 32), .int .u64 (IntKind.wrap .u64 (Int.tmod i 32)), .int .u32 (Int.fdiv (List.getD b_1 (Int.toNat (Int.tdiv i 32)) 0) (2 ^ (min (Int.toNat (IntKind.wrap .u64 (Int.tmod i 32))) 32))), .int .u32 (bitsN .and .u32 (Int.fdiv (List.getD b_1 (Int.toNat (Int.tdiv i 32)) 0) (2 ^ (min (Int.toNat (IntKind.wrap .u64 (Int.tmod i 32))) 32))) 1), (dq d_ 30), (dq d_ 31), (dq d_ 32), (dq d_ 33), (dq d_ 34), (dq d_ 35), (dq d_ 36), (dq d_ 37)] [] i b b_1 (bitsN .and .u32 (Int.fdiv (List.getD b_1 (Int.toNat (Int.tdiv i 32)) 0) (2 ^ (min (Int.toNat (IntKind.wrap .u64 (Int.tmod i 32))) 32))) 1)))))) (κn_ (ls_q206 [.int .i64 i, (dq d_ 0), (dq d_ 1), (dq d_ 2), .roi .u32 b_1, (dq d_ 4), (dq d_ 5), (dq d_ 6), (dq d_ 7), (dq d_ 8), (dq d_ 9), (dq d_ 10), (dq d_ 11), (dq d_ 12), (dq d_ 13), (dq d_ 14), .int .i64 i, .int .i64 (Int.tdiv i 32), .roi .u32 b_1, .int .i64 (((List.length b_1) : Nat) : Int), .bool false, (dq d_ 20), (dq d_ 21), (dq d_ 22), (dq d_ 23), (dq d_ 24), (dq d_ 25), (dq d_ 26), (dq d_ 27), (dq d_ 28), (dq d_ 29), (dq d_ 30), (dq d_ 31), (dq d_ 32), (dq d_ 33), (dq d_ 34), (dq d_ 35), (dq d_ 36), (dq d_ 37)] [] i b b_1 0)))) := by kernel_rfl
theorem jn_q203 (N_ : Nat) (S_q33 : TS_q33) (d_ : List V) (u_ : List (Option Blk)) (i : Int) (b : Bool) (b_1 : List Int) (c_ : V -> List Blk -> Bool) : codesV ⟨Pg, ofList [(182, (F_q33 S_q33))], isref, N_⟩ 1 (an_q135 N_ S_q33) ((cds Pg 225).drop 4) 0 (ls_q203 d_ u_ i b b_1) (finZ Pg 225 1 c_) = J_q203 N_ S_q33 i b b_1 (fun r0 => c_ (.int .u64 r0) [⟨105, 1, .cells [.bool b, .roi .u32 b_1]⟩]) := by
  rw [codesV_cut 4 3 7 rfl]
  refine (hd_q203 N_ S_q33 d_ u_ i b b_1 c_ _).trans ?_
  simp only [jn_q206]
  kernel_rfl
theorem jn_q213 (N_ : Nat) (S_q33 : TS_q33) (d_ : List V) (u_ : List (Option Blk)) (i : Int) (b : Bool) (b_1 : List Int) (b_2 : Int) (c_ : V -> List Blk -> Bool) : codesV ⟨Pg, ofList [(182, (F_q33 S_q33))], isref, N_⟩ 1 (an_q135 N_ S_q33) ((cds Pg 225).drop 7) 0 (ls_q213 d_ u_ i b b_1 b_2) (finZ Pg 225 1 c_) = J_q213 N_ S_q33 i b b_1 b_2 (fun r0 => c_ (.int .u64 r0) [⟨105, 1, .cells [.bool b, .roi .u32 b_1]⟩]) := by kernel_rfl
theorem hd_q205 (N_ : Nat) (S_q33 : TS_q33) (d_ : List V) (u_ : List (Option Blk)) (i : Int) (b : Bool) (b_1 : List Int) (m : List Int) (c_ : V -> List Blk -> Bool) (κn_ : St -> Bool) : codesV ⟨Pg, ofList [(182, (F_q33 S_q33))], isref, N_⟩ 1 (an_q135 N_ S_q33) (sg Pg 225 4 3) 0 (ls_q205 d_ u_ i b b_1 m) { (finZ Pg 225 1 c_) with nrm := κn_ } = ((fits .i64 (Int.tdiv i 32)) && (cond (decide ((Int.tdiv i 32) < (((List.length m) : Nat) : Int))) ((fits .i64 (Int.tdiv i 32)) && ((inR (Int.tdiv i 32) (List.length m)) && ((decide (0 <= (IntKind.wrap .u64 (Int.tmod i 32)))) && (κn_ (ls_q213 [.int .i64 i, (dq d_ 0), (dq d_ 1), (dq d_ 2), .roi .u32 m, (dq d_ 4), (dq d_ 5), (dq d_ 6), (dq d_ 7), (dq d_ 8), (dq d_ 9), (dq d_ 10), (dq d_ 11), (dq d_ 12), (dq d_ 13), (dq d_ 14), .int .i64 i, .int .i64 (Int.tdiv i 32), .roi .u32 m, .int .i64 (((List.length m) : Nat) : Int), .bool true, .roi .u32 m, .int .i64 i, .int .i64 (Int.tdiv i 32), .pi .u32 m (Int.toNat (Int.tdiv i 32)), .int .u32 (List.getD m (Int.toNat (Int.tdiv i 32)) 0), .int .i64 i, .int .i64 (Int.tmod i 32), .int .u64 (IntKind.wrap .u64 (Int.tmod i 32)), .int .u32 (Int.fdiv (List.getD m (Int.toNat (Int.tdiv i 32)) 0) (2 ^ (min (Int.toNat (IntKind.wrap .u64 (Int.tmod i 32))) 32))), .int .u32 (bitsN .and .u32 (Int.fdiv (List.getD m (Int.toNat (Int.tdiv i 32)) 0) (2 ^ (min (Int.toNat (IntKind.wrap .u64 (Int.tmod i 32))) 32))) 1), (dq d_ 30), (dq d_ 31), (dq d_ 32), (dq d_ 33), (dq d_ 34), (dq d_ 35), (dq d_ 36), (dq d_ 37)] [(u_.getD 0 none)] i b b_1 (bitsN .and .u32 (Int.fdiv (List.getD m (Int.toNat (Int.tdiv i 32)) 0) (2 ^ (min (Int.toNat (IntKind.wrap .u64 (Int.tmod i 32))) 32))) 1)))))) (κn_ (ls_q213 [.int .i64 i, (dq d_ 0), (dq d_ 1), (dq d_ 2), .roi .u32 m, (dq d_ 4), (dq d_ 5), (dq d_ 6), (dq d_ 7), (dq d_ 8), (dq d_ 9), (dq d_ 10), (dq d_ 11), (dq d_ 12), (dq d_ 13), (dq d_ 14), .int .i64 i, .int .i64 (Int.tdiv i 32), .roi .u32 m, .int .i64 (((List.length m) : Nat) : Int), .bool false, (dq d_ 20), (dq d_ 21), (dq d_ 22), (dq d_ 23), (dq d_ 24), (dq d_ 25), (dq d_ 26), (dq d_ 27), (dq d_ 28), (dq d_ 29), (dq d_ 30), (dq d_ 31), (dq d_ 32), (dq d_ 33), (dq d_ 34), (dq d_ 35), (dq d_ 36), (dq d_ 37)] [(u_.getD 0 none)] i b b_1 0)))) := by kernel_rfl
theorem jn_q205 (N_ : Nat) (S_q33 : TS_q33) (d_ : List V) (u_ : List (Option Blk)) (i : Int) (b : Bool) (b_1 : List Int) (m : List Int) (c_ : V -> List Blk -> Bool) : codesV ⟨Pg, ofList [(182, (F_q33 S_q33))], isref, N_⟩ 1 (an_q135 N_ S_q33) ((cds Pg 225).drop 4) 0 (ls_q205 d_ u_ i b b_1 m) (finZ Pg 225 1 c_) = J_q205 N_ S_q33 i b b_1 m (fun r0 => c_ (.int .u64 r0) [⟨105, 1, .cells [.bool b, .roi .u32 b_1]⟩]) := by
  rw [codesV_cut 4 3 7 rfl]
  refine (hd_q205 N_ S_q33 d_ u_ i b b_1 m c_ _).trans ?_
  simp only [jn_q213]
  kernel_rfl
theorem hd_zi_Bit_p0r_w (N_ : Nat) (S_q33 : TS_q33) (i : Int) (b : Bool) (b_1 : List Int) (c_ : V -> List Blk -> Bool) (κn_ : St -> Bool) : codesV ⟨Pg, ofList [(182, (F_q33 S_q33))], isref, N_⟩ 1 (an_q135 N_ S_q33) (sg Pg 225 0 4) 0 (st0 Pg 225 (shF_q135.args [.int i, .bool b, .ints b_1]) [⟨105, 1, .cells [.bool b, .roi .u32 b_1]⟩]) { (finZ Pg 225 1 c_) with nrm := κn_ } = (cond b (S_q33 b_1 [1] (fun nsr => (κn_ (ls_q205 [.any, .any, .int .u64 0, .any, .ptr 0 0, .ptr 0 0, .ptr 0 1, .roi .u32 b_1, .ptr 0 0, .ptr 0 0, .ptr 0 0, .bool true, .roi .u32 b_1, .slw 1, .roi .u32 nsr, .any, .any, .any, .any, .any, .any, .any, .any, .any, .any, .any, .any, .any, .any, .any, .any, .any, .any, .any, .any, .any, .any, .any] [none] i b b_1 nsr)))) (κn_ (ls_q203 [.any, .any, .int .u64 0, .any, .ptr 0 0, .ptr 0 0, .ptr 0 1, .roi .u32 b_1, .ptr 0 0, .ptr 0 0, .ptr 0 0, .bool false, .any, .any, .any, .any, .any, .any, .any, .any, .any, .any, .any, .any, .any, .any, .any, .any, .any, .any, .any, .any, .any, .any, .any, .any, .any, .any] [] i b b_1))) := by kernel_rfl
theorem jn_zi_Bit_p0r_w (N_ : Nat) (S_q33 : TS_q33) (i : Int) (b : Bool) (b_1 : List Int) (c_ : V -> List Blk -> Bool) : codesV ⟨Pg, ofList [(182, (F_q33 S_q33))], isref, N_⟩ 1 (an_q135 N_ S_q33) ((cds Pg 225).drop 0) 0 (st0 Pg 225 (shF_q135.args [.int i, .bool b, .ints b_1]) [⟨105, 1, .cells [.bool b, .roi .u32 b_1]⟩]) (finZ Pg 225 1 c_) = G_q135 N_ S_q33 i b b_1 (fun r0 => c_ (.int .u64 r0) [⟨105, 1, .cells [.bool b, .roi .u32 b_1]⟩]) := by
  rw [codesV_cut 0 4 4 rfl]
  refine (hd_zi_Bit_p0r_w N_ S_q33 i b b_1 c_ _).trans ?_
  simp only [jn_q205, jn_q203]
  kernel_rfl
theorem eq_q135 (N_ : Nat) (S_q33 : TS_q33) (i : Int) (b : Bool) (b_1 : List Int) (c_ : V -> List Blk -> Bool) : bodyZ ⟨Pg, ofList [(182, (F_q33 S_q33))], isref, N_⟩ (an_q135 N_ S_q33) 225 (shF_q135.args [.int i, .bool b, .ints b_1]) [⟨105, 1, .cells [.bool b, .roi .u32 b_1]⟩] c_ = G_q135 N_ S_q33 i b b_1 (fun r0 => c_ (.int .u64 r0) [⟨105, 1, .cells [.bool b, .roi .u32 b_1]⟩]) :=
  (bodyZ_codes (by kernel_rfl)).trans (jn_zi_Bit_p0r_w N_ S_q33 i b b_1 c_)
theorem good_q135 (N_ : Nat) (S_q33 : TS_q33) (h_q33 : GoodF Pg 182 (F_q33 S_q33)) : GoodF Pg 225 (F_q135 (G_q135 N_ S_q33)) := by
  refine good_fsZ (cx := ⟨Pg, ofList [(182, (F_q33 S_q33))], isref, N_⟩) (ofList_cons h_q33 (ofList_nil _)) shF_q135 (sp_q135 (G_q135 N_ S_q33)) (an_q135 N_ S_q33) 0 1 (by kernel_rfl) (fun i_ hi_ => by omega) ?_
  intro a k h
  unfold sp_q135 at h
  split at h
  · exact ⟨[_], rfl, rfl, (eq_q135 _ _ _ _ _ _).trans h⟩
  · cases h

def an_q22 (N_ : Nat) (S_q135 : TS_q135) : Nat -> Option Ann := fun b_ => none
theorem eq_q22 (N_ : Nat) (S_q135 : TS_q135) (neg : Bool) (c : Int) (b : Bool) (b_1 : List Int) (c_ : V -> List Blk -> Bool) : bodyV ⟨Pg, ofList [(225, (F_q135 S_q135))], isref, N_⟩ (an_q22 N_ S_q135) 210 (shF_q22.args [.bool neg, .int c, .bool b, .ints b_1]) [⟨105, 1, .cells [.bool b, .roi .u32 b_1]⟩] c_ = G_q22 N_ S_q135 neg c b b_1 (fun r0 => c_ (.bool r0) [⟨105, 1, .cells [.bool b, .roi .u32 b_1]⟩]) := by kernel_rfl
theorem good_q22 (N_ : Nat) (S_q135 : TS_q135) (h_q135 : GoodF Pg 225 (F_q135 S_q135)) : GoodF Pg 210 (F_q22 (G_q22 N_ S_q135)) := by
  refine good_fs (cx := ⟨Pg, ofList [(225, (F_q135 S_q135))], isref, N_⟩) (ofList_cons h_q135 (ofList_nil _)) shF_q22 (sp_q22 (G_q22 N_ S_q135)) (an_q22 N_ S_q135) 0 1 (by kernel_rfl) (fun i_ hi_ => by omega) ?_
  intro a k h
  unfold sp_q22 at h
  split at h
  · exact ⟨[_], rfl, rfl, (eq_q22 _ _ _ _ _ _ _).trans h⟩
  · cases h

def an_q92 (N_ : Nat) (S_q98 : TS_q98) (S_q64 : TS_q64) (S_q69 : TS_q69) (S_q33 : TS_q33) : Nat -> Option Ann := fun b_ => none
theorem eq_q92 (N_ : Nat) (S_q98 : TS_q98) (S_q64 : TS_q64) (S_q69 : TS_q69) (S_q33 : TS_q33) (turn : Bool) (b : Bool) (b_1 : List Int) (b_2 : Bool) (b_3 : List Int) (c_ : V -> List Blk -> Bool) : bodyZ ⟨Pg, ofList [(180, (F_q98 S_q98)), (113, (F_q64 S_q64)), (181, (F_q69 S_q69)), (182, (F_q33 S_q33))], isref, N_⟩ (an_q92 N_ S_q98 S_q64 S_q69 S_q33) 145 (shF_q92.args [.bool turn, .bool b, .ints b_1, .bool b_2, .ints b_3]) [⟨105, 1, .cells [.bool b, .roi .u32 b_1]⟩, ⟨105, 1, .cells [.bool b_2, .roi .u32 b_3]⟩] c_ = G_q92 N_ S_q98 S_q64 S_q69 S_q33 turn b b_1 b_2 b_3 (fun r0 r1 => c_ (.ptr 0 0) [⟨105, 1, .cells [.bool r0, .roi .u32 r1]⟩, ⟨105, 1, .cells [.bool b_2, .roi .u32 b_3]⟩]) := by kernel_rfl
theorem good_q92 (N_ : Nat) (S_q98 : TS_q98) (S_q64 : TS_q64) (S_q69 : TS_q69) (S_q33 : TS_q33) (h_q98 : GoodF Pg 180 (F_q98 S_q98)) (h_q64 : GoodF Pg 113 (F_q64 S_q64)) (h_q69 : GoodF Pg 181 (F_q69 S_q69)) (h_q33 : GoodF Pg 182 (F_q33 S_q33)) : GoodF Pg 145 (F_q92 (G_q92 N_ S_q98 S_q64 S_q69 S_q33)) := by
  refine good_fsZ (cx := ⟨Pg, ofList [(180, (F_q98 S_q98)), (113, (F_q64 S_q64)), (181, (F_q69 S_q69)), (182, (F_q33 S_q33))], isref, N_⟩) (ofList_cons h_q98 (ofList_cons h_q64 (ofList_cons h_q69 (ofList_cons h_q33 (ofList_nil _))))) shF_q92 (sp_q92 (G_q92 N_ S_q98 S_q64 S_q69 S_q33)) (an_q92 N_ S_q98 S_q64 S_q69 S_q33) 0 2 (by kernel_rfl) (fun i_ hi_ => by omega) ?_
  intro a k h
  unfold sp_q92 at h
  split at h
  · exact ⟨[_, _], rfl, rfl, (eq_q92 _ _ _ _ _ _ _ _ _ _ _).trans h⟩
  · cases h

def an_q2 (N_ : Nat) (S_q92 : TS_q92) : Nat -> Option Ann := fun b_ => none
theorem eq_q2 (N_ : Nat) (S_q92 : TS_q92) (b : Bool) (b_1 : List Int) (b_2 : Bool) (b_3 : List Int) (c_ : V -> List Blk -> Bool) : bodyZ ⟨Pg, ofList [(145, (F_q92 S_q92))], isref, N_⟩ (an_q2 N_ S_q92) 111 (shF_q2.args [.bool b, .ints b_1, .bool b_2, .ints b_3]) [⟨105, 1, .cells [.bool b, .roi .u32 b_1]⟩, ⟨105, 1, .cells [.bool b_2, .roi .u32 b_3]⟩] c_ = G_q2 N_ S_q92 b b_1 b_2 b_3 (fun r0 r1 => c_ (.ptr 0 0) [⟨105, 1, .cells [.bool r0, .roi .u32 r1]⟩, ⟨105, 1, .cells [.bool b_2, .roi .u32 b_3]⟩]) := by kernel_rfl
theorem good_q2 (N_ : Nat) (S_q92 : TS_q92) (h_q92 : GoodF Pg 145 (F_q92 S_q92)) : GoodF Pg 111 (F_q2 (G_q2 N_ S_q92)) := by
  refine good_fsZ (cx := ⟨Pg, ofList [(145, (F_q92 S_q92))], isref, N_⟩) (ofList_cons h_q92 (ofList_nil _)) shF_q2 (sp_q2 (G_q2 N_ S_q92)) (an_q2 N_ S_q92) 0 2 (by kernel_rfl) (fun i_ hi_ => by omega) ?_
  intro a k h
  unfold sp_q2 at h
  split at h
  · exact ⟨[_, _], rfl, rfl, (eq_q2 _ _ _ _ _ _ _).trans h⟩
  · cases h

def an_q9 (N_ : Nat) (S_q126 : TS_q126) (S_q64 : TS_q64) (S_q33 : TS_q33) (S_q98 : TS_q98) : Nat -> Option Ann := fun b_ => none
theorem eq_q9 (N_ : Nat) (S_q126 : TS_q126) (S_q64 : TS_q64) (S_q33 : TS_q33) (S_q98 : TS_q98) (n : Int) (b : Bool) (b_1 : List Int) (c_ : V -> List Blk -> Bool) : bodyZ ⟨Pg, ofList [(226, (F_q126 S_q126)), (113, (F_q64 S_q64)), (182, (F_q33 S_q33)), (180, (F_q98 S_q98))], isref, N_⟩ (an_q9 N_ S_q126 S_q64 S_q33 S_q98) 211 (shF_q9.args [.int n, .bool b, .ints b_1]) [⟨105, 1, .cells [.bool b, .roi .u32 b_1]⟩] c_ = G_q9 N_ S_q126 S_q64 S_q33 S_q98 n b b_1 (fun r0 r1 => c_ (.ptr 0 0) [⟨105, 1, .cells [.bool r0, .roi .u32 r1]⟩]) := by kernel_rfl
theorem good_q9 (N_ : Nat) (S_q126 : TS_q126) (S_q64 : TS_q64) (S_q33 : TS_q33) (S_q98 : TS_q98) (h_q126 : GoodF Pg 226 (F_q126 S_q126)) (h_q64 : GoodF Pg 113 (F_q64 S_q64)) (h_q33 : GoodF Pg 182 (F_q33 S_q33)) (h_q98 : GoodF Pg 180 (F_q98 S_q98)) : GoodF Pg 211 (F_q9 (G_q9 N_ S_q126 S_q64 S_q33 S_q98)) := by
  refine good_fsZ (cx := ⟨Pg, ofList [(226, (F_q126 S_q126)), (113, (F_q64 S_q64)), (182, (F_q33 S_q33)), (180, (F_q98 S_q98))], isref, N_⟩) (ofList_cons h_q126 (ofList_cons h_q64 (ofList_cons h_q33 (ofList_cons h_q98 (ofList_nil _))))) shF_q9 (sp_q9 (G_q9 N_ S_q126 S_q64 S_q33 S_q98)) (an_q9 N_ S_q126 S_q64 S_q33 S_q98) 0 1 (by kernel_rfl) (fun i_ hi_ => by omega) ?_
  intro a k h
  unfold sp_q9 at h
  split at h
  · exact ⟨[_], rfl, rfl, (eq_q9 _ _ _ _ _ _ _ _ _).trans h⟩
  · cases h

def an_q59 (N_ : Nat) (S_q104 : TS_q104) : Nat -> Option Ann := fun b_ => none
theorem eq_q59 (N_ : Nat) (S_q104 : TS_q104) (neg : Bool) (c_ : V -> List Blk -> Bool) : bodyV ⟨Pg, ofList [(185, (F_q104 S_q104))], isref, N_⟩ (an_q59 N_ S_q104) 212 (shF_q59.args [.bool neg]) [] c_ = G_q59 N_ S_q104 neg (fun r0 => c_ (.int .u64 r0) []) := by kernel_rfl
theorem good_q59 (N_ : Nat) (S_q104 : TS_q104) (h_q104 : GoodF Pg 185 (F_q104 S_q104)) : GoodF Pg 212 (F_q59 (G_q59 N_ S_q104)) := by
  refine good_fs (cx := ⟨Pg, ofList [(185, (F_q104 S_q104))], isref, N_⟩) (ofList_cons h_q104 (ofList_nil _)) shF_q59 (sp_q59 (G_q59 N_ S_q104)) (an_q59 N_ S_q104) 0 0 (by kernel_rfl) (fun i_ hi_ => by omega) ?_
  intro a k h
  unfold sp_q59 at h
  split at h
  · exact ⟨[], rfl, rfl, (eq_q59 _ _ _ _).trans h⟩
  · cases h

def an_q6 (N_ : Nat) : Nat -> Option Ann := fun b_ => none
def ls_q198 (d_ : List V) (u_ : List (Option Blk)) (b : Bool) (b_1 : List Int) (u : Int) : St := ⟨[.ptr 0 0, (dq d_ 0), (dq d_ 1), .int .u64 u, (dq d_ 2), (dq d_ 3), (dq d_ 4), (dq d_ 5), (dq d_ 6), (dq d_ 7), (dq d_ 8), (dq d_ 9), (dq d_ 10), (dq d_ 11), (dq d_ 12), (dq d_ 13), (dq d_ 14), (dq d_ 15), (dq d_ 16), (dq d_ 17), (dq d_ 18), (dq d_ 19), (dq d_ 20), (dq d_ 21), (dq d_ 22), (dq d_ 23), (dq d_ 24), (dq d_ 25), (dq d_ 26), (dq d_ 27), (dq d_ 28), (dq d_ 29), (dq d_ 30), (dq d_ 31)], [some ⟨105, 1, .cells [.bool b, .roi .u32 b_1]⟩]⟩
theorem jn_q198 (N_ : Nat) (d_ : List V) (u_ : List (Option Blk)) (b : Bool) (b_1 : List Int) (u : Int) (c_ : V -> List Blk -> Bool) : codesV ⟨Pg, ofList [], isref, N_⟩ 1 (an_q6 N_) ((cds Pg 213).drop 4) 0 (ls_q198 d_ u_ b b_1 u) (finZ Pg 213 1 c_) = J_q198 N_ b b_1 u (fun r0 => c_ (.int .u64 r0) [⟨105, 1, .cells [.bool b, .roi .u32 b_1]⟩]) := by kernel_rfl
theorem hd_zi_Uint64_p0r_w (N_ : Nat) (b : Bool) (b_1 : List Int) (c_ : V -> List Blk -> Bool) (κn_ : St -> Bool) : codesV ⟨Pg, ofList [], isref, N_⟩ 1 (an_q6 N_) (sg Pg 213 0 4) 0 (st0 Pg 213 (shF_q6.args [.bool b, .ints b_1]) [⟨105, 1, .cells [.bool b, .roi .u32 b_1]⟩]) { (finZ Pg 213 1 c_) with nrm := κn_ } = (cond (decide ((((List.length b_1) : Nat) : Int) > 0)) ((inR 0 (List.length b_1)) && (κn_ (ls_q198 [.any, .int .u64 0, .ptr 0 0, .ptr 0 0, .ptr 0 1, .roi .u32 b_1, .int .i64 (((List.length b_1) : Nat) : Int), .bool true, .ptr 0 0, .ptr 0 0, .ptr 0 1, .roi .u32 b_1, .pi .u32 b_1 0, .int .u32 (List.getD b_1 0 0), .int .u64 (IntKind.wrap .u64 (List.getD b_1 0 0)), .any, .any, .any, .any, .any, .any, .any, .any, .any, .any, .any, .any, .any, .any, .any, .any, .any] [] b b_1 (IntKind.wrap .u64 (List.getD b_1 0 0))))) (κn_ (ls_q198 [.any, .int .u64 0, .ptr 0 0, .ptr 0 0, .ptr 0 1, .roi .u32 b_1, .int .i64 (((List.length b_1) : Nat) : Int), .bool false, .any, .any, .any, .any, .any, .any, .any, .any, .any, .any, .any, .any, .any, .any, .any, .any, .any, .any, .any, .any, .any, .any, .any, .any] [] b b_1 0))) := by kernel_rfl
theorem jn_zi_Uint64_p0r_w (N_ : Nat) (b : Bool) (b_1 : List Int) (c_ : V -> List Blk -> Bool) : codesV ⟨Pg, ofList [], isref, N_⟩ 1 (an_q6 N_) ((cds Pg 213).drop 0) 0 (st0 Pg 213 (shF_q6.args [.bool b, .ints b_1]) [⟨105, 1, .cells [.bool b, .roi .u32 b_1]⟩]) (finZ Pg 213 1 c_) = G_q6 N_ b b_1 (fun r0 => c_ (.int .u64 r0) [⟨105, 1, .cells [.bool b, .roi .u32 b_1]⟩]) := by
  rw [codesV_cut 0 4 4 rfl]
  refine (hd_zi_Uint64_p0r_w N_ b b_1 c_ _).trans ?_
  simp only [jn_q198]
  kernel_rfl
theorem eq_q6 (N_ : Nat) (b : Bool) (b_1 : List Int) (c_ : V -> List Blk -> Bool) : bodyZ ⟨Pg, ofList [], isref, N_⟩ (an_q6 N_) 213 (shF_q6.args [.bool b, .ints b_1]) [⟨105, 1, .cells [.bool b, .roi .u32 b_1]⟩] c_ = G_q6 N_ b b_1 (fun r0 => c_ (.int .u64 r0) [⟨105, 1, .cells [.bool b, .roi .u32 b_1]⟩]) :=
  (bodyZ_codes (by kernel_rfl)).trans (jn_zi_Uint64_p0r_w N_ b b_1 c_)
theorem good_q6 (N_ : Nat) : GoodF Pg 213 (F_q6 (G_q6 N_)) := by
  refine good_fsZ (cx := ⟨Pg, ofList [], isref, N_⟩) (ofList_nil _) shF_q6 (sp_q6 (G_q6 N_)) (an_q6 N_) 0 1 (by kernel_rfl) (fun i_ hi_ => by omega) ?_
  intro a k h
  unfold sp_q6 at h
  split at h
  · exact ⟨[_], rfl, rfl, (eq_q6 _ _ _ _).trans h⟩
  · cases h

end Go.Proofs.YtccocdgimamdhaaGreatDoor
