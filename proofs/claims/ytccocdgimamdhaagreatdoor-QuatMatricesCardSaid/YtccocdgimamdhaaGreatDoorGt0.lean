/-
  THE TIES: each printed meaning is what the program does (written by program).
  Conditions: none.
-/
import Derived.Test.YtccocdgimamdhaaGreatDoorGs
namespace Go.Proofs.YtccocdgimamdhaaGreatDoor
open Go Go.Mach Go.Proofs
set_option linter.unusedVariables false
set_option maxRecDepth 50000


def an_an_of (N_ : Nat) : Nat -> Option Ann := fun b_ => none
theorem eq_an_of (N_ : Nat) (c_ : V -> List Blk -> Bool) : bodyV ⟨Pg, ofList [], isref, N_⟩ (an_an_of N_) 190 (shF_an_of.args []) [] c_ = G_an_of N_ (fun r0 r1 r2 => c_ (.agg [.int .u64 r0, .int .i64 r1, .int .i64 r2]) []) := by kernel_rfl
theorem good_an_of (N_ : Nat) : GoodF Pg 190 (F_an_of (G_an_of N_)) := by
  refine good_fs (cx := ⟨Pg, ofList [], isref, N_⟩) (ofList_nil _) shF_an_of (sp_an_of (G_an_of N_)) (an_an_of N_) 0 0 (by kernel_rfl) (fun i_ hi_ => by omega) ?_
  intro a k h
  unfold sp_an_of at h
  split at h
  · exact ⟨[], rfl, rfl, (eq_an_of _ _).trans h⟩
  · cases h

def an_q160 (N_ : Nat) : Nat -> Option Ann := fun b_ => none
theorem eq_q160 (N_ : Nat) (f_0 : Int) (f_1 : Int) (f_2 : Int) (c_ : V -> List Blk -> Bool) : bodyV ⟨Pg, ofList [], isref, N_⟩ (an_q160 N_) 229 (shF_q160.args [.int f_0, .int f_1, .int f_2]) [] c_ = G_q160 N_ f_0 f_1 f_2 (fun r0 => c_ (.int .u64 r0) []) := by kernel_rfl
theorem good_q160 (N_ : Nat) : GoodF Pg 229 (F_q160 (G_q160 N_)) := by
  refine good_fs (cx := ⟨Pg, ofList [], isref, N_⟩) (ofList_nil _) shF_q160 (sp_q160 (G_q160 N_)) (an_q160 N_) 0 0 (by kernel_rfl) (fun i_ hi_ => by omega) ?_
  intro a k h
  unfold sp_q160 at h
  split at h
  · exact ⟨[], rfl, rfl, (eq_q160 _ _ _ _ _).trans h⟩
  · cases h

def an_q100 (N_ : Nat) : Nat -> Option Ann := fun b_ => none
theorem eq_q100 (N_ : Nat) (f_0 : Int) (f_1 : Int) (f_2 : Int) (c_ : V -> List Blk -> Bool) : bodyV ⟨Pg, ofList [], isref, N_⟩ (an_q100 N_) 234 (shF_q100.args [.int f_0, .int f_1, .int f_2]) [] c_ = G_q100 N_ f_0 f_1 f_2 (fun r0 => c_ (.int .u64 r0) []) := by kernel_rfl
theorem good_q100 (N_ : Nat) : GoodF Pg 234 (F_q100 (G_q100 N_)) := by
  refine good_fs (cx := ⟨Pg, ofList [], isref, N_⟩) (ofList_nil _) shF_q100 (sp_q100 (G_q100 N_)) (an_q100 N_) 0 0 (by kernel_rfl) (fun i_ hi_ => by omega) ?_
  intro a k h
  unfold sp_q100 at h
  split at h
  · exact ⟨[], rfl, rfl, (eq_q100 _ _ _ _ _).trans h⟩
  · cases h

def an_q98 (N_ : Nat) (S_q160 : TS_q160) (S_q100 : TS_q100) : Nat -> Option Ann := fun b_ => none
theorem eq_q98 (N_ : Nat) (S_q160 : TS_q160) (S_q100 : TS_q100) (b : Int) (f_0 : Int) (f_1 : Int) (f_2 : Int) (c_ : V -> List Blk -> Bool) : bodyV ⟨Pg, ofList [(229, (F_q160 S_q160)), (234, (F_q100 S_q100))], isref, N_⟩ (an_q98 N_ S_q160 S_q100) 232 (shF_q98.args [.int b, .int f_0, .int f_1, .int f_2]) [] c_ = G_q98 N_ S_q160 S_q100 b f_0 f_1 f_2 (fun r0 => c_ (.bool r0) []) := by kernel_rfl
theorem good_q98 (N_ : Nat) (S_q160 : TS_q160) (S_q100 : TS_q100) (h_q160 : GoodF Pg 229 (F_q160 S_q160)) (h_q100 : GoodF Pg 234 (F_q100 S_q100)) : GoodF Pg 232 (F_q98 (G_q98 N_ S_q160 S_q100)) := by
  refine good_fs (cx := ⟨Pg, ofList [(229, (F_q160 S_q160)), (234, (F_q100 S_q100))], isref, N_⟩) (ofList_cons h_q160 (ofList_cons h_q100 (ofList_nil _))) shF_q98 (sp_q98 (G_q98 N_ S_q160 S_q100)) (an_q98 N_ S_q160 S_q100) 0 0 (by kernel_rfl) (fun i_ hi_ => by omega) ?_
  intro a k h
  unfold sp_q98 at h
  split at h
  · exact ⟨[], rfl, rfl, (eq_q98 _ _ _ _ _ _ _ _).trans h⟩
  · cases h

def an_q80 (N_ : Nat) : Nat -> Option Ann := fun b_ => none
theorem eq_q80 (N_ : Nat) (f_0 : Int) (f_1 : Int) (f_2 : Int) (c_ : V -> List Blk -> Bool) : bodyV ⟨Pg, ofList [], isref, N_⟩ (an_q80 N_) 217 (shF_q80.args [.int f_0, .int f_1, .int f_2]) [] c_ = G_q80 N_ f_0 f_1 f_2 (fun r0 => c_ (.int .u64 r0) []) := by kernel_rfl
theorem good_q80 (N_ : Nat) : GoodF Pg 217 (F_q80 (G_q80 N_)) := by
  refine good_fs (cx := ⟨Pg, ofList [], isref, N_⟩) (ofList_nil _) shF_q80 (sp_q80 (G_q80 N_)) (an_q80 N_) 0 0 (by kernel_rfl) (fun i_ hi_ => by omega) ?_
  intro a k h
  unfold sp_q80 at h
  split at h
  · exact ⟨[], rfl, rfl, (eq_q80 _ _ _ _ _).trans h⟩
  · cases h

def an_q177 (N_ : Nat) (S_q100 : TS_q100) (S_q80 : TS_q80) : Nat -> Option Ann := fun b_ => none
theorem eq_q177 (N_ : Nat) (S_q100 : TS_q100) (S_q80 : TS_q80) (f_0 : Int) (f_1 : Int) (f_2 : Int) (c_ : V -> List Blk -> Bool) : bodyV ⟨Pg, ofList [(234, (F_q100 S_q100)), (217, (F_q80 S_q80))], isref, N_⟩ (an_q177 N_ S_q100 S_q80) 233 (shF_q177.args [.int f_0, .int f_1, .int f_2]) [] c_ = G_q177 N_ S_q100 S_q80 f_0 f_1 f_2 (fun r0 => c_ (.int .u64 r0) []) := by kernel_rfl
theorem good_q177 (N_ : Nat) (S_q100 : TS_q100) (S_q80 : TS_q80) (h_q100 : GoodF Pg 234 (F_q100 S_q100)) (h_q80 : GoodF Pg 217 (F_q80 S_q80)) : GoodF Pg 233 (F_q177 (G_q177 N_ S_q100 S_q80)) := by
  refine good_fs (cx := ⟨Pg, ofList [(234, (F_q100 S_q100)), (217, (F_q80 S_q80))], isref, N_⟩) (ofList_cons h_q100 (ofList_cons h_q80 (ofList_nil _))) shF_q177 (sp_q177 (G_q177 N_ S_q100 S_q80)) (an_q177 N_ S_q100 S_q80) 0 0 (by kernel_rfl) (fun i_ hi_ => by omega) ?_
  intro a k h
  unfold sp_q177 at h
  split at h
  · exact ⟨[], rfl, rfl, (eq_q177 _ _ _ _ _ _ _).trans h⟩
  · cases h

def an_q76 (N_ : Nat) (S_q98 : TS_q98) (S_q177 : TS_q177) : Nat -> Option Ann := fun b_ => none
theorem eq_q76 (N_ : Nat) (S_q98 : TS_q98) (S_q177 : TS_q177) (b : Int) (f_0 : Int) (f_1 : Int) (f_2 : Int) (c_ : V -> List Blk -> Bool) : bodyV ⟨Pg, ofList [(232, (F_q98 S_q98)), (233, (F_q177 S_q177))], isref, N_⟩ (an_q76 N_ S_q98 S_q177) 228 (shF_q76.args [.int b, .int f_0, .int f_1, .int f_2]) [] c_ = G_q76 N_ S_q98 S_q177 b f_0 f_1 f_2 (fun r0 => c_ (.int .u64 r0) []) := by kernel_rfl
theorem good_q76 (N_ : Nat) (S_q98 : TS_q98) (S_q177 : TS_q177) (h_q98 : GoodF Pg 232 (F_q98 S_q98)) (h_q177 : GoodF Pg 233 (F_q177 S_q177)) : GoodF Pg 228 (F_q76 (G_q76 N_ S_q98 S_q177)) := by
  refine good_fs (cx := ⟨Pg, ofList [(232, (F_q98 S_q98)), (233, (F_q177 S_q177))], isref, N_⟩) (ofList_cons h_q98 (ofList_cons h_q177 (ofList_nil _))) shF_q76 (sp_q76 (G_q76 N_ S_q98 S_q177)) (an_q76 N_ S_q98 S_q177) 0 0 (by kernel_rfl) (fun i_ hi_ => by omega) ?_
  intro a k h
  unfold sp_q76 at h
  split at h
  · exact ⟨[], rfl, rfl, (eq_q76 _ _ _ _ _ _ _ _).trans h⟩
  · cases h

def an_q32 (N_ : Nat) (S_q76 : TS_q76) (S_q160 : TS_q160) (S_q80 : TS_q80) : Nat -> Option Ann := fun b_ => none
theorem eq_q32 (N_ : Nat) (S_q76 : TS_q76) (S_q160 : TS_q160) (S_q80 : TS_q80) (b : Int) (f_0 : Int) (f_1 : Int) (f_2 : Int) (c_ : V -> List Blk -> Bool) : bodyV ⟨Pg, ofList [(228, (F_q76 S_q76)), (229, (F_q160 S_q160)), (217, (F_q80 S_q80))], isref, N_⟩ (an_q32 N_ S_q76 S_q160 S_q80) 214 (shF_q32.args [.int b, .int f_0, .int f_1, .int f_2]) [] c_ = G_q32 N_ S_q76 S_q160 S_q80 b f_0 f_1 f_2 (fun r0 r1 r2 => c_ (.tup [.bool r0, .int .i64 r1, .int .u64 r2]) []) := by kernel_rfl
theorem good_q32 (N_ : Nat) (S_q76 : TS_q76) (S_q160 : TS_q160) (S_q80 : TS_q80) (h_q76 : GoodF Pg 228 (F_q76 S_q76)) (h_q160 : GoodF Pg 229 (F_q160 S_q160)) (h_q80 : GoodF Pg 217 (F_q80 S_q80)) : GoodF Pg 214 (F_q32 (G_q32 N_ S_q76 S_q160 S_q80)) := by
  refine good_fs (cx := ⟨Pg, ofList [(228, (F_q76 S_q76)), (229, (F_q160 S_q160)), (217, (F_q80 S_q80))], isref, N_⟩) (ofList_cons h_q76 (ofList_cons h_q160 (ofList_cons h_q80 (ofList_nil _)))) shF_q32 (sp_q32 (G_q32 N_ S_q76 S_q160 S_q80)) (an_q32 N_ S_q76 S_q160 S_q80) 0 0 (by kernel_rfl) (fun i_ hi_ => by omega) ?_
  intro a k h
  unfold sp_q32 at h
  split at h
  · exact ⟨[], rfl, rfl, (eq_q32 _ _ _ _ _ _ _ _ _).trans h⟩
  · cases h

def an_q31 (N_ : Nat) (S_q32 : TS_q32) : Nat -> Option Ann := fun b_ => none
theorem eq_q31 (N_ : Nat) (S_q32 : TS_q32) (b : Int) (f_0 : Int) (f_1 : Int) (f_2 : Int) (c_ : V -> List Blk -> Bool) : bodyV ⟨Pg, ofList [(214, (F_q32 S_q32))], isref, N_⟩ (an_q31 N_ S_q32) 189 (shF_q31.args [.int b, .int f_0, .int f_1, .int f_2]) [] c_ = G_q31 N_ S_q32 b f_0 f_1 f_2 (fun r0 => c_ (.int .i64 r0) []) := by kernel_rfl
theorem good_q31 (N_ : Nat) (S_q32 : TS_q32) (h_q32 : GoodF Pg 214 (F_q32 S_q32)) : GoodF Pg 189 (F_q31 (G_q31 N_ S_q32)) := by
  refine good_fs (cx := ⟨Pg, ofList [(214, (F_q32 S_q32))], isref, N_⟩) (ofList_cons h_q32 (ofList_nil _)) shF_q31 (sp_q31 (G_q31 N_ S_q32)) (an_q31 N_ S_q32) 0 0 (by kernel_rfl) (fun i_ hi_ => by omega) ?_
  intro a k h
  unfold sp_q31 at h
  split at h
  · exact ⟨[], rfl, rfl, (eq_q31 _ _ _ _ _ _ _).trans h⟩
  · cases h

def an_q165 (N_ : Nat) (S_q159 : TS_q159) (S_an_of : TS_an_of) (S_q31 : TS_q31) : Nat -> Option Ann := fun b_ => none
theorem eq_q165 (N_ : Nat) (S_q159 : TS_q159) (S_an_of : TS_an_of) (S_q31 : TS_q31) (x : Nat) (c_ : V -> List Blk -> Bool) : bodyV ⟨Pg, ofList [(88, (F_q159 S_q159)), (190, (F_an_of S_an_of)), (189, (F_q31 S_q31))], isref, N_⟩ (an_q165 N_ S_q159 S_an_of S_q31) 157 (shF_q165.args [.nat x]) [] c_ = G_q165 N_ S_q159 S_an_of S_q31 x (fun r0 => c_ (.int .i64 r0) []) := by kernel_rfl
theorem good_q165 (N_ : Nat) (S_q159 : TS_q159) (S_an_of : TS_an_of) (S_q31 : TS_q31) (h_q159 : GoodF Pg 88 (F_q159 S_q159)) (h_an_of : GoodF Pg 190 (F_an_of S_an_of)) (h_q31 : GoodF Pg 189 (F_q31 S_q31)) : GoodF Pg 157 (F_q165 (G_q165 N_ S_q159 S_an_of S_q31)) := by
  refine good_fs (cx := ⟨Pg, ofList [(88, (F_q159 S_q159)), (190, (F_an_of S_an_of)), (189, (F_q31 S_q31))], isref, N_⟩) (ofList_cons h_q159 (ofList_cons h_an_of (ofList_cons h_q31 (ofList_nil _)))) shF_q165 (sp_q165 (G_q165 N_ S_q159 S_an_of S_q31)) (an_q165 N_ S_q159 S_an_of S_q31) 0 0 (by kernel_rfl) (fun i_ hi_ => by omega) ?_
  intro a k h
  unfold sp_q165 at h
  split at h
  · exact ⟨[], rfl, rfl, (eq_q165 _ _ _ _ _ _).trans h⟩
  · cases h


def an_q182 (N_ : Nat) (S_q159 : TS_q159) (S_q70 : TS_q70) : Nat -> Option Ann := fun b_ => none
theorem eq_q182 (N_ : Nat) (S_q159 : TS_q159) (S_q70 : TS_q70) (x : Nat) (c_ : V -> List Blk -> Bool) : bodyV ⟨Pg, ofList [(88, (F_q159 S_q159)), (100, (F_q70 S_q70))], isref, N_⟩ (an_q182 N_ S_q159 S_q70) 69 (shF_q182.args [.nat x]) [] c_ = G_q182 N_ S_q159 S_q70 x (fun r0 => c_ (.flt r0) []) := by kernel_rfl
theorem good_q182 (N_ : Nat) (S_q159 : TS_q159) (S_q70 : TS_q70) (h_q159 : GoodF Pg 88 (F_q159 S_q159)) (h_q70 : GoodF Pg 100 (F_q70 S_q70)) : GoodF Pg 69 (F_q182 (G_q182 N_ S_q159 S_q70)) := by
  refine good_fs (cx := ⟨Pg, ofList [(88, (F_q159 S_q159)), (100, (F_q70 S_q70))], isref, N_⟩) (ofList_cons h_q159 (ofList_cons h_q70 (ofList_nil _))) shF_q182 (sp_q182 (G_q182 N_ S_q159 S_q70)) (an_q182 N_ S_q159 S_q70) 0 0 (by kernel_rfl) (fun i_ hi_ => by omega) ?_
  intro a k h
  unfold sp_q182 at h
  split at h
  · exact ⟨[], rfl, rfl, (eq_q182 _ _ _ _ _).trans h⟩
  · cases h

def an_q86 (N_ : Nat) (S_q70 : TS_q70) : Nat -> Option Ann := fun b_ => none
theorem eq_q86 (N_ : Nat) (S_q70 : TS_q70) (b : Int) (c_ : V -> List Blk -> Bool) : bodyV ⟨Pg, ofList [(100, (F_q70 S_q70))], isref, N_⟩ (an_q86 N_ S_q70) 39 (shF_q86.args [.int b]) [] c_ = G_q86 N_ S_q70 b (fun r0 => c_ (.flt r0) []) := by kernel_rfl
theorem good_q86 (N_ : Nat) (S_q70 : TS_q70) (h_q70 : GoodF Pg 100 (F_q70 S_q70)) : GoodF Pg 39 (F_q86 (G_q86 N_ S_q70)) := by
  refine good_fs (cx := ⟨Pg, ofList [(100, (F_q70 S_q70))], isref, N_⟩) (ofList_cons h_q70 (ofList_nil _)) shF_q86 (sp_q86 (G_q86 N_ S_q70)) (an_q86 N_ S_q70) 0 0 (by kernel_rfl) (fun i_ hi_ => by omega) ?_
  intro a k h
  unfold sp_q86 at h
  split at h
  · exact ⟨[], rfl, rfl, (eq_q86 _ _ _ _).trans h⟩
  · cases h

def an_q15 (N_ : Nat) (S_q86 : TS_q86) : Nat -> Option Ann := fun b_ => none
theorem eq_q15 (N_ : Nat) (S_q86 : TS_q86) (q_0 : Int) (q_1 : Int) (q_2 : Int) (q_3 : Int) (c_ : V -> List Blk -> Bool) : bodyV ⟨Pg, ofList [(39, (F_q86 S_q86))], isref, N_⟩ (an_q15 N_ S_q86) 17 (shF_q15.args [.int q_0, .int q_1, .int q_2, .int q_3]) [] c_ = G_q15 N_ S_q86 q_0 q_1 q_2 q_3 (fun r0 r1 r2 r3 => c_ (.agg [.flt r0, .flt r1, .flt r2, .flt r3]) []) := by kernel_rfl
theorem good_q15 (N_ : Nat) (S_q86 : TS_q86) (h_q86 : GoodF Pg 39 (F_q86 S_q86)) : GoodF Pg 17 (F_q15 (G_q15 N_ S_q86)) := by
  refine good_fs (cx := ⟨Pg, ofList [(39, (F_q86 S_q86))], isref, N_⟩) (ofList_cons h_q86 (ofList_nil _)) shF_q15 (sp_q15 (G_q15 N_ S_q86)) (an_q15 N_ S_q86) 0 0 (by kernel_rfl) (fun i_ hi_ => by omega) ?_
  intro a k h
  unfold sp_q15 at h
  split at h
  · exact ⟨[], rfl, rfl, (eq_q15 _ _ _ _ _ _ _).trans h⟩
  · cases h

def sh_st_quat_finite_0 : StSh := ⟨[.rof, .any, .any, .any, .any, .int .i64, .int .i64, .any, .any, .any, .any, .any, .any, .any, .any, .any, .any, .any, .any, .any], []⟩
def sx0_st_quat_finite_0 : StSh := ⟨[.any, .any, .bool, .any, .any, .any, .any, .any, .any, .any, .any, .any, .any, .any, .any, .any, .any, .any, .any, .any], []⟩
def sx1_st_quat_finite_0 : StSh := ⟨[.any, .any, .any, .any, .any, .any, .any, .any, .any, .any, .any, .any, .any, .any, .any, .any, .any, .any, .any, .any], []⟩
def hk_st_quat_finite_0 (N_ : Nat) : List Atom -> K -> Bool := fun a_ κ => match a_ with
  | [.fls l_1, .int t5, .int t6] => iterG N_ (st_quat_finite_0 N_ l_1 t5 (fun r0 => κ.ret (sx0_st_quat_finite_0.build [.bool r0])) (κ.ext 0 (sx1_st_quat_finite_0.build []))) t6
  | _ => false
def an_q21 (N_ : Nat) : Nat -> Option Ann := fun b_ => cond (b_ == 0) (some ⟨⟨[0, 5, 6], [], []⟩, [(0, ⟨[], [], []⟩)], some ⟨[2], [], []⟩, some (mkHooks [(sh_st_quat_finite_0, hk_st_quat_finite_0 N_)])⟩) (none)
theorem eq_st_quat_finite_0 (N_ : Nat) (κ : K) (l_1 : List Fl) (t5 : Int) (t6 : Int) : iter N_ (fun s k => codeV ⟨Pg, ofList [], isref, N_⟩ 0 (an_q21 N_) (lp Pg 86 0).2 (lp Pg 86 0).1 s (roundK Pg 0 ((an_q21 N_) (lp Pg 86 0).1) κ k)) (sh_st_quat_finite_0.build [.fls l_1, .int t5, .int t6]) = iterG N_ (st_quat_finite_0 N_ l_1 t5 (fun r0 => κ.ret (sx0_st_quat_finite_0.build [.bool r0])) (κ.ext 0 (sx1_st_quat_finite_0.build []))) t6 :=
  iter_tr (fun v_ => sh_st_quat_finite_0.build [.fls l_1, .int t5, .int v_]) (fun v_ K_ => by kernel_rfl) N_ t6
theorem hk1_st_quat_finite_0 (N_ : Nat) : HookFor ⟨Pg, ofList [], isref, N_⟩ 0 (an_q21 N_) (lp Pg 86 0) (sh_st_quat_finite_0, hk_st_quat_finite_0 N_) := by
  intro a κ h
  simp only at h
  unfold hk_st_quat_finite_0 at h
  split at h
  · exact (eq_st_quat_finite_0 _ _ _ _ _).trans h
  · cases h
theorem ho_quat_finite_0 (N_ : Nat) : HookOk ⟨Pg, ofList [], isref, N_⟩ 0 (an_q21 N_) (lp Pg 86 0) :=
  hooks_ok [(sh_st_quat_finite_0, hk_st_quat_finite_0 N_)] (by kernel_rfl) ⟨hk1_st_quat_finite_0 _, trivial⟩
theorem eq_q21 (N_ : Nat) (l : List Fl) (c_ : V -> List Blk -> Bool) : bodyV ⟨Pg, ofList [], isref, N_⟩ (an_q21 N_) 86 (shF_q21.args [.fls l]) [] c_ = G_q21 N_ l (fun r0 => c_ (.bool r0) []) := by kernel_rfl
theorem good_q21 (N_ : Nat) : GoodF Pg 86 (F_q21 (G_q21 N_)) := by
  refine good_fs (cx := ⟨Pg, ofList [], isref, N_⟩) (ofList_nil _) shF_q21 (sp_q21 (G_q21 N_)) (an_q21 N_) 1 0 (by kernel_rfl) (fun i_ hi_ => by
    match i_, hi_ with
    | 0, _ => exact ho_quat_finite_0 _
    | (q + 1), h => omega) ?_
  intro a k h
  unfold sp_q21 at h
  split at h
  · exact ⟨[], rfl, rfl, (eq_q21 _ _ _).trans h⟩
  · cases h

def an_q12 (N_ : Nat) (S_q21 : TS_q21) : Nat -> Option Ann := fun b_ => none
theorem eq_q12 (N_ : Nat) (S_q21 : TS_q21) (qs_0 : Fl) (qs_1 : Fl) (qs_2 : Fl) (qs_3 : Fl) (c_ : V -> List Blk -> Bool) : bodyV ⟨Pg, ofList [(86, (F_q21 S_q21))], isref, (N_ + 24)⟩ (an_q12 (N_ + 24) S_q21) 56 (shF_q12.args [.fl qs_0, .fl qs_1, .fl qs_2, .fl qs_3]) [] c_ = G_q12 (N_ + 24) S_q21 qs_0 qs_1 qs_2 qs_3 (fun r0 => c_ (.bool r0) []) := by kernel_rfl
theorem good_q12 (N_ : Nat) (S_q21 : TS_q21) (h_q21 : GoodF Pg 86 (F_q21 S_q21)) : GoodF Pg 56 (F_q12 (G_q12 (N_ + 24) S_q21)) := by
  refine good_fs (cx := ⟨Pg, ofList [(86, (F_q21 S_q21))], isref, (N_ + 24)⟩) (ofList_cons h_q21 (ofList_nil _)) shF_q12 (sp_q12 (G_q12 (N_ + 24) S_q21)) (an_q12 (N_ + 24) S_q21) 1 0 (by kernel_rfl) (fun i_ hi_ => by
    match i_, hi_ with
    | 0, _ => exact (fun hk e => by rw [show hookOf ((an_q12 (N_ + 24) S_q21) (lp Pg 56 0).1) = none from by kernel_rfl] at e; cases e)
    | (q + 1), h => omega) ?_
  intro a k h
  unfold sp_q12 at h
  split at h
  · exact ⟨[], rfl, rfl, (eq_q12 _ _ _ _ _ _ _).trans h⟩
  · cases h

def an_q68 (N_ : Nat) (S_q12 : TS_q12) (S_q21 : TS_q21) : Nat -> Option Ann := fun b_ => none
theorem eq_q68 (N_ : Nat) (S_q12 : TS_q12) (S_q21 : TS_q21) (q_0 : Fl) (q_1 : Fl) (q_2 : Fl) (q_3 : Fl) (c_ : V -> List Blk -> Bool) : bodyV ⟨Pg, ofList [(56, (F_q12 S_q12)), (86, (F_q21 S_q21))], isref, N_⟩ (an_q68 N_ S_q12 S_q21) 30 (shF_q68.args [.fl q_0, .fl q_1, .fl q_2, .fl q_3]) [] c_ = G_q68 N_ S_q12 S_q21 q_0 q_1 q_2 q_3 (fun r0 r1 r2 => c_ (.tup [.agg [.int .i64 r0, .int .i64 r1, .nil], .int .i64 r2]) []) (fun r0 r1 r2 r3 => c_ (.tup [.agg [.int .i64 r0, .int .i64 r1, .slw 0], .int .i64 r2]) [⟨24, 1, .flts r3⟩]) := by kernel_rfl
theorem good_q68 (N_ : Nat) (S_q12 : TS_q12) (S_q21 : TS_q21) (h_q12 : GoodF Pg 56 (F_q12 S_q12)) (h_q21 : GoodF Pg 86 (F_q21 S_q21)) : GoodF Pg 30 (F_q68 (G_q68 N_ S_q12 S_q21)) := by
  refine good_fs (cx := ⟨Pg, ofList [(56, (F_q12 S_q12)), (86, (F_q21 S_q21))], isref, N_⟩) (ofList_cons h_q12 (ofList_cons h_q21 (ofList_nil _))) shF_q68 (sp_q68 (G_q68 N_ S_q12 S_q21)) (an_q68 N_ S_q12 S_q21) 0 0 (by kernel_rfl) (fun i_ hi_ => by omega) ?_
  intro a k h
  unfold sp_q68 at h
  split at h
  · exact ⟨[], rfl, rfl, (eq_q68 _ _ _ _ _ _ _ _).trans h⟩
  · cases h

def an_q133 (N_ : Nat) : Nat -> Option Ann := fun b_ => none
theorem eq_q133 (N_ : Nat) (q_0 : Fl) (q_1 : Fl) (q_2 : Fl) (q_3 : Fl) (c_ : V -> List Blk -> Bool) : bodyV ⟨Pg, ofList [], isref, N_⟩ (an_q133 N_) 60 (shF_q133.args [.fl q_0, .fl q_1, .fl q_2, .fl q_3]) [] c_ = G_q133 N_ q_0 q_1 q_2 q_3 (fun r0 => c_ (.slw 0) [⟨24, 1, .flts r0⟩]) := by kernel_rfl
theorem good_q133 (N_ : Nat) : GoodF Pg 60 (F_q133 (G_q133 N_)) := by
  refine good_fs (cx := ⟨Pg, ofList [], isref, N_⟩) (ofList_nil _) shF_q133 (sp_q133 (G_q133 N_)) (an_q133 N_) 0 0 (by kernel_rfl) (fun i_ hi_ => by omega) ?_
  intro a k h
  unfold sp_q133 at h
  split at h
  · exact ⟨[], rfl, rfl, (eq_q133 _ _ _ _ _ _).trans h⟩
  · cases h


def an_q114 (N_ : Nat) (S_q103 : TS_q103) : Nat -> Option Ann := fun b_ => none
theorem eq_q114 (N_ : Nat) (S_q103 : TS_q103) (x : Fl) (c_ : V -> List Blk -> Bool) : bodyV ⟨Pg, ofList [(88, (F_q103 S_q103))], isref, N_⟩ (an_q114 N_ S_q103) 89 (shF_q114.args [.fl x]) [] c_ = G_q114 N_ S_q103 x (fun r0 => c_ (.int .u64 r0) []) := by kernel_rfl
theorem good_q114 (N_ : Nat) (S_q103 : TS_q103) (h_q103 : GoodF Pg 88 (F_q103 S_q103)) : GoodF Pg 89 (F_q114 (G_q114 N_ S_q103)) := by
  refine good_fs (cx := ⟨Pg, ofList [(88, (F_q103 S_q103))], isref, N_⟩) (ofList_cons h_q103 (ofList_nil _)) shF_q114 (sp_q114 (G_q114 N_ S_q103)) (an_q114 N_ S_q103) 0 0 (by kernel_rfl) (fun i_ hi_ => by omega) ?_
  intro a k h
  unfold sp_q114 at h
  split at h
  · exact ⟨[], rfl, rfl, (eq_q114 _ _ _ _).trans h⟩
  · cases h

def an_q151 (N_ : Nat) (S_q114 : TS_q114) : Nat -> Option Ann := fun b_ => none
theorem eq_q151 (N_ : Nat) (S_q114 : TS_q114) (x : Fl) (c_ : V -> List Blk -> Bool) : bodyV ⟨Pg, ofList [(89, (F_q114 S_q114))], isref, N_⟩ (an_q151 N_ S_q114) 115 (shF_q151.args [.fl x]) [] c_ = G_q151 N_ S_q114 x (fun r0 r1 r2 => c_ (.tup [.bool r0, .int .i64 r1, .int .u64 r2]) []) := by kernel_rfl
theorem good_q151 (N_ : Nat) (S_q114 : TS_q114) (h_q114 : GoodF Pg 89 (F_q114 S_q114)) : GoodF Pg 115 (F_q151 (G_q151 N_ S_q114)) := by
  refine good_fs (cx := ⟨Pg, ofList [(89, (F_q114 S_q114))], isref, N_⟩) (ofList_cons h_q114 (ofList_nil _)) shF_q151 (sp_q151 (G_q151 N_ S_q114)) (an_q151 N_ S_q114) 0 0 (by kernel_rfl) (fun i_ hi_ => by omega) ?_
  intro a k h
  unfold sp_q151 at h
  split at h
  · exact ⟨[], rfl, rfl, (eq_q151 _ _ _ _).trans h⟩
  · cases h

def an_q119 (N_ : Nat) : Nat -> Option Ann := fun b_ => none
theorem eq_q119 (N_ : Nat) (exp : Int) (frac : Int) (most : Int) (c_ : V -> List Blk -> Bool) : bodyV ⟨Pg, ofList [], isref, N_⟩ (an_q119 N_) 176 (shF_q119.args [.int exp, .int frac, .int most]) [] c_ = G_q119 N_ exp frac most (fun r0 => c_ (.int .i64 r0) []) := by kernel_rfl
theorem good_q119 (N_ : Nat) : GoodF Pg 176 (F_q119 (G_q119 N_)) := by
  refine good_fs (cx := ⟨Pg, ofList [], isref, N_⟩) (ofList_nil _) shF_q119 (sp_q119 (G_q119 N_)) (an_q119 N_) 0 0 (by kernel_rfl) (fun i_ hi_ => by omega) ?_
  intro a k h
  unfold sp_q119 at h
  split at h
  · exact ⟨[], rfl, rfl, (eq_q119 _ _ _ _ _).trans h⟩
  · cases h

def an_q150 (N_ : Nat) (S_q151 : TS_q151) (S_q119 : TS_q119) : Nat -> Option Ann := fun b_ => none
theorem eq_q150 (N_ : Nat) (S_q151 : TS_q151) (S_q119 : TS_q119) (x : Fl) (c_ : V -> List Blk -> Bool) : bodyV ⟨Pg, ofList [(115, (F_q151 S_q151)), (176, (F_q119 S_q119))], isref, N_⟩ (an_q150 N_ S_q151 S_q119) 138 (shF_q150.args [.fl x]) [] c_ = G_q150 N_ S_q151 S_q119 x (fun r0 => c_ (.int .i64 r0) []) := by kernel_rfl
theorem good_q150 (N_ : Nat) (S_q151 : TS_q151) (S_q119 : TS_q119) (h_q151 : GoodF Pg 115 (F_q151 S_q151)) (h_q119 : GoodF Pg 176 (F_q119 S_q119)) : GoodF Pg 138 (F_q150 (G_q150 N_ S_q151 S_q119)) := by
  refine good_fs (cx := ⟨Pg, ofList [(115, (F_q151 S_q151)), (176, (F_q119 S_q119))], isref, N_⟩) (ofList_cons h_q151 (ofList_cons h_q119 (ofList_nil _))) shF_q150 (sp_q150 (G_q150 N_ S_q151 S_q119)) (an_q150 N_ S_q151 S_q119) 0 0 (by kernel_rfl) (fun i_ hi_ => by omega) ?_
  intro a k h
  unfold sp_q150 at h
  split at h
  · exact ⟨[], rfl, rfl, (eq_q150 _ _ _ _ _).trans h⟩
  · cases h

def an_q48 (N_ : Nat) (S_q150 : TS_q150) : Nat -> Option Ann := fun b_ => none
theorem eq_q48 (N_ : Nat) (S_q150 : TS_q150) (x : Fl) (c_ : V -> List Blk -> Bool) : bodyV ⟨Pg, ofList [(138, (F_q150 S_q150))], isref, N_⟩ (an_q48 N_ S_q150) 87 (shF_q48.args [.fl x]) [] c_ = G_q48 N_ S_q150 x (fun r0 => c_ (.bool r0) []) := by kernel_rfl
theorem good_q48 (N_ : Nat) (S_q150 : TS_q150) (h_q150 : GoodF Pg 138 (F_q150 S_q150)) : GoodF Pg 87 (F_q48 (G_q48 N_ S_q150)) := by
  refine good_fs (cx := ⟨Pg, ofList [(138, (F_q150 S_q150))], isref, N_⟩) (ofList_cons h_q150 (ofList_nil _)) shF_q48 (sp_q48 (G_q48 N_ S_q150)) (an_q48 N_ S_q150) 0 0 (by kernel_rfl) (fun i_ hi_ => by omega) ?_
  intro a k h
  unfold sp_q48 at h
  split at h
  · exact ⟨[], rfl, rfl, (eq_q48 _ _ _ _).trans h⟩
  · cases h

def sh_st_binnacleref01_AllFinite_0 : StSh := ⟨[.any, .any, .any, .any, .any, .rof, .int .i64, .int .i64, .any, .any, .any, .any, .any, .any, .any], []⟩
def sx0_st_binnacleref01_AllFinite_0 : StSh := ⟨[.any, .any, .bool, .any, .any, .any, .any, .any, .any, .any, .any, .any, .any, .any, .any], []⟩
def sx1_st_binnacleref01_AllFinite_0 : StSh := ⟨[.any, .any, .any, .any, .any, .any, .any, .any, .any, .any, .any, .any, .any, .any, .any], []⟩
def hk_st_binnacleref01_AllFinite_0 (N_ : Nat) (S_q48 : TS_q48) : List Atom -> K -> Bool := fun a_ κ => match a_ with
  | [.fls t5, .int t6, .int t7] => iterG N_ (st_q221 N_ S_q48 t5 t6 (fun r0 => κ.ret (sx0_st_binnacleref01_AllFinite_0.build [.bool r0])) (κ.ext 0 (sx1_st_binnacleref01_AllFinite_0.build []))) t7
  | _ => false
def an_q50 (N_ : Nat) (S_q48 : TS_q48) : Nat -> Option Ann := fun b_ => cond (b_ == 0) (some ⟨⟨[5, 6, 7], [], []⟩, [(0, ⟨[], [], []⟩)], some ⟨[2], [], []⟩, some (mkHooks [(sh_st_binnacleref01_AllFinite_0, hk_st_binnacleref01_AllFinite_0 N_ S_q48)])⟩) (none)
theorem eq_st_binnacleref01_AllFinite_0 (N_ : Nat) (S_q48 : TS_q48) (κ : K) (t5 : List Fl) (t6 : Int) (t7 : Int) : iter N_ (fun s k => codeV ⟨Pg, ofList [(87, (F_q48 S_q48))], isref, N_⟩ 0 (an_q50 N_ S_q48) (lp Pg 101 0).2 (lp Pg 101 0).1 s (roundK Pg 0 ((an_q50 N_ S_q48) (lp Pg 101 0).1) κ k)) (sh_st_binnacleref01_AllFinite_0.build [.fls t5, .int t6, .int t7]) = iterG N_ (st_q221 N_ S_q48 t5 t6 (fun r0 => κ.ret (sx0_st_binnacleref01_AllFinite_0.build [.bool r0])) (κ.ext 0 (sx1_st_binnacleref01_AllFinite_0.build []))) t7 :=
  iter_tr (fun v_ => sh_st_binnacleref01_AllFinite_0.build [.fls t5, .int t6, .int v_]) (fun v_ K_ => by kernel_rfl) N_ t7
theorem hk1_st_binnacleref01_AllFinite_0 (N_ : Nat) (S_q48 : TS_q48) : HookFor ⟨Pg, ofList [(87, (F_q48 S_q48))], isref, N_⟩ 0 (an_q50 N_ S_q48) (lp Pg 101 0) (sh_st_binnacleref01_AllFinite_0, hk_st_binnacleref01_AllFinite_0 N_ S_q48) := by
  intro a κ h
  simp only at h
  unfold hk_st_binnacleref01_AllFinite_0 at h
  split at h
  · exact (eq_st_binnacleref01_AllFinite_0 _ _ _ _ _ _).trans h
  · cases h
theorem ho_binnacleref01_AllFinite_0 (N_ : Nat) (S_q48 : TS_q48) : HookOk ⟨Pg, ofList [(87, (F_q48 S_q48))], isref, N_⟩ 0 (an_q50 N_ S_q48) (lp Pg 101 0) :=
  hooks_ok [(sh_st_binnacleref01_AllFinite_0, hk_st_binnacleref01_AllFinite_0 N_ S_q48)] (by kernel_rfl) ⟨hk1_st_binnacleref01_AllFinite_0 _ _, trivial⟩
theorem eq_q50 (N_ : Nat) (S_q48 : TS_q48) (l : List Fl) (c_ : V -> List Blk -> Bool) : bodyV ⟨Pg, ofList [(87, (F_q48 S_q48))], isref, N_⟩ (an_q50 N_ S_q48) 101 (shF_q50.args [.fls l]) [] c_ = G_q50 N_ S_q48 l (fun r0 => c_ (.bool r0) []) := by kernel_rfl
theorem good_q50 (N_ : Nat) (S_q48 : TS_q48) (h_q48 : GoodF Pg 87 (F_q48 S_q48)) : GoodF Pg 101 (F_q50 (G_q50 N_ S_q48)) := by
  refine good_fs (cx := ⟨Pg, ofList [(87, (F_q48 S_q48))], isref, N_⟩) (ofList_cons h_q48 (ofList_nil _)) shF_q50 (sp_q50 (G_q50 N_ S_q48)) (an_q50 N_ S_q48) 1 0 (by kernel_rfl) (fun i_ hi_ => by
    match i_, hi_ with
    | 0, _ => exact ho_binnacleref01_AllFinite_0 _ _
    | (q + 1), h => omega) ?_
  intro a k h
  unfold sp_q50 at h
  split at h
  · exact ⟨[], rfl, rfl, (eq_q50 _ _ _ _).trans h⟩
  · cases h

def an_q49 (N_ : Nat) (S_q133 : TS_q133) (S_q50 : TS_q50) : Nat -> Option Ann := fun b_ => none
theorem eq_q49 (N_ : Nat) (S_q133 : TS_q133) (S_q50 : TS_q50) (q_0 : Fl) (q_1 : Fl) (q_2 : Fl) (q_3 : Fl) (c_ : V -> List Blk -> Bool) : bodyV ⟨Pg, ofList [(60, (F_q133 S_q133)), (101, (F_q50 S_q50))], isref, N_⟩ (an_q49 N_ S_q133 S_q50) 75 (shF_q49.args [.fl q_0, .fl q_1, .fl q_2, .fl q_3]) [] c_ = G_q49 N_ S_q133 S_q50 q_0 q_1 q_2 q_3 (fun r0 => c_ (.bool r0) []) := by kernel_rfl
theorem good_q49 (N_ : Nat) (S_q133 : TS_q133) (S_q50 : TS_q50) (h_q133 : GoodF Pg 60 (F_q133 S_q133)) (h_q50 : GoodF Pg 101 (F_q50 S_q50)) : GoodF Pg 75 (F_q49 (G_q49 N_ S_q133 S_q50)) := by
  refine good_fs (cx := ⟨Pg, ofList [(60, (F_q133 S_q133)), (101, (F_q50 S_q50))], isref, N_⟩) (ofList_cons h_q133 (ofList_cons h_q50 (ofList_nil _))) shF_q49 (sp_q49 (G_q49 N_ S_q133 S_q50)) (an_q49 N_ S_q133 S_q50) 0 0 (by kernel_rfl) (fun i_ hi_ => by omega) ?_
  intro a k h
  unfold sp_q49 at h
  split at h
  · exact ⟨[], rfl, rfl, (eq_q49 _ _ _ _ _ _ _ _).trans h⟩
  · cases h

def an_q57 (N_ : Nat) : Nat -> Option Ann := fun b_ => none
theorem eq_q57 (N_ : Nat) (ok : Bool) (c_ : V -> List Blk -> Bool) : bodyV ⟨Pg, ofList [], isref, (N_ + 24)⟩ (an_q57 (N_ + 24)) 74 (shF_q57.args [.bool ok]) [] c_ = G_q57 (N_ + 24) ok (fun r0 => c_ (.int .i64 r0) []) := by kernel_rfl
theorem good_q57 (N_ : Nat) : GoodF Pg 74 (F_q57 (G_q57 (N_ + 24))) := by
  refine good_fs (cx := ⟨Pg, ofList [], isref, (N_ + 24)⟩) (ofList_nil _) shF_q57 (sp_q57 (G_q57 (N_ + 24))) (an_q57 (N_ + 24)) 1 0 (by kernel_rfl) (fun i_ hi_ => by
    match i_, hi_ with
    | 0, _ => exact (fun hk e => by rw [show hookOf ((an_q57 (N_ + 24)) (lp Pg 74 0).1) = none from by kernel_rfl] at e; cases e)
    | (q + 1), h => omega) ?_
  intro a k h
  unfold sp_q57 at h
  split at h
  · exact ⟨[], rfl, rfl, (eq_q57 _ _ _).trans h⟩
  · cases h

def an_z12_p (N_ : Nat) : Nat -> Option Ann := fun b_ => none
theorem eq_z12_p (N_ : Nat) (a : Fl) (b : Fl) (c_ : V -> List Blk -> Bool) : bodyV ⟨Pg, ofList [], isref, N_⟩ (an_z12_p N_) 92 (shF_z12_p.args [.fl a, .fl b]) [] c_ = G_z12_p N_ a b (fun r0 => c_ (.flt r0) []) := by kernel_rfl
theorem good_z12_p (N_ : Nat) : GoodF Pg 92 (F_z12_p (G_z12_p N_)) := by
  refine good_fs (cx := ⟨Pg, ofList [], isref, N_⟩) (ofList_nil _) shF_z12_p (sp_z12_p (G_z12_p N_)) (an_z12_p N_) 0 0 (by kernel_rfl) (fun i_ hi_ => by omega) ?_
  intro a k h
  unfold sp_z12_p at h
  split at h
  · exact ⟨[], rfl, rfl, (eq_z12_p _ _ _ _).trans h⟩
  · cases h

def an_q129 (N_ : Nat) : Nat -> Option Ann := fun b_ => none
theorem eq_q129 (N_ : Nat) (s : Fl) (c_ : V -> List Blk -> Bool) : bodyV ⟨Pg, ofList [], isref, N_⟩ (an_q129 N_) 91 (shF_q129.args [.fl s]) [] c_ = G_q129 N_ s (fun r0 => c_ (.flt r0) []) := by kernel_rfl
theorem good_q129 (N_ : Nat) : GoodF Pg 91 (F_q129 (G_q129 N_)) := by
  refine good_fs (cx := ⟨Pg, ofList [], isref, N_⟩) (ofList_nil _) shF_q129 (sp_q129 (G_q129 N_)) (an_q129 N_) 0 0 (by kernel_rfl) (fun i_ hi_ => by omega) ?_
  intro a k h
  unfold sp_q129 at h
  split at h
  · exact ⟨[], rfl, rfl, (eq_q129 _ _ _).trans h⟩
  · cases h

def an_q172 (N_ : Nat) (S_q50 : TS_q50) : Nat -> Option Ann := fun b_ => none
theorem eq_q172 (N_ : Nat) (S_q50 : TS_q50) (m_0 : Int) (m_1 : Int) (m_2 : List Fl) (c_ : V -> List Blk -> Bool) : bodyV ⟨Pg, ofList [(101, (F_q50 S_q50))], isref, N_⟩ (an_q172 N_ S_q50) 90 (shF_q172.args [.int m_0, .int m_1, .fls m_2]) [] c_ = G_q172 N_ S_q50 m_0 m_1 m_2 (fun r0 r1 r2 => c_ (.tup [.agg [.int .i64 r0, .int .i64 r1, .nil], .int .i64 r2]) []) (fun r3 => c_ (.tup [.agg [.int .i64 m_0, .int .i64 m_1, .rof m_2], .int .i64 r3]) []) := by kernel_rfl
theorem good_q172 (N_ : Nat) (S_q50 : TS_q50) (h_q50 : GoodF Pg 101 (F_q50 S_q50)) : GoodF Pg 90 (F_q172 (G_q172 N_ S_q50)) := by
  refine good_fs (cx := ⟨Pg, ofList [(101, (F_q50 S_q50))], isref, N_⟩) (ofList_cons h_q50 (ofList_nil _)) shF_q172 (sp_q172 (G_q172 N_ S_q50)) (an_q172 N_ S_q50) 0 0 (by kernel_rfl) (fun i_ hi_ => by omega) ?_
  intro a k h
  unfold sp_q172 at h
  split at h
  · exact ⟨[], rfl, rfl, (eq_q172 _ _ _ _ _ _).trans h⟩
  · cases h

def an_q83 (N_ : Nat) (S_q49 : TS_q49) (S_q57 : TS_q57) (S_z12_p : TS_z12_p) (S_q129 : TS_q129) (S_q172 : TS_q172) : Nat -> Option Ann := fun b_ => none
theorem eq_q83 (N_ : Nat) (S_q49 : TS_q49) (S_q57 : TS_q57) (S_z12_p : TS_z12_p) (S_q129 : TS_q129) (S_q172 : TS_q172) (q_0 : Fl) (q_1 : Fl) (q_2 : Fl) (q_3 : Fl) (c_ : V -> List Blk -> Bool) : bodyV ⟨Pg, ofList [(75, (F_q49 S_q49)), (74, (F_q57 S_q57)), (92, (F_z12_p S_z12_p)), (91, (F_q129 S_q129)), (90, (F_q172 S_q172))], isref, N_⟩ (an_q83 N_ S_q49 S_q57 S_z12_p S_q129 S_q172) 31 (shF_q83.args [.fl q_0, .fl q_1, .fl q_2, .fl q_3]) [] c_ = G_q83 N_ S_q49 S_q57 S_z12_p S_q129 S_q172 q_0 q_1 q_2 q_3 (fun r0 r1 r2 => c_ (.tup [.agg [.int .i64 r0, .int .i64 r1, .nil], .int .i64 r2]) []) (fun r0 r1 r2 r3 => c_ (.tup [.agg [.int .i64 r0, .int .i64 r1, .rof r2], .int .i64 r3]) []) := by kernel_rfl
theorem good_q83 (N_ : Nat) (S_q49 : TS_q49) (S_q57 : TS_q57) (S_z12_p : TS_z12_p) (S_q129 : TS_q129) (S_q172 : TS_q172) (h_q49 : GoodF Pg 75 (F_q49 S_q49)) (h_q57 : GoodF Pg 74 (F_q57 S_q57)) (h_z12_p : GoodF Pg 92 (F_z12_p S_z12_p)) (h_q129 : GoodF Pg 91 (F_q129 S_q129)) (h_q172 : GoodF Pg 90 (F_q172 S_q172)) : GoodF Pg 31 (F_q83 (G_q83 N_ S_q49 S_q57 S_z12_p S_q129 S_q172)) := by
  refine good_fs (cx := ⟨Pg, ofList [(75, (F_q49 S_q49)), (74, (F_q57 S_q57)), (92, (F_z12_p S_z12_p)), (91, (F_q129 S_q129)), (90, (F_q172 S_q172))], isref, N_⟩) (ofList_cons h_q49 (ofList_cons h_q57 (ofList_cons h_z12_p (ofList_cons h_q129 (ofList_cons h_q172 (ofList_nil _)))))) shF_q83 (sp_q83 (G_q83 N_ S_q49 S_q57 S_z12_p S_q129 S_q172)) (an_q83 N_ S_q49 S_q57 S_z12_p S_q129 S_q172) 0 0 (by kernel_rfl) (fun i_ hi_ => by omega) ?_
  intro a k h
  unfold sp_q83 at h
  split at h
  · exact ⟨[], rfl, rfl, (eq_q83 _ _ _ _ _ _ _ _ _ _ _).trans h⟩
  · cases h

def an_q131 (N_ : Nat) (S_q114 : TS_q114) : Nat -> Option Ann := fun b_ => none
theorem eq_q131 (N_ : Nat) (S_q114 : TS_q114) (a : Fl) (b : Fl) (c_ : V -> List Blk -> Bool) : bodyV ⟨Pg, ofList [(89, (F_q114 S_q114))], isref, N_⟩ (an_q131 N_ S_q114) 93 (shF_q131.args [.fl a, .fl b]) [] c_ = G_q131 N_ S_q114 a b (fun r0 => c_ (.bool r0) []) := by kernel_rfl
theorem good_q131 (N_ : Nat) (S_q114 : TS_q114) (h_q114 : GoodF Pg 89 (F_q114 S_q114)) : GoodF Pg 93 (F_q131 (G_q131 N_ S_q114)) := by
  refine good_fs (cx := ⟨Pg, ofList [(89, (F_q114 S_q114))], isref, N_⟩) (ofList_cons h_q114 (ofList_nil _)) shF_q131 (sp_q131 (G_q131 N_ S_q114)) (an_q131 N_ S_q114) 0 0 (by kernel_rfl) (fun i_ hi_ => by omega) ?_
  intro a k h
  unfold sp_q131 at h
  split at h
  · exact ⟨[], rfl, rfl, (eq_q131 _ _ _ _ _).trans h⟩
  · cases h

def sh_st_binnacleref01_SameList_0 : StSh := ⟨[.rof, .rof, .any, .any, .any, .any, .any, .any, .any, .any, .any, .any, .int .i64, .int .i64, .any, .any, .any, .any, .any, .any, .any, .any, .any, .any, .any, .any, .any], []⟩
def sx0_st_binnacleref01_SameList_0 : StSh := ⟨[.any, .any, .any, .any, .bool, .any, .any, .any, .any, .any, .any, .any, .any, .any, .any, .any, .any, .any, .any, .any, .any, .any, .any, .any, .any, .any, .any], []⟩
def sx1_st_binnacleref01_SameList_0 : StSh := ⟨[.any, .any, .any, .any, .any, .any, .any, .any, .any, .any, .any, .any, .any, .any, .any, .any, .any, .any, .any, .any, .any, .any, .any, .any, .any, .any, .any], []⟩
def hk_st_binnacleref01_SameList_0 (N_ : Nat) (S_q131 : TS_q131) : List Atom -> K -> Bool := fun a_ κ => match a_ with
  | [.fls a_1, .fls b_1, .int t12, .int t13] => iterG N_ (st_q209 N_ S_q131 a_1 b_1 t12 (fun r0 => κ.ret (sx0_st_binnacleref01_SameList_0.build [.bool r0])) (κ.ext 0 (sx1_st_binnacleref01_SameList_0.build []))) t13
  | _ => false
def an_q52 (N_ : Nat) (S_q131 : TS_q131) : Nat -> Option Ann := fun b_ => cond (b_ == 0) (some ⟨⟨[0, 1, 12, 13], [], []⟩, [(0, ⟨[], [], []⟩)], some ⟨[4], [], []⟩, some (mkHooks [(sh_st_binnacleref01_SameList_0, hk_st_binnacleref01_SameList_0 N_ S_q131)])⟩) (none)
theorem eq_st_binnacleref01_SameList_0 (N_ : Nat) (S_q131 : TS_q131) (κ : K) (a_1 : List Fl) (b_1 : List Fl) (t12 : Int) (t13 : Int) : iter N_ (fun s k => codeV ⟨Pg, ofList [(93, (F_q131 S_q131))], isref, N_⟩ 0 (an_q52 N_ S_q131) (lp Pg 32 0).2 (lp Pg 32 0).1 s (roundK Pg 0 ((an_q52 N_ S_q131) (lp Pg 32 0).1) κ k)) (sh_st_binnacleref01_SameList_0.build [.fls a_1, .fls b_1, .int t12, .int t13]) = iterG N_ (st_q209 N_ S_q131 a_1 b_1 t12 (fun r0 => κ.ret (sx0_st_binnacleref01_SameList_0.build [.bool r0])) (κ.ext 0 (sx1_st_binnacleref01_SameList_0.build []))) t13 :=
  iter_tr (fun v_ => sh_st_binnacleref01_SameList_0.build [.fls a_1, .fls b_1, .int t12, .int v_]) (fun v_ K_ => by kernel_rfl) N_ t13
theorem hk1_st_binnacleref01_SameList_0 (N_ : Nat) (S_q131 : TS_q131) : HookFor ⟨Pg, ofList [(93, (F_q131 S_q131))], isref, N_⟩ 0 (an_q52 N_ S_q131) (lp Pg 32 0) (sh_st_binnacleref01_SameList_0, hk_st_binnacleref01_SameList_0 N_ S_q131) := by
  intro a κ h
  simp only at h
  unfold hk_st_binnacleref01_SameList_0 at h
  split at h
  · exact (eq_st_binnacleref01_SameList_0 _ _ _ _ _ _ _).trans h
  · cases h
theorem ho_binnacleref01_SameList_0 (N_ : Nat) (S_q131 : TS_q131) : HookOk ⟨Pg, ofList [(93, (F_q131 S_q131))], isref, N_⟩ 0 (an_q52 N_ S_q131) (lp Pg 32 0) :=
  hooks_ok [(sh_st_binnacleref01_SameList_0, hk_st_binnacleref01_SameList_0 N_ S_q131)] (by kernel_rfl) ⟨hk1_st_binnacleref01_SameList_0 _ _, trivial⟩
theorem eq_q52 (N_ : Nat) (S_q131 : TS_q131) (a : List Fl) (b : List Fl) (c_ : V -> List Blk -> Bool) : bodyV ⟨Pg, ofList [(93, (F_q131 S_q131))], isref, N_⟩ (an_q52 N_ S_q131) 32 (shF_q52.args [.fls a, .fls b]) [] c_ = G_q52 N_ S_q131 a b (fun r0 => c_ (.bool r0) []) := by kernel_rfl
theorem good_q52 (N_ : Nat) (S_q131 : TS_q131) (h_q131 : GoodF Pg 93 (F_q131 S_q131)) : GoodF Pg 32 (F_q52 (G_q52 N_ S_q131)) := by
  refine good_fs (cx := ⟨Pg, ofList [(93, (F_q131 S_q131))], isref, N_⟩) (ofList_cons h_q131 (ofList_nil _)) shF_q52 (sp_q52 (G_q52 N_ S_q131)) (an_q52 N_ S_q131) 1 0 (by kernel_rfl) (fun i_ hi_ => by
    match i_, hi_ with
    | 0, _ => exact ho_binnacleref01_SameList_0 _ _
    | (q + 1), h => omega) ?_
  intro a k h
  unfold sp_q52 at h
  split at h
  · exact ⟨[], rfl, rfl, (eq_q52 _ _ _ _ _).trans h⟩
  · cases h

def an_q55 (N_ : Nat) : Nat -> Option Ann := fun b_ => none
theorem eq_q55 (N_ : Nat) (q_0 : Fl) (q_1 : Fl) (q_2 : Fl) (q_3 : Fl) (c_ : V -> List Blk -> Bool) : bodyV ⟨Pg, ofList [], isref, N_⟩ (an_q55 N_) 68 (shF_q55.args [.fl q_0, .fl q_1, .fl q_2, .fl q_3]) [] c_ = G_q55 N_ q_0 q_1 q_2 q_3 (c_ (.agg [.flt q_0, .flt q_1, .flt q_2, .flt q_3]) []) := by kernel_rfl
theorem good_q55 (N_ : Nat) : GoodF Pg 68 (F_q55 (G_q55 N_)) := by
  refine good_fs (cx := ⟨Pg, ofList [], isref, N_⟩) (ofList_nil _) shF_q55 (sp_q55 (G_q55 N_)) (an_q55 N_) 0 0 (by kernel_rfl) (fun i_ hi_ => by omega) ?_
  intro a k h
  unfold sp_q55 at h
  split at h
  · exact ⟨[], rfl, rfl, (eq_q55 _ _ _ _ _ _).trans h⟩
  · cases h


def an_q132 (N_ : Nat) (S_m_Abs : TS_m_Abs) : Nat -> Option Ann := fun b_ => none
theorem eq_q132 (N_ : Nat) (S_m_Abs : TS_m_Abs) (f : Fl) (sign : Int) (c_ : V -> List Blk -> Bool) : bodyV ⟨Pg, ofList [(69, (F_m_Abs S_m_Abs))], isref, N_⟩ (an_q132 N_ S_m_Abs) 148 (shF_q132.args [.fl f, .int sign]) [] c_ = G_q132 N_ S_m_Abs f sign (fun r0 => c_ (.bool r0) []) := by kernel_rfl
theorem good_q132 (N_ : Nat) (S_m_Abs : TS_m_Abs) (h_m_Abs : GoodF Pg 69 (F_m_Abs S_m_Abs)) : GoodF Pg 148 (F_q132 (G_q132 N_ S_m_Abs)) := by
  refine good_fs (cx := ⟨Pg, ofList [(69, (F_m_Abs S_m_Abs))], isref, N_⟩) (ofList_cons h_m_Abs (ofList_nil _)) shF_q132 (sp_q132 (G_q132 N_ S_m_Abs)) (an_q132 N_ S_m_Abs) 0 0 (by kernel_rfl) (fun i_ hi_ => by omega) ?_
  intro a k h
  unfold sp_q132 at h
  split at h
  · exact ⟨[], rfl, rfl, (eq_q132 _ _ _ _ _).trans h⟩
  · cases h

def an_q136 (N_ : Nat) : Nat -> Option Ann := fun b_ => none
theorem eq_q136 (N_ : Nat) (f : Fl) (c_ : V -> List Blk -> Bool) : bodyV ⟨Pg, ofList [], isref, N_⟩ (an_q136 N_) 149 (shF_q136.args [.fl f]) [] c_ = G_q136 N_ f (fun r0 => c_ (.bool r0) []) := by kernel_rfl
theorem good_q136 (N_ : Nat) : GoodF Pg 149 (F_q136 (G_q136 N_)) := by
  refine good_fs (cx := ⟨Pg, ofList [], isref, N_⟩) (ofList_nil _) shF_q136 (sp_q136 (G_q136 N_)) (an_q136 N_) 0 0 (by kernel_rfl) (fun i_ hi_ => by omega) ?_
  intro a k h
  unfold sp_q136 at h
  split at h
  · exact ⟨[], rfl, rfl, (eq_q136 _ _ _).trans h⟩
  · cases h

def an_q67 (N_ : Nat) (S_m_Abs : TS_m_Abs) : Nat -> Option Ann := fun b_ => none
theorem eq_q67 (N_ : Nat) (S_m_Abs : TS_m_Abs) (x : Fl) (c_ : V -> List Blk -> Bool) : bodyV ⟨Pg, ofList [(69, (F_m_Abs S_m_Abs))], isref, N_⟩ (an_q67 N_ S_m_Abs) 150 (shF_q67.args [.fl x]) [] c_ = G_q67 N_ S_m_Abs x (fun r0 r1 => c_ (.tup [.flt r0, .int .i64 r1]) []) := by kernel_rfl
theorem good_q67 (N_ : Nat) (S_m_Abs : TS_m_Abs) (h_m_Abs : GoodF Pg 69 (F_m_Abs S_m_Abs)) : GoodF Pg 150 (F_q67 (G_q67 N_ S_m_Abs)) := by
  refine good_fs (cx := ⟨Pg, ofList [(69, (F_m_Abs S_m_Abs))], isref, N_⟩) (ofList_cons h_m_Abs (ofList_nil _)) shF_q67 (sp_q67 (G_q67 N_ S_m_Abs)) (an_q67 N_ S_m_Abs) 0 0 (by kernel_rfl) (fun i_ hi_ => by omega) ?_
  intro a k h
  unfold sp_q67 at h
  split at h
  · exact ⟨[], rfl, rfl, (eq_q67 _ _ _ _).trans h⟩
  · cases h

def an_q178 (N_ : Nat) (S_q132 : TS_q132) (S_q136 : TS_q136) (S_q67 : TS_q67) (S_q103 : TS_q103) (S_q70 : TS_q70) : Nat -> Option Ann := fun b_ => none
theorem eq_q178 (N_ : Nat) (S_q132 : TS_q132) (S_q136 : TS_q136) (S_q67 : TS_q67) (S_q103 : TS_q103) (S_q70 : TS_q70) (f : Fl) (c_ : V -> List Blk -> Bool) : bodyV ⟨Pg, ofList [(148, (F_q132 S_q132)), (149, (F_q136 S_q136)), (150, (F_q67 S_q67)), (88, (F_q103 S_q103)), (100, (F_q70 S_q70))], isref, N_⟩ (an_q178 N_ S_q132 S_q136 S_q67 S_q103 S_q70) 119 (shF_q178.args [.fl f]) [] c_ = G_q178 N_ S_q132 S_q136 S_q67 S_q103 S_q70 f (fun r0 r1 => c_ (.tup [.flt r0, .int .i64 r1]) []) := by kernel_rfl
theorem good_q178 (N_ : Nat) (S_q132 : TS_q132) (S_q136 : TS_q136) (S_q67 : TS_q67) (S_q103 : TS_q103) (S_q70 : TS_q70) (h_q132 : GoodF Pg 148 (F_q132 S_q132)) (h_q136 : GoodF Pg 149 (F_q136 S_q136)) (h_q67 : GoodF Pg 150 (F_q67 S_q67)) (h_q103 : GoodF Pg 88 (F_q103 S_q103)) (h_q70 : GoodF Pg 100 (F_q70 S_q70)) : GoodF Pg 119 (F_q178 (G_q178 N_ S_q132 S_q136 S_q67 S_q103 S_q70)) := by
  refine good_fs (cx := ⟨Pg, ofList [(148, (F_q132 S_q132)), (149, (F_q136 S_q136)), (150, (F_q67 S_q67)), (88, (F_q103 S_q103)), (100, (F_q70 S_q70))], isref, N_⟩) (ofList_cons h_q132 (ofList_cons h_q136 (ofList_cons h_q67 (ofList_cons h_q103 (ofList_cons h_q70 (ofList_nil _)))))) shF_q178 (sp_q178 (G_q178 N_ S_q132 S_q136 S_q67 S_q103 S_q70)) (an_q178 N_ S_q132 S_q136 S_q67 S_q103 S_q70) 0 0 (by kernel_rfl) (fun i_ hi_ => by omega) ?_
  intro a k h
  unfold sp_q178 at h
  split at h
  · exact ⟨[], rfl, rfl, (eq_q178 _ _ _ _ _ _ _ _).trans h⟩
  · cases h

def an_q127 (N_ : Nat) (S_q178 : TS_q178) : Nat -> Option Ann := fun b_ => none
theorem eq_q127 (N_ : Nat) (S_q178 : TS_q178) (f : Fl) (c_ : V -> List Blk -> Bool) : bodyV ⟨Pg, ofList [(119, (F_q178 S_q178))], isref, N_⟩ (an_q127 N_ S_q178) 70 (shF_q127.args [.fl f]) [] c_ = G_q127 N_ S_q178 f (fun r0 r1 => c_ (.tup [.flt r0, .int .i64 r1]) []) := by kernel_rfl
theorem good_q127 (N_ : Nat) (S_q178 : TS_q178) (h_q178 : GoodF Pg 119 (F_q178 S_q178)) : GoodF Pg 70 (F_q127 (G_q127 N_ S_q178)) := by
  refine good_fs (cx := ⟨Pg, ofList [(119, (F_q178 S_q178))], isref, N_⟩) (ofList_cons h_q178 (ofList_nil _)) shF_q127 (sp_q127 (G_q127 N_ S_q178)) (an_q127 N_ S_q178) 0 0 (by kernel_rfl) (fun i_ hi_ => by omega) ?_
  intro a k h
  unfold sp_q127 at h
  split at h
  · exact ⟨[], rfl, rfl, (eq_q127 _ _ _ _).trans h⟩
  · cases h

def an_q111 (N_ : Nat) (S_q103 : TS_q103) (S_q70 : TS_q70) : Nat -> Option Ann := fun b_ => none
theorem eq_q111 (N_ : Nat) (S_q103 : TS_q103) (S_q70 : TS_q70) (f : Fl) (sign : Fl) (c_ : V -> List Blk -> Bool) : bodyV ⟨Pg, ofList [(88, (F_q103 S_q103)), (100, (F_q70 S_q70))], isref, N_⟩ (an_q111 N_ S_q103 S_q70) 151 (shF_q111.args [.fl f, .fl sign]) [] c_ = G_q111 N_ S_q103 S_q70 f sign (fun r0 => c_ (.flt r0) []) := by kernel_rfl
theorem good_q111 (N_ : Nat) (S_q103 : TS_q103) (S_q70 : TS_q70) (h_q103 : GoodF Pg 88 (F_q103 S_q103)) (h_q70 : GoodF Pg 100 (F_q70 S_q70)) : GoodF Pg 151 (F_q111 (G_q111 N_ S_q103 S_q70)) := by
  refine good_fs (cx := ⟨Pg, ofList [(88, (F_q103 S_q103)), (100, (F_q70 S_q70))], isref, N_⟩) (ofList_cons h_q103 (ofList_cons h_q70 (ofList_nil _))) shF_q111 (sp_q111 (G_q111 N_ S_q103 S_q70)) (an_q111 N_ S_q103 S_q70) 0 0 (by kernel_rfl) (fun i_ hi_ => by omega) ?_
  intro a k h
  unfold sp_q111 at h
  split at h
  · exact ⟨[], rfl, rfl, (eq_q111 _ _ _ _ _ _).trans h⟩
  · cases h

def an_m_Inf (N_ : Nat) (S_q70 : TS_q70) : Nat -> Option Ann := fun b_ => none
def ls_m_Inf_0 (d_ : List V) (u_ : List (Option Blk)) (sign : Int) (v : Int) : St := ⟨(dqs d_ 0 3 [.int .u64 v, (dq d_ 3), (dq d_ 4), (dq d_ 5), (dq d_ 6)]), []⟩
theorem jn_m_Inf_0 (N_ : Nat) (S_q70 : TS_q70) (d_ : List V) (u_ : List (Option Blk)) (sign : Int) (v : Int) (c_ : V -> List Blk -> Bool) : codesV ⟨Pg, ofList [(100, (F_q70 S_q70))], isref, N_⟩ 0 (an_m_Inf N_ S_q70) ((cds Pg 152).drop 4) 0 (ls_m_Inf_0 d_ u_ sign v) (finV Pg 152 0 c_) = J_m_Inf_0 N_ S_q70 sign v (fun r0 => c_ (.flt r0) []) := by kernel_rfl
theorem hd_m_Inf_w (N_ : Nat) (S_q70 : TS_q70) (sign : Int) (c_ : V -> List Blk -> Bool) (κn_ : St -> Bool) : codesV ⟨Pg, ofList [(100, (F_q70 S_q70))], isref, N_⟩ 0 (an_m_Inf N_ S_q70) (sg Pg 152 0 4) 0 (st0 Pg 152 (shF_m_Inf.args [.int sign]) []) { (finV Pg 152 0 c_) with nrm := κn_ } = (cond (decide (sign >= 0)) (κn_ (ls_m_Inf_0 [.int .i64 sign, .any, .flt (some 0), .int .i64 sign, .bool true, .any, .any] [] sign 9218868437227405312)) (κn_ (ls_m_Inf_0 [.int .i64 sign, .any, .flt (some 0), .int .i64 sign, .bool false, .any, .any] [] sign 18442240474082181120))) := by kernel_rfl
theorem jn_m_Inf_w (N_ : Nat) (S_q70 : TS_q70) (sign : Int) (c_ : V -> List Blk -> Bool) : codesV ⟨Pg, ofList [(100, (F_q70 S_q70))], isref, N_⟩ 0 (an_m_Inf N_ S_q70) ((cds Pg 152).drop 0) 0 (st0 Pg 152 (shF_m_Inf.args [.int sign]) []) (finV Pg 152 0 c_) = G_m_Inf N_ S_q70 sign (fun r0 => c_ (.flt r0) []) := by
  rw [codesV_cut 0 4 4 rfl]
  refine (hd_m_Inf_w N_ S_q70 sign c_ _).trans ?_
  simp only [jn_m_Inf_0]
  kernel_rfl
theorem eq_m_Inf (N_ : Nat) (S_q70 : TS_q70) (sign : Int) (c_ : V -> List Blk -> Bool) : bodyV ⟨Pg, ofList [(100, (F_q70 S_q70))], isref, N_⟩ (an_m_Inf N_ S_q70) 152 (shF_m_Inf.args [.int sign]) [] c_ = G_m_Inf N_ S_q70 sign (fun r0 => c_ (.flt r0) []) :=
  (bodyV_codes (by kernel_rfl)).trans (jn_m_Inf_w N_ S_q70 sign c_)
theorem good_m_Inf (N_ : Nat) (S_q70 : TS_q70) (h_q70 : GoodF Pg 100 (F_q70 S_q70)) : GoodF Pg 152 (F_m_Inf (G_m_Inf N_ S_q70)) := by
  refine good_fs (cx := ⟨Pg, ofList [(100, (F_q70 S_q70))], isref, N_⟩) (ofList_cons h_q70 (ofList_nil _)) shF_m_Inf (sp_m_Inf (G_m_Inf N_ S_q70)) (an_m_Inf N_ S_q70) 0 0 (by kernel_rfl) (fun i_ hi_ => by omega) ?_
  intro a k h
  unfold sp_m_Inf at h
  split at h
  · exact ⟨[], rfl, rfl, (eq_m_Inf _ _ _ _).trans h⟩
  · cases h

def an_q175 (N_ : Nat) (S_q132 : TS_q132) (S_q136 : TS_q136) (S_q67 : TS_q67) (S_q103 : TS_q103) (S_q111 : TS_q111) (S_m_Inf : TS_m_Inf) (S_q70 : TS_q70) : Nat -> Option Ann := fun b_ => none
def ls_q219 (d_ : List V) (u_ : List (Option Blk)) (frac : Fl) (exp : Int) (exp_1 : Int) (x : Int) (m : Fl) : St := ⟨[(dq d_ 0), .int .i64 exp_1, (dq d_ 1), (dq d_ 2), (dq d_ 3), (dq d_ 4), .int .u64 x, .flt m, (dq d_ 5), (dq d_ 6), (dq d_ 7), (dq d_ 8), (dq d_ 9), (dq d_ 10), (dq d_ 11), (dq d_ 12), (dq d_ 13), (dq d_ 14), (dq d_ 15), (dq d_ 16), (dq d_ 17), (dq d_ 18), (dq d_ 19), (dq d_ 20), (dq d_ 21), (dq d_ 22), (dq d_ 23), (dq d_ 24), (dq d_ 25), (dq d_ 26), (dq d_ 27), (dq d_ 28), (dq d_ 29), (dq d_ 30), (dq d_ 31), (dq d_ 32), (dq d_ 33), (dq d_ 34), (dq d_ 35), (dq d_ 36), (dq d_ 37), (dq d_ 38), (dq d_ 39), (dq d_ 40), (dq d_ 41), (dq d_ 42), (dq d_ 43), (dq d_ 44), (dq d_ 45), (dq d_ 46), (dq d_ 47), (dq d_ 48), (dq d_ 49), (dq d_ 50), (dq d_ 51), (dq d_ 52), (dq d_ 53), (dq d_ 54), (dq d_ 55), (dq d_ 56), (dq d_ 57), (dq d_ 58), (dq d_ 59)], []⟩
theorem jn_q219 (N_ : Nat) (S_q132 : TS_q132) (S_q136 : TS_q136) (S_q67 : TS_q67) (S_q103 : TS_q103) (S_q111 : TS_q111) (S_m_Inf : TS_m_Inf) (S_q70 : TS_q70) (d_ : List V) (u_ : List (Option Blk)) (frac : Fl) (exp : Int) (exp_1 : Int) (x : Int) (m : Fl) (c_ : V -> List Blk -> Bool) : codesV ⟨Pg, ofList [(148, (F_q132 S_q132)), (149, (F_q136 S_q136)), (150, (F_q67 S_q67)), (88, (F_q103 S_q103)), (151, (F_q111 S_q111)), (152, (F_m_Inf S_m_Inf)), (100, (F_q70 S_q70))], isref, N_⟩ 0 (an_q175 N_ S_q132 S_q136 S_q67 S_q103 S_q111 S_m_Inf S_q70) ((cds Pg 121).drop 13) 0 (ls_q219 d_ u_ frac exp exp_1 x m) (finV Pg 121 0 c_) = J_q219 N_ S_q132 S_q136 S_q67 S_q103 S_q111 S_m_Inf S_q70 frac exp exp_1 x m (fun r0 => c_ (.flt r0) []) := by kernel_rfl
theorem hd_m_ldexp_w (N_ : Nat) (S_q132 : TS_q132) (S_q136 : TS_q136) (S_q67 : TS_q67) (S_q103 : TS_q103) (S_q111 : TS_q111) (S_m_Inf : TS_m_Inf) (S_q70 : TS_q70) (frac : Fl) (exp : Int) (c_ : V -> List Blk -> Bool) (κn_ : St -> Bool) : codesV ⟨Pg, ofList [(148, (F_q132 S_q132)), (149, (F_q136 S_q136)), (150, (F_q67 S_q67)), (88, (F_q103 S_q103)), (151, (F_q111 S_q111)), (152, (F_m_Inf S_m_Inf)), (100, (F_q70 S_q70))], isref, N_⟩ 0 (an_q175 N_ S_q132 S_q136 S_q67 S_q103 S_q111 S_m_Inf S_q70) (sg Pg 121 0 13) 0 (st0 Pg 121 (shF_q175.args [.fl frac, .int exp]) []) { (finV Pg 121 0 c_) with nrm := κn_ } = (cond (feq frac (some 0)) (c_ (.flt frac) []) (S_q132 frac 0 (fun cr => (cond (cr == false) (S_q136 frac (fun cr_1 => (cond cr_1 (c_ (.flt frac) []) (S_q67 frac (fun xr nr => ((fits .i64 (exp + nr)) && (S_q103 xr (fun nr_1 => ((fits .i64 (Int.fdiv nr_1 (2 ^ 52))) && ((fits .i64 ((bitsN .and .i64 (Int.fdiv nr_1 (2 ^ 52)) 2047) - 1023)) && ((fits .i64 ((exp + nr) + ((bitsN .and .i64 (Int.fdiv nr_1 (2 ^ 52)) 2047) - 1023))) && (cond (decide (((exp + nr) + ((bitsN .and .i64 (Int.fdiv nr_1 (2 ^ 52)) 2047) - 1023)) < (-1075))) (S_q111 (some 0) xr (fun xr_1 => (c_ (.flt xr_1) []))) (cond (decide (((exp + nr) + ((bitsN .and .i64 (Int.fdiv nr_1 (2 ^ 52)) 2047) - 1023)) > 1023)) (cond (flt xr (some 0)) (S_m_Inf (-1) (fun xr_2 => (c_ (.flt xr_2) []))) (S_m_Inf 1 (fun xr_3 => (c_ (.flt xr_3) [])))) (cond (decide (((exp + nr) + ((bitsN .and .i64 (Int.fdiv nr_1 (2 ^ 52)) 2047) - 1023)) < (-1022))) ((fits .i64 (((exp + nr) + ((bitsN .and .i64 (Int.fdiv nr_1 (2 ^ 52)) 2047) - 1023)) + 53)) && (κn_ (ls_q219 [.flt xr, .any, .any, .flt (some 0), .int .i64 nr, .bool false, .flt frac, .bool (feq frac (some 0)), .any, .bool false, .flt frac, .bool cr, .bool false, .flt frac, .bool cr_1, .bool cr_1, .any, .tup [.flt xr, .int .i64 nr], .flt frac, .tup [.flt xr, .int .i64 nr], .flt xr, .int .i64 nr, .int .i64 exp, .int .i64 nr, .int .i64 (exp + nr), .flt xr, .int .u64 nr_1, .int .i64 (exp + nr), .int .u64 nr_1, .int .u64 (Int.fdiv nr_1 (2 ^ 52)), .int .i64 (Int.fdiv nr_1 (2 ^ 52)), .int .i64 (bitsN .and .i64 (Int.fdiv nr_1 (2 ^ 52)) 2047), .int .i64 ((bitsN .and .i64 (Int.fdiv nr_1 (2 ^ 52)) 2047) - 1023), .int .i64 ((exp + nr) + ((bitsN .and .i64 (Int.fdiv nr_1 (2 ^ 52)) 2047) - 1023)), .int .i64 ((exp + nr) + ((bitsN .and .i64 (Int.fdiv nr_1 (2 ^ 52)) 2047) - 1023)), .bool false, .any, .any, .int .i64 ((exp + nr) + ((bitsN .and .i64 (Int.fdiv nr_1 (2 ^ 52)) 2047) - 1023)), .bool false, .any, .any, .any, .any, .int .i64 ((exp + nr) + ((bitsN .and .i64 (Int.fdiv nr_1 (2 ^ 52)) 2047) - 1023)), .bool true, .int .i64 ((exp + nr) + ((bitsN .and .i64 (Int.fdiv nr_1 (2 ^ 52)) 2047) - 1023)), .int .i64 (((exp + nr) + ((bitsN .and .i64 (Int.fdiv nr_1 (2 ^ 52)) 2047) - 1023)) + 53), .any, .any, .any, .any, .any, .any, .any, .any, .any, .any, .any, .any] [] frac exp (((exp + nr) + ((bitsN .and .i64 (Int.fdiv nr_1 (2 ^ 52)) 2047) - 1023)) + 53) nr_1 (some 4368491638549381120)))) (κn_ (ls_q219 [.flt xr, .any, .any, .flt (some 0), .int .i64 nr, .bool false, .flt frac, .bool (feq frac (some 0)), .any, .bool false, .flt frac, .bool cr, .bool false, .flt frac, .bool cr_1, .bool cr_1, .any, .tup [.flt xr, .int .i64 nr], .flt frac, .tup [.flt xr, .int .i64 nr], .flt xr, .int .i64 nr, .int .i64 exp, .int .i64 nr, .int .i64 (exp + nr), .flt xr, .int .u64 nr_1, .int .i64 (exp + nr), .int .u64 nr_1, .int .u64 (Int.fdiv nr_1 (2 ^ 52)), .int .i64 (Int.fdiv nr_1 (2 ^ 52)), .int .i64 (bitsN .and .i64 (Int.fdiv nr_1 (2 ^ 52)) 2047), .int .i64 ((bitsN .and .i64 (Int.fdiv nr_1 (2 ^ 52)) 2047) - 1023), .int .i64 ((exp + nr) + ((bitsN .and .i64 (Int.fdiv nr_1 (2 ^ 52)) 2047) - 1023)), .int .i64 ((exp + nr) + ((bitsN .and .i64 (Int.fdiv nr_1 (2 ^ 52)) 2047) - 1023)), .bool false, .any, .any, .int .i64 ((exp + nr) + ((bitsN .and .i64 (Int.fdiv nr_1 (2 ^ 52)) 2047) - 1023)), .bool false, .any, .any, .any, .any, .int .i64 ((exp + nr) + ((bitsN .and .i64 (Int.fdiv nr_1 (2 ^ 52)) 2047) - 1023)), .bool false, .any, .any, .any, .any, .any, .any, .any, .any, .any, .any, .any, .any, .any, .any] [] frac exp ((exp + nr) + ((bitsN .and .i64 (Int.fdiv nr_1 (2 ^ 52)) 2047) - 1023)) nr_1 (some 4607182418800017408))))))))))))))))) (c_ (.flt frac) []))))) := by kernel_rfl
theorem jn_m_ldexp_w (N_ : Nat) (S_q132 : TS_q132) (S_q136 : TS_q136) (S_q67 : TS_q67) (S_q103 : TS_q103) (S_q111 : TS_q111) (S_m_Inf : TS_m_Inf) (S_q70 : TS_q70) (frac : Fl) (exp : Int) (c_ : V -> List Blk -> Bool) : codesV ⟨Pg, ofList [(148, (F_q132 S_q132)), (149, (F_q136 S_q136)), (150, (F_q67 S_q67)), (88, (F_q103 S_q103)), (151, (F_q111 S_q111)), (152, (F_m_Inf S_m_Inf)), (100, (F_q70 S_q70))], isref, N_⟩ 0 (an_q175 N_ S_q132 S_q136 S_q67 S_q103 S_q111 S_m_Inf S_q70) ((cds Pg 121).drop 0) 0 (st0 Pg 121 (shF_q175.args [.fl frac, .int exp]) []) (finV Pg 121 0 c_) = G_q175 N_ S_q132 S_q136 S_q67 S_q103 S_q111 S_m_Inf S_q70 frac exp (fun r0 => c_ (.flt r0) []) := by
  rw [codesV_cut 0 13 13 rfl]
  refine (hd_m_ldexp_w N_ S_q132 S_q136 S_q67 S_q103 S_q111 S_m_Inf S_q70 frac exp c_ _).trans ?_
  simp only [jn_q219]
  kernel_rfl
theorem eq_q175 (N_ : Nat) (S_q132 : TS_q132) (S_q136 : TS_q136) (S_q67 : TS_q67) (S_q103 : TS_q103) (S_q111 : TS_q111) (S_m_Inf : TS_m_Inf) (S_q70 : TS_q70) (frac : Fl) (exp : Int) (c_ : V -> List Blk -> Bool) : bodyV ⟨Pg, ofList [(148, (F_q132 S_q132)), (149, (F_q136 S_q136)), (150, (F_q67 S_q67)), (88, (F_q103 S_q103)), (151, (F_q111 S_q111)), (152, (F_m_Inf S_m_Inf)), (100, (F_q70 S_q70))], isref, N_⟩ (an_q175 N_ S_q132 S_q136 S_q67 S_q103 S_q111 S_m_Inf S_q70) 121 (shF_q175.args [.fl frac, .int exp]) [] c_ = G_q175 N_ S_q132 S_q136 S_q67 S_q103 S_q111 S_m_Inf S_q70 frac exp (fun r0 => c_ (.flt r0) []) :=
  (bodyV_codes (by kernel_rfl)).trans (jn_m_ldexp_w N_ S_q132 S_q136 S_q67 S_q103 S_q111 S_m_Inf S_q70 frac exp c_)
theorem good_q175 (N_ : Nat) (S_q132 : TS_q132) (S_q136 : TS_q136) (S_q67 : TS_q67) (S_q103 : TS_q103) (S_q111 : TS_q111) (S_m_Inf : TS_m_Inf) (S_q70 : TS_q70) (h_q132 : GoodF Pg 148 (F_q132 S_q132)) (h_q136 : GoodF Pg 149 (F_q136 S_q136)) (h_q67 : GoodF Pg 150 (F_q67 S_q67)) (h_q103 : GoodF Pg 88 (F_q103 S_q103)) (h_q111 : GoodF Pg 151 (F_q111 S_q111)) (h_m_Inf : GoodF Pg 152 (F_m_Inf S_m_Inf)) (h_q70 : GoodF Pg 100 (F_q70 S_q70)) : GoodF Pg 121 (F_q175 (G_q175 N_ S_q132 S_q136 S_q67 S_q103 S_q111 S_m_Inf S_q70)) := by
  refine good_fs (cx := ⟨Pg, ofList [(148, (F_q132 S_q132)), (149, (F_q136 S_q136)), (150, (F_q67 S_q67)), (88, (F_q103 S_q103)), (151, (F_q111 S_q111)), (152, (F_m_Inf S_m_Inf)), (100, (F_q70 S_q70))], isref, N_⟩) (ofList_cons h_q132 (ofList_cons h_q136 (ofList_cons h_q67 (ofList_cons h_q103 (ofList_cons h_q111 (ofList_cons h_m_Inf (ofList_cons h_q70 (ofList_nil _)))))))) shF_q175 (sp_q175 (G_q175 N_ S_q132 S_q136 S_q67 S_q103 S_q111 S_m_Inf S_q70)) (an_q175 N_ S_q132 S_q136 S_q67 S_q103 S_q111 S_m_Inf S_q70) 0 0 (by kernel_rfl) (fun i_ hi_ => by omega) ?_
  intro a k h
  unfold sp_q175 at h
  split at h
  · exact ⟨[], rfl, rfl, (eq_q175 _ _ _ _ _ _ _ _ _ _ _).trans h⟩
  · cases h

def an_q173 (N_ : Nat) (S_q175 : TS_q175) : Nat -> Option Ann := fun b_ => none
theorem eq_q173 (N_ : Nat) (S_q175 : TS_q175) (frac : Fl) (exp : Int) (c_ : V -> List Blk -> Bool) : bodyV ⟨Pg, ofList [(121, (F_q175 S_q175))], isref, N_⟩ (an_q173 N_ S_q175) 71 (shF_q173.args [.fl frac, .int exp]) [] c_ = G_q173 N_ S_q175 frac exp (fun r0 => c_ (.flt r0) []) := by kernel_rfl
theorem good_q173 (N_ : Nat) (S_q175 : TS_q175) (h_q175 : GoodF Pg 121 (F_q175 S_q175)) : GoodF Pg 71 (F_q173 (G_q173 N_ S_q175)) := by
  refine good_fs (cx := ⟨Pg, ofList [(121, (F_q175 S_q175))], isref, N_⟩) (ofList_cons h_q175 (ofList_nil _)) shF_q173 (sp_q173 (G_q173 N_ S_q175)) (an_q173 N_ S_q175) 0 0 (by kernel_rfl) (fun i_ hi_ => by omega) ?_
  intro a k h
  unfold sp_q173 at h
  split at h
  · exact ⟨[], rfl, rfl, (eq_q173 _ _ _ _ _).trans h⟩
  · cases h


def an_q176 (N_ : Nat) (S_q189 : TS_q189) : Nat -> Option Ann := fun b_ => none
theorem eq_q176 (N_ : Nat) (S_q189 : TS_q189) (x : Fl) (c_ : V -> List Blk -> Bool) : bodyV ⟨Pg, ofList [(122, (F_q189 S_q189))], isref, N_⟩ (an_q176 N_ S_q189) 72 (shF_q176.args [.fl x]) [] c_ = G_q176 N_ S_q189 x (fun r0 => c_ (.flt r0) []) := by kernel_rfl
theorem good_q176 (N_ : Nat) (S_q189 : TS_q189) (h_q189 : GoodF Pg 122 (F_q189 S_q189)) : GoodF Pg 72 (F_q176 (G_q176 N_ S_q189)) := by
  refine good_fs (cx := ⟨Pg, ofList [(122, (F_q189 S_q189))], isref, N_⟩) (ofList_cons h_q189 (ofList_nil _)) shF_q176 (sp_q176 (G_q176 N_ S_q189)) (an_q176 N_ S_q189) 0 0 (by kernel_rfl) (fun i_ hi_ => by omega) ?_
  intro a k h
  unfold sp_q176 at h
  split at h
  · exact ⟨[], rfl, rfl, (eq_q176 _ _ _ _).trans h⟩
  · cases h

def an_q149 (N_ : Nat) : Nat -> Option Ann := fun b_ => none
theorem eq_q149 (N_ : Nat) (l_0 : Fl) (l_1 : Fl) (l_2 : Fl) (l_3 : Fl) (c_ : V -> List Blk -> Bool) : bodyV ⟨Pg, ofList [], isref, N_⟩ (an_q149 N_) 73 (shF_q149.args [.fl l_0, .fl l_1, .fl l_2, .fl l_3]) [] c_ = G_q149 N_ l_0 l_1 l_2 l_3 (c_ (.agg [.flt l_0, .flt l_1, .flt l_2, .flt l_3]) []) := by kernel_rfl
theorem good_q149 (N_ : Nat) : GoodF Pg 73 (F_q149 (G_q149 N_)) := by
  refine good_fs (cx := ⟨Pg, ofList [], isref, N_⟩) (ofList_nil _) shF_q149 (sp_q149 (G_q149 N_)) (an_q149 N_) 0 0 (by kernel_rfl) (fun i_ hi_ => by omega) ?_
  intro a k h
  unfold sp_q149 at h
  split at h
  · exact ⟨[], rfl, rfl, (eq_q149 _ _ _ _ _ _).trans h⟩
  · cases h

def an_q89 (N_ : Nat) (S_q12 : TS_q12) (S_q55 : TS_q55) (S_m_Abs : TS_m_Abs) (S_q127 : TS_q127) (S_q173 : TS_q173) (S_q176 : TS_q176) (S_q149 : TS_q149) : Nat -> Option Ann := fun b_ => none
theorem eq_q89 (N_ : Nat) (S_q12 : TS_q12) (S_q55 : TS_q55) (S_m_Abs : TS_m_Abs) (S_q127 : TS_q127) (S_q173 : TS_q173) (S_q176 : TS_q176) (S_q149 : TS_q149) (q_0 : Fl) (q_1 : Fl) (q_2 : Fl) (q_3 : Fl) (c_ : V -> List Blk -> Bool) : bodyV ⟨Pg, ofList [(56, (F_q12 S_q12)), (68, (F_q55 S_q55)), (69, (F_m_Abs S_m_Abs)), (70, (F_q127 S_q127)), (71, (F_q173 S_q173)), (72, (F_q176 S_q176)), (73, (F_q149 S_q149))], isref, (N_ + 24)⟩ (an_q89 (N_ + 24) S_q12 S_q55 S_m_Abs S_q127 S_q173 S_q176 S_q149) 18 (shF_q89.args [.fl q_0, .fl q_1, .fl q_2, .fl q_3]) [] c_ = G_q89 (N_ + 24) S_q12 S_q55 S_m_Abs S_q127 S_q173 S_q176 S_q149 q_0 q_1 q_2 q_3 (fun r0 r1 r2 r3 r4 => c_ (.tup [.agg [.flt r0, .flt r1, .flt r2, .flt r3], .int .i64 r4]) []) := by kernel_rfl
theorem good_q89 (N_ : Nat) (S_q12 : TS_q12) (S_q55 : TS_q55) (S_m_Abs : TS_m_Abs) (S_q127 : TS_q127) (S_q173 : TS_q173) (S_q176 : TS_q176) (S_q149 : TS_q149) (h_q12 : GoodF Pg 56 (F_q12 S_q12)) (h_q55 : GoodF Pg 68 (F_q55 S_q55)) (h_m_Abs : GoodF Pg 69 (F_m_Abs S_m_Abs)) (h_q127 : GoodF Pg 70 (F_q127 S_q127)) (h_q173 : GoodF Pg 71 (F_q173 S_q173)) (h_q176 : GoodF Pg 72 (F_q176 S_q176)) (h_q149 : GoodF Pg 73 (F_q149 S_q149)) : GoodF Pg 18 (F_q89 (G_q89 (N_ + 24) S_q12 S_q55 S_m_Abs S_q127 S_q173 S_q176 S_q149)) := by
  refine good_fs (cx := ⟨Pg, ofList [(56, (F_q12 S_q12)), (68, (F_q55 S_q55)), (69, (F_m_Abs S_m_Abs)), (70, (F_q127 S_q127)), (71, (F_q173 S_q173)), (72, (F_q176 S_q176)), (73, (F_q149 S_q149))], isref, (N_ + 24)⟩) (ofList_cons h_q12 (ofList_cons h_q55 (ofList_cons h_m_Abs (ofList_cons h_q127 (ofList_cons h_q173 (ofList_cons h_q176 (ofList_cons h_q149 (ofList_nil _)))))))) shF_q89 (sp_q89 (G_q89 (N_ + 24) S_q12 S_q55 S_m_Abs S_q127 S_q173 S_q176 S_q149)) (an_q89 (N_ + 24) S_q12 S_q55 S_m_Abs S_q127 S_q173 S_q176 S_q149) 3 0 (by kernel_rfl) (fun i_ hi_ => by
    match i_, hi_ with
    | 0, _ => exact (fun hk e => by rw [show hookOf ((an_q89 (N_ + 24) S_q12 S_q55 S_m_Abs S_q127 S_q173 S_q176 S_q149) (lp Pg 18 0).1) = none from by kernel_rfl] at e; cases e)
    | 1, _ => exact (fun hk e => by rw [show hookOf ((an_q89 (N_ + 24) S_q12 S_q55 S_m_Abs S_q127 S_q173 S_q176 S_q149) (lp Pg 18 1).1) = none from by kernel_rfl] at e; cases e)
    | 2, _ => exact (fun hk e => by rw [show hookOf ((an_q89 (N_ + 24) S_q12 S_q55 S_m_Abs S_q127 S_q173 S_q176 S_q149) (lp Pg 18 2).1) = none from by kernel_rfl] at e; cases e)
    | (q + 3), h => omega) ?_
  intro a k h
  unfold sp_q89 at h
  split at h
  · exact ⟨[], rfl, rfl, (eq_q89 _ _ _ _ _ _ _ _ _ _ _ _ _).trans h⟩
  · cases h

def an_q137 (N_ : Nat) : Nat -> Option Ann := fun b_ => none
theorem eq_q137 (N_ : Nat) (a_0 : Fl) (a_1 : Fl) (a_2 : Fl) (b_0 : Fl) (b_1 : Fl) (b_2 : Fl) (c_ : V -> List Blk -> Bool) : bodyV ⟨Pg, ofList [], isref, N_⟩ (an_q137 N_) 104 (shF_q137.args [.fl a_0, .fl a_1, .fl a_2, .fl b_0, .fl b_1, .fl b_2]) [] c_ = G_q137 N_ a_0 a_1 a_2 b_0 b_1 b_2 (fun r0 r1 r2 => c_ (.agg [.flt r0, .flt r1, .flt r2]) []) := by kernel_rfl
theorem good_q137 (N_ : Nat) : GoodF Pg 104 (F_q137 (G_q137 N_)) := by
  refine good_fs (cx := ⟨Pg, ofList [], isref, N_⟩) (ofList_nil _) shF_q137 (sp_q137 (G_q137 N_)) (an_q137 N_) 0 0 (by kernel_rfl) (fun i_ hi_ => by omega) ?_
  intro a k h
  unfold sp_q137 at h
  split at h
  · exact ⟨[], rfl, rfl, (eq_q137 _ _ _ _ _ _ _ _).trans h⟩
  · cases h

def an_q168 (N_ : Nat) (S_q21 : TS_q21) : Nat -> Option Ann := fun b_ => none
theorem eq_q168 (N_ : Nat) (S_q21 : TS_q21) (v_0 : Fl) (v_1 : Fl) (v_2 : Fl) (c_ : V -> List Blk -> Bool) : bodyV ⟨Pg, ofList [(86, (F_q21 S_q21))], isref, N_⟩ (an_q168 N_ S_q21) 105 (shF_q168.args [.fl v_0, .fl v_1, .fl v_2]) [] c_ = G_q168 N_ S_q21 v_0 v_1 v_2 (fun r0 r1 r2 r3 => c_ (.tup [.agg [.flt r0, .flt r1, .flt r2], .int .i64 r3]) []) := by kernel_rfl
theorem good_q168 (N_ : Nat) (S_q21 : TS_q21) (h_q21 : GoodF Pg 86 (F_q21 S_q21)) : GoodF Pg 105 (F_q168 (G_q168 N_ S_q21)) := by
  refine good_fs (cx := ⟨Pg, ofList [(86, (F_q21 S_q21))], isref, N_⟩) (ofList_cons h_q21 (ofList_nil _)) shF_q168 (sp_q168 (G_q168 N_ S_q21)) (an_q168 N_ S_q21) 0 0 (by kernel_rfl) (fun i_ hi_ => by omega) ?_
  intro a k h
  unfold sp_q168 at h
  split at h
  · exact ⟨[], rfl, rfl, (eq_q168 _ _ _ _ _ _).trans h⟩
  · cases h

def an_q153 (N_ : Nat) (S_q12 : TS_q12) (S_q21 : TS_q21) (S_q137 : TS_q137) (S_q168 : TS_q168) : Nat -> Option Ann := fun b_ => none
theorem eq_q153 (N_ : Nat) (S_q12 : TS_q12) (S_q21 : TS_q21) (S_q137 : TS_q137) (S_q168 : TS_q168) (q_0 : Fl) (q_1 : Fl) (q_2 : Fl) (q_3 : Fl) (v_0 : Fl) (v_1 : Fl) (v_2 : Fl) (c_ : V -> List Blk -> Bool) : bodyV ⟨Pg, ofList [(56, (F_q12 S_q12)), (86, (F_q21 S_q21)), (104, (F_q137 S_q137)), (105, (F_q168 S_q168))], isref, (N_ + 24)⟩ (an_q153 (N_ + 24) S_q12 S_q21 S_q137 S_q168) 44 (shF_q153.args [.fl q_0, .fl q_1, .fl q_2, .fl q_3, .fl v_0, .fl v_1, .fl v_2]) [] c_ = G_q153 (N_ + 24) S_q12 S_q21 S_q137 S_q168 q_0 q_1 q_2 q_3 v_0 v_1 v_2 (fun r0 r1 r2 r3 => c_ (.tup [.agg [.flt r0, .flt r1, .flt r2], .int .i64 r3]) []) := by kernel_rfl
theorem good_q153 (N_ : Nat) (S_q12 : TS_q12) (S_q21 : TS_q21) (S_q137 : TS_q137) (S_q168 : TS_q168) (h_q12 : GoodF Pg 56 (F_q12 S_q12)) (h_q21 : GoodF Pg 86 (F_q21 S_q21)) (h_q137 : GoodF Pg 104 (F_q137 S_q137)) (h_q168 : GoodF Pg 105 (F_q168 S_q168)) : GoodF Pg 44 (F_q153 (G_q153 (N_ + 24) S_q12 S_q21 S_q137 S_q168)) := by
  refine good_fs (cx := ⟨Pg, ofList [(56, (F_q12 S_q12)), (86, (F_q21 S_q21)), (104, (F_q137 S_q137)), (105, (F_q168 S_q168))], isref, (N_ + 24)⟩) (ofList_cons h_q12 (ofList_cons h_q21 (ofList_cons h_q137 (ofList_cons h_q168 (ofList_nil _))))) shF_q153 (sp_q153 (G_q153 (N_ + 24) S_q12 S_q21 S_q137 S_q168)) (an_q153 (N_ + 24) S_q12 S_q21 S_q137 S_q168) 2 0 (by kernel_rfl) (fun i_ hi_ => by
    match i_, hi_ with
    | 0, _ => exact (fun hk e => by rw [show hookOf ((an_q153 (N_ + 24) S_q12 S_q21 S_q137 S_q168) (lp Pg 44 0).1) = none from by kernel_rfl] at e; cases e)
    | 1, _ => exact (fun hk e => by rw [show hookOf ((an_q153 (N_ + 24) S_q12 S_q21 S_q137 S_q168) (lp Pg 44 1).1) = none from by kernel_rfl] at e; cases e)
    | (q + 2), h => omega) ?_
  intro a k h
  unfold sp_q153 at h
  split at h
  · exact ⟨[], rfl, rfl, (eq_q153 _ _ _ _ _ _ _ _ _ _ _ _ _).trans h⟩
  · cases h

def an_q121 (N_ : Nat) (S_q21 : TS_q21) : Nat -> Option Ann := fun b_ => none
theorem eq_q121 (N_ : Nat) (S_q21 : TS_q21) (qs_0 : Fl) (qs_1 : Fl) (qs_2 : Fl) (qs_3 : Fl) (qs_4 : Fl) (qs_5 : Fl) (qs_6 : Fl) (qs_7 : Fl) (c_ : V -> List Blk -> Bool) : bodyV ⟨Pg, ofList [(86, (F_q21 S_q21))], isref, (N_ + 24)⟩ (an_q121 (N_ + 24) S_q21) 56 (shF_q121.args [.fl qs_0, .fl qs_1, .fl qs_2, .fl qs_3, .fl qs_4, .fl qs_5, .fl qs_6, .fl qs_7]) [] c_ = G_q121 (N_ + 24) S_q21 qs_0 qs_1 qs_2 qs_3 qs_4 qs_5 qs_6 qs_7 (fun r0 => c_ (.bool r0) []) := by kernel_rfl
theorem good_q121 (N_ : Nat) (S_q21 : TS_q21) (h_q21 : GoodF Pg 86 (F_q21 S_q21)) : GoodF Pg 56 (F_q121 (G_q121 (N_ + 24) S_q21)) := by
  refine good_fs (cx := ⟨Pg, ofList [(86, (F_q21 S_q21))], isref, (N_ + 24)⟩) (ofList_cons h_q21 (ofList_nil _)) shF_q121 (sp_q121 (G_q121 (N_ + 24) S_q21)) (an_q121 (N_ + 24) S_q21) 1 0 (by kernel_rfl) (fun i_ hi_ => by
    match i_, hi_ with
    | 0, _ => exact (fun hk e => by rw [show hookOf ((an_q121 (N_ + 24) S_q21) (lp Pg 56 0).1) = none from by kernel_rfl] at e; cases e)
    | (q + 1), h => omega) ?_
  intro a k h
  unfold sp_q121 at h
  split at h
  · exact ⟨[], rfl, rfl, (eq_q121 _ _ _ _ _ _ _ _ _ _ _).trans h⟩
  · cases h

def an_q171 (N_ : Nat) : Nat -> Option Ann := fun b_ => none
theorem eq_q171 (N_ : Nat) (a_0 : Fl) (a_1 : Fl) (a_2 : Fl) (a_3 : Fl) (b_0 : Fl) (b_1 : Fl) (b_2 : Fl) (b_3 : Fl) (c_ : V -> List Blk -> Bool) : bodyV ⟨Pg, ofList [], isref, N_⟩ (an_q171 N_) 58 (shF_q171.args [.fl a_0, .fl a_1, .fl a_2, .fl a_3, .fl b_0, .fl b_1, .fl b_2, .fl b_3]) [] c_ = G_q171 N_ a_0 a_1 a_2 a_3 b_0 b_1 b_2 b_3 (fun r0 r1 r2 r3 => c_ (.agg [.flt r0, .flt r1, .flt r2, .flt r3]) []) := by kernel_rfl
theorem good_q171 (N_ : Nat) : GoodF Pg 58 (F_q171 (G_q171 N_)) := by
  refine good_fs (cx := ⟨Pg, ofList [], isref, N_⟩) (ofList_nil _) shF_q171 (sp_q171 (G_q171 N_)) (an_q171 N_) 0 0 (by kernel_rfl) (fun i_ hi_ => by omega) ?_
  intro a k h
  unfold sp_q171 at h
  split at h
  · exact ⟨[], rfl, rfl, (eq_q171 _ _ _ _ _ _ _ _ _ _).trans h⟩
  · cases h

def an_q99 (N_ : Nat) (S_q12 : TS_q12) : Nat -> Option Ann := fun b_ => none
theorem eq_q99 (N_ : Nat) (S_q12 : TS_q12) (q_0 : Fl) (q_1 : Fl) (q_2 : Fl) (q_3 : Fl) (c_ : V -> List Blk -> Bool) : bodyV ⟨Pg, ofList [(56, (F_q12 S_q12))], isref, N_⟩ (an_q99 N_ S_q12) 57 (shF_q99.args [.fl q_0, .fl q_1, .fl q_2, .fl q_3]) [] c_ = G_q99 N_ S_q12 q_0 q_1 q_2 q_3 (fun r0 r1 r2 r3 r4 => c_ (.tup [.agg [.flt r0, .flt r1, .flt r2, .flt r3], .int .i64 r4]) []) := by kernel_rfl
theorem good_q99 (N_ : Nat) (S_q12 : TS_q12) (h_q12 : GoodF Pg 56 (F_q12 S_q12)) : GoodF Pg 57 (F_q99 (G_q99 N_ S_q12)) := by
  refine good_fs (cx := ⟨Pg, ofList [(56, (F_q12 S_q12))], isref, N_⟩) (ofList_cons h_q12 (ofList_nil _)) shF_q99 (sp_q99 (G_q99 N_ S_q12)) (an_q99 N_ S_q12) 0 0 (by kernel_rfl) (fun i_ hi_ => by omega) ?_
  intro a k h
  unfold sp_q99 at h
  split at h
  · exact ⟨[], rfl, rfl, (eq_q99 _ _ _ _ _ _ _).trans h⟩
  · cases h

def an_q170 (N_ : Nat) (S_q121 : TS_q121) (S_q171 : TS_q171) (S_q99 : TS_q99) : Nat -> Option Ann := fun b_ => none
theorem eq_q170 (N_ : Nat) (S_q121 : TS_q121) (S_q171 : TS_q171) (S_q99 : TS_q99) (a_0 : Fl) (a_1 : Fl) (a_2 : Fl) (a_3 : Fl) (b_0 : Fl) (b_1 : Fl) (b_2 : Fl) (b_3 : Fl) (c_ : V -> List Blk -> Bool) : bodyV ⟨Pg, ofList [(56, (F_q121 S_q121)), (58, (F_q171 S_q171)), (57, (F_q99 S_q99))], isref, N_⟩ (an_q170 N_ S_q121 S_q171 S_q99) 10 (shF_q170.args [.fl a_0, .fl a_1, .fl a_2, .fl a_3, .fl b_0, .fl b_1, .fl b_2, .fl b_3]) [] c_ = G_q170 N_ S_q121 S_q171 S_q99 a_0 a_1 a_2 a_3 b_0 b_1 b_2 b_3 (fun r0 r1 r2 r3 r4 => c_ (.tup [.agg [.flt r0, .flt r1, .flt r2, .flt r3], .int .i64 r4]) []) := by kernel_rfl
theorem good_q170 (N_ : Nat) (S_q121 : TS_q121) (S_q171 : TS_q171) (S_q99 : TS_q99) (h_q121 : GoodF Pg 56 (F_q121 S_q121)) (h_q171 : GoodF Pg 58 (F_q171 S_q171)) (h_q99 : GoodF Pg 57 (F_q99 S_q99)) : GoodF Pg 10 (F_q170 (G_q170 N_ S_q121 S_q171 S_q99)) := by
  refine good_fs (cx := ⟨Pg, ofList [(56, (F_q121 S_q121)), (58, (F_q171 S_q171)), (57, (F_q99 S_q99))], isref, N_⟩) (ofList_cons h_q121 (ofList_cons h_q171 (ofList_cons h_q99 (ofList_nil _)))) shF_q170 (sp_q170 (G_q170 N_ S_q121 S_q171 S_q99)) (an_q170 N_ S_q121 S_q171 S_q99) 0 0 (by kernel_rfl) (fun i_ hi_ => by omega) ?_
  intro a k h
  unfold sp_q170 at h
  split at h
  · exact ⟨[], rfl, rfl, (eq_q170 _ _ _ _ _ _ _ _ _ _ _ _ _).trans h⟩
  · cases h


end Go.Proofs.YtccocdgimamdhaaGreatDoor
