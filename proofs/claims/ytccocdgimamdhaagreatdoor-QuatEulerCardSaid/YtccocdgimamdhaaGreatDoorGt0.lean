/-
  THE TIES: each printed meaning is what the program does (written by program).
  Conditions: none.
-/
import Derived.Test.YtccocdgimamdhaaGreatDoorGs
namespace Go.Proofs.YtccocdgimamdhaaGreatDoor
open Go Go.Mach Go.Proofs
set_option linter.unusedVariables false
set_option maxRecDepth 50000


def an_an_of (N_ : Nat) : Nat -> Option Ann := fun b_ => none
theorem eq_an_of (N_ : Nat) (c_ : V -> List Blk -> Bool) : bodyV ⟨Pg, ofList [], isref, N_⟩ (an_an_of N_) 190 (shF_an_of.args []) [] c_ = G_an_of N_ (fun r0 r1 r2 => c_ (.agg [.int .u64 r0, .int .i64 r1, .int .i64 r2]) []) := by kernel_rfl
theorem good_an_of (N_ : Nat) : GoodF Pg 190 (F_an_of (G_an_of N_)) := by
  refine good_fs (cx := ⟨Pg, ofList [], isref, N_⟩) (ofList_nil _) shF_an_of (sp_an_of (G_an_of N_)) (an_an_of N_) 0 0 (by kernel_rfl) (fun i_ hi_ => by omega) ?_
  intro a k h
  unfold sp_an_of at h
  split at h
  · exact ⟨[], rfl, rfl, (eq_an_of _ _).trans h⟩
  · cases h

def an_q118 (N_ : Nat) : Nat -> Option Ann := fun b_ => none
theorem eq_q118 (N_ : Nat) (f_0 : Int) (f_1 : Int) (f_2 : Int) (c_ : V -> List Blk -> Bool) : bodyV ⟨Pg, ofList [], isref, N_⟩ (an_q118 N_) 229 (shF_q118.args [.int f_0, .int f_1, .int f_2]) [] c_ = G_q118 N_ f_0 f_1 f_2 (fun r0 => c_ (.int .u64 r0) []) := by kernel_rfl
theorem good_q118 (N_ : Nat) : GoodF Pg 229 (F_q118 (G_q118 N_)) := by
  refine good_fs (cx := ⟨Pg, ofList [], isref, N_⟩) (ofList_nil _) shF_q118 (sp_q118 (G_q118 N_)) (an_q118 N_) 0 0 (by kernel_rfl) (fun i_ hi_ => by omega) ?_
  intro a k h
  unfold sp_q118 at h
  split at h
  · exact ⟨[], rfl, rfl, (eq_q118 _ _ _ _ _).trans h⟩
  · cases h

def an_q70 (N_ : Nat) : Nat -> Option Ann := fun b_ => none
theorem eq_q70 (N_ : Nat) (f_0 : Int) (f_1 : Int) (f_2 : Int) (c_ : V -> List Blk -> Bool) : bodyV ⟨Pg, ofList [], isref, N_⟩ (an_q70 N_) 234 (shF_q70.args [.int f_0, .int f_1, .int f_2]) [] c_ = G_q70 N_ f_0 f_1 f_2 (fun r0 => c_ (.int .u64 r0) []) := by kernel_rfl
theorem good_q70 (N_ : Nat) : GoodF Pg 234 (F_q70 (G_q70 N_)) := by
  refine good_fs (cx := ⟨Pg, ofList [], isref, N_⟩) (ofList_nil _) shF_q70 (sp_q70 (G_q70 N_)) (an_q70 N_) 0 0 (by kernel_rfl) (fun i_ hi_ => by omega) ?_
  intro a k h
  unfold sp_q70 at h
  split at h
  · exact ⟨[], rfl, rfl, (eq_q70 _ _ _ _ _).trans h⟩
  · cases h

def an_q69 (N_ : Nat) (S_q118 : TS_q118) (S_q70 : TS_q70) : Nat -> Option Ann := fun b_ => none
theorem eq_q69 (N_ : Nat) (S_q118 : TS_q118) (S_q70 : TS_q70) (b : Int) (f_0 : Int) (f_1 : Int) (f_2 : Int) (c_ : V -> List Blk -> Bool) : bodyV ⟨Pg, ofList [(229, (F_q118 S_q118)), (234, (F_q70 S_q70))], isref, N_⟩ (an_q69 N_ S_q118 S_q70) 232 (shF_q69.args [.int b, .int f_0, .int f_1, .int f_2]) [] c_ = G_q69 N_ S_q118 S_q70 b f_0 f_1 f_2 (fun r0 => c_ (.bool r0) []) := by kernel_rfl
theorem good_q69 (N_ : Nat) (S_q118 : TS_q118) (S_q70 : TS_q70) (h_q118 : GoodF Pg 229 (F_q118 S_q118)) (h_q70 : GoodF Pg 234 (F_q70 S_q70)) : GoodF Pg 232 (F_q69 (G_q69 N_ S_q118 S_q70)) := by
  refine good_fs (cx := ⟨Pg, ofList [(229, (F_q118 S_q118)), (234, (F_q70 S_q70))], isref, N_⟩) (ofList_cons h_q118 (ofList_cons h_q70 (ofList_nil _))) shF_q69 (sp_q69 (G_q69 N_ S_q118 S_q70)) (an_q69 N_ S_q118 S_q70) 0 0 (by kernel_rfl) (fun i_ hi_ => by omega) ?_
  intro a k h
  unfold sp_q69 at h
  split at h
  · exact ⟨[], rfl, rfl, (eq_q69 _ _ _ _ _ _ _ _).trans h⟩
  · cases h

def an_q63 (N_ : Nat) : Nat -> Option Ann := fun b_ => none
theorem eq_q63 (N_ : Nat) (f_0 : Int) (f_1 : Int) (f_2 : Int) (c_ : V -> List Blk -> Bool) : bodyV ⟨Pg, ofList [], isref, N_⟩ (an_q63 N_) 217 (shF_q63.args [.int f_0, .int f_1, .int f_2]) [] c_ = G_q63 N_ f_0 f_1 f_2 (fun r0 => c_ (.int .u64 r0) []) := by kernel_rfl
theorem good_q63 (N_ : Nat) : GoodF Pg 217 (F_q63 (G_q63 N_)) := by
  refine good_fs (cx := ⟨Pg, ofList [], isref, N_⟩) (ofList_nil _) shF_q63 (sp_q63 (G_q63 N_)) (an_q63 N_) 0 0 (by kernel_rfl) (fun i_ hi_ => by omega) ?_
  intro a k h
  unfold sp_q63 at h
  split at h
  · exact ⟨[], rfl, rfl, (eq_q63 _ _ _ _ _).trans h⟩
  · cases h

def an_q133 (N_ : Nat) (S_q70 : TS_q70) (S_q63 : TS_q63) : Nat -> Option Ann := fun b_ => none
theorem eq_q133 (N_ : Nat) (S_q70 : TS_q70) (S_q63 : TS_q63) (f_0 : Int) (f_1 : Int) (f_2 : Int) (c_ : V -> List Blk -> Bool) : bodyV ⟨Pg, ofList [(234, (F_q70 S_q70)), (217, (F_q63 S_q63))], isref, N_⟩ (an_q133 N_ S_q70 S_q63) 233 (shF_q133.args [.int f_0, .int f_1, .int f_2]) [] c_ = G_q133 N_ S_q70 S_q63 f_0 f_1 f_2 (fun r0 => c_ (.int .u64 r0) []) := by kernel_rfl
theorem good_q133 (N_ : Nat) (S_q70 : TS_q70) (S_q63 : TS_q63) (h_q70 : GoodF Pg 234 (F_q70 S_q70)) (h_q63 : GoodF Pg 217 (F_q63 S_q63)) : GoodF Pg 233 (F_q133 (G_q133 N_ S_q70 S_q63)) := by
  refine good_fs (cx := ⟨Pg, ofList [(234, (F_q70 S_q70)), (217, (F_q63 S_q63))], isref, N_⟩) (ofList_cons h_q70 (ofList_cons h_q63 (ofList_nil _))) shF_q133 (sp_q133 (G_q133 N_ S_q70 S_q63)) (an_q133 N_ S_q70 S_q63) 0 0 (by kernel_rfl) (fun i_ hi_ => by omega) ?_
  intro a k h
  unfold sp_q133 at h
  split at h
  · exact ⟨[], rfl, rfl, (eq_q133 _ _ _ _ _ _ _).trans h⟩
  · cases h

def an_q60 (N_ : Nat) (S_q69 : TS_q69) (S_q133 : TS_q133) : Nat -> Option Ann := fun b_ => none
theorem eq_q60 (N_ : Nat) (S_q69 : TS_q69) (S_q133 : TS_q133) (b : Int) (f_0 : Int) (f_1 : Int) (f_2 : Int) (c_ : V -> List Blk -> Bool) : bodyV ⟨Pg, ofList [(232, (F_q69 S_q69)), (233, (F_q133 S_q133))], isref, N_⟩ (an_q60 N_ S_q69 S_q133) 228 (shF_q60.args [.int b, .int f_0, .int f_1, .int f_2]) [] c_ = G_q60 N_ S_q69 S_q133 b f_0 f_1 f_2 (fun r0 => c_ (.int .u64 r0) []) := by kernel_rfl
theorem good_q60 (N_ : Nat) (S_q69 : TS_q69) (S_q133 : TS_q133) (h_q69 : GoodF Pg 232 (F_q69 S_q69)) (h_q133 : GoodF Pg 233 (F_q133 S_q133)) : GoodF Pg 228 (F_q60 (G_q60 N_ S_q69 S_q133)) := by
  refine good_fs (cx := ⟨Pg, ofList [(232, (F_q69 S_q69)), (233, (F_q133 S_q133))], isref, N_⟩) (ofList_cons h_q69 (ofList_cons h_q133 (ofList_nil _))) shF_q60 (sp_q60 (G_q60 N_ S_q69 S_q133)) (an_q60 N_ S_q69 S_q133) 0 0 (by kernel_rfl) (fun i_ hi_ => by omega) ?_
  intro a k h
  unfold sp_q60 at h
  split at h
  · exact ⟨[], rfl, rfl, (eq_q60 _ _ _ _ _ _ _ _).trans h⟩
  · cases h

def an_q22 (N_ : Nat) (S_q60 : TS_q60) (S_q118 : TS_q118) (S_q63 : TS_q63) : Nat -> Option Ann := fun b_ => none
theorem eq_q22 (N_ : Nat) (S_q60 : TS_q60) (S_q118 : TS_q118) (S_q63 : TS_q63) (b : Int) (f_0 : Int) (f_1 : Int) (f_2 : Int) (c_ : V -> List Blk -> Bool) : bodyV ⟨Pg, ofList [(228, (F_q60 S_q60)), (229, (F_q118 S_q118)), (217, (F_q63 S_q63))], isref, N_⟩ (an_q22 N_ S_q60 S_q118 S_q63) 214 (shF_q22.args [.int b, .int f_0, .int f_1, .int f_2]) [] c_ = G_q22 N_ S_q60 S_q118 S_q63 b f_0 f_1 f_2 (fun r0 r1 r2 => c_ (.tup [.bool r0, .int .i64 r1, .int .u64 r2]) []) := by kernel_rfl
theorem good_q22 (N_ : Nat) (S_q60 : TS_q60) (S_q118 : TS_q118) (S_q63 : TS_q63) (h_q60 : GoodF Pg 228 (F_q60 S_q60)) (h_q118 : GoodF Pg 229 (F_q118 S_q118)) (h_q63 : GoodF Pg 217 (F_q63 S_q63)) : GoodF Pg 214 (F_q22 (G_q22 N_ S_q60 S_q118 S_q63)) := by
  refine good_fs (cx := ⟨Pg, ofList [(228, (F_q60 S_q60)), (229, (F_q118 S_q118)), (217, (F_q63 S_q63))], isref, N_⟩) (ofList_cons h_q60 (ofList_cons h_q118 (ofList_cons h_q63 (ofList_nil _)))) shF_q22 (sp_q22 (G_q22 N_ S_q60 S_q118 S_q63)) (an_q22 N_ S_q60 S_q118 S_q63) 0 0 (by kernel_rfl) (fun i_ hi_ => by omega) ?_
  intro a k h
  unfold sp_q22 at h
  split at h
  · exact ⟨[], rfl, rfl, (eq_q22 _ _ _ _ _ _ _ _ _).trans h⟩
  · cases h

def an_q21 (N_ : Nat) (S_q22 : TS_q22) : Nat -> Option Ann := fun b_ => none
theorem eq_q21 (N_ : Nat) (S_q22 : TS_q22) (b : Int) (f_0 : Int) (f_1 : Int) (f_2 : Int) (c_ : V -> List Blk -> Bool) : bodyV ⟨Pg, ofList [(214, (F_q22 S_q22))], isref, N_⟩ (an_q21 N_ S_q22) 189 (shF_q21.args [.int b, .int f_0, .int f_1, .int f_2]) [] c_ = G_q21 N_ S_q22 b f_0 f_1 f_2 (fun r0 => c_ (.int .i64 r0) []) := by kernel_rfl
theorem good_q21 (N_ : Nat) (S_q22 : TS_q22) (h_q22 : GoodF Pg 214 (F_q22 S_q22)) : GoodF Pg 189 (F_q21 (G_q21 N_ S_q22)) := by
  refine good_fs (cx := ⟨Pg, ofList [(214, (F_q22 S_q22))], isref, N_⟩) (ofList_cons h_q22 (ofList_nil _)) shF_q21 (sp_q21 (G_q21 N_ S_q22)) (an_q21 N_ S_q22) 0 0 (by kernel_rfl) (fun i_ hi_ => by omega) ?_
  intro a k h
  unfold sp_q21 at h
  split at h
  · exact ⟨[], rfl, rfl, (eq_q21 _ _ _ _ _ _ _).trans h⟩
  · cases h

def an_q124 (N_ : Nat) (S_q117 : TS_q117) (S_an_of : TS_an_of) (S_q21 : TS_q21) : Nat -> Option Ann := fun b_ => none
theorem eq_q124 (N_ : Nat) (S_q117 : TS_q117) (S_an_of : TS_an_of) (S_q21 : TS_q21) (x : Nat) (c_ : V -> List Blk -> Bool) : bodyV ⟨Pg, ofList [(88, (F_q117 S_q117)), (190, (F_an_of S_an_of)), (189, (F_q21 S_q21))], isref, N_⟩ (an_q124 N_ S_q117 S_an_of S_q21) 157 (shF_q124.args [.nat x]) [] c_ = G_q124 N_ S_q117 S_an_of S_q21 x (fun r0 => c_ (.int .i64 r0) []) := by kernel_rfl
theorem good_q124 (N_ : Nat) (S_q117 : TS_q117) (S_an_of : TS_an_of) (S_q21 : TS_q21) (h_q117 : GoodF Pg 88 (F_q117 S_q117)) (h_an_of : GoodF Pg 190 (F_an_of S_an_of)) (h_q21 : GoodF Pg 189 (F_q21 S_q21)) : GoodF Pg 157 (F_q124 (G_q124 N_ S_q117 S_an_of S_q21)) := by
  refine good_fs (cx := ⟨Pg, ofList [(88, (F_q117 S_q117)), (190, (F_an_of S_an_of)), (189, (F_q21 S_q21))], isref, N_⟩) (ofList_cons h_q117 (ofList_cons h_an_of (ofList_cons h_q21 (ofList_nil _)))) shF_q124 (sp_q124 (G_q124 N_ S_q117 S_an_of S_q21)) (an_q124 N_ S_q117 S_an_of S_q21) 0 0 (by kernel_rfl) (fun i_ hi_ => by omega) ?_
  intro a k h
  unfold sp_q124 at h
  split at h
  · exact ⟨[], rfl, rfl, (eq_q124 _ _ _ _ _ _).trans h⟩
  · cases h


def an_q139 (N_ : Nat) (S_q117 : TS_q117) (S_q77 : TS_q77) : Nat -> Option Ann := fun b_ => none
theorem eq_q139 (N_ : Nat) (S_q117 : TS_q117) (S_q77 : TS_q77) (x : Nat) (c_ : V -> List Blk -> Bool) : bodyV ⟨Pg, ofList [(88, (F_q117 S_q117)), (100, (F_q77 S_q77))], isref, N_⟩ (an_q139 N_ S_q117 S_q77) 69 (shF_q139.args [.nat x]) [] c_ = G_q139 N_ S_q117 S_q77 x (fun r0 => c_ (.flt r0) []) := by kernel_rfl
theorem good_q139 (N_ : Nat) (S_q117 : TS_q117) (S_q77 : TS_q77) (h_q117 : GoodF Pg 88 (F_q117 S_q117)) (h_q77 : GoodF Pg 100 (F_q77 S_q77)) : GoodF Pg 69 (F_q139 (G_q139 N_ S_q117 S_q77)) := by
  refine good_fs (cx := ⟨Pg, ofList [(88, (F_q117 S_q117)), (100, (F_q77 S_q77))], isref, N_⟩) (ofList_cons h_q117 (ofList_cons h_q77 (ofList_nil _))) shF_q139 (sp_q139 (G_q139 N_ S_q117 S_q77)) (an_q139 N_ S_q117 S_q77) 0 0 (by kernel_rfl) (fun i_ hi_ => by omega) ?_
  intro a k h
  unfold sp_q139 at h
  split at h
  · exact ⟨[], rfl, rfl, (eq_q139 _ _ _ _ _).trans h⟩
  · cases h

def sh_st_quat_finite_0 : StSh := ⟨[.rof, .any, .any, .any, .any, .int .i64, .int .i64, .any, .any, .any, .any, .any, .any, .any, .any, .any, .any, .any, .any, .any], []⟩
def sx0_st_quat_finite_0 : StSh := ⟨[.any, .any, .bool, .any, .any, .any, .any, .any, .any, .any, .any, .any, .any, .any, .any, .any, .any, .any, .any, .any], []⟩
def sx1_st_quat_finite_0 : StSh := ⟨[.any, .any, .any, .any, .any, .any, .any, .any, .any, .any, .any, .any, .any, .any, .any, .any, .any, .any, .any, .any], []⟩
def hk_st_quat_finite_0 (N_ : Nat) : List Atom -> K -> Bool := fun a_ κ => match a_ with
  | [.fls l_1, .int t5, .int t6] => iterG N_ (st_quat_finite_0 N_ l_1 t5 (fun r0 => κ.ret (sx0_st_quat_finite_0.build [.bool r0])) (κ.ext 0 (sx1_st_quat_finite_0.build []))) t6
  | _ => false
def an_q40 (N_ : Nat) : Nat -> Option Ann := fun b_ => cond (b_ == 0) (some ⟨⟨[0, 5, 6], [], []⟩, [(0, ⟨[], [], []⟩)], some ⟨[2], [], []⟩, some (mkHooks [(sh_st_quat_finite_0, hk_st_quat_finite_0 N_)])⟩) (none)
theorem eq_st_quat_finite_0 (N_ : Nat) (κ : K) (l_1 : List Fl) (t5 : Int) (t6 : Int) : iter N_ (fun s k => codeV ⟨Pg, ofList [], isref, N_⟩ 0 (an_q40 N_) (lp Pg 86 0).2 (lp Pg 86 0).1 s (roundK Pg 0 ((an_q40 N_) (lp Pg 86 0).1) κ k)) (sh_st_quat_finite_0.build [.fls l_1, .int t5, .int t6]) = iterG N_ (st_quat_finite_0 N_ l_1 t5 (fun r0 => κ.ret (sx0_st_quat_finite_0.build [.bool r0])) (κ.ext 0 (sx1_st_quat_finite_0.build []))) t6 :=
  iter_tr (fun v_ => sh_st_quat_finite_0.build [.fls l_1, .int t5, .int v_]) (fun v_ K_ => by kernel_rfl) N_ t6
theorem hk1_st_quat_finite_0 (N_ : Nat) : HookFor ⟨Pg, ofList [], isref, N_⟩ 0 (an_q40 N_) (lp Pg 86 0) (sh_st_quat_finite_0, hk_st_quat_finite_0 N_) := by
  intro a κ h
  simp only at h
  unfold hk_st_quat_finite_0 at h
  split at h
  · exact (eq_st_quat_finite_0 _ _ _ _ _).trans h
  · cases h
theorem ho_quat_finite_0 (N_ : Nat) : HookOk ⟨Pg, ofList [], isref, N_⟩ 0 (an_q40 N_) (lp Pg 86 0) :=
  hooks_ok [(sh_st_quat_finite_0, hk_st_quat_finite_0 N_)] (by kernel_rfl) ⟨hk1_st_quat_finite_0 _, trivial⟩
theorem eq_q40 (N_ : Nat) (l : List Fl) (c_ : V -> List Blk -> Bool) : bodyV ⟨Pg, ofList [], isref, N_⟩ (an_q40 N_) 86 (shF_q40.args [.fls l]) [] c_ = G_q40 N_ l (fun r0 => c_ (.bool r0) []) := by kernel_rfl
theorem good_q40 (N_ : Nat) : GoodF Pg 86 (F_q40 (G_q40 N_)) := by
  refine good_fs (cx := ⟨Pg, ofList [], isref, N_⟩) (ofList_nil _) shF_q40 (sp_q40 (G_q40 N_)) (an_q40 N_) 1 0 (by kernel_rfl) (fun i_ hi_ => by
    match i_, hi_ with
    | 0, _ => exact ho_quat_finite_0 _
    | (q + 1), h => omega) ?_
  intro a k h
  unfold sp_q40 at h
  split at h
  · exact ⟨[], rfl, rfl, (eq_q40 _ _ _).trans h⟩
  · cases h

def an_q7 (N_ : Nat) (S_q40 : TS_q40) : Nat -> Option Ann := fun b_ => none
theorem eq_q7 (N_ : Nat) (S_q40 : TS_q40) (qs_0 : Fl) (qs_1 : Fl) (qs_2 : Fl) (qs_3 : Fl) (c_ : V -> List Blk -> Bool) : bodyV ⟨Pg, ofList [(86, (F_q40 S_q40))], isref, (N_ + 24)⟩ (an_q7 (N_ + 24) S_q40) 56 (shF_q7.args [.fl qs_0, .fl qs_1, .fl qs_2, .fl qs_3]) [] c_ = G_q7 (N_ + 24) S_q40 qs_0 qs_1 qs_2 qs_3 (fun r0 => c_ (.bool r0) []) := by kernel_rfl
theorem good_q7 (N_ : Nat) (S_q40 : TS_q40) (h_q40 : GoodF Pg 86 (F_q40 S_q40)) : GoodF Pg 56 (F_q7 (G_q7 (N_ + 24) S_q40)) := by
  refine good_fs (cx := ⟨Pg, ofList [(86, (F_q40 S_q40))], isref, (N_ + 24)⟩) (ofList_cons h_q40 (ofList_nil _)) shF_q7 (sp_q7 (G_q7 (N_ + 24) S_q40)) (an_q7 (N_ + 24) S_q40) 1 0 (by kernel_rfl) (fun i_ hi_ => by
    match i_, hi_ with
    | 0, _ => exact (fun hk e => by rw [show hookOf ((an_q7 (N_ + 24) S_q40) (lp Pg 56 0).1) = none from by kernel_rfl] at e; cases e)
    | (q + 1), h => omega) ?_
  intro a k h
  unfold sp_q7 at h
  split at h
  · exact ⟨[], rfl, rfl, (eq_q7 _ _ _ _ _ _ _).trans h⟩
  · cases h

def an_q46 (N_ : Nat) : Nat -> Option Ann := fun b_ => none
theorem eq_q46 (N_ : Nat) (q_0 : Fl) (q_1 : Fl) (q_2 : Fl) (q_3 : Fl) (c_ : V -> List Blk -> Bool) : bodyV ⟨Pg, ofList [], isref, N_⟩ (an_q46 N_) 68 (shF_q46.args [.fl q_0, .fl q_1, .fl q_2, .fl q_3]) [] c_ = G_q46 N_ q_0 q_1 q_2 q_3 (c_ (.agg [.flt q_0, .flt q_1, .flt q_2, .flt q_3]) []) := by kernel_rfl
theorem good_q46 (N_ : Nat) : GoodF Pg 68 (F_q46 (G_q46 N_)) := by
  refine good_fs (cx := ⟨Pg, ofList [], isref, N_⟩) (ofList_nil _) shF_q46 (sp_q46 (G_q46 N_)) (an_q46 N_) 0 0 (by kernel_rfl) (fun i_ hi_ => by omega) ?_
  intro a k h
  unfold sp_q46 at h
  split at h
  · exact ⟨[], rfl, rfl, (eq_q46 _ _ _ _ _ _).trans h⟩
  · cases h


def an_q97 (N_ : Nat) (S_m_Abs : TS_m_Abs) : Nat -> Option Ann := fun b_ => none
theorem eq_q97 (N_ : Nat) (S_m_Abs : TS_m_Abs) (f : Fl) (sign : Int) (c_ : V -> List Blk -> Bool) : bodyV ⟨Pg, ofList [(69, (F_m_Abs S_m_Abs))], isref, N_⟩ (an_q97 N_ S_m_Abs) 148 (shF_q97.args [.fl f, .int sign]) [] c_ = G_q97 N_ S_m_Abs f sign (fun r0 => c_ (.bool r0) []) := by kernel_rfl
theorem good_q97 (N_ : Nat) (S_m_Abs : TS_m_Abs) (h_m_Abs : GoodF Pg 69 (F_m_Abs S_m_Abs)) : GoodF Pg 148 (F_q97 (G_q97 N_ S_m_Abs)) := by
  refine good_fs (cx := ⟨Pg, ofList [(69, (F_m_Abs S_m_Abs))], isref, N_⟩) (ofList_cons h_m_Abs (ofList_nil _)) shF_q97 (sp_q97 (G_q97 N_ S_m_Abs)) (an_q97 N_ S_m_Abs) 0 0 (by kernel_rfl) (fun i_ hi_ => by omega) ?_
  intro a k h
  unfold sp_q97 at h
  split at h
  · exact ⟨[], rfl, rfl, (eq_q97 _ _ _ _ _).trans h⟩
  · cases h

def an_q98 (N_ : Nat) : Nat -> Option Ann := fun b_ => none
theorem eq_q98 (N_ : Nat) (f : Fl) (c_ : V -> List Blk -> Bool) : bodyV ⟨Pg, ofList [], isref, N_⟩ (an_q98 N_) 149 (shF_q98.args [.fl f]) [] c_ = G_q98 N_ f (fun r0 => c_ (.bool r0) []) := by kernel_rfl
theorem good_q98 (N_ : Nat) : GoodF Pg 149 (F_q98 (G_q98 N_)) := by
  refine good_fs (cx := ⟨Pg, ofList [], isref, N_⟩) (ofList_nil _) shF_q98 (sp_q98 (G_q98 N_)) (an_q98 N_) 0 0 (by kernel_rfl) (fun i_ hi_ => by omega) ?_
  intro a k h
  unfold sp_q98 at h
  split at h
  · exact ⟨[], rfl, rfl, (eq_q98 _ _ _).trans h⟩
  · cases h

def an_q55 (N_ : Nat) (S_m_Abs : TS_m_Abs) : Nat -> Option Ann := fun b_ => none
theorem eq_q55 (N_ : Nat) (S_m_Abs : TS_m_Abs) (x : Fl) (c_ : V -> List Blk -> Bool) : bodyV ⟨Pg, ofList [(69, (F_m_Abs S_m_Abs))], isref, N_⟩ (an_q55 N_ S_m_Abs) 150 (shF_q55.args [.fl x]) [] c_ = G_q55 N_ S_m_Abs x (fun r0 r1 => c_ (.tup [.flt r0, .int .i64 r1]) []) := by kernel_rfl
theorem good_q55 (N_ : Nat) (S_m_Abs : TS_m_Abs) (h_m_Abs : GoodF Pg 69 (F_m_Abs S_m_Abs)) : GoodF Pg 150 (F_q55 (G_q55 N_ S_m_Abs)) := by
  refine good_fs (cx := ⟨Pg, ofList [(69, (F_m_Abs S_m_Abs))], isref, N_⟩) (ofList_cons h_m_Abs (ofList_nil _)) shF_q55 (sp_q55 (G_q55 N_ S_m_Abs)) (an_q55 N_ S_m_Abs) 0 0 (by kernel_rfl) (fun i_ hi_ => by omega) ?_
  intro a k h
  unfold sp_q55 at h
  split at h
  · exact ⟨[], rfl, rfl, (eq_q55 _ _ _ _).trans h⟩
  · cases h


def an_q135 (N_ : Nat) (S_q97 : TS_q97) (S_q98 : TS_q98) (S_q55 : TS_q55) (S_q90 : TS_q90) (S_q77 : TS_q77) : Nat -> Option Ann := fun b_ => none
theorem eq_q135 (N_ : Nat) (S_q97 : TS_q97) (S_q98 : TS_q98) (S_q55 : TS_q55) (S_q90 : TS_q90) (S_q77 : TS_q77) (f : Fl) (c_ : V -> List Blk -> Bool) : bodyV ⟨Pg, ofList [(148, (F_q97 S_q97)), (149, (F_q98 S_q98)), (150, (F_q55 S_q55)), (88, (F_q90 S_q90)), (100, (F_q77 S_q77))], isref, N_⟩ (an_q135 N_ S_q97 S_q98 S_q55 S_q90 S_q77) 119 (shF_q135.args [.fl f]) [] c_ = G_q135 N_ S_q97 S_q98 S_q55 S_q90 S_q77 f (fun r0 r1 => c_ (.tup [.flt r0, .int .i64 r1]) []) := by kernel_rfl
theorem good_q135 (N_ : Nat) (S_q97 : TS_q97) (S_q98 : TS_q98) (S_q55 : TS_q55) (S_q90 : TS_q90) (S_q77 : TS_q77) (h_q97 : GoodF Pg 148 (F_q97 S_q97)) (h_q98 : GoodF Pg 149 (F_q98 S_q98)) (h_q55 : GoodF Pg 150 (F_q55 S_q55)) (h_q90 : GoodF Pg 88 (F_q90 S_q90)) (h_q77 : GoodF Pg 100 (F_q77 S_q77)) : GoodF Pg 119 (F_q135 (G_q135 N_ S_q97 S_q98 S_q55 S_q90 S_q77)) := by
  refine good_fs (cx := ⟨Pg, ofList [(148, (F_q97 S_q97)), (149, (F_q98 S_q98)), (150, (F_q55 S_q55)), (88, (F_q90 S_q90)), (100, (F_q77 S_q77))], isref, N_⟩) (ofList_cons h_q97 (ofList_cons h_q98 (ofList_cons h_q55 (ofList_cons h_q90 (ofList_cons h_q77 (ofList_nil _)))))) shF_q135 (sp_q135 (G_q135 N_ S_q97 S_q98 S_q55 S_q90 S_q77)) (an_q135 N_ S_q97 S_q98 S_q55 S_q90 S_q77) 0 0 (by kernel_rfl) (fun i_ hi_ => by omega) ?_
  intro a k h
  unfold sp_q135 at h
  split at h
  · exact ⟨[], rfl, rfl, (eq_q135 _ _ _ _ _ _ _ _).trans h⟩
  · cases h

def an_q132 (N_ : Nat) (S_q135 : TS_q135) : Nat -> Option Ann := fun b_ => none
theorem eq_q132 (N_ : Nat) (S_q135 : TS_q135) (f : Fl) (c_ : V -> List Blk -> Bool) : bodyV ⟨Pg, ofList [(119, (F_q135 S_q135))], isref, N_⟩ (an_q132 N_ S_q135) 70 (shF_q132.args [.fl f]) [] c_ = G_q132 N_ S_q135 f (fun r0 r1 => c_ (.tup [.flt r0, .int .i64 r1]) []) := by kernel_rfl
theorem good_q132 (N_ : Nat) (S_q135 : TS_q135) (h_q135 : GoodF Pg 119 (F_q135 S_q135)) : GoodF Pg 70 (F_q132 (G_q132 N_ S_q135)) := by
  refine good_fs (cx := ⟨Pg, ofList [(119, (F_q135 S_q135))], isref, N_⟩) (ofList_cons h_q135 (ofList_nil _)) shF_q132 (sp_q132 (G_q132 N_ S_q135)) (an_q132 N_ S_q135) 0 0 (by kernel_rfl) (fun i_ hi_ => by omega) ?_
  intro a k h
  unfold sp_q132 at h
  split at h
  · exact ⟨[], rfl, rfl, (eq_q132 _ _ _ _).trans h⟩
  · cases h

def an_q75 (N_ : Nat) (S_q90 : TS_q90) (S_q77 : TS_q77) : Nat -> Option Ann := fun b_ => none
theorem eq_q75 (N_ : Nat) (S_q90 : TS_q90) (S_q77 : TS_q77) (f : Fl) (sign : Fl) (c_ : V -> List Blk -> Bool) : bodyV ⟨Pg, ofList [(88, (F_q90 S_q90)), (100, (F_q77 S_q77))], isref, N_⟩ (an_q75 N_ S_q90 S_q77) 151 (shF_q75.args [.fl f, .fl sign]) [] c_ = G_q75 N_ S_q90 S_q77 f sign (fun r0 => c_ (.flt r0) []) := by kernel_rfl
theorem good_q75 (N_ : Nat) (S_q90 : TS_q90) (S_q77 : TS_q77) (h_q90 : GoodF Pg 88 (F_q90 S_q90)) (h_q77 : GoodF Pg 100 (F_q77 S_q77)) : GoodF Pg 151 (F_q75 (G_q75 N_ S_q90 S_q77)) := by
  refine good_fs (cx := ⟨Pg, ofList [(88, (F_q90 S_q90)), (100, (F_q77 S_q77))], isref, N_⟩) (ofList_cons h_q90 (ofList_cons h_q77 (ofList_nil _))) shF_q75 (sp_q75 (G_q75 N_ S_q90 S_q77)) (an_q75 N_ S_q90 S_q77) 0 0 (by kernel_rfl) (fun i_ hi_ => by omega) ?_
  intro a k h
  unfold sp_q75 at h
  split at h
  · exact ⟨[], rfl, rfl, (eq_q75 _ _ _ _ _ _).trans h⟩
  · cases h

def an_m_Inf (N_ : Nat) (S_q77 : TS_q77) : Nat -> Option Ann := fun b_ => none
def ls_m_Inf_0 (d_ : List V) (u_ : List (Option Blk)) (sign : Int) (v : Int) : St := ⟨(dqs d_ 0 3 [.int .u64 v, (dq d_ 3), (dq d_ 4), (dq d_ 5), (dq d_ 6)]), []⟩
theorem jn_m_Inf_0 (N_ : Nat) (S_q77 : TS_q77) (d_ : List V) (u_ : List (Option Blk)) (sign : Int) (v : Int) (c_ : V -> List Blk -> Bool) : codesV ⟨Pg, ofList [(100, (F_q77 S_q77))], isref, N_⟩ 0 (an_m_Inf N_ S_q77) ((cds Pg 152).drop 4) 0 (ls_m_Inf_0 d_ u_ sign v) (finV Pg 152 0 c_) = J_m_Inf_0 N_ S_q77 sign v (fun r0 => c_ (.flt r0) []) := by kernel_rfl
theorem hd_m_Inf_w (N_ : Nat) (S_q77 : TS_q77) (sign : Int) (c_ : V -> List Blk -> Bool) (κn_ : St -> Bool) : codesV ⟨Pg, ofList [(100, (F_q77 S_q77))], isref, N_⟩ 0 (an_m_Inf N_ S_q77) (sg Pg 152 0 4) 0 (st0 Pg 152 (shF_m_Inf.args [.int sign]) []) { (finV Pg 152 0 c_) with nrm := κn_ } = (cond (decide (sign >= 0)) (κn_ (ls_m_Inf_0 [.int .i64 sign, .any, .flt (some 0), .int .i64 sign, .bool true, .any, .any] [] sign 9218868437227405312)) (κn_ (ls_m_Inf_0 [.int .i64 sign, .any, .flt (some 0), .int .i64 sign, .bool false, .any, .any] [] sign 18442240474082181120))) := by kernel_rfl
theorem jn_m_Inf_w (N_ : Nat) (S_q77 : TS_q77) (sign : Int) (c_ : V -> List Blk -> Bool) : codesV ⟨Pg, ofList [(100, (F_q77 S_q77))], isref, N_⟩ 0 (an_m_Inf N_ S_q77) ((cds Pg 152).drop 0) 0 (st0 Pg 152 (shF_m_Inf.args [.int sign]) []) (finV Pg 152 0 c_) = G_m_Inf N_ S_q77 sign (fun r0 => c_ (.flt r0) []) := by
  rw [codesV_cut 0 4 4 rfl]
  refine (hd_m_Inf_w N_ S_q77 sign c_ _).trans ?_
  simp only [jn_m_Inf_0]
  kernel_rfl
theorem eq_m_Inf (N_ : Nat) (S_q77 : TS_q77) (sign : Int) (c_ : V -> List Blk -> Bool) : bodyV ⟨Pg, ofList [(100, (F_q77 S_q77))], isref, N_⟩ (an_m_Inf N_ S_q77) 152 (shF_m_Inf.args [.int sign]) [] c_ = G_m_Inf N_ S_q77 sign (fun r0 => c_ (.flt r0) []) :=
  (bodyV_codes (by kernel_rfl)).trans (jn_m_Inf_w N_ S_q77 sign c_)
theorem good_m_Inf (N_ : Nat) (S_q77 : TS_q77) (h_q77 : GoodF Pg 100 (F_q77 S_q77)) : GoodF Pg 152 (F_m_Inf (G_m_Inf N_ S_q77)) := by
  refine good_fs (cx := ⟨Pg, ofList [(100, (F_q77 S_q77))], isref, N_⟩) (ofList_cons h_q77 (ofList_nil _)) shF_m_Inf (sp_m_Inf (G_m_Inf N_ S_q77)) (an_m_Inf N_ S_q77) 0 0 (by kernel_rfl) (fun i_ hi_ => by omega) ?_
  intro a k h
  unfold sp_m_Inf at h
  split at h
  · exact ⟨[], rfl, rfl, (eq_m_Inf _ _ _ _).trans h⟩
  · cases h

def an_q131 (N_ : Nat) (S_q97 : TS_q97) (S_q98 : TS_q98) (S_q55 : TS_q55) (S_q90 : TS_q90) (S_q75 : TS_q75) (S_m_Inf : TS_m_Inf) (S_q77 : TS_q77) : Nat -> Option Ann := fun b_ => none
def ls_m_ldexp_0 (d_ : List V) (u_ : List (Option Blk)) (frac : Fl) (exp : Int) (exp_1 : Int) (x : Int) (m : Fl) : St := ⟨[(dq d_ 0), .int .i64 exp_1, (dq d_ 1), (dq d_ 2), (dq d_ 3), (dq d_ 4), .int .u64 x, .flt m, (dq d_ 5), (dq d_ 6), (dq d_ 7), (dq d_ 8), (dq d_ 9), (dq d_ 10), (dq d_ 11), (dq d_ 12), (dq d_ 13), (dq d_ 14), (dq d_ 15), (dq d_ 16), (dq d_ 17), (dq d_ 18), (dq d_ 19), (dq d_ 20), (dq d_ 21), (dq d_ 22), (dq d_ 23), (dq d_ 24), (dq d_ 25), (dq d_ 26), (dq d_ 27), (dq d_ 28), (dq d_ 29), (dq d_ 30), (dq d_ 31), (dq d_ 32), (dq d_ 33), (dq d_ 34), (dq d_ 35), (dq d_ 36), (dq d_ 37), (dq d_ 38), (dq d_ 39), (dq d_ 40), (dq d_ 41), (dq d_ 42), (dq d_ 43), (dq d_ 44), (dq d_ 45), (dq d_ 46), (dq d_ 47), (dq d_ 48), (dq d_ 49), (dq d_ 50), (dq d_ 51), (dq d_ 52), (dq d_ 53), (dq d_ 54), (dq d_ 55), (dq d_ 56), (dq d_ 57), (dq d_ 58), (dq d_ 59)], []⟩
theorem jn_m_ldexp_0 (N_ : Nat) (S_q97 : TS_q97) (S_q98 : TS_q98) (S_q55 : TS_q55) (S_q90 : TS_q90) (S_q75 : TS_q75) (S_m_Inf : TS_m_Inf) (S_q77 : TS_q77) (d_ : List V) (u_ : List (Option Blk)) (frac : Fl) (exp : Int) (exp_1 : Int) (x : Int) (m : Fl) (c_ : V -> List Blk -> Bool) : codesV ⟨Pg, ofList [(148, (F_q97 S_q97)), (149, (F_q98 S_q98)), (150, (F_q55 S_q55)), (88, (F_q90 S_q90)), (151, (F_q75 S_q75)), (152, (F_m_Inf S_m_Inf)), (100, (F_q77 S_q77))], isref, N_⟩ 0 (an_q131 N_ S_q97 S_q98 S_q55 S_q90 S_q75 S_m_Inf S_q77) ((cds Pg 121).drop 13) 0 (ls_m_ldexp_0 d_ u_ frac exp exp_1 x m) (finV Pg 121 0 c_) = J_m_ldexp_0 N_ S_q97 S_q98 S_q55 S_q90 S_q75 S_m_Inf S_q77 frac exp exp_1 x m (fun r0 => c_ (.flt r0) []) := by kernel_rfl
theorem hd_m_ldexp_w (N_ : Nat) (S_q97 : TS_q97) (S_q98 : TS_q98) (S_q55 : TS_q55) (S_q90 : TS_q90) (S_q75 : TS_q75) (S_m_Inf : TS_m_Inf) (S_q77 : TS_q77) (frac : Fl) (exp : Int) (c_ : V -> List Blk -> Bool) (κn_ : St -> Bool) : codesV ⟨Pg, ofList [(148, (F_q97 S_q97)), (149, (F_q98 S_q98)), (150, (F_q55 S_q55)), (88, (F_q90 S_q90)), (151, (F_q75 S_q75)), (152, (F_m_Inf S_m_Inf)), (100, (F_q77 S_q77))], isref, N_⟩ 0 (an_q131 N_ S_q97 S_q98 S_q55 S_q90 S_q75 S_m_Inf S_q77) (sg Pg 121 0 13) 0 (st0 Pg 121 (shF_q131.args [.fl frac, .int exp]) []) { (finV Pg 121 0 c_) with nrm := κn_ } = (cond (feq frac (some 0)) (c_ (.flt frac) []) (S_q97 frac 0 (fun cr => (cond (cr == false) (S_q98 frac (fun cr_1 => (cond cr_1 (c_ (.flt frac) []) (S_q55 frac (fun xr nr => ((fits .i64 (exp + nr)) && (S_q90 xr (fun nr_1 => ((fits .i64 (Int.fdiv nr_1 (2 ^ 52))) && ((fits .i64 ((bitsN .and .i64 (Int.fdiv nr_1 (2 ^ 52)) 2047) - 1023)) && ((fits .i64 ((exp + nr) + ((bitsN .and .i64 (Int.fdiv nr_1 (2 ^ 52)) 2047) - 1023))) && (cond (decide (((exp + nr) + ((bitsN .and .i64 (Int.fdiv nr_1 (2 ^ 52)) 2047) - 1023)) < (-1075))) (S_q75 (some 0) xr (fun xr_1 => (c_ (.flt xr_1) []))) (cond (decide (((exp + nr) + ((bitsN .and .i64 (Int.fdiv nr_1 (2 ^ 52)) 2047) - 1023)) > 1023)) (cond (flt xr (some 0)) (S_m_Inf (-1) (fun xr_2 => (c_ (.flt xr_2) []))) (S_m_Inf 1 (fun xr_3 => (c_ (.flt xr_3) [])))) (cond (decide (((exp + nr) + ((bitsN .and .i64 (Int.fdiv nr_1 (2 ^ 52)) 2047) - 1023)) < (-1022))) ((fits .i64 (((exp + nr) + ((bitsN .and .i64 (Int.fdiv nr_1 (2 ^ 52)) 2047) - 1023)) + 53)) && (κn_ (ls_m_ldexp_0 [.flt xr, .any, .any, .flt (some 0), .int .i64 nr, .bool false, .flt frac, .bool (feq frac (some 0)), .any, .bool false, .flt frac, .bool cr, .bool false, .flt frac, .bool cr_1, .bool cr_1, .any, .tup [.flt xr, .int .i64 nr], .flt frac, .tup [.flt xr, .int .i64 nr], .flt xr, .int .i64 nr, .int .i64 exp, .int .i64 nr, .int .i64 (exp + nr), .flt xr, .int .u64 nr_1, .int .i64 (exp + nr), .int .u64 nr_1, .int .u64 (Int.fdiv nr_1 (2 ^ 52)), .int .i64 (Int.fdiv nr_1 (2 ^ 52)), .int .i64 (bitsN .and .i64 (Int.fdiv nr_1 (2 ^ 52)) 2047), .int .i64 ((bitsN .and .i64 (Int.fdiv nr_1 (2 ^ 52)) 2047) - 1023), .int .i64 ((exp + nr) + ((bitsN .and .i64 (Int.fdiv nr_1 (2 ^ 52)) 2047) - 1023)), .int .i64 ((exp + nr) + ((bitsN .and .i64 (Int.fdiv nr_1 (2 ^ 52)) 2047) - 1023)), .bool false, .any, .any, .int .i64 ((exp + nr) + ((bitsN .and .i64 (Int.fdiv nr_1 (2 ^ 52)) 2047) - 1023)), .bool false, .any, .any, .any, .any, .int .i64 ((exp + nr) + ((bitsN .and .i64 (Int.fdiv nr_1 (2 ^ 52)) 2047) - 1023)), .bool true, .int .i64 ((exp + nr) + ((bitsN .and .i64 (Int.fdiv nr_1 (2 ^ 52)) 2047) - 1023)), .int .i64 (((exp + nr) + ((bitsN .and .i64 (Int.fdiv nr_1 (2 ^ 52)) 2047) - 1023)) + 53), .any, .any, .any, .any, .any, .any, .any, .any, .any, .any, .any, .any] [] frac exp (((exp + nr) + ((bitsN .and .i64 (Int.fdiv nr_1 (2 ^ 52)) 2047) - 1023)) + 53) nr_1 (some 4368491638549381120)))) (κn_ (ls_m_ldexp_0 [.flt xr, .any, .any, .flt (some 0), .int .i64 nr, .bool false, .flt frac, .bool (feq frac (some 0)), .any, .bool false, .flt frac, .bool cr, .bool false, .flt frac, .bool cr_1, .bool cr_1, .any, .tup [.flt xr, .int .i64 nr], .flt frac, .tup [.flt xr, .int .i64 nr], .flt xr, .int .i64 nr, .int .i64 exp, .int .i64 nr, .int .i64 (exp + nr), .flt xr, .int .u64 nr_1, .int .i64 (exp + nr), .int .u64 nr_1, .int .u64 (Int.fdiv nr_1 (2 ^ 52)), .int .i64 (Int.fdiv nr_1 (2 ^ 52)), .int .i64 (bitsN .and .i64 (Int.fdiv nr_1 (2 ^ 52)) 2047), .int .i64 ((bitsN .and .i64 (Int.fdiv nr_1 (2 ^ 52)) 2047) - 1023), .int .i64 ((exp + nr) + ((bitsN .and .i64 (Int.fdiv nr_1 (2 ^ 52)) 2047) - 1023)), .int .i64 ((exp + nr) + ((bitsN .and .i64 (Int.fdiv nr_1 (2 ^ 52)) 2047) - 1023)), .bool false, .any, .any, .int .i64 ((exp + nr) + ((bitsN .and .i64 (Int.fdiv nr_1 (2 ^ 52)) 2047) - 1023)), .bool false, .any, .any, .any, .any, .int .i64 ((exp + nr) + ((bitsN .and .i64 (Int.fdiv nr_1 (2 ^ 52)) 2047) - 1023)), .bool false, .any, .any, .any, .any, .any, .any, .any, .any, .any, .any, .any, .any, .any, .any] [] frac exp ((exp + nr) + ((bitsN .and .i64 (Int.fdiv nr_1 (2 ^ 52)) 2047) - 1023)) nr_1 (some 4607182418800017408))))))))))))))))) (c_ (.flt frac) []))))) := by kernel_rfl
theorem jn_m_ldexp_w (N_ : Nat) (S_q97 : TS_q97) (S_q98 : TS_q98) (S_q55 : TS_q55) (S_q90 : TS_q90) (S_q75 : TS_q75) (S_m_Inf : TS_m_Inf) (S_q77 : TS_q77) (frac : Fl) (exp : Int) (c_ : V -> List Blk -> Bool) : codesV ⟨Pg, ofList [(148, (F_q97 S_q97)), (149, (F_q98 S_q98)), (150, (F_q55 S_q55)), (88, (F_q90 S_q90)), (151, (F_q75 S_q75)), (152, (F_m_Inf S_m_Inf)), (100, (F_q77 S_q77))], isref, N_⟩ 0 (an_q131 N_ S_q97 S_q98 S_q55 S_q90 S_q75 S_m_Inf S_q77) ((cds Pg 121).drop 0) 0 (st0 Pg 121 (shF_q131.args [.fl frac, .int exp]) []) (finV Pg 121 0 c_) = G_q131 N_ S_q97 S_q98 S_q55 S_q90 S_q75 S_m_Inf S_q77 frac exp (fun r0 => c_ (.flt r0) []) := by
  rw [codesV_cut 0 13 13 rfl]
  refine (hd_m_ldexp_w N_ S_q97 S_q98 S_q55 S_q90 S_q75 S_m_Inf S_q77 frac exp c_ _).trans ?_
  simp only [jn_m_ldexp_0]
  kernel_rfl
theorem eq_q131 (N_ : Nat) (S_q97 : TS_q97) (S_q98 : TS_q98) (S_q55 : TS_q55) (S_q90 : TS_q90) (S_q75 : TS_q75) (S_m_Inf : TS_m_Inf) (S_q77 : TS_q77) (frac : Fl) (exp : Int) (c_ : V -> List Blk -> Bool) : bodyV ⟨Pg, ofList [(148, (F_q97 S_q97)), (149, (F_q98 S_q98)), (150, (F_q55 S_q55)), (88, (F_q90 S_q90)), (151, (F_q75 S_q75)), (152, (F_m_Inf S_m_Inf)), (100, (F_q77 S_q77))], isref, N_⟩ (an_q131 N_ S_q97 S_q98 S_q55 S_q90 S_q75 S_m_Inf S_q77) 121 (shF_q131.args [.fl frac, .int exp]) [] c_ = G_q131 N_ S_q97 S_q98 S_q55 S_q90 S_q75 S_m_Inf S_q77 frac exp (fun r0 => c_ (.flt r0) []) :=
  (bodyV_codes (by kernel_rfl)).trans (jn_m_ldexp_w N_ S_q97 S_q98 S_q55 S_q90 S_q75 S_m_Inf S_q77 frac exp c_)
theorem good_q131 (N_ : Nat) (S_q97 : TS_q97) (S_q98 : TS_q98) (S_q55 : TS_q55) (S_q90 : TS_q90) (S_q75 : TS_q75) (S_m_Inf : TS_m_Inf) (S_q77 : TS_q77) (h_q97 : GoodF Pg 148 (F_q97 S_q97)) (h_q98 : GoodF Pg 149 (F_q98 S_q98)) (h_q55 : GoodF Pg 150 (F_q55 S_q55)) (h_q90 : GoodF Pg 88 (F_q90 S_q90)) (h_q75 : GoodF Pg 151 (F_q75 S_q75)) (h_m_Inf : GoodF Pg 152 (F_m_Inf S_m_Inf)) (h_q77 : GoodF Pg 100 (F_q77 S_q77)) : GoodF Pg 121 (F_q131 (G_q131 N_ S_q97 S_q98 S_q55 S_q90 S_q75 S_m_Inf S_q77)) := by
  refine good_fs (cx := ⟨Pg, ofList [(148, (F_q97 S_q97)), (149, (F_q98 S_q98)), (150, (F_q55 S_q55)), (88, (F_q90 S_q90)), (151, (F_q75 S_q75)), (152, (F_m_Inf S_m_Inf)), (100, (F_q77 S_q77))], isref, N_⟩) (ofList_cons h_q97 (ofList_cons h_q98 (ofList_cons h_q55 (ofList_cons h_q90 (ofList_cons h_q75 (ofList_cons h_m_Inf (ofList_cons h_q77 (ofList_nil _)))))))) shF_q131 (sp_q131 (G_q131 N_ S_q97 S_q98 S_q55 S_q90 S_q75 S_m_Inf S_q77)) (an_q131 N_ S_q97 S_q98 S_q55 S_q90 S_q75 S_m_Inf S_q77) 0 0 (by kernel_rfl) (fun i_ hi_ => by omega) ?_
  intro a k h
  unfold sp_q131 at h
  split at h
  · exact ⟨[], rfl, rfl, (eq_q131 _ _ _ _ _ _ _ _ _ _ _).trans h⟩
  · cases h

def an_q130 (N_ : Nat) (S_q131 : TS_q131) : Nat -> Option Ann := fun b_ => none
theorem eq_q130 (N_ : Nat) (S_q131 : TS_q131) (frac : Fl) (exp : Int) (c_ : V -> List Blk -> Bool) : bodyV ⟨Pg, ofList [(121, (F_q131 S_q131))], isref, N_⟩ (an_q130 N_ S_q131) 71 (shF_q130.args [.fl frac, .int exp]) [] c_ = G_q130 N_ S_q131 frac exp (fun r0 => c_ (.flt r0) []) := by kernel_rfl
theorem good_q130 (N_ : Nat) (S_q131 : TS_q131) (h_q131 : GoodF Pg 121 (F_q131 S_q131)) : GoodF Pg 71 (F_q130 (G_q130 N_ S_q131)) := by
  refine good_fs (cx := ⟨Pg, ofList [(121, (F_q131 S_q131))], isref, N_⟩) (ofList_cons h_q131 (ofList_nil _)) shF_q130 (sp_q130 (G_q130 N_ S_q131)) (an_q130 N_ S_q131) 0 0 (by kernel_rfl) (fun i_ hi_ => by omega) ?_
  intro a k h
  unfold sp_q130 at h
  split at h
  · exact ⟨[], rfl, rfl, (eq_q130 _ _ _ _ _).trans h⟩
  · cases h


def an_q137 (N_ : Nat) (S_q143 : TS_q143) : Nat -> Option Ann := fun b_ => none
theorem eq_q137 (N_ : Nat) (S_q143 : TS_q143) (x : Fl) (c_ : V -> List Blk -> Bool) : bodyV ⟨Pg, ofList [(122, (F_q143 S_q143))], isref, N_⟩ (an_q137 N_ S_q143) 72 (shF_q137.args [.fl x]) [] c_ = G_q137 N_ S_q143 x (fun r0 => c_ (.flt r0) []) := by kernel_rfl
theorem good_q137 (N_ : Nat) (S_q143 : TS_q143) (h_q143 : GoodF Pg 122 (F_q143 S_q143)) : GoodF Pg 72 (F_q137 (G_q137 N_ S_q143)) := by
  refine good_fs (cx := ⟨Pg, ofList [(122, (F_q143 S_q143))], isref, N_⟩) (ofList_cons h_q143 (ofList_nil _)) shF_q137 (sp_q137 (G_q137 N_ S_q143)) (an_q137 N_ S_q143) 0 0 (by kernel_rfl) (fun i_ hi_ => by omega) ?_
  intro a k h
  unfold sp_q137 at h
  split at h
  · exact ⟨[], rfl, rfl, (eq_q137 _ _ _ _).trans h⟩
  · cases h

def an_q111 (N_ : Nat) : Nat -> Option Ann := fun b_ => none
theorem eq_q111 (N_ : Nat) (l_0 : Fl) (l_1 : Fl) (l_2 : Fl) (l_3 : Fl) (c_ : V -> List Blk -> Bool) : bodyV ⟨Pg, ofList [], isref, N_⟩ (an_q111 N_) 73 (shF_q111.args [.fl l_0, .fl l_1, .fl l_2, .fl l_3]) [] c_ = G_q111 N_ l_0 l_1 l_2 l_3 (c_ (.agg [.flt l_0, .flt l_1, .flt l_2, .flt l_3]) []) := by kernel_rfl
theorem good_q111 (N_ : Nat) : GoodF Pg 73 (F_q111 (G_q111 N_)) := by
  refine good_fs (cx := ⟨Pg, ofList [], isref, N_⟩) (ofList_nil _) shF_q111 (sp_q111 (G_q111 N_)) (an_q111 N_) 0 0 (by kernel_rfl) (fun i_ hi_ => by omega) ?_
  intro a k h
  unfold sp_q111 at h
  split at h
  · exact ⟨[], rfl, rfl, (eq_q111 _ _ _ _ _ _).trans h⟩
  · cases h

def an_q110 (N_ : Nat) (S_q7 : TS_q7) (S_q46 : TS_q46) (S_m_Abs : TS_m_Abs) (S_q132 : TS_q132) (S_q130 : TS_q130) (S_q137 : TS_q137) (S_q111 : TS_q111) : Nat -> Option Ann := fun b_ => none
theorem eq_q110 (N_ : Nat) (S_q7 : TS_q7) (S_q46 : TS_q46) (S_m_Abs : TS_m_Abs) (S_q132 : TS_q132) (S_q130 : TS_q130) (S_q137 : TS_q137) (S_q111 : TS_q111) (q_0 : Fl) (q_1 : Fl) (q_2 : Fl) (q_3 : Fl) (c_ : V -> List Blk -> Bool) : bodyV ⟨Pg, ofList [(56, (F_q7 S_q7)), (68, (F_q46 S_q46)), (69, (F_m_Abs S_m_Abs)), (70, (F_q132 S_q132)), (71, (F_q130 S_q130)), (72, (F_q137 S_q137)), (73, (F_q111 S_q111))], isref, (N_ + 24)⟩ (an_q110 (N_ + 24) S_q7 S_q46 S_m_Abs S_q132 S_q130 S_q137 S_q111) 18 (shF_q110.args [.fl q_0, .fl q_1, .fl q_2, .fl q_3]) [] c_ = G_q110 (N_ + 24) S_q7 S_q46 S_m_Abs S_q132 S_q130 S_q137 S_q111 q_0 q_1 q_2 q_3 (fun r0 r1 r2 r3 r4 => c_ (.tup [.agg [.flt r0, .flt r1, .flt r2, .flt r3], .int .i64 r4]) []) := by kernel_rfl
theorem good_q110 (N_ : Nat) (S_q7 : TS_q7) (S_q46 : TS_q46) (S_m_Abs : TS_m_Abs) (S_q132 : TS_q132) (S_q130 : TS_q130) (S_q137 : TS_q137) (S_q111 : TS_q111) (h_q7 : GoodF Pg 56 (F_q7 S_q7)) (h_q46 : GoodF Pg 68 (F_q46 S_q46)) (h_m_Abs : GoodF Pg 69 (F_m_Abs S_m_Abs)) (h_q132 : GoodF Pg 70 (F_q132 S_q132)) (h_q130 : GoodF Pg 71 (F_q130 S_q130)) (h_q137 : GoodF Pg 72 (F_q137 S_q137)) (h_q111 : GoodF Pg 73 (F_q111 S_q111)) : GoodF Pg 18 (F_q110 (G_q110 (N_ + 24) S_q7 S_q46 S_m_Abs S_q132 S_q130 S_q137 S_q111)) := by
  refine good_fs (cx := ⟨Pg, ofList [(56, (F_q7 S_q7)), (68, (F_q46 S_q46)), (69, (F_m_Abs S_m_Abs)), (70, (F_q132 S_q132)), (71, (F_q130 S_q130)), (72, (F_q137 S_q137)), (73, (F_q111 S_q111))], isref, (N_ + 24)⟩) (ofList_cons h_q7 (ofList_cons h_q46 (ofList_cons h_m_Abs (ofList_cons h_q132 (ofList_cons h_q130 (ofList_cons h_q137 (ofList_cons h_q111 (ofList_nil _)))))))) shF_q110 (sp_q110 (G_q110 (N_ + 24) S_q7 S_q46 S_m_Abs S_q132 S_q130 S_q137 S_q111)) (an_q110 (N_ + 24) S_q7 S_q46 S_m_Abs S_q132 S_q130 S_q137 S_q111) 3 0 (by kernel_rfl) (fun i_ hi_ => by
    match i_, hi_ with
    | 0, _ => exact (fun hk e => by rw [show hookOf ((an_q110 (N_ + 24) S_q7 S_q46 S_m_Abs S_q132 S_q130 S_q137 S_q111) (lp Pg 18 0).1) = none from by kernel_rfl] at e; cases e)
    | 1, _ => exact (fun hk e => by rw [show hookOf ((an_q110 (N_ + 24) S_q7 S_q46 S_m_Abs S_q132 S_q130 S_q137 S_q111) (lp Pg 18 1).1) = none from by kernel_rfl] at e; cases e)
    | 2, _ => exact (fun hk e => by rw [show hookOf ((an_q110 (N_ + 24) S_q7 S_q46 S_m_Abs S_q132 S_q130 S_q137 S_q111) (lp Pg 18 2).1) = none from by kernel_rfl] at e; cases e)
    | (q + 3), h => omega) ?_
  intro a k h
  unfold sp_q110 at h
  split at h
  · exact ⟨[], rfl, rfl, (eq_q110 _ _ _ _ _ _ _ _ _ _ _ _ _).trans h⟩
  · cases h

def an_q96 (N_ : Nat) : Nat -> Option Ann := fun b_ => none
theorem eq_q96 (N_ : Nat) (a_0 : Fl) (a_1 : Fl) (a_2 : Fl) (b_0 : Fl) (b_1 : Fl) (b_2 : Fl) (c_ : V -> List Blk -> Bool) : bodyV ⟨Pg, ofList [], isref, N_⟩ (an_q96 N_) 104 (shF_q96.args [.fl a_0, .fl a_1, .fl a_2, .fl b_0, .fl b_1, .fl b_2]) [] c_ = G_q96 N_ a_0 a_1 a_2 b_0 b_1 b_2 (fun r0 r1 r2 => c_ (.agg [.flt r0, .flt r1, .flt r2]) []) := by kernel_rfl
theorem good_q96 (N_ : Nat) : GoodF Pg 104 (F_q96 (G_q96 N_)) := by
  refine good_fs (cx := ⟨Pg, ofList [], isref, N_⟩) (ofList_nil _) shF_q96 (sp_q96 (G_q96 N_)) (an_q96 N_) 0 0 (by kernel_rfl) (fun i_ hi_ => by omega) ?_
  intro a k h
  unfold sp_q96 at h
  split at h
  · exact ⟨[], rfl, rfl, (eq_q96 _ _ _ _ _ _ _ _).trans h⟩
  · cases h

def an_q126 (N_ : Nat) (S_q40 : TS_q40) : Nat -> Option Ann := fun b_ => none
theorem eq_q126 (N_ : Nat) (S_q40 : TS_q40) (v_0 : Fl) (v_1 : Fl) (v_2 : Fl) (c_ : V -> List Blk -> Bool) : bodyV ⟨Pg, ofList [(86, (F_q40 S_q40))], isref, N_⟩ (an_q126 N_ S_q40) 105 (shF_q126.args [.fl v_0, .fl v_1, .fl v_2]) [] c_ = G_q126 N_ S_q40 v_0 v_1 v_2 (fun r0 r1 r2 r3 => c_ (.tup [.agg [.flt r0, .flt r1, .flt r2], .int .i64 r3]) []) := by kernel_rfl
theorem good_q126 (N_ : Nat) (S_q40 : TS_q40) (h_q40 : GoodF Pg 86 (F_q40 S_q40)) : GoodF Pg 105 (F_q126 (G_q126 N_ S_q40)) := by
  refine good_fs (cx := ⟨Pg, ofList [(86, (F_q40 S_q40))], isref, N_⟩) (ofList_cons h_q40 (ofList_nil _)) shF_q126 (sp_q126 (G_q126 N_ S_q40)) (an_q126 N_ S_q40) 0 0 (by kernel_rfl) (fun i_ hi_ => by omega) ?_
  intro a k h
  unfold sp_q126 at h
  split at h
  · exact ⟨[], rfl, rfl, (eq_q126 _ _ _ _ _ _).trans h⟩
  · cases h

def an_q114 (N_ : Nat) (S_q7 : TS_q7) (S_q40 : TS_q40) (S_q96 : TS_q96) (S_q126 : TS_q126) : Nat -> Option Ann := fun b_ => none
theorem eq_q114 (N_ : Nat) (S_q7 : TS_q7) (S_q40 : TS_q40) (S_q96 : TS_q96) (S_q126 : TS_q126) (q_0 : Fl) (q_1 : Fl) (q_2 : Fl) (q_3 : Fl) (v_0 : Fl) (v_1 : Fl) (v_2 : Fl) (c_ : V -> List Blk -> Bool) : bodyV ⟨Pg, ofList [(56, (F_q7 S_q7)), (86, (F_q40 S_q40)), (104, (F_q96 S_q96)), (105, (F_q126 S_q126))], isref, (N_ + 24)⟩ (an_q114 (N_ + 24) S_q7 S_q40 S_q96 S_q126) 44 (shF_q114.args [.fl q_0, .fl q_1, .fl q_2, .fl q_3, .fl v_0, .fl v_1, .fl v_2]) [] c_ = G_q114 (N_ + 24) S_q7 S_q40 S_q96 S_q126 q_0 q_1 q_2 q_3 v_0 v_1 v_2 (fun r0 r1 r2 r3 => c_ (.tup [.agg [.flt r0, .flt r1, .flt r2], .int .i64 r3]) []) := by kernel_rfl
theorem good_q114 (N_ : Nat) (S_q7 : TS_q7) (S_q40 : TS_q40) (S_q96 : TS_q96) (S_q126 : TS_q126) (h_q7 : GoodF Pg 56 (F_q7 S_q7)) (h_q40 : GoodF Pg 86 (F_q40 S_q40)) (h_q96 : GoodF Pg 104 (F_q96 S_q96)) (h_q126 : GoodF Pg 105 (F_q126 S_q126)) : GoodF Pg 44 (F_q114 (G_q114 (N_ + 24) S_q7 S_q40 S_q96 S_q126)) := by
  refine good_fs (cx := ⟨Pg, ofList [(56, (F_q7 S_q7)), (86, (F_q40 S_q40)), (104, (F_q96 S_q96)), (105, (F_q126 S_q126))], isref, (N_ + 24)⟩) (ofList_cons h_q7 (ofList_cons h_q40 (ofList_cons h_q96 (ofList_cons h_q126 (ofList_nil _))))) shF_q114 (sp_q114 (G_q114 (N_ + 24) S_q7 S_q40 S_q96 S_q126)) (an_q114 (N_ + 24) S_q7 S_q40 S_q96 S_q126) 2 0 (by kernel_rfl) (fun i_ hi_ => by
    match i_, hi_ with
    | 0, _ => exact (fun hk e => by rw [show hookOf ((an_q114 (N_ + 24) S_q7 S_q40 S_q96 S_q126) (lp Pg 44 0).1) = none from by kernel_rfl] at e; cases e)
    | 1, _ => exact (fun hk e => by rw [show hookOf ((an_q114 (N_ + 24) S_q7 S_q40 S_q96 S_q126) (lp Pg 44 1).1) = none from by kernel_rfl] at e; cases e)
    | (q + 2), h => omega) ?_
  intro a k h
  unfold sp_q114 at h
  split at h
  · exact ⟨[], rfl, rfl, (eq_q114 _ _ _ _ _ _ _ _ _ _ _ _ _).trans h⟩
  · cases h

def an_q76 (N_ : Nat) (S_q40 : TS_q40) : Nat -> Option Ann := fun b_ => none
theorem eq_q76 (N_ : Nat) (S_q40 : TS_q40) (qs_0 : Fl) (qs_1 : Fl) (qs_2 : Fl) (qs_3 : Fl) (qs_4 : Fl) (qs_5 : Fl) (qs_6 : Fl) (qs_7 : Fl) (c_ : V -> List Blk -> Bool) : bodyV ⟨Pg, ofList [(86, (F_q40 S_q40))], isref, (N_ + 24)⟩ (an_q76 (N_ + 24) S_q40) 56 (shF_q76.args [.fl qs_0, .fl qs_1, .fl qs_2, .fl qs_3, .fl qs_4, .fl qs_5, .fl qs_6, .fl qs_7]) [] c_ = G_q76 (N_ + 24) S_q40 qs_0 qs_1 qs_2 qs_3 qs_4 qs_5 qs_6 qs_7 (fun r0 => c_ (.bool r0) []) := by kernel_rfl
theorem good_q76 (N_ : Nat) (S_q40 : TS_q40) (h_q40 : GoodF Pg 86 (F_q40 S_q40)) : GoodF Pg 56 (F_q76 (G_q76 (N_ + 24) S_q40)) := by
  refine good_fs (cx := ⟨Pg, ofList [(86, (F_q40 S_q40))], isref, (N_ + 24)⟩) (ofList_cons h_q40 (ofList_nil _)) shF_q76 (sp_q76 (G_q76 (N_ + 24) S_q40)) (an_q76 (N_ + 24) S_q40) 1 0 (by kernel_rfl) (fun i_ hi_ => by
    match i_, hi_ with
    | 0, _ => exact (fun hk e => by rw [show hookOf ((an_q76 (N_ + 24) S_q40) (lp Pg 56 0).1) = none from by kernel_rfl] at e; cases e)
    | (q + 1), h => omega) ?_
  intro a k h
  unfold sp_q76 at h
  split at h
  · exact ⟨[], rfl, rfl, (eq_q76 _ _ _ _ _ _ _ _ _ _ _).trans h⟩
  · cases h

def an_q125 (N_ : Nat) : Nat -> Option Ann := fun b_ => none
theorem eq_q125 (N_ : Nat) (a_0 : Fl) (a_1 : Fl) (a_2 : Fl) (a_3 : Fl) (b_0 : Fl) (b_1 : Fl) (b_2 : Fl) (b_3 : Fl) (c_ : V -> List Blk -> Bool) : bodyV ⟨Pg, ofList [], isref, N_⟩ (an_q125 N_) 58 (shF_q125.args [.fl a_0, .fl a_1, .fl a_2, .fl a_3, .fl b_0, .fl b_1, .fl b_2, .fl b_3]) [] c_ = G_q125 N_ a_0 a_1 a_2 a_3 b_0 b_1 b_2 b_3 (fun r0 r1 r2 r3 => c_ (.agg [.flt r0, .flt r1, .flt r2, .flt r3]) []) := by kernel_rfl
theorem good_q125 (N_ : Nat) : GoodF Pg 58 (F_q125 (G_q125 N_)) := by
  refine good_fs (cx := ⟨Pg, ofList [], isref, N_⟩) (ofList_nil _) shF_q125 (sp_q125 (G_q125 N_)) (an_q125 N_) 0 0 (by kernel_rfl) (fun i_ hi_ => by omega) ?_
  intro a k h
  unfold sp_q125 at h
  split at h
  · exact ⟨[], rfl, rfl, (eq_q125 _ _ _ _ _ _ _ _ _ _).trans h⟩
  · cases h

def an_q112 (N_ : Nat) (S_q7 : TS_q7) : Nat -> Option Ann := fun b_ => none
theorem eq_q112 (N_ : Nat) (S_q7 : TS_q7) (q_0 : Fl) (q_1 : Fl) (q_2 : Fl) (q_3 : Fl) (c_ : V -> List Blk -> Bool) : bodyV ⟨Pg, ofList [(56, (F_q7 S_q7))], isref, N_⟩ (an_q112 N_ S_q7) 57 (shF_q112.args [.fl q_0, .fl q_1, .fl q_2, .fl q_3]) [] c_ = G_q112 N_ S_q7 q_0 q_1 q_2 q_3 (fun r0 r1 r2 r3 r4 => c_ (.tup [.agg [.flt r0, .flt r1, .flt r2, .flt r3], .int .i64 r4]) []) := by kernel_rfl
theorem good_q112 (N_ : Nat) (S_q7 : TS_q7) (h_q7 : GoodF Pg 56 (F_q7 S_q7)) : GoodF Pg 57 (F_q112 (G_q112 N_ S_q7)) := by
  refine good_fs (cx := ⟨Pg, ofList [(56, (F_q7 S_q7))], isref, N_⟩) (ofList_cons h_q7 (ofList_nil _)) shF_q112 (sp_q112 (G_q112 N_ S_q7)) (an_q112 N_ S_q7) 0 0 (by kernel_rfl) (fun i_ hi_ => by omega) ?_
  intro a k h
  unfold sp_q112 at h
  split at h
  · exact ⟨[], rfl, rfl, (eq_q112 _ _ _ _ _ _ _).trans h⟩
  · cases h

def an_q88 (N_ : Nat) (S_q76 : TS_q76) (S_q125 : TS_q125) (S_q112 : TS_q112) : Nat -> Option Ann := fun b_ => none
theorem eq_q88 (N_ : Nat) (S_q76 : TS_q76) (S_q125 : TS_q125) (S_q112 : TS_q112) (a_0 : Fl) (a_1 : Fl) (a_2 : Fl) (a_3 : Fl) (b_0 : Fl) (b_1 : Fl) (b_2 : Fl) (b_3 : Fl) (c_ : V -> List Blk -> Bool) : bodyV ⟨Pg, ofList [(56, (F_q76 S_q76)), (58, (F_q125 S_q125)), (57, (F_q112 S_q112))], isref, N_⟩ (an_q88 N_ S_q76 S_q125 S_q112) 10 (shF_q88.args [.fl a_0, .fl a_1, .fl a_2, .fl a_3, .fl b_0, .fl b_1, .fl b_2, .fl b_3]) [] c_ = G_q88 N_ S_q76 S_q125 S_q112 a_0 a_1 a_2 a_3 b_0 b_1 b_2 b_3 (fun r0 r1 r2 r3 r4 => c_ (.tup [.agg [.flt r0, .flt r1, .flt r2, .flt r3], .int .i64 r4]) []) := by kernel_rfl
theorem good_q88 (N_ : Nat) (S_q76 : TS_q76) (S_q125 : TS_q125) (S_q112 : TS_q112) (h_q76 : GoodF Pg 56 (F_q76 S_q76)) (h_q125 : GoodF Pg 58 (F_q125 S_q125)) (h_q112 : GoodF Pg 57 (F_q112 S_q112)) : GoodF Pg 10 (F_q88 (G_q88 N_ S_q76 S_q125 S_q112)) := by
  refine good_fs (cx := ⟨Pg, ofList [(56, (F_q76 S_q76)), (58, (F_q125 S_q125)), (57, (F_q112 S_q112))], isref, N_⟩) (ofList_cons h_q76 (ofList_cons h_q125 (ofList_cons h_q112 (ofList_nil _)))) shF_q88 (sp_q88 (G_q88 N_ S_q76 S_q125 S_q112)) (an_q88 N_ S_q76 S_q125 S_q112) 0 0 (by kernel_rfl) (fun i_ hi_ => by omega) ?_
  intro a k h
  unfold sp_q88 at h
  split at h
  · exact ⟨[], rfl, rfl, (eq_q88 _ _ _ _ _ _ _ _ _ _ _ _ _).trans h⟩
  · cases h


def sh_st_anatomy_Finite_0 : StSh := ⟨[.any, .any, .any, .any, .any, .any, .rof, .int .i64, .int .i64, .any, .any, .any, .any, .any, .any, .any, .any, .any, .any, .any, .any], []⟩
def sx0_st_anatomy_Finite_0 : StSh := ⟨[.any, .any, .bool, .any, .any, .any, .any, .any, .any, .any, .any, .any, .any, .any, .any, .any, .any, .any, .any, .any, .any], []⟩
def sx1_st_anatomy_Finite_0 : StSh := ⟨[.any, .any, .any, .any, .any, .any, .any, .any, .any, .any, .any, .any, .any, .any, .any, .any, .any, .any, .any, .any, .any], []⟩
def hk_st_anatomy_Finite_0 (N_ : Nat) (S_q107 : TS_q107) : List Atom -> K -> Bool := fun a_ κ => match a_ with
  | [.fls t6, .int t7, .int t8] => iterG N_ (st_an_Finite_0 N_ S_q107 t6 t7 (fun r0 => κ.ret (sx0_st_anatomy_Finite_0.build [.bool r0])) (κ.ext 0 (sx1_st_anatomy_Finite_0.build []))) t8
  | _ => false
def an_q78 (N_ : Nat) (S_q107 : TS_q107) : Nat -> Option Ann := fun b_ => cond (b_ == 0) (some ⟨⟨[6, 7, 8], [], []⟩, [(0, ⟨[], [], []⟩)], some ⟨[2], [], []⟩, some (mkHooks [(sh_st_anatomy_Finite_0, hk_st_anatomy_Finite_0 N_ S_q107)])⟩) (none)
theorem eq_st_anatomy_Finite_0 (N_ : Nat) (S_q107 : TS_q107) (κ : K) (t6 : List Fl) (t7 : Int) (t8 : Int) : iter N_ (fun s k => codeV ⟨Pg, ofList [(157, (F_q107 S_q107))], isref, N_⟩ 0 (an_q78 N_ S_q107) (lp Pg 124 0).2 (lp Pg 124 0).1 s (roundK Pg 0 ((an_q78 N_ S_q107) (lp Pg 124 0).1) κ k)) (sh_st_anatomy_Finite_0.build [.fls t6, .int t7, .int t8]) = iterG N_ (st_an_Finite_0 N_ S_q107 t6 t7 (fun r0 => κ.ret (sx0_st_anatomy_Finite_0.build [.bool r0])) (κ.ext 0 (sx1_st_anatomy_Finite_0.build []))) t8 :=
  iter_tr (fun v_ => sh_st_anatomy_Finite_0.build [.fls t6, .int t7, .int v_]) (fun v_ K_ => by kernel_rfl) N_ t8
theorem hk1_st_anatomy_Finite_0 (N_ : Nat) (S_q107 : TS_q107) : HookFor ⟨Pg, ofList [(157, (F_q107 S_q107))], isref, N_⟩ 0 (an_q78 N_ S_q107) (lp Pg 124 0) (sh_st_anatomy_Finite_0, hk_st_anatomy_Finite_0 N_ S_q107) := by
  intro a κ h
  simp only at h
  unfold hk_st_anatomy_Finite_0 at h
  split at h
  · exact (eq_st_anatomy_Finite_0 _ _ _ _ _ _).trans h
  · cases h
theorem ho_anatomy_Finite_0 (N_ : Nat) (S_q107 : TS_q107) : HookOk ⟨Pg, ofList [(157, (F_q107 S_q107))], isref, N_⟩ 0 (an_q78 N_ S_q107) (lp Pg 124 0) :=
  hooks_ok [(sh_st_anatomy_Finite_0, hk_st_anatomy_Finite_0 N_ S_q107)] (by kernel_rfl) ⟨hk1_st_anatomy_Finite_0 _ _, trivial⟩
theorem eq_q78 (N_ : Nat) (S_q107 : TS_q107) (l : List Fl) (c_ : V -> List Blk -> Bool) : bodyV ⟨Pg, ofList [(157, (F_q107 S_q107))], isref, N_⟩ (an_q78 N_ S_q107) 124 (shF_q78.args [.fls l]) [] c_ = G_q78 N_ S_q107 l (fun r0 => c_ (.bool r0) []) := by kernel_rfl
theorem good_q78 (N_ : Nat) (S_q107 : TS_q107) (h_q107 : GoodF Pg 157 (F_q107 S_q107)) : GoodF Pg 124 (F_q78 (G_q78 N_ S_q107)) := by
  refine good_fs (cx := ⟨Pg, ofList [(157, (F_q107 S_q107))], isref, N_⟩) (ofList_cons h_q107 (ofList_nil _)) shF_q78 (sp_q78 (G_q78 N_ S_q107)) (an_q78 N_ S_q107) 1 0 (by kernel_rfl) (fun i_ hi_ => by
    match i_, hi_ with
    | 0, _ => exact ho_anatomy_Finite_0 _ _
    | (q + 1), h => omega) ?_
  intro a k h
  unfold sp_q78 at h
  split at h
  · exact ⟨[], rfl, rfl, (eq_q78 _ _ _ _).trans h⟩
  · cases h

def an_q4 (N_ : Nat) : Nat -> Option Ann := fun b_ => none
theorem eq_q4 (N_ : Nat) (x : Int) (c_ : V -> List Blk -> Bool) : bodyV ⟨Pg, ofList [], isref, N_⟩ (an_q4 N_) 218 (shF_q4.args [.int x]) [] c_ = G_q4 N_ x (fun r0 => c_ (.int .i64 r0) []) := by
  have key : ∀ L_ : Int, codesV ⟨Pg, ofList [], isref, N_⟩ 0 (an_q4 N_) (((cds Pg 218).drop 0).map (subC 285870213051353865 L_)) 0 (st0 Pg 218 (shF_q4.args [.int x]) []) (finV Pg 218 0 c_) = (fun (k0 : Int -> Bool) => (cond (x == 0) (k0 64) ((inR (Int.fdiv (IntKind.wrap .u64 ((bitsN .and .u64 x (IntKind.wrap .u64 (0 - x))) * L_)) (2 ^ 58)) 64) && ((fits .i64 (List.getD tab64 (Int.toNat (Int.fdiv (IntKind.wrap .u64 ((bitsN .and .u64 x (IntKind.wrap .u64 (0 - x))) * L_)) (2 ^ 58))) 0)) && (k0 (List.getD tab64 (Int.toNat (Int.fdiv (IntKind.wrap .u64 ((bitsN .and .u64 x (IntKind.wrap .u64 (0 - x))) * L_)) (2 ^ 58))) 0)))))) (fun r0 => c_ (.int .i64 r0) []) := fun L_ => by kernel_rfl
  have hc : (cds Pg 218).drop 0 = ((cds Pg 218).drop 0).map (subC 285870213051353865 285870213051353865) := by kernel_rfl
  refine (bodyV_codes (by kernel_rfl)).trans ?_
  rw [hc]
  exact key 285870213051353865
theorem good_q4 (N_ : Nat) : GoodF Pg 218 (F_q4 (G_q4 N_)) := by
  refine good_fs (cx := ⟨Pg, ofList [], isref, N_⟩) (ofList_nil _) shF_q4 (sp_q4 (G_q4 N_)) (an_q4 N_) 0 0 (by kernel_rfl) (fun i_ hi_ => by omega) ?_
  intro a k h
  unfold sp_q4 at h
  split at h
  · exact ⟨[], rfl, rfl, (eq_q4 _ _ _).trans h⟩
  · cases h

def an_q57 (N_ : Nat) (S_q22 : TS_q22) (S_q21 : TS_q21) (S_q63 : TS_q63) (S_q4 : TS_q4) : Nat -> Option Ann := fun b_ => none
def ls_q141 (d_ : List V) (u_ : List (Option Blk)) (b : Int) (f_0 : Int) (f_1 : Int) (f_2 : Int) (p : Bool) (p_1 : Int) (p_2 : Int) : St := ⟨(dqs d_ 0 4 [.ptr 1 0, (dq d_ 4), (dq d_ 5), (dq d_ 6), (dq d_ 7), .ptr 2 0, (dq d_ 8), (dq d_ 9), (dq d_ 10), (dq d_ 11), (dq d_ 12), (dq d_ 13), (dq d_ 14), (dq d_ 15), (dq d_ 16), (dq d_ 17), (dq d_ 18), (dq d_ 19), (dq d_ 20), (dq d_ 21), (dq d_ 22), (dq d_ 23), (dq d_ 24), (dq d_ 25), (dq d_ 26), (dq d_ 27), (dq d_ 28), (dq d_ 29), (dq d_ 30), (dq d_ 31), (dq d_ 32), (dq d_ 33), (dq d_ 34), (dq d_ 35), (dq d_ 36), (dq d_ 37), (dq d_ 38), (dq d_ 39), (dq d_ 40), (dq d_ 41), (dq d_ 42), (dq d_ 43), (dq d_ 44), (dq d_ 45), (dq d_ 46), (dq d_ 47), (dq d_ 48), (dq d_ 49), (dq d_ 50), (dq d_ 51), (dq d_ 52), (dq d_ 53), (dq d_ 54), (dq d_ 55), (dq d_ 56), (dq d_ 57), (dq d_ 58), (dq d_ 59)]), [(u_.getD 0 none), some ⟨108, 1, .cells [.bool false, .int .u64 0, .int .i64 0]⟩, some ⟨108, 1, .cells [.bool p, .int .u64 p_1, .int .i64 p_2]⟩]⟩
theorem jn_q141 (N_ : Nat) (S_q22 : TS_q22) (S_q21 : TS_q21) (S_q63 : TS_q63) (S_q4 : TS_q4) (d_ : List V) (u_ : List (Option Blk)) (b : Int) (f_0 : Int) (f_1 : Int) (f_2 : Int) (p : Bool) (p_1 : Int) (p_2 : Int) (c_ : V -> List Blk -> Bool) : codesV ⟨Pg, ofList [(214, (F_q22 S_q22)), (189, (F_q21 S_q21)), (217, (F_q63 S_q63)), (218, (F_q4 S_q4))], isref, N_⟩ 0 (an_q57 N_ S_q22 S_q21 S_q63 S_q4) ((cds Pg 192).drop 5) 0 (ls_q141 d_ u_ b f_0 f_1 f_2 p p_1 p_2) (finV Pg 192 0 c_) = J_q141 N_ S_q22 S_q21 S_q63 S_q4 b f_0 f_1 f_2 p p_1 p_2 (fun r0 r1 r2 r3 => c_ (.tup [.agg [.bool r0, .int .u64 r1, .int .i64 r2], .int .i64 r3]) []) := by kernel_rfl
theorem hd_an_parts_uint64__w (N_ : Nat) (S_q22 : TS_q22) (S_q21 : TS_q21) (S_q63 : TS_q63) (S_q4 : TS_q4) (b : Int) (f_0 : Int) (f_1 : Int) (f_2 : Int) (c_ : V -> List Blk -> Bool) (κn_ : St -> Bool) : codesV ⟨Pg, ofList [(214, (F_q22 S_q22)), (189, (F_q21 S_q21)), (217, (F_q63 S_q63)), (218, (F_q4 S_q4))], isref, N_⟩ 0 (an_q57 N_ S_q22 S_q21 S_q63 S_q4) (sg Pg 192 0 5) 0 (st0 Pg 192 (shF_q57.args [.int b, .int f_0, .int f_1, .int f_2]) []) { (finV Pg 192 0 c_) with nrm := κn_ } = (S_q22 b f_0 f_1 f_2 (fun cr nr nr_1 => ((fits .i64 (nr - f_2)) && (S_q21 b f_0 f_1 f_2 (fun nr_2 => (cond (nr_2 == 1) (c_ (.tup [.agg [.bool false, .int .u64 0, .int .i64 0], .int .i64 4]) []) (cond (nr_2 == 2) (c_ (.tup [.agg [.bool false, .int .u64 0, .int .i64 0], .int .i64 4]) []) (cond (nr_2 == 3) (c_ (.tup [.agg [.bool cr, .int .u64 0, .int .i64 0], .int .i64 0]) []) (cond (nr_2 == 4) ((fits .i64 ((nr - f_2) + 1)) && (κn_ (ls_q141 [.int .u64 b, .agg [.int .u64 f_0, .int .i64 f_1, .int .i64 f_2], .any, .ptr 0 0, .int .i64 0, .bool cr, .int .i64 nr, .int .u64 nr_1, .any, .tup [.bool cr, .int .i64 nr, .int .u64 nr_1], .int .u64 b, .agg [.int .u64 f_0, .int .i64 f_1, .int .i64 f_2], .tup [.bool cr, .int .i64 nr, .int .u64 nr_1], .bool cr, .int .i64 nr, .int .u64 nr_1, .bool cr, .int .u64 nr_1, .int .i64 nr, .ptr 0 2, .int .i64 f_2, .int .i64 (nr - f_2), .agg [.bool cr, .int .u64 nr_1, .int .i64 (nr - f_2)], .int .u64 b, .agg [.int .u64 f_0, .int .i64 f_1, .int .i64 f_2], .int .i64 nr_2, .any, .any, .any, .any, .any, .any, .bool false, .bool (nr_2 == 1), .bool (nr_2 == 2), .any, .bool false, .bool (nr_2 == 3), .any, .any, .bool true, .bool (nr_2 == 4), .ptr 2 2, .int .i64 (nr - f_2), .int .i64 ((nr - f_2) + 1), .ptr 2 2, .any, .any, .any, .any, .any, .any, .any, .any, .any, .any, .any, .any, .any, .any] [some ⟨217, 1, .cells [.int .u64 f_0, .int .i64 f_1, .int .i64 f_2]⟩] b f_0 f_1 f_2 cr nr_1 ((nr - f_2) + 1)))) (S_q63 f_0 f_1 f_2 (fun nr_3 => (κn_ (ls_q141 [.int .u64 b, .agg [.int .u64 f_0, .int .i64 f_1, .int .i64 f_2], .any, .ptr 0 0, .int .i64 0, .bool cr, .int .i64 nr, .int .u64 nr_1, .any, .tup [.bool cr, .int .i64 nr, .int .u64 nr_1], .int .u64 b, .agg [.int .u64 f_0, .int .i64 f_1, .int .i64 f_2], .tup [.bool cr, .int .i64 nr, .int .u64 nr_1], .bool cr, .int .i64 nr, .int .u64 nr_1, .bool cr, .int .u64 nr_1, .int .i64 nr, .ptr 0 2, .int .i64 f_2, .int .i64 (nr - f_2), .agg [.bool cr, .int .u64 nr_1, .int .i64 (nr - f_2)], .int .u64 b, .agg [.int .u64 f_0, .int .i64 f_1, .int .i64 f_2], .int .i64 nr_2, .ptr 2 1, .int .u64 nr_1, .agg [.int .u64 f_0, .int .i64 f_1, .int .i64 f_2], .int .u64 nr_3, .int .u64 (bitsN .or .u64 nr_1 nr_3), .ptr 2 1, .bool false, .bool (nr_2 == 1), .bool (nr_2 == 2), .any, .bool false, .bool (nr_2 == 3), .any, .any, .bool false, .bool (nr_2 == 4), .any, .any, .any, .any, .any, .any, .any, .any, .any, .any, .any, .any, .any, .any, .any, .any, .any, .any] [some ⟨217, 1, .cells [.int .u64 f_0, .int .i64 f_1, .int .i64 f_2]⟩] b f_0 f_1 f_2 cr (bitsN .or .u64 nr_1 nr_3) (nr - f_2)))))))))))))) := by kernel_rfl
theorem jn_an_parts_uint64__w (N_ : Nat) (S_q22 : TS_q22) (S_q21 : TS_q21) (S_q63 : TS_q63) (S_q4 : TS_q4) (b : Int) (f_0 : Int) (f_1 : Int) (f_2 : Int) (c_ : V -> List Blk -> Bool) : codesV ⟨Pg, ofList [(214, (F_q22 S_q22)), (189, (F_q21 S_q21)), (217, (F_q63 S_q63)), (218, (F_q4 S_q4))], isref, N_⟩ 0 (an_q57 N_ S_q22 S_q21 S_q63 S_q4) ((cds Pg 192).drop 0) 0 (st0 Pg 192 (shF_q57.args [.int b, .int f_0, .int f_1, .int f_2]) []) (finV Pg 192 0 c_) = G_q57 N_ S_q22 S_q21 S_q63 S_q4 b f_0 f_1 f_2 (fun r0 r1 r2 r3 => c_ (.tup [.agg [.bool r0, .int .u64 r1, .int .i64 r2], .int .i64 r3]) []) := by
  rw [codesV_cut 0 5 5 rfl]
  refine (hd_an_parts_uint64__w N_ S_q22 S_q21 S_q63 S_q4 b f_0 f_1 f_2 c_ _).trans ?_
  simp only [jn_q141]
  kernel_rfl
theorem eq_q57 (N_ : Nat) (S_q22 : TS_q22) (S_q21 : TS_q21) (S_q63 : TS_q63) (S_q4 : TS_q4) (b : Int) (f_0 : Int) (f_1 : Int) (f_2 : Int) (c_ : V -> List Blk -> Bool) : bodyV ⟨Pg, ofList [(214, (F_q22 S_q22)), (189, (F_q21 S_q21)), (217, (F_q63 S_q63)), (218, (F_q4 S_q4))], isref, N_⟩ (an_q57 N_ S_q22 S_q21 S_q63 S_q4) 192 (shF_q57.args [.int b, .int f_0, .int f_1, .int f_2]) [] c_ = G_q57 N_ S_q22 S_q21 S_q63 S_q4 b f_0 f_1 f_2 (fun r0 r1 r2 r3 => c_ (.tup [.agg [.bool r0, .int .u64 r1, .int .i64 r2], .int .i64 r3]) []) :=
  (bodyV_codes (by kernel_rfl)).trans (jn_an_parts_uint64__w N_ S_q22 S_q21 S_q63 S_q4 b f_0 f_1 f_2 c_)
theorem good_q57 (N_ : Nat) (S_q22 : TS_q22) (S_q21 : TS_q21) (S_q63 : TS_q63) (S_q4 : TS_q4) (h_q22 : GoodF Pg 214 (F_q22 S_q22)) (h_q21 : GoodF Pg 189 (F_q21 S_q21)) (h_q63 : GoodF Pg 217 (F_q63 S_q63)) (h_q4 : GoodF Pg 218 (F_q4 S_q4)) : GoodF Pg 192 (F_q57 (G_q57 N_ S_q22 S_q21 S_q63 S_q4)) := by
  refine good_fs (cx := ⟨Pg, ofList [(214, (F_q22 S_q22)), (189, (F_q21 S_q21)), (217, (F_q63 S_q63)), (218, (F_q4 S_q4))], isref, N_⟩) (ofList_cons h_q22 (ofList_cons h_q21 (ofList_cons h_q63 (ofList_cons h_q4 (ofList_nil _))))) shF_q57 (sp_q57 (G_q57 N_ S_q22 S_q21 S_q63 S_q4)) (an_q57 N_ S_q22 S_q21 S_q63 S_q4) 0 0 (by kernel_rfl) (fun i_ hi_ => by omega) ?_
  intro a k h
  unfold sp_q57 at h
  split at h
  · exact ⟨[], rfl, rfl, (eq_q57 _ _ _ _ _ _ _ _ _ _).trans h⟩
  · cases h

def an_q127 (N_ : Nat) (S_q90 : TS_q90) (S_an_of : TS_an_of) (S_q57 : TS_q57) : Nat -> Option Ann := fun b_ => none
theorem eq_q127 (N_ : Nat) (S_q90 : TS_q90) (S_an_of : TS_an_of) (S_q57 : TS_q57) (x : Fl) (c_ : V -> List Blk -> Bool) : bodyV ⟨Pg, ofList [(88, (F_q90 S_q90)), (190, (F_an_of S_an_of)), (192, (F_q57 S_q57))], isref, N_⟩ (an_q127 N_ S_q90 S_an_of S_q57) 160 (shF_q127.args [.fl x]) [] c_ = G_q127 N_ S_q90 S_an_of S_q57 x (fun r0 r1 r2 r3 => c_ (.tup [.agg [.bool r0, .int .u64 r1, .int .i64 r2], .int .i64 r3]) []) := by kernel_rfl
theorem good_q127 (N_ : Nat) (S_q90 : TS_q90) (S_an_of : TS_an_of) (S_q57 : TS_q57) (h_q90 : GoodF Pg 88 (F_q90 S_q90)) (h_an_of : GoodF Pg 190 (F_an_of S_an_of)) (h_q57 : GoodF Pg 192 (F_q57 S_q57)) : GoodF Pg 160 (F_q127 (G_q127 N_ S_q90 S_an_of S_q57)) := by
  refine good_fs (cx := ⟨Pg, ofList [(88, (F_q90 S_q90)), (190, (F_an_of S_an_of)), (192, (F_q57 S_q57))], isref, N_⟩) (ofList_cons h_q90 (ofList_cons h_an_of (ofList_cons h_q57 (ofList_nil _)))) shF_q127 (sp_q127 (G_q127 N_ S_q90 S_an_of S_q57)) (an_q127 N_ S_q90 S_an_of S_q57) 0 0 (by kernel_rfl) (fun i_ hi_ => by omega) ?_
  intro a k h
  unfold sp_q127 at h
  split at h
  · exact ⟨[], rfl, rfl, (eq_q127 _ _ _ _ _ _).trans h⟩
  · cases h

def sh_st_big_norm_w_0 : StSh := ⟨[.slw 0, .any, .any, .int .i64, .any, .any, .any, .any, .any, .any, .any, .any, .any, .any, .any, .any, .any, .any, .any, .any, .any], [some (41, 1, .ints .u64)]⟩
def sx0_st_big_norm_w_0 : StSh := ⟨[.slw 0, .any, .any, .int .i64, .any, .any, .any, .any, .any, .any, .any, .any, .any, .any, .any, .any, .any, .any, .any, .any, .any], [some (41, 1, .ints .u64)]⟩
def hk_st_big_norm_w_0 (N_ : Nat) : List Atom -> K -> Bool := fun a_ κ => match a_ with
  | [.int n, .ints x] => iterG N_ (st_big_norm_w_0 N_ x (fun r0 => κ.ext 0 (sx0_st_big_norm_w_0.build [.int r0, .ints x]))) n
  | _ => false
def an_q1 (N_ : Nat) : Nat -> Option Ann := fun b_ => cond (b_ == 0) (some ⟨⟨[0, 3], [], []⟩, [(0, ⟨[0, 3], [], []⟩)], some ⟨[2], [], []⟩, some (mkHooks [(sh_st_big_norm_w_0, hk_st_big_norm_w_0 N_)])⟩) (none)
theorem eq_st_big_norm_w_0 (N_ : Nat) (κ : K) (n : Int) (x : List Int) : iter N_ (fun s k => codeV ⟨Pg, ofList [], isref, N_⟩ 1 (an_q1 N_) (lp Pg 202 0).2 (lp Pg 202 0).1 s (roundK Pg 1 ((an_q1 N_) (lp Pg 202 0).1) κ k)) (sh_st_big_norm_w_0.build [.int n, .ints x]) = iterG N_ (st_big_norm_w_0 N_ x (fun r0 => κ.ext 0 (sx0_st_big_norm_w_0.build [.int r0, .ints x]))) n :=
  iter_tr (fun v_ => sh_st_big_norm_w_0.build [.int v_, .ints x]) (fun v_ K_ => by kernel_rfl) N_ n
theorem hk1_st_big_norm_w_0 (N_ : Nat) : HookFor ⟨Pg, ofList [], isref, N_⟩ 1 (an_q1 N_) (lp Pg 202 0) (sh_st_big_norm_w_0, hk_st_big_norm_w_0 N_) := by
  intro a κ h
  simp only at h
  unfold hk_st_big_norm_w_0 at h
  split at h
  · exact (eq_st_big_norm_w_0 _ _ _ _).trans h
  · cases h
theorem ho_big_norm_w_0 (N_ : Nat) : HookOk ⟨Pg, ofList [], isref, N_⟩ 1 (an_q1 N_) (lp Pg 202 0) :=
  hooks_ok [(sh_st_big_norm_w_0, hk_st_big_norm_w_0 N_)] (by kernel_rfl) ⟨hk1_st_big_norm_w_0 _, trivial⟩
theorem eq_q1 (N_ : Nat) (b : List Int) (c_ : V -> List Blk -> Bool) : bodyZ ⟨Pg, ofList [], isref, N_⟩ (an_q1 N_) 202 (shF_q1.args [.ints b]) [⟨41, 1, .ints .u64 b⟩] c_ = G_q1 N_ b (fun r0 r1 => c_ (.sl 0 r0 r1) [⟨41, 1, .ints .u64 b⟩]) := by kernel_rfl
theorem good_q1 (N_ : Nat) : GoodF Pg 202 (F_q1 (G_q1 N_)) := by
  refine good_fsZ (cx := ⟨Pg, ofList [], isref, N_⟩) (ofList_nil _) shF_q1 (sp_q1 (G_q1 N_)) (an_q1 N_) 1 1 (by kernel_rfl) (fun i_ hi_ => by
    match i_, hi_ with
    | 0, _ => exact ho_big_norm_w_0 _
    | (q + 1), h => omega) ?_
  intro a k h
  unfold sp_q1 at h
  split at h
  · exact ⟨[_], rfl, rfl, (eq_q1 _ _ _).trans h⟩
  · cases h

def an_q100 (N_ : Nat) (S_q1 : TS_q1) : Nat -> Option Ann := fun b_ => none
theorem eq_q100 (N_ : Nat) (S_q1 : TS_q1) (n : Int) (c_ : V -> List Blk -> Bool) : bodyZ ⟨Pg, ofList [(202, (F_q1 S_q1))], isref, N_⟩ (an_q100 N_ S_q1) 193 (shF_q100.args [.int n]) [] c_ = G_q100 N_ S_q1 n (fun r0 => c_ (.roi .u64 r0) []) := by kernel_rfl
theorem good_q100 (N_ : Nat) (S_q1 : TS_q1) (h_q1 : GoodF Pg 202 (F_q1 S_q1)) : GoodF Pg 193 (F_q100 (G_q100 N_ S_q1)) := by
  refine good_fsZ (cx := ⟨Pg, ofList [(202, (F_q1 S_q1))], isref, N_⟩) (ofList_cons h_q1 (ofList_nil _)) shF_q100 (sp_q100 (G_q100 N_ S_q1)) (an_q100 N_ S_q1) 0 0 (by kernel_rfl) (fun i_ hi_ => by omega) ?_
  intro a k h
  unfold sp_q100 at h
  split at h
  · exact ⟨[], rfl, rfl, (eq_q100 _ _ _ _).trans h⟩
  · cases h

def an_q0 (N_ : Nat) : Nat -> Option Ann := fun b_ => none
theorem eq_q0 (N_ : Nat) (neg : Bool) (abs : List Int) (b : Bool) (c_ : V -> List Blk -> Bool) : bodyZ ⟨Pg, ofList [], isref, N_⟩ (an_q0 N_) 170 (shF_q0.args [.bool neg, .ints abs, .bool b]) [⟨164, 1, .cells [.bool b, .nil]⟩] c_ = G_q0 N_ neg abs b (fun r0 => c_ (.ptr 0 0) [⟨164, 1, .cells [.bool r0, .roi .u64 abs]⟩]) := by kernel_rfl
theorem good_q0 (N_ : Nat) : GoodF Pg 170 (F_q0 (G_q0 N_)) := by
  refine good_fsZ (cx := ⟨Pg, ofList [], isref, N_⟩) (ofList_nil _) shF_q0 (sp_q0 (G_q0 N_)) (an_q0 N_) 0 1 (by kernel_rfl) (fun i_ hi_ => by omega) ?_
  intro a k h
  unfold sp_q0 at h
  split at h
  · exact ⟨[_], rfl, rfl, (eq_q0 _ _ _ _ _).trans h⟩
  · cases h

def an_q44 (N_ : Nat) (S_q100 : TS_q100) (S_q0 : TS_q0) : Nat -> Option Ann := fun b_ => none
theorem eq_q44 (N_ : Nat) (S_q100 : TS_q100) (S_q0 : TS_q0) (n : Int) (b : Bool) (c_ : V -> List Blk -> Bool) : bodyZ ⟨Pg, ofList [(193, (F_q100 S_q100)), (170, (F_q0 S_q0))], isref, N_⟩ (an_q44 N_ S_q100 S_q0) 161 (shF_q44.args [.int n, .bool b]) [⟨164, 1, .cells [.bool b, .nil]⟩] c_ = G_q44 N_ S_q100 S_q0 n b (fun r0 r1 => c_ (.ptr 0 0) [⟨164, 1, .cells [.bool r0, .roi .u64 r1]⟩]) := by kernel_rfl
theorem good_q44 (N_ : Nat) (S_q100 : TS_q100) (S_q0 : TS_q0) (h_q100 : GoodF Pg 193 (F_q100 S_q100)) (h_q0 : GoodF Pg 170 (F_q0 S_q0)) : GoodF Pg 161 (F_q44 (G_q44 N_ S_q100 S_q0)) := by
  refine good_fsZ (cx := ⟨Pg, ofList [(193, (F_q100 S_q100)), (170, (F_q0 S_q0))], isref, N_⟩) (ofList_cons h_q100 (ofList_cons h_q0 (ofList_nil _))) shF_q44 (sp_q44 (G_q44 N_ S_q100 S_q0)) (an_q44 N_ S_q100 S_q0) 0 1 (by kernel_rfl) (fun i_ hi_ => by omega) ?_
  intro a k h
  unfold sp_q44 at h
  split at h
  · exact ⟨[_], rfl, rfl, (eq_q44 _ _ _ _ _ _).trans h⟩
  · cases h

def an_q65 (N_ : Nat) : Nat -> Option Ann := fun b_ => none
theorem eq_q65 (N_ : Nat) (x : List Int) (c_ : V -> List Blk -> Bool) : bodyZ ⟨Pg, ofList [], isref, N_⟩ (an_q65 N_) 171 (shF_q65.args [.ints x]) [] c_ = G_q65 N_ x (fun r0 => c_ (.roi .u64 r0) []) := by kernel_rfl
theorem good_q65 (N_ : Nat) : GoodF Pg 171 (F_q65 (G_q65 N_)) := by
  refine good_fsZ (cx := ⟨Pg, ofList [], isref, N_⟩) (ofList_nil _) shF_q65 (sp_q65 (G_q65 N_)) (an_q65 N_) 0 0 (by kernel_rfl) (fun i_ hi_ => by omega) ?_
  intro a k h
  unfold sp_q65 at h
  split at h
  · exact ⟨[], rfl, rfl, (eq_q65 _ _ _).trans h⟩
  · cases h

def an_q25 (N_ : Nat) : Nat -> Option Ann := fun b_ => none
theorem eq_q25 (N_ : Nat) (neg : Bool) (abs : List Int) (b : Bool) (b_1 : List Int) (c_ : V -> List Blk -> Bool) : bodyZ ⟨Pg, ofList [], isref, N_⟩ (an_q25 N_) 170 (shF_q25.args [.bool neg, .ints abs, .bool b, .ints b_1]) [⟨164, 1, .cells [.bool b, .roi .u64 b_1]⟩] c_ = G_q25 N_ neg abs b b_1 (fun r0 => c_ (.ptr 0 0) [⟨164, 1, .cells [.bool r0, .roi .u64 abs]⟩]) := by kernel_rfl
theorem good_q25 (N_ : Nat) : GoodF Pg 170 (F_q25 (G_q25 N_)) := by
  refine good_fsZ (cx := ⟨Pg, ofList [], isref, N_⟩) (ofList_nil _) shF_q25 (sp_q25 (G_q25 N_)) (an_q25 N_) 0 1 (by kernel_rfl) (fun i_ hi_ => by omega) ?_
  intro a k h
  unfold sp_q25 at h
  split at h
  · exact ⟨[_], rfl, rfl, (eq_q25 _ _ _ _ _ _).trans h⟩
  · cases h

def an_q18 (N_ : Nat) (S_q65 : TS_q65) (S_q25 : TS_q25) : Nat -> Option Ann := fun b_ => none
theorem eq_q18 (N_ : Nat) (S_q65 : TS_q65) (S_q25 : TS_q25) (b : Bool) (b_1 : List Int) (c_ : V -> List Blk -> Bool) : bodyZ ⟨Pg, ofList [(171, (F_q65 S_q65)), (170, (F_q25 S_q25))], isref, N_⟩ (an_q18 N_ S_q65 S_q25) 131 (shF_q18.args [.bool b, .ints b_1]) [⟨164, 1, .cells [.bool b, .roi .u64 b_1]⟩] c_ = G_q18 N_ S_q65 S_q25 b b_1 (fun r0 r1 => c_ (.ptr 0 0) [⟨164, 1, .cells [.bool r0, .roi .u64 r1]⟩]) := by kernel_rfl
theorem good_q18 (N_ : Nat) (S_q65 : TS_q65) (S_q25 : TS_q25) (h_q65 : GoodF Pg 171 (F_q65 S_q65)) (h_q25 : GoodF Pg 170 (F_q25 S_q25)) : GoodF Pg 131 (F_q18 (G_q18 N_ S_q65 S_q25)) := by
  refine good_fsZ (cx := ⟨Pg, ofList [(171, (F_q65 S_q65)), (170, (F_q25 S_q25))], isref, N_⟩) (ofList_cons h_q65 (ofList_cons h_q25 (ofList_nil _))) shF_q18 (sp_q18 (G_q18 N_ S_q65 S_q25)) (an_q18 N_ S_q65 S_q25) 0 1 (by kernel_rfl) (fun i_ hi_ => by omega) ?_
  intro a k h
  unfold sp_q18 at h
  split at h
  · exact ⟨[_], rfl, rfl, (eq_q18 _ _ _ _ _ _).trans h⟩
  · cases h

def an_q116 (N_ : Nat) (S_q127 : TS_q127) (S_q44 : TS_q44) (S_q18 : TS_q18) : Nat -> Option Ann := fun b_ => none
theorem eq_q116 (N_ : Nat) (S_q127 : TS_q127) (S_q44 : TS_q44) (S_q18 : TS_q18) (x : Fl) (c_ : V -> List Blk -> Bool) : bodyV ⟨Pg, ofList [(160, (F_q127 S_q127)), (161, (F_q44 S_q44)), (131, (F_q18 S_q18))], isref, N_⟩ (an_q116 N_ S_q127 S_q44 S_q18) 126 (shF_q116.args [.fl x]) [] c_ = G_q116 N_ S_q127 S_q44 S_q18 x (fun r0 r1 r2 => c_ (.agg [.ptr 0 0, .int .i64 r0]) [⟨164, 1, .cells [.bool r1, .roi .u64 r2]⟩]) := by kernel_rfl
theorem good_q116 (N_ : Nat) (S_q127 : TS_q127) (S_q44 : TS_q44) (S_q18 : TS_q18) (h_q127 : GoodF Pg 160 (F_q127 S_q127)) (h_q44 : GoodF Pg 161 (F_q44 S_q44)) (h_q18 : GoodF Pg 131 (F_q18 S_q18)) : GoodF Pg 126 (F_q116 (G_q116 N_ S_q127 S_q44 S_q18)) := by
  refine good_fs (cx := ⟨Pg, ofList [(160, (F_q127 S_q127)), (161, (F_q44 S_q44)), (131, (F_q18 S_q18))], isref, N_⟩) (ofList_cons h_q127 (ofList_cons h_q44 (ofList_cons h_q18 (ofList_nil _)))) shF_q116 (sp_q116 (G_q116 N_ S_q127 S_q44 S_q18)) (an_q116 N_ S_q127 S_q44 S_q18) 0 0 (by kernel_rfl) (fun i_ hi_ => by omega) ?_
  intro a k h
  unfold sp_q116 at h
  split at h
  · exact ⟨[], rfl, rfl, (eq_q116 _ _ _ _ _ _).trans h⟩
  · cases h

def an_q85 (N_ : Nat) : Nat -> Option Ann := fun b_ => none
theorem eq_q85 (N_ : Nat) (x : Int) (y : Int) (c_ : V -> List Blk -> Bool) : bodyV ⟨Pg, ofList [], isref, N_⟩ (an_q85 N_) 231 (shF_q85.args [.int x, .int y]) [] c_ = G_q85 N_ x y (fun r0 r1 => c_ (.tup [.int .u64 r0, .int .u64 r1]) []) := by kernel_rfl
theorem good_q85 (N_ : Nat) : GoodF Pg 231 (F_q85 (G_q85 N_)) := by
  refine good_fs (cx := ⟨Pg, ofList [], isref, N_⟩) (ofList_nil _) shF_q85 (sp_q85 (G_q85 N_)) (an_q85 N_) 0 0 (by kernel_rfl) (fun i_ hi_ => by omega) ?_
  intro a k h
  unfold sp_q85 at h
  split at h
  · exact ⟨[], rfl, rfl, (eq_q85 _ _ _ _).trans h⟩
  · cases h


def an_q79 (N_ : Nat) (S_q85 : TS_q85) (S_q56 : TS_q56) : Nat -> Option Ann := fun b_ => none
theorem eq_q79 (N_ : Nat) (S_q85 : TS_q85) (S_q56 : TS_q56) (a : Int) (b : Int) (c : Int) (d : Int) (c_ : V -> List Blk -> Bool) : bodyZ ⟨Pg, ofList [(231, (F_q85 S_q85)), (221, (F_q56 S_q56))], isref, N_⟩ (an_q79 N_ S_q85 S_q56) 219 (shF_q79.args [.int a, .int b, .int c, .int d]) [] c_ = G_q79 N_ S_q85 S_q56 a b c d (fun r0 r1 => c_ (.tup [.int .u64 r0, .int .u64 r1]) []) := by kernel_rfl
theorem good_q79 (N_ : Nat) (S_q85 : TS_q85) (S_q56 : TS_q56) (h_q85 : GoodF Pg 231 (F_q85 S_q85)) (h_q56 : GoodF Pg 221 (F_q56 S_q56)) : GoodF Pg 219 (F_q79 (G_q79 N_ S_q85 S_q56)) := by
  refine good_fsZ (cx := ⟨Pg, ofList [(231, (F_q85 S_q85)), (221, (F_q56 S_q56))], isref, N_⟩) (ofList_cons h_q85 (ofList_cons h_q56 (ofList_nil _))) shF_q79 (sp_q79 (G_q79 N_ S_q85 S_q56)) (an_q79 N_ S_q85 S_q56) 0 0 (by kernel_rfl) (fun i_ hi_ => by omega) ?_
  intro a k h
  unfold sp_q79 at h
  split at h
  · exact ⟨[], rfl, rfl, (eq_q79 _ _ _ _ _ _ _ _).trans h⟩
  · cases h

end Go.Proofs.YtccocdgimamdhaaGreatDoor
