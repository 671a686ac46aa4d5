/-
  THE TIES: each printed meaning is what the program does (written by program).
  Conditions: none.
-/
import Derived.Test.YtccocdgimamdhaaGreatDoorGs
namespace Go.Proofs.YtccocdgimamdhaaGreatDoor
open Go Go.Mach Go.Proofs
set_option linter.unusedVariables false
set_option maxRecDepth 50000


def an_an_of (N_ : Nat) : Nat -> Option Ann := fun b_ => none
theorem eq_an_of (N_ : Nat) (c_ : V -> List Blk -> Bool) : bodyV ⟨Pg, ofList [], isref, N_⟩ (an_an_of N_) 190 (shF_an_of.args []) [] c_ = G_an_of N_ (fun r0 r1 r2 => c_ (.agg [.int .u64 r0, .int .i64 r1, .int .i64 r2]) []) := by kernel_rfl
theorem good_an_of (N_ : Nat) : GoodF Pg 190 (F_an_of (G_an_of N_)) := by
  refine good_fs (cx := ⟨Pg, ofList [], isref, N_⟩) (ofList_nil _) shF_an_of (sp_an_of (G_an_of N_)) (an_an_of N_) 0 0 (by kernel_rfl) (fun i_ hi_ => by omega) ?_
  intro a k h
  unfold sp_an_of at h
  split at h
  · exact ⟨[], rfl, rfl, (eq_an_of _ _).trans h⟩
  · cases h

def an_q174 (N_ : Nat) : Nat -> Option Ann := fun b_ => none
theorem eq_q174 (N_ : Nat) (f_0 : Int) (f_1 : Int) (f_2 : Int) (c_ : V -> List Blk -> Bool) : bodyV ⟨Pg, ofList [], isref, N_⟩ (an_q174 N_) 229 (shF_q174.args [.int f_0, .int f_1, .int f_2]) [] c_ = G_q174 N_ f_0 f_1 f_2 (fun r0 => c_ (.int .u64 r0) []) := by kernel_rfl
theorem good_q174 (N_ : Nat) : GoodF Pg 229 (F_q174 (G_q174 N_)) := by
  refine good_fs (cx := ⟨Pg, ofList [], isref, N_⟩) (ofList_nil _) shF_q174 (sp_q174 (G_q174 N_)) (an_q174 N_) 0 0 (by kernel_rfl) (fun i_ hi_ => by omega) ?_
  intro a k h
  unfold sp_q174 at h
  split at h
  · exact ⟨[], rfl, rfl, (eq_q174 _ _ _ _ _).trans h⟩
  · cases h

def an_q103 (N_ : Nat) : Nat -> Option Ann := fun b_ => none
theorem eq_q103 (N_ : Nat) (f_0 : Int) (f_1 : Int) (f_2 : Int) (c_ : V -> List Blk -> Bool) : bodyV ⟨Pg, ofList [], isref, N_⟩ (an_q103 N_) 234 (shF_q103.args [.int f_0, .int f_1, .int f_2]) [] c_ = G_q103 N_ f_0 f_1 f_2 (fun r0 => c_ (.int .u64 r0) []) := by kernel_rfl
theorem good_q103 (N_ : Nat) : GoodF Pg 234 (F_q103 (G_q103 N_)) := by
  refine good_fs (cx := ⟨Pg, ofList [], isref, N_⟩) (ofList_nil _) shF_q103 (sp_q103 (G_q103 N_)) (an_q103 N_) 0 0 (by kernel_rfl) (fun i_ hi_ => by omega) ?_
  intro a k h
  unfold sp_q103 at h
  split at h
  · exact ⟨[], rfl, rfl, (eq_q103 _ _ _ _ _).trans h⟩
  · cases h

def an_q102 (N_ : Nat) (S_q174 : TS_q174) (S_q103 : TS_q103) : Nat -> Option Ann := fun b_ => none
theorem eq_q102 (N_ : Nat) (S_q174 : TS_q174) (S_q103 : TS_q103) (b : Int) (f_0 : Int) (f_1 : Int) (f_2 : Int) (c_ : V -> List Blk -> Bool) : bodyV ⟨Pg, ofList [(229, (F_q174 S_q174)), (234, (F_q103 S_q103))], isref, N_⟩ (an_q102 N_ S_q174 S_q103) 232 (shF_q102.args [.int b, .int f_0, .int f_1, .int f_2]) [] c_ = G_q102 N_ S_q174 S_q103 b f_0 f_1 f_2 (fun r0 => c_ (.bool r0) []) := by kernel_rfl
theorem good_q102 (N_ : Nat) (S_q174 : TS_q174) (S_q103 : TS_q103) (h_q174 : GoodF Pg 229 (F_q174 S_q174)) (h_q103 : GoodF Pg 234 (F_q103 S_q103)) : GoodF Pg 232 (F_q102 (G_q102 N_ S_q174 S_q103)) := by
  refine good_fs (cx := ⟨Pg, ofList [(229, (F_q174 S_q174)), (234, (F_q103 S_q103))], isref, N_⟩) (ofList_cons h_q174 (ofList_cons h_q103 (ofList_nil _))) shF_q102 (sp_q102 (G_q102 N_ S_q174 S_q103)) (an_q102 N_ S_q174 S_q103) 0 0 (by kernel_rfl) (fun i_ hi_ => by omega) ?_
  intro a k h
  unfold sp_q102 at h
  split at h
  · exact ⟨[], rfl, rfl, (eq_q102 _ _ _ _ _ _ _ _).trans h⟩
  · cases h

def an_q83 (N_ : Nat) : Nat -> Option Ann := fun b_ => none
theorem eq_q83 (N_ : Nat) (f_0 : Int) (f_1 : Int) (f_2 : Int) (c_ : V -> List Blk -> Bool) : bodyV ⟨Pg, ofList [], isref, N_⟩ (an_q83 N_) 217 (shF_q83.args [.int f_0, .int f_1, .int f_2]) [] c_ = G_q83 N_ f_0 f_1 f_2 (fun r0 => c_ (.int .u64 r0) []) := by kernel_rfl
theorem good_q83 (N_ : Nat) : GoodF Pg 217 (F_q83 (G_q83 N_)) := by
  refine good_fs (cx := ⟨Pg, ofList [], isref, N_⟩) (ofList_nil _) shF_q83 (sp_q83 (G_q83 N_)) (an_q83 N_) 0 0 (by kernel_rfl) (fun i_ hi_ => by omega) ?_
  intro a k h
  unfold sp_q83 at h
  split at h
  · exact ⟨[], rfl, rfl, (eq_q83 _ _ _ _ _).trans h⟩
  · cases h

def an_q185 (N_ : Nat) (S_q103 : TS_q103) (S_q83 : TS_q83) : Nat -> Option Ann := fun b_ => none
theorem eq_q185 (N_ : Nat) (S_q103 : TS_q103) (S_q83 : TS_q83) (f_0 : Int) (f_1 : Int) (f_2 : Int) (c_ : V -> List Blk -> Bool) : bodyV ⟨Pg, ofList [(234, (F_q103 S_q103)), (217, (F_q83 S_q83))], isref, N_⟩ (an_q185 N_ S_q103 S_q83) 233 (shF_q185.args [.int f_0, .int f_1, .int f_2]) [] c_ = G_q185 N_ S_q103 S_q83 f_0 f_1 f_2 (fun r0 => c_ (.int .u64 r0) []) := by kernel_rfl
theorem good_q185 (N_ : Nat) (S_q103 : TS_q103) (S_q83 : TS_q83) (h_q103 : GoodF Pg 234 (F_q103 S_q103)) (h_q83 : GoodF Pg 217 (F_q83 S_q83)) : GoodF Pg 233 (F_q185 (G_q185 N_ S_q103 S_q83)) := by
  refine good_fs (cx := ⟨Pg, ofList [(234, (F_q103 S_q103)), (217, (F_q83 S_q83))], isref, N_⟩) (ofList_cons h_q103 (ofList_cons h_q83 (ofList_nil _))) shF_q185 (sp_q185 (G_q185 N_ S_q103 S_q83)) (an_q185 N_ S_q103 S_q83) 0 0 (by kernel_rfl) (fun i_ hi_ => by omega) ?_
  intro a k h
  unfold sp_q185 at h
  split at h
  · exact ⟨[], rfl, rfl, (eq_q185 _ _ _ _ _ _ _).trans h⟩
  · cases h

def an_q79 (N_ : Nat) (S_q102 : TS_q102) (S_q185 : TS_q185) : Nat -> Option Ann := fun b_ => none
theorem eq_q79 (N_ : Nat) (S_q102 : TS_q102) (S_q185 : TS_q185) (b : Int) (f_0 : Int) (f_1 : Int) (f_2 : Int) (c_ : V -> List Blk -> Bool) : bodyV ⟨Pg, ofList [(232, (F_q102 S_q102)), (233, (F_q185 S_q185))], isref, N_⟩ (an_q79 N_ S_q102 S_q185) 228 (shF_q79.args [.int b, .int f_0, .int f_1, .int f_2]) [] c_ = G_q79 N_ S_q102 S_q185 b f_0 f_1 f_2 (fun r0 => c_ (.int .u64 r0) []) := by kernel_rfl
theorem good_q79 (N_ : Nat) (S_q102 : TS_q102) (S_q185 : TS_q185) (h_q102 : GoodF Pg 232 (F_q102 S_q102)) (h_q185 : GoodF Pg 233 (F_q185 S_q185)) : GoodF Pg 228 (F_q79 (G_q79 N_ S_q102 S_q185)) := by
  refine good_fs (cx := ⟨Pg, ofList [(232, (F_q102 S_q102)), (233, (F_q185 S_q185))], isref, N_⟩) (ofList_cons h_q102 (ofList_cons h_q185 (ofList_nil _))) shF_q79 (sp_q79 (G_q79 N_ S_q102 S_q185)) (an_q79 N_ S_q102 S_q185) 0 0 (by kernel_rfl) (fun i_ hi_ => by omega) ?_
  intro a k h
  unfold sp_q79 at h
  split at h
  · exact ⟨[], rfl, rfl, (eq_q79 _ _ _ _ _ _ _ _).trans h⟩
  · cases h

def an_q29 (N_ : Nat) (S_q79 : TS_q79) (S_q174 : TS_q174) (S_q83 : TS_q83) : Nat -> Option Ann := fun b_ => none
theorem eq_q29 (N_ : Nat) (S_q79 : TS_q79) (S_q174 : TS_q174) (S_q83 : TS_q83) (b : Int) (f_0 : Int) (f_1 : Int) (f_2 : Int) (c_ : V -> List Blk -> Bool) : bodyV ⟨Pg, ofList [(228, (F_q79 S_q79)), (229, (F_q174 S_q174)), (217, (F_q83 S_q83))], isref, N_⟩ (an_q29 N_ S_q79 S_q174 S_q83) 214 (shF_q29.args [.int b, .int f_0, .int f_1, .int f_2]) [] c_ = G_q29 N_ S_q79 S_q174 S_q83 b f_0 f_1 f_2 (fun r0 r1 r2 => c_ (.tup [.bool r0, .int .i64 r1, .int .u64 r2]) []) := by kernel_rfl
theorem good_q29 (N_ : Nat) (S_q79 : TS_q79) (S_q174 : TS_q174) (S_q83 : TS_q83) (h_q79 : GoodF Pg 228 (F_q79 S_q79)) (h_q174 : GoodF Pg 229 (F_q174 S_q174)) (h_q83 : GoodF Pg 217 (F_q83 S_q83)) : GoodF Pg 214 (F_q29 (G_q29 N_ S_q79 S_q174 S_q83)) := by
  refine good_fs (cx := ⟨Pg, ofList [(228, (F_q79 S_q79)), (229, (F_q174 S_q174)), (217, (F_q83 S_q83))], isref, N_⟩) (ofList_cons h_q79 (ofList_cons h_q174 (ofList_cons h_q83 (ofList_nil _)))) shF_q29 (sp_q29 (G_q29 N_ S_q79 S_q174 S_q83)) (an_q29 N_ S_q79 S_q174 S_q83) 0 0 (by kernel_rfl) (fun i_ hi_ => by omega) ?_
  intro a k h
  unfold sp_q29 at h
  split at h
  · exact ⟨[], rfl, rfl, (eq_q29 _ _ _ _ _ _ _ _ _).trans h⟩
  · cases h

def an_q28 (N_ : Nat) (S_q29 : TS_q29) : Nat -> Option Ann := fun b_ => none
theorem eq_q28 (N_ : Nat) (S_q29 : TS_q29) (b : Int) (f_0 : Int) (f_1 : Int) (f_2 : Int) (c_ : V -> List Blk -> Bool) : bodyV ⟨Pg, ofList [(214, (F_q29 S_q29))], isref, N_⟩ (an_q28 N_ S_q29) 189 (shF_q28.args [.int b, .int f_0, .int f_1, .int f_2]) [] c_ = G_q28 N_ S_q29 b f_0 f_1 f_2 (fun r0 => c_ (.int .i64 r0) []) := by kernel_rfl
theorem good_q28 (N_ : Nat) (S_q29 : TS_q29) (h_q29 : GoodF Pg 214 (F_q29 S_q29)) : GoodF Pg 189 (F_q28 (G_q28 N_ S_q29)) := by
  refine good_fs (cx := ⟨Pg, ofList [(214, (F_q29 S_q29))], isref, N_⟩) (ofList_cons h_q29 (ofList_nil _)) shF_q28 (sp_q28 (G_q28 N_ S_q29)) (an_q28 N_ S_q29) 0 0 (by kernel_rfl) (fun i_ hi_ => by omega) ?_
  intro a k h
  unfold sp_q28 at h
  split at h
  · exact ⟨[], rfl, rfl, (eq_q28 _ _ _ _ _ _ _).trans h⟩
  · cases h

def an_q178 (N_ : Nat) (S_q172 : TS_q172) (S_an_of : TS_an_of) (S_q28 : TS_q28) : Nat -> Option Ann := fun b_ => none
theorem eq_q178 (N_ : Nat) (S_q172 : TS_q172) (S_an_of : TS_an_of) (S_q28 : TS_q28) (x : Nat) (c_ : V -> List Blk -> Bool) : bodyV ⟨Pg, ofList [(88, (F_q172 S_q172)), (190, (F_an_of S_an_of)), (189, (F_q28 S_q28))], isref, N_⟩ (an_q178 N_ S_q172 S_an_of S_q28) 157 (shF_q178.args [.nat x]) [] c_ = G_q178 N_ S_q172 S_an_of S_q28 x (fun r0 => c_ (.int .i64 r0) []) := by kernel_rfl
theorem good_q178 (N_ : Nat) (S_q172 : TS_q172) (S_an_of : TS_an_of) (S_q28 : TS_q28) (h_q172 : GoodF Pg 88 (F_q172 S_q172)) (h_an_of : GoodF Pg 190 (F_an_of S_an_of)) (h_q28 : GoodF Pg 189 (F_q28 S_q28)) : GoodF Pg 157 (F_q178 (G_q178 N_ S_q172 S_an_of S_q28)) := by
  refine good_fs (cx := ⟨Pg, ofList [(88, (F_q172 S_q172)), (190, (F_an_of S_an_of)), (189, (F_q28 S_q28))], isref, N_⟩) (ofList_cons h_q172 (ofList_cons h_an_of (ofList_cons h_q28 (ofList_nil _)))) shF_q178 (sp_q178 (G_q178 N_ S_q172 S_an_of S_q28)) (an_q178 N_ S_q172 S_an_of S_q28) 0 0 (by kernel_rfl) (fun i_ hi_ => by omega) ?_
  intro a k h
  unfold sp_q178 at h
  split at h
  · exact ⟨[], rfl, rfl, (eq_q178 _ _ _ _ _ _).trans h⟩
  · cases h


def an_q190 (N_ : Nat) (S_q172 : TS_q172) (S_q95 : TS_q95) : Nat -> Option Ann := fun b_ => none
theorem eq_q190 (N_ : Nat) (S_q172 : TS_q172) (S_q95 : TS_q95) (x : Nat) (c_ : V -> List Blk -> Bool) : bodyV ⟨Pg, ofList [(88, (F_q172 S_q172)), (100, (F_q95 S_q95))], isref, N_⟩ (an_q190 N_ S_q172 S_q95) 69 (shF_q190.args [.nat x]) [] c_ = G_q190 N_ S_q172 S_q95 x (fun r0 => c_ (.flt r0) []) := by kernel_rfl
theorem good_q190 (N_ : Nat) (S_q172 : TS_q172) (S_q95 : TS_q95) (h_q172 : GoodF Pg 88 (F_q172 S_q172)) (h_q95 : GoodF Pg 100 (F_q95 S_q95)) : GoodF Pg 69 (F_q190 (G_q190 N_ S_q172 S_q95)) := by
  refine good_fs (cx := ⟨Pg, ofList [(88, (F_q172 S_q172)), (100, (F_q95 S_q95))], isref, N_⟩) (ofList_cons h_q172 (ofList_cons h_q95 (ofList_nil _))) shF_q190 (sp_q190 (G_q190 N_ S_q172 S_q95)) (an_q190 N_ S_q172 S_q95) 0 0 (by kernel_rfl) (fun i_ hi_ => by omega) ?_
  intro a k h
  unfold sp_q190 at h
  split at h
  · exact ⟨[], rfl, rfl, (eq_q190 _ _ _ _ _).trans h⟩
  · cases h

def an_q57 (N_ : Nat) (S_q95 : TS_q95) : Nat -> Option Ann := fun b_ => none
theorem eq_q57 (N_ : Nat) (S_q95 : TS_q95) (b : Int) (c_ : V -> List Blk -> Bool) : bodyV ⟨Pg, ofList [(100, (F_q95 S_q95))], isref, N_⟩ (an_q57 N_ S_q95) 39 (shF_q57.args [.int b]) [] c_ = G_q57 N_ S_q95 b (fun r0 => c_ (.flt r0) []) := by kernel_rfl
theorem good_q57 (N_ : Nat) (S_q95 : TS_q95) (h_q95 : GoodF Pg 100 (F_q95 S_q95)) : GoodF Pg 39 (F_q57 (G_q57 N_ S_q95)) := by
  refine good_fs (cx := ⟨Pg, ofList [(100, (F_q95 S_q95))], isref, N_⟩) (ofList_cons h_q95 (ofList_nil _)) shF_q57 (sp_q57 (G_q57 N_ S_q95)) (an_q57 N_ S_q95) 0 0 (by kernel_rfl) (fun i_ hi_ => by omega) ?_
  intro a k h
  unfold sp_q57 at h
  split at h
  · exact ⟨[], rfl, rfl, (eq_q57 _ _ _ _).trans h⟩
  · cases h

def an_q46 (N_ : Nat) (S_q57 : TS_q57) : Nat -> Option Ann := fun b_ => none
theorem eq_q46 (N_ : Nat) (S_q57 : TS_q57) (q_0 : Int) (q_1 : Int) (q_2 : Int) (q_3 : Int) (c_ : V -> List Blk -> Bool) : bodyV ⟨Pg, ofList [(39, (F_q57 S_q57))], isref, N_⟩ (an_q46 N_ S_q57) 17 (shF_q46.args [.int q_0, .int q_1, .int q_2, .int q_3]) [] c_ = G_q46 N_ S_q57 q_0 q_1 q_2 q_3 (fun r0 r1 r2 r3 => c_ (.agg [.flt r0, .flt r1, .flt r2, .flt r3]) []) := by kernel_rfl
theorem good_q46 (N_ : Nat) (S_q57 : TS_q57) (h_q57 : GoodF Pg 39 (F_q57 S_q57)) : GoodF Pg 17 (F_q46 (G_q46 N_ S_q57)) := by
  refine good_fs (cx := ⟨Pg, ofList [(39, (F_q57 S_q57))], isref, N_⟩) (ofList_cons h_q57 (ofList_nil _)) shF_q46 (sp_q46 (G_q46 N_ S_q57)) (an_q46 N_ S_q57) 0 0 (by kernel_rfl) (fun i_ hi_ => by omega) ?_
  intro a k h
  unfold sp_q46 at h
  split at h
  · exact ⟨[], rfl, rfl, (eq_q46 _ _ _ _ _ _ _).trans h⟩
  · cases h

def an_q50 (N_ : Nat) (S_q57 : TS_q57) : Nat -> Option Ann := fun b_ => none
theorem eq_q50 (N_ : Nat) (S_q57 : TS_q57) (v_0 : Int) (v_1 : Int) (v_2 : Int) (c_ : V -> List Blk -> Bool) : bodyV ⟨Pg, ofList [(39, (F_q57 S_q57))], isref, N_⟩ (an_q50 N_ S_q57) 43 (shF_q50.args [.int v_0, .int v_1, .int v_2]) [] c_ = G_q50 N_ S_q57 v_0 v_1 v_2 (fun r0 r1 r2 => c_ (.agg [.flt r0, .flt r1, .flt r2]) []) := by kernel_rfl
theorem good_q50 (N_ : Nat) (S_q57 : TS_q57) (h_q57 : GoodF Pg 39 (F_q57 S_q57)) : GoodF Pg 43 (F_q50 (G_q50 N_ S_q57)) := by
  refine good_fs (cx := ⟨Pg, ofList [(39, (F_q57 S_q57))], isref, N_⟩) (ofList_cons h_q57 (ofList_nil _)) shF_q50 (sp_q50 (G_q50 N_ S_q57)) (an_q50 N_ S_q57) 0 0 (by kernel_rfl) (fun i_ hi_ => by omega) ?_
  intro a k h
  unfold sp_q50 at h
  split at h
  · exact ⟨[], rfl, rfl, (eq_q50 _ _ _ _ _ _).trans h⟩
  · cases h

def sh_st_quat_finite_0 : StSh := ⟨[.rof, .any, .any, .any, .any, .int .i64, .int .i64, .any, .any, .any, .any, .any, .any, .any, .any, .any, .any, .any, .any, .any], []⟩
def sx0_st_quat_finite_0 : StSh := ⟨[.any, .any, .bool, .any, .any, .any, .any, .any, .any, .any, .any, .any, .any, .any, .any, .any, .any, .any, .any, .any], []⟩
def sx1_st_quat_finite_0 : StSh := ⟨[.any, .any, .any, .any, .any, .any, .any, .any, .any, .any, .any, .any, .any, .any, .any, .any, .any, .any, .any, .any], []⟩
def hk_st_quat_finite_0 (N_ : Nat) : List Atom -> K -> Bool := fun a_ κ => match a_ with
  | [.fls l_1, .int t5, .int t6] => iterG N_ (st_quat_finite_0 N_ l_1 t5 (fun r0 => κ.ret (sx0_st_quat_finite_0.build [.bool r0])) (κ.ext 0 (sx1_st_quat_finite_0.build []))) t6
  | _ => false
def an_q13 (N_ : Nat) : Nat -> Option Ann := fun b_ => cond (b_ == 0) (some ⟨⟨[0, 5, 6], [], []⟩, [(0, ⟨[], [], []⟩)], some ⟨[2], [], []⟩, some (mkHooks [(sh_st_quat_finite_0, hk_st_quat_finite_0 N_)])⟩) (none)
theorem eq_st_quat_finite_0 (N_ : Nat) (κ : K) (l_1 : List Fl) (t5 : Int) (t6 : Int) : iter N_ (fun s k => codeV ⟨Pg, ofList [], isref, N_⟩ 0 (an_q13 N_) (lp Pg 86 0).2 (lp Pg 86 0).1 s (roundK Pg 0 ((an_q13 N_) (lp Pg 86 0).1) κ k)) (sh_st_quat_finite_0.build [.fls l_1, .int t5, .int t6]) = iterG N_ (st_quat_finite_0 N_ l_1 t5 (fun r0 => κ.ret (sx0_st_quat_finite_0.build [.bool r0])) (κ.ext 0 (sx1_st_quat_finite_0.build []))) t6 :=
  iter_tr (fun v_ => sh_st_quat_finite_0.build [.fls l_1, .int t5, .int v_]) (fun v_ K_ => by kernel_rfl) N_ t6
theorem hk1_st_quat_finite_0 (N_ : Nat) : HookFor ⟨Pg, ofList [], isref, N_⟩ 0 (an_q13 N_) (lp Pg 86 0) (sh_st_quat_finite_0, hk_st_quat_finite_0 N_) := by
  intro a κ h
  simp only at h
  unfold hk_st_quat_finite_0 at h
  split at h
  · exact (eq_st_quat_finite_0 _ _ _ _ _).trans h
  · cases h
theorem ho_quat_finite_0 (N_ : Nat) : HookOk ⟨Pg, ofList [], isref, N_⟩ 0 (an_q13 N_) (lp Pg 86 0) :=
  hooks_ok [(sh_st_quat_finite_0, hk_st_quat_finite_0 N_)] (by kernel_rfl) ⟨hk1_st_quat_finite_0 _, trivial⟩
theorem eq_q13 (N_ : Nat) (l : List Fl) (c_ : V -> List Blk -> Bool) : bodyV ⟨Pg, ofList [], isref, N_⟩ (an_q13 N_) 86 (shF_q13.args [.fls l]) [] c_ = G_q13 N_ l (fun r0 => c_ (.bool r0) []) := by kernel_rfl
theorem good_q13 (N_ : Nat) : GoodF Pg 86 (F_q13 (G_q13 N_)) := by
  refine good_fs (cx := ⟨Pg, ofList [], isref, N_⟩) (ofList_nil _) shF_q13 (sp_q13 (G_q13 N_)) (an_q13 N_) 1 0 (by kernel_rfl) (fun i_ hi_ => by
    match i_, hi_ with
    | 0, _ => exact ho_quat_finite_0 _
    | (q + 1), h => omega) ?_
  intro a k h
  unfold sp_q13 at h
  split at h
  · exact ⟨[], rfl, rfl, (eq_q13 _ _ _).trans h⟩
  · cases h

def an_q12 (N_ : Nat) (S_q13 : TS_q13) : Nat -> Option Ann := fun b_ => none
theorem eq_q12 (N_ : Nat) (S_q13 : TS_q13) (qs_0 : Fl) (qs_1 : Fl) (qs_2 : Fl) (qs_3 : Fl) (c_ : V -> List Blk -> Bool) : bodyV ⟨Pg, ofList [(86, (F_q13 S_q13))], isref, (N_ + 24)⟩ (an_q12 (N_ + 24) S_q13) 56 (shF_q12.args [.fl qs_0, .fl qs_1, .fl qs_2, .fl qs_3]) [] c_ = G_q12 (N_ + 24) S_q13 qs_0 qs_1 qs_2 qs_3 (fun r0 => c_ (.bool r0) []) := by kernel_rfl
theorem good_q12 (N_ : Nat) (S_q13 : TS_q13) (h_q13 : GoodF Pg 86 (F_q13 S_q13)) : GoodF Pg 56 (F_q12 (G_q12 (N_ + 24) S_q13)) := by
  refine good_fs (cx := ⟨Pg, ofList [(86, (F_q13 S_q13))], isref, (N_ + 24)⟩) (ofList_cons h_q13 (ofList_nil _)) shF_q12 (sp_q12 (G_q12 (N_ + 24) S_q13)) (an_q12 (N_ + 24) S_q13) 1 0 (by kernel_rfl) (fun i_ hi_ => by
    match i_, hi_ with
    | 0, _ => exact (fun hk e => by rw [show hookOf ((an_q12 (N_ + 24) S_q13) (lp Pg 56 0).1) = none from by kernel_rfl] at e; cases e)
    | (q + 1), h => omega) ?_
  intro a k h
  unfold sp_q12 at h
  split at h
  · exact ⟨[], rfl, rfl, (eq_q12 _ _ _ _ _ _ _).trans h⟩
  · cases h

def an_q49 (N_ : Nat) : Nat -> Option Ann := fun b_ => none
theorem eq_q49 (N_ : Nat) (a_0 : Fl) (a_1 : Fl) (a_2 : Fl) (b_0 : Fl) (b_1 : Fl) (b_2 : Fl) (c_ : V -> List Blk -> Bool) : bodyV ⟨Pg, ofList [], isref, N_⟩ (an_q49 N_) 104 (shF_q49.args [.fl a_0, .fl a_1, .fl a_2, .fl b_0, .fl b_1, .fl b_2]) [] c_ = G_q49 N_ a_0 a_1 a_2 b_0 b_1 b_2 (fun r0 r1 r2 => c_ (.agg [.flt r0, .flt r1, .flt r2]) []) := by kernel_rfl
theorem good_q49 (N_ : Nat) : GoodF Pg 104 (F_q49 (G_q49 N_)) := by
  refine good_fs (cx := ⟨Pg, ofList [], isref, N_⟩) (ofList_nil _) shF_q49 (sp_q49 (G_q49 N_)) (an_q49 N_) 0 0 (by kernel_rfl) (fun i_ hi_ => by omega) ?_
  intro a k h
  unfold sp_q49 at h
  split at h
  · exact ⟨[], rfl, rfl, (eq_q49 _ _ _ _ _ _ _ _).trans h⟩
  · cases h

def an_q121 (N_ : Nat) (S_q13 : TS_q13) : Nat -> Option Ann := fun b_ => none
theorem eq_q121 (N_ : Nat) (S_q13 : TS_q13) (v_0 : Fl) (v_1 : Fl) (v_2 : Fl) (c_ : V -> List Blk -> Bool) : bodyV ⟨Pg, ofList [(86, (F_q13 S_q13))], isref, N_⟩ (an_q121 N_ S_q13) 105 (shF_q121.args [.fl v_0, .fl v_1, .fl v_2]) [] c_ = G_q121 N_ S_q13 v_0 v_1 v_2 (fun r0 r1 r2 r3 => c_ (.tup [.agg [.flt r0, .flt r1, .flt r2], .int .i64 r3]) []) := by kernel_rfl
theorem good_q121 (N_ : Nat) (S_q13 : TS_q13) (h_q13 : GoodF Pg 86 (F_q13 S_q13)) : GoodF Pg 105 (F_q121 (G_q121 N_ S_q13)) := by
  refine good_fs (cx := ⟨Pg, ofList [(86, (F_q13 S_q13))], isref, N_⟩) (ofList_cons h_q13 (ofList_nil _)) shF_q121 (sp_q121 (G_q121 N_ S_q13)) (an_q121 N_ S_q13) 0 0 (by kernel_rfl) (fun i_ hi_ => by omega) ?_
  intro a k h
  unfold sp_q121 at h
  split at h
  · exact ⟨[], rfl, rfl, (eq_q121 _ _ _ _ _ _).trans h⟩
  · cases h

def an_q115 (N_ : Nat) (S_q12 : TS_q12) (S_q13 : TS_q13) (S_q49 : TS_q49) (S_q121 : TS_q121) : Nat -> Option Ann := fun b_ => none
theorem eq_q115 (N_ : Nat) (S_q12 : TS_q12) (S_q13 : TS_q13) (S_q49 : TS_q49) (S_q121 : TS_q121) (q_0 : Fl) (q_1 : Fl) (q_2 : Fl) (q_3 : Fl) (v_0 : Fl) (v_1 : Fl) (v_2 : Fl) (c_ : V -> List Blk -> Bool) : bodyV ⟨Pg, ofList [(56, (F_q12 S_q12)), (86, (F_q13 S_q13)), (104, (F_q49 S_q49)), (105, (F_q121 S_q121))], isref, (N_ + 24)⟩ (an_q115 (N_ + 24) S_q12 S_q13 S_q49 S_q121) 44 (shF_q115.args [.fl q_0, .fl q_1, .fl q_2, .fl q_3, .fl v_0, .fl v_1, .fl v_2]) [] c_ = G_q115 (N_ + 24) S_q12 S_q13 S_q49 S_q121 q_0 q_1 q_2 q_3 v_0 v_1 v_2 (fun r0 r1 r2 r3 => c_ (.tup [.agg [.flt r0, .flt r1, .flt r2], .int .i64 r3]) []) := by kernel_rfl
theorem good_q115 (N_ : Nat) (S_q12 : TS_q12) (S_q13 : TS_q13) (S_q49 : TS_q49) (S_q121 : TS_q121) (h_q12 : GoodF Pg 56 (F_q12 S_q12)) (h_q13 : GoodF Pg 86 (F_q13 S_q13)) (h_q49 : GoodF Pg 104 (F_q49 S_q49)) (h_q121 : GoodF Pg 105 (F_q121 S_q121)) : GoodF Pg 44 (F_q115 (G_q115 (N_ + 24) S_q12 S_q13 S_q49 S_q121)) := by
  refine good_fs (cx := ⟨Pg, ofList [(56, (F_q12 S_q12)), (86, (F_q13 S_q13)), (104, (F_q49 S_q49)), (105, (F_q121 S_q121))], isref, (N_ + 24)⟩) (ofList_cons h_q12 (ofList_cons h_q13 (ofList_cons h_q49 (ofList_cons h_q121 (ofList_nil _))))) shF_q115 (sp_q115 (G_q115 (N_ + 24) S_q12 S_q13 S_q49 S_q121)) (an_q115 (N_ + 24) S_q12 S_q13 S_q49 S_q121) 2 0 (by kernel_rfl) (fun i_ hi_ => by
    match i_, hi_ with
    | 0, _ => exact (fun hk e => by rw [show hookOf ((an_q115 (N_ + 24) S_q12 S_q13 S_q49 S_q121) (lp Pg 44 0).1) = none from by kernel_rfl] at e; cases e)
    | 1, _ => exact (fun hk e => by rw [show hookOf ((an_q115 (N_ + 24) S_q12 S_q13 S_q49 S_q121) (lp Pg 44 1).1) = none from by kernel_rfl] at e; cases e)
    | (q + 2), h => omega) ?_
  intro a k h
  unfold sp_q115 at h
  split at h
  · exact ⟨[], rfl, rfl, (eq_q115 _ _ _ _ _ _ _ _ _ _ _ _ _).trans h⟩
  · cases h

def an_q143 (N_ : Nat) : Nat -> Option Ann := fun b_ => none
theorem eq_q143 (N_ : Nat) (q_0 : Fl) (q_1 : Fl) (q_2 : Fl) (q_3 : Fl) (c_ : V -> List Blk -> Bool) : bodyV ⟨Pg, ofList [], isref, N_⟩ (an_q143 N_) 60 (shF_q143.args [.fl q_0, .fl q_1, .fl q_2, .fl q_3]) [] c_ = G_q143 N_ q_0 q_1 q_2 q_3 (fun r0 => c_ (.slw 0) [⟨24, 1, .flts r0⟩]) := by kernel_rfl
theorem good_q143 (N_ : Nat) : GoodF Pg 60 (F_q143 (G_q143 N_)) := by
  refine good_fs (cx := ⟨Pg, ofList [], isref, N_⟩) (ofList_nil _) shF_q143 (sp_q143 (G_q143 N_)) (an_q143 N_) 0 0 (by kernel_rfl) (fun i_ hi_ => by omega) ?_
  intro a k h
  unfold sp_q143 at h
  split at h
  · exact ⟨[], rfl, rfl, (eq_q143 _ _ _ _ _ _).trans h⟩
  · cases h


def an_q146 (N_ : Nat) (S_q108 : TS_q108) : Nat -> Option Ann := fun b_ => none
theorem eq_q146 (N_ : Nat) (S_q108 : TS_q108) (x : Fl) (c_ : V -> List Blk -> Bool) : bodyV ⟨Pg, ofList [(88, (F_q108 S_q108))], isref, N_⟩ (an_q146 N_ S_q108) 89 (shF_q146.args [.fl x]) [] c_ = G_q146 N_ S_q108 x (fun r0 => c_ (.int .u64 r0) []) := by kernel_rfl
theorem good_q146 (N_ : Nat) (S_q108 : TS_q108) (h_q108 : GoodF Pg 88 (F_q108 S_q108)) : GoodF Pg 89 (F_q146 (G_q146 N_ S_q108)) := by
  refine good_fs (cx := ⟨Pg, ofList [(88, (F_q108 S_q108))], isref, N_⟩) (ofList_cons h_q108 (ofList_nil _)) shF_q146 (sp_q146 (G_q146 N_ S_q108)) (an_q146 N_ S_q108) 0 0 (by kernel_rfl) (fun i_ hi_ => by omega) ?_
  intro a k h
  unfold sp_q146 at h
  split at h
  · exact ⟨[], rfl, rfl, (eq_q146 _ _ _ _).trans h⟩
  · cases h

def an_q163 (N_ : Nat) (S_q146 : TS_q146) : Nat -> Option Ann := fun b_ => none
theorem eq_q163 (N_ : Nat) (S_q146 : TS_q146) (x : Fl) (c_ : V -> List Blk -> Bool) : bodyV ⟨Pg, ofList [(89, (F_q146 S_q146))], isref, N_⟩ (an_q163 N_ S_q146) 115 (shF_q163.args [.fl x]) [] c_ = G_q163 N_ S_q146 x (fun r0 r1 r2 => c_ (.tup [.bool r0, .int .i64 r1, .int .u64 r2]) []) := by kernel_rfl
theorem good_q163 (N_ : Nat) (S_q146 : TS_q146) (h_q146 : GoodF Pg 89 (F_q146 S_q146)) : GoodF Pg 115 (F_q163 (G_q163 N_ S_q146)) := by
  refine good_fs (cx := ⟨Pg, ofList [(89, (F_q146 S_q146))], isref, N_⟩) (ofList_cons h_q146 (ofList_nil _)) shF_q163 (sp_q163 (G_q163 N_ S_q146)) (an_q163 N_ S_q146) 0 0 (by kernel_rfl) (fun i_ hi_ => by omega) ?_
  intro a k h
  unfold sp_q163 at h
  split at h
  · exact ⟨[], rfl, rfl, (eq_q163 _ _ _ _).trans h⟩
  · cases h

def an_q127 (N_ : Nat) : Nat -> Option Ann := fun b_ => none
theorem eq_q127 (N_ : Nat) (exp : Int) (frac : Int) (most : Int) (c_ : V -> List Blk -> Bool) : bodyV ⟨Pg, ofList [], isref, N_⟩ (an_q127 N_) 176 (shF_q127.args [.int exp, .int frac, .int most]) [] c_ = G_q127 N_ exp frac most (fun r0 => c_ (.int .i64 r0) []) := by kernel_rfl
theorem good_q127 (N_ : Nat) : GoodF Pg 176 (F_q127 (G_q127 N_)) := by
  refine good_fs (cx := ⟨Pg, ofList [], isref, N_⟩) (ofList_nil _) shF_q127 (sp_q127 (G_q127 N_)) (an_q127 N_) 0 0 (by kernel_rfl) (fun i_ hi_ => by omega) ?_
  intro a k h
  unfold sp_q127 at h
  split at h
  · exact ⟨[], rfl, rfl, (eq_q127 _ _ _ _ _).trans h⟩
  · cases h

def an_q162 (N_ : Nat) (S_q163 : TS_q163) (S_q127 : TS_q127) : Nat -> Option Ann := fun b_ => none
theorem eq_q162 (N_ : Nat) (S_q163 : TS_q163) (S_q127 : TS_q127) (x : Fl) (c_ : V -> List Blk -> Bool) : bodyV ⟨Pg, ofList [(115, (F_q163 S_q163)), (176, (F_q127 S_q127))], isref, N_⟩ (an_q162 N_ S_q163 S_q127) 138 (shF_q162.args [.fl x]) [] c_ = G_q162 N_ S_q163 S_q127 x (fun r0 => c_ (.int .i64 r0) []) := by kernel_rfl
theorem good_q162 (N_ : Nat) (S_q163 : TS_q163) (S_q127 : TS_q127) (h_q163 : GoodF Pg 115 (F_q163 S_q163)) (h_q127 : GoodF Pg 176 (F_q127 S_q127)) : GoodF Pg 138 (F_q162 (G_q162 N_ S_q163 S_q127)) := by
  refine good_fs (cx := ⟨Pg, ofList [(115, (F_q163 S_q163)), (176, (F_q127 S_q127))], isref, N_⟩) (ofList_cons h_q163 (ofList_cons h_q127 (ofList_nil _))) shF_q162 (sp_q162 (G_q162 N_ S_q163 S_q127)) (an_q162 N_ S_q163 S_q127) 0 0 (by kernel_rfl) (fun i_ hi_ => by omega) ?_
  intro a k h
  unfold sp_q162 at h
  split at h
  · exact ⟨[], rfl, rfl, (eq_q162 _ _ _ _ _).trans h⟩
  · cases h

def an_q86 (N_ : Nat) (S_q162 : TS_q162) : Nat -> Option Ann := fun b_ => none
theorem eq_q86 (N_ : Nat) (S_q162 : TS_q162) (x : Fl) (c_ : V -> List Blk -> Bool) : bodyV ⟨Pg, ofList [(138, (F_q162 S_q162))], isref, N_⟩ (an_q86 N_ S_q162) 87 (shF_q86.args [.fl x]) [] c_ = G_q86 N_ S_q162 x (fun r0 => c_ (.bool r0) []) := by kernel_rfl
theorem good_q86 (N_ : Nat) (S_q162 : TS_q162) (h_q162 : GoodF Pg 138 (F_q162 S_q162)) : GoodF Pg 87 (F_q86 (G_q86 N_ S_q162)) := by
  refine good_fs (cx := ⟨Pg, ofList [(138, (F_q162 S_q162))], isref, N_⟩) (ofList_cons h_q162 (ofList_nil _)) shF_q86 (sp_q86 (G_q86 N_ S_q162)) (an_q86 N_ S_q162) 0 0 (by kernel_rfl) (fun i_ hi_ => by omega) ?_
  intro a k h
  unfold sp_q86 at h
  split at h
  · exact ⟨[], rfl, rfl, (eq_q86 _ _ _ _).trans h⟩
  · cases h

def sh_st_binnacleref01_AllFinite_0 : StSh := ⟨[.any, .any, .any, .any, .any, .rof, .int .i64, .int .i64, .any, .any, .any, .any, .any, .any, .any], []⟩
def sx0_st_binnacleref01_AllFinite_0 : StSh := ⟨[.any, .any, .bool, .any, .any, .any, .any, .any, .any, .any, .any, .any, .any, .any, .any], []⟩
def sx1_st_binnacleref01_AllFinite_0 : StSh := ⟨[.any, .any, .any, .any, .any, .any, .any, .any, .any, .any, .any, .any, .any, .any, .any], []⟩
def hk_st_binnacleref01_AllFinite_0 (N_ : Nat) (S_q86 : TS_q86) : List Atom -> K -> Bool := fun a_ κ => match a_ with
  | [.fls t5, .int t6, .int t7] => iterG N_ (st_q227 N_ S_q86 t5 t6 (fun r0 => κ.ret (sx0_st_binnacleref01_AllFinite_0.build [.bool r0])) (κ.ext 0 (sx1_st_binnacleref01_AllFinite_0.build []))) t7
  | _ => false
def an_q52 (N_ : Nat) (S_q86 : TS_q86) : Nat -> Option Ann := fun b_ => cond (b_ == 0) (some ⟨⟨[5, 6, 7], [], []⟩, [(0, ⟨[], [], []⟩)], some ⟨[2], [], []⟩, some (mkHooks [(sh_st_binnacleref01_AllFinite_0, hk_st_binnacleref01_AllFinite_0 N_ S_q86)])⟩) (none)
theorem eq_st_binnacleref01_AllFinite_0 (N_ : Nat) (S_q86 : TS_q86) (κ : K) (t5 : List Fl) (t6 : Int) (t7 : Int) : iter N_ (fun s k => codeV ⟨Pg, ofList [(87, (F_q86 S_q86))], isref, N_⟩ 0 (an_q52 N_ S_q86) (lp Pg 101 0).2 (lp Pg 101 0).1 s (roundK Pg 0 ((an_q52 N_ S_q86) (lp Pg 101 0).1) κ k)) (sh_st_binnacleref01_AllFinite_0.build [.fls t5, .int t6, .int t7]) = iterG N_ (st_q227 N_ S_q86 t5 t6 (fun r0 => κ.ret (sx0_st_binnacleref01_AllFinite_0.build [.bool r0])) (κ.ext 0 (sx1_st_binnacleref01_AllFinite_0.build []))) t7 :=
  iter_tr (fun v_ => sh_st_binnacleref01_AllFinite_0.build [.fls t5, .int t6, .int v_]) (fun v_ K_ => by kernel_rfl) N_ t7
theorem hk1_st_binnacleref01_AllFinite_0 (N_ : Nat) (S_q86 : TS_q86) : HookFor ⟨Pg, ofList [(87, (F_q86 S_q86))], isref, N_⟩ 0 (an_q52 N_ S_q86) (lp Pg 101 0) (sh_st_binnacleref01_AllFinite_0, hk_st_binnacleref01_AllFinite_0 N_ S_q86) := by
  intro a κ h
  simp only at h
  unfold hk_st_binnacleref01_AllFinite_0 at h
  split at h
  · exact (eq_st_binnacleref01_AllFinite_0 _ _ _ _ _ _).trans h
  · cases h
theorem ho_binnacleref01_AllFinite_0 (N_ : Nat) (S_q86 : TS_q86) : HookOk ⟨Pg, ofList [(87, (F_q86 S_q86))], isref, N_⟩ 0 (an_q52 N_ S_q86) (lp Pg 101 0) :=
  hooks_ok [(sh_st_binnacleref01_AllFinite_0, hk_st_binnacleref01_AllFinite_0 N_ S_q86)] (by kernel_rfl) ⟨hk1_st_binnacleref01_AllFinite_0 _ _, trivial⟩
theorem eq_q52 (N_ : Nat) (S_q86 : TS_q86) (l : List Fl) (c_ : V -> List Blk -> Bool) : bodyV ⟨Pg, ofList [(87, (F_q86 S_q86))], isref, N_⟩ (an_q52 N_ S_q86) 101 (shF_q52.args [.fls l]) [] c_ = G_q52 N_ S_q86 l (fun r0 => c_ (.bool r0) []) := by kernel_rfl
theorem good_q52 (N_ : Nat) (S_q86 : TS_q86) (h_q86 : GoodF Pg 87 (F_q86 S_q86)) : GoodF Pg 101 (F_q52 (G_q52 N_ S_q86)) := by
  refine good_fs (cx := ⟨Pg, ofList [(87, (F_q86 S_q86))], isref, N_⟩) (ofList_cons h_q86 (ofList_nil _)) shF_q52 (sp_q52 (G_q52 N_ S_q86)) (an_q52 N_ S_q86) 1 0 (by kernel_rfl) (fun i_ hi_ => by
    match i_, hi_ with
    | 0, _ => exact ho_binnacleref01_AllFinite_0 _ _
    | (q + 1), h => omega) ?_
  intro a k h
  unfold sp_q52 at h
  split at h
  · exact ⟨[], rfl, rfl, (eq_q52 _ _ _ _).trans h⟩
  · cases h

def an_q87 (N_ : Nat) (S_q143 : TS_q143) (S_q52 : TS_q52) : Nat -> Option Ann := fun b_ => none
theorem eq_q87 (N_ : Nat) (S_q143 : TS_q143) (S_q52 : TS_q52) (q_0 : Fl) (q_1 : Fl) (q_2 : Fl) (q_3 : Fl) (c_ : V -> List Blk -> Bool) : bodyV ⟨Pg, ofList [(60, (F_q143 S_q143)), (101, (F_q52 S_q52))], isref, N_⟩ (an_q87 N_ S_q143 S_q52) 75 (shF_q87.args [.fl q_0, .fl q_1, .fl q_2, .fl q_3]) [] c_ = G_q87 N_ S_q143 S_q52 q_0 q_1 q_2 q_3 (fun r0 => c_ (.bool r0) []) := by kernel_rfl
theorem good_q87 (N_ : Nat) (S_q143 : TS_q143) (S_q52 : TS_q52) (h_q143 : GoodF Pg 60 (F_q143 S_q143)) (h_q52 : GoodF Pg 101 (F_q52 S_q52)) : GoodF Pg 75 (F_q87 (G_q87 N_ S_q143 S_q52)) := by
  refine good_fs (cx := ⟨Pg, ofList [(60, (F_q143 S_q143)), (101, (F_q52 S_q52))], isref, N_⟩) (ofList_cons h_q143 (ofList_cons h_q52 (ofList_nil _))) shF_q87 (sp_q87 (G_q87 N_ S_q143 S_q52)) (an_q87 N_ S_q143 S_q52) 0 0 (by kernel_rfl) (fun i_ hi_ => by omega) ?_
  intro a k h
  unfold sp_q87 at h
  split at h
  · exact ⟨[], rfl, rfl, (eq_q87 _ _ _ _ _ _ _ _).trans h⟩
  · cases h

def an_q14 (N_ : Nat) (S_q52 : TS_q52) : Nat -> Option Ann := fun b_ => none
theorem eq_q14 (N_ : Nat) (S_q52 : TS_q52) (v_0 : Fl) (v_1 : Fl) (v_2 : Fl) (c_ : V -> List Blk -> Bool) : bodyV ⟨Pg, ofList [(101, (F_q52 S_q52))], isref, N_⟩ (an_q14 N_ S_q52) 106 (shF_q14.args [.fl v_0, .fl v_1, .fl v_2]) [] c_ = G_q14 N_ S_q52 v_0 v_1 v_2 (fun r0 => c_ (.bool r0) []) := by kernel_rfl
theorem good_q14 (N_ : Nat) (S_q52 : TS_q52) (h_q52 : GoodF Pg 101 (F_q52 S_q52)) : GoodF Pg 106 (F_q14 (G_q14 N_ S_q52)) := by
  refine good_fs (cx := ⟨Pg, ofList [(101, (F_q52 S_q52))], isref, N_⟩) (ofList_cons h_q52 (ofList_nil _)) shF_q14 (sp_q14 (G_q14 N_ S_q52)) (an_q14 N_ S_q52) 0 0 (by kernel_rfl) (fun i_ hi_ => by omega) ?_
  intro a k h
  unfold sp_q14 at h
  split at h
  · exact ⟨[], rfl, rfl, (eq_q14 _ _ _ _ _ _).trans h⟩
  · cases h

def an_q23 (N_ : Nat) : Nat -> Option Ann := fun b_ => none
theorem eq_q23 (N_ : Nat) (ok_0 : Bool) (ok_1 : Bool) (c_ : V -> List Blk -> Bool) : bodyV ⟨Pg, ofList [], isref, (N_ + 24)⟩ (an_q23 (N_ + 24)) 74 (shF_q23.args [.bool ok_0, .bool ok_1]) [] c_ = G_q23 (N_ + 24) ok_0 ok_1 (fun r0 => c_ (.int .i64 r0) []) := by kernel_rfl
theorem good_q23 (N_ : Nat) : GoodF Pg 74 (F_q23 (G_q23 (N_ + 24))) := by
  refine good_fs (cx := ⟨Pg, ofList [], isref, (N_ + 24)⟩) (ofList_nil _) shF_q23 (sp_q23 (G_q23 (N_ + 24))) (an_q23 (N_ + 24)) 1 0 (by kernel_rfl) (fun i_ hi_ => by
    match i_, hi_ with
    | 0, _ => exact (fun hk e => by rw [show hookOf ((an_q23 (N_ + 24)) (lp Pg 74 0).1) = none from by kernel_rfl] at e; cases e)
    | (q + 1), h => omega) ?_
  intro a k h
  unfold sp_q23 at h
  split at h
  · exact ⟨[], rfl, rfl, (eq_q23 _ _ _ _).trans h⟩
  · cases h

def an_q66 (N_ : Nat) : Nat -> Option Ann := fun b_ => none
theorem eq_q66 (N_ : Nat) (a_0 : Fl) (a_1 : Fl) (a_2 : Fl) (b_0 : Fl) (b_1 : Fl) (b_2 : Fl) (c_ : V -> List Blk -> Bool) : bodyV ⟨Pg, ofList [], isref, N_⟩ (an_q66 N_) 107 (shF_q66.args [.fl a_0, .fl a_1, .fl a_2, .fl b_0, .fl b_1, .fl b_2]) [] c_ = G_q66 N_ a_0 a_1 a_2 b_0 b_1 b_2 (fun r0 r1 r2 => c_ (.agg [.flt r0, .flt r1, .flt r2]) []) := by kernel_rfl
theorem good_q66 (N_ : Nat) : GoodF Pg 107 (F_q66 (G_q66 N_)) := by
  refine good_fs (cx := ⟨Pg, ofList [], isref, N_⟩) (ofList_nil _) shF_q66 (sp_q66 (G_q66 N_)) (an_q66 N_) 0 0 (by kernel_rfl) (fun i_ hi_ => by omega) ?_
  intro a k h
  unfold sp_q66 at h
  split at h
  · exact ⟨[], rfl, rfl, (eq_q66 _ _ _ _ _ _ _ _).trans h⟩
  · cases h

def an_q71 (N_ : Nat) (S_q14 : TS_q14) : Nat -> Option Ann := fun b_ => none
theorem eq_q71 (N_ : Nat) (S_q14 : TS_q14) (v_0 : Fl) (v_1 : Fl) (v_2 : Fl) (c_ : V -> List Blk -> Bool) : bodyV ⟨Pg, ofList [(106, (F_q14 S_q14))], isref, N_⟩ (an_q71 N_ S_q14) 108 (shF_q71.args [.fl v_0, .fl v_1, .fl v_2]) [] c_ = G_q71 N_ S_q14 v_0 v_1 v_2 (fun r0 r1 r2 r3 => c_ (.tup [.agg [.flt r0, .flt r1, .flt r2], .int .i64 r3]) []) := by kernel_rfl
theorem good_q71 (N_ : Nat) (S_q14 : TS_q14) (h_q14 : GoodF Pg 106 (F_q14 S_q14)) : GoodF Pg 108 (F_q71 (G_q71 N_ S_q14)) := by
  refine good_fs (cx := ⟨Pg, ofList [(106, (F_q14 S_q14))], isref, N_⟩) (ofList_cons h_q14 (ofList_nil _)) shF_q71 (sp_q71 (G_q71 N_ S_q14)) (an_q71 N_ S_q14) 0 0 (by kernel_rfl) (fun i_ hi_ => by omega) ?_
  intro a k h
  unfold sp_q71 at h
  split at h
  · exact ⟨[], rfl, rfl, (eq_q71 _ _ _ _ _ _).trans h⟩
  · cases h

def an_q157 (N_ : Nat) (S_q87 : TS_q87) (S_q14 : TS_q14) (S_q23 : TS_q23) (S_q66 : TS_q66) (S_q71 : TS_q71) : Nat -> Option Ann := fun b_ => none
theorem eq_q157 (N_ : Nat) (S_q87 : TS_q87) (S_q14 : TS_q14) (S_q23 : TS_q23) (S_q66 : TS_q66) (S_q71 : TS_q71) (q_0 : Fl) (q_1 : Fl) (q_2 : Fl) (q_3 : Fl) (v_0 : Fl) (v_1 : Fl) (v_2 : Fl) (c_ : V -> List Blk -> Bool) : bodyV ⟨Pg, ofList [(75, (F_q87 S_q87)), (106, (F_q14 S_q14)), (74, (F_q23 S_q23)), (107, (F_q66 S_q66)), (108, (F_q71 S_q71))], isref, (N_ + 24)⟩ (an_q157 (N_ + 24) S_q87 S_q14 S_q23 S_q66 S_q71) 45 (shF_q157.args [.fl q_0, .fl q_1, .fl q_2, .fl q_3, .fl v_0, .fl v_1, .fl v_2]) [] c_ = G_q157 (N_ + 24) S_q87 S_q14 S_q23 S_q66 S_q71 q_0 q_1 q_2 q_3 v_0 v_1 v_2 (fun r0 r1 r2 r3 => c_ (.tup [.agg [.flt r0, .flt r1, .flt r2], .int .i64 r3]) []) := by kernel_rfl
theorem good_q157 (N_ : Nat) (S_q87 : TS_q87) (S_q14 : TS_q14) (S_q23 : TS_q23) (S_q66 : TS_q66) (S_q71 : TS_q71) (h_q87 : GoodF Pg 75 (F_q87 S_q87)) (h_q14 : GoodF Pg 106 (F_q14 S_q14)) (h_q23 : GoodF Pg 74 (F_q23 S_q23)) (h_q66 : GoodF Pg 107 (F_q66 S_q66)) (h_q71 : GoodF Pg 108 (F_q71 S_q71)) : GoodF Pg 45 (F_q157 (G_q157 (N_ + 24) S_q87 S_q14 S_q23 S_q66 S_q71)) := by
  refine good_fs (cx := ⟨Pg, ofList [(75, (F_q87 S_q87)), (106, (F_q14 S_q14)), (74, (F_q23 S_q23)), (107, (F_q66 S_q66)), (108, (F_q71 S_q71))], isref, (N_ + 24)⟩) (ofList_cons h_q87 (ofList_cons h_q14 (ofList_cons h_q23 (ofList_cons h_q66 (ofList_cons h_q71 (ofList_nil _)))))) shF_q157 (sp_q157 (G_q157 (N_ + 24) S_q87 S_q14 S_q23 S_q66 S_q71)) (an_q157 (N_ + 24) S_q87 S_q14 S_q23 S_q66 S_q71) 2 0 (by kernel_rfl) (fun i_ hi_ => by
    match i_, hi_ with
    | 0, _ => exact (fun hk e => by rw [show hookOf ((an_q157 (N_ + 24) S_q87 S_q14 S_q23 S_q66 S_q71) (lp Pg 45 0).1) = none from by kernel_rfl] at e; cases e)
    | 1, _ => exact (fun hk e => by rw [show hookOf ((an_q157 (N_ + 24) S_q87 S_q14 S_q23 S_q66 S_q71) (lp Pg 45 1).1) = none from by kernel_rfl] at e; cases e)
    | (q + 2), h => omega) ?_
  intro a k h
  unfold sp_q157 at h
  split at h
  · exact ⟨[], rfl, rfl, (eq_q157 _ _ _ _ _ _ _ _ _ _ _ _ _ _).trans h⟩
  · cases h

def an_q34 (N_ : Nat) (S_q108 : TS_q108) (S_q146 : TS_q146) : Nat -> Option Ann := fun b_ => none
theorem eq_q34 (N_ : Nat) (S_q108 : TS_q108) (S_q146 : TS_q146) (a : Fl) (b : Fl) (c_ : V -> List Blk -> Bool) : bodyV ⟨Pg, ofList [(88, (F_q108 S_q108)), (89, (F_q146 S_q146))], isref, N_⟩ (an_q34 N_ S_q108 S_q146) 29 (shF_q34.args [.fl a, .fl b]) [] c_ = G_q34 N_ S_q108 S_q146 a b (fun r0 => c_ (.bool r0) []) := by kernel_rfl
theorem good_q34 (N_ : Nat) (S_q108 : TS_q108) (S_q146 : TS_q146) (h_q108 : GoodF Pg 88 (F_q108 S_q108)) (h_q146 : GoodF Pg 89 (F_q146 S_q146)) : GoodF Pg 29 (F_q34 (G_q34 N_ S_q108 S_q146)) := by
  refine good_fs (cx := ⟨Pg, ofList [(88, (F_q108 S_q108)), (89, (F_q146 S_q146))], isref, N_⟩) (ofList_cons h_q108 (ofList_cons h_q146 (ofList_nil _))) shF_q34 (sp_q34 (G_q34 N_ S_q108 S_q146)) (an_q34 N_ S_q108 S_q146) 0 0 (by kernel_rfl) (fun i_ hi_ => by omega) ?_
  intro a k h
  unfold sp_q34 at h
  split at h
  · exact ⟨[], rfl, rfl, (eq_q34 _ _ _ _ _ _).trans h⟩
  · cases h

def an_q54 (N_ : Nat) (S_q34 : TS_q34) : Nat -> Option Ann := fun b_ => none
theorem eq_q54 (N_ : Nat) (S_q34 : TS_q34) (a_0 : Fl) (a_1 : Fl) (a_2 : Fl) (e : Int) (b_0 : Fl) (b_1 : Fl) (b_2 : Fl) (n : Int) (c_ : V -> List Blk -> Bool) : bodyV ⟨Pg, ofList [(29, (F_q34 S_q34))], isref, N_⟩ (an_q54 N_ S_q34) 46 (shF_q54.args [.fl a_0, .fl a_1, .fl a_2, .int e, .fl b_0, .fl b_1, .fl b_2, .int n]) [] c_ = G_q54 N_ S_q34 a_0 a_1 a_2 e b_0 b_1 b_2 n (fun r0 => c_ (.bool r0) []) := by kernel_rfl
theorem good_q54 (N_ : Nat) (S_q34 : TS_q34) (h_q34 : GoodF Pg 29 (F_q34 S_q34)) : GoodF Pg 46 (F_q54 (G_q54 N_ S_q34)) := by
  refine good_fs (cx := ⟨Pg, ofList [(29, (F_q34 S_q34))], isref, N_⟩) (ofList_cons h_q34 (ofList_nil _)) shF_q54 (sp_q54 (G_q54 N_ S_q34)) (an_q54 N_ S_q34) 0 0 (by kernel_rfl) (fun i_ hi_ => by omega) ?_
  intro a k h
  unfold sp_q54 at h
  split at h
  · exact ⟨[], rfl, rfl, (eq_q54 _ _ _ _ _ _ _ _ _ _ _).trans h⟩
  · cases h

def an_q30 (N_ : Nat) : Nat -> Option Ann := fun b_ => none
theorem eq_q30 (N_ : Nat) (q_0 : Fl) (q_1 : Fl) (q_2 : Fl) (q_3 : Fl) (c_ : V -> List Blk -> Bool) : bodyV ⟨Pg, ofList [], isref, N_⟩ (an_q30 N_) 68 (shF_q30.args [.fl q_0, .fl q_1, .fl q_2, .fl q_3]) [] c_ = G_q30 N_ q_0 q_1 q_2 q_3 (c_ (.agg [.flt q_0, .flt q_1, .flt q_2, .flt q_3]) []) := by kernel_rfl
theorem good_q30 (N_ : Nat) : GoodF Pg 68 (F_q30 (G_q30 N_)) := by
  refine good_fs (cx := ⟨Pg, ofList [], isref, N_⟩) (ofList_nil _) shF_q30 (sp_q30 (G_q30 N_)) (an_q30 N_) 0 0 (by kernel_rfl) (fun i_ hi_ => by omega) ?_
  intro a k h
  unfold sp_q30 at h
  split at h
  · exact ⟨[], rfl, rfl, (eq_q30 _ _ _ _ _ _).trans h⟩
  · cases h


def an_q140 (N_ : Nat) (S_m_Abs : TS_m_Abs) : Nat -> Option Ann := fun b_ => none
theorem eq_q140 (N_ : Nat) (S_m_Abs : TS_m_Abs) (f : Fl) (sign : Int) (c_ : V -> List Blk -> Bool) : bodyV ⟨Pg, ofList [(69, (F_m_Abs S_m_Abs))], isref, N_⟩ (an_q140 N_ S_m_Abs) 148 (shF_q140.args [.fl f, .int sign]) [] c_ = G_q140 N_ S_m_Abs f sign (fun r0 => c_ (.bool r0) []) := by kernel_rfl
theorem good_q140 (N_ : Nat) (S_m_Abs : TS_m_Abs) (h_m_Abs : GoodF Pg 69 (F_m_Abs S_m_Abs)) : GoodF Pg 148 (F_q140 (G_q140 N_ S_m_Abs)) := by
  refine good_fs (cx := ⟨Pg, ofList [(69, (F_m_Abs S_m_Abs))], isref, N_⟩) (ofList_cons h_m_Abs (ofList_nil _)) shF_q140 (sp_q140 (G_q140 N_ S_m_Abs)) (an_q140 N_ S_m_Abs) 0 0 (by kernel_rfl) (fun i_ hi_ => by omega) ?_
  intro a k h
  unfold sp_q140 at h
  split at h
  · exact ⟨[], rfl, rfl, (eq_q140 _ _ _ _ _).trans h⟩
  · cases h

def an_q147 (N_ : Nat) : Nat -> Option Ann := fun b_ => none
theorem eq_q147 (N_ : Nat) (f : Fl) (c_ : V -> List Blk -> Bool) : bodyV ⟨Pg, ofList [], isref, N_⟩ (an_q147 N_) 149 (shF_q147.args [.fl f]) [] c_ = G_q147 N_ f (fun r0 => c_ (.bool r0) []) := by kernel_rfl
theorem good_q147 (N_ : Nat) : GoodF Pg 149 (F_q147 (G_q147 N_)) := by
  refine good_fs (cx := ⟨Pg, ofList [], isref, N_⟩) (ofList_nil _) shF_q147 (sp_q147 (G_q147 N_)) (an_q147 N_) 0 0 (by kernel_rfl) (fun i_ hi_ => by omega) ?_
  intro a k h
  unfold sp_q147 at h
  split at h
  · exact ⟨[], rfl, rfl, (eq_q147 _ _ _).trans h⟩
  · cases h

def an_q70 (N_ : Nat) (S_m_Abs : TS_m_Abs) : Nat -> Option Ann := fun b_ => none
theorem eq_q70 (N_ : Nat) (S_m_Abs : TS_m_Abs) (x : Fl) (c_ : V -> List Blk -> Bool) : bodyV ⟨Pg, ofList [(69, (F_m_Abs S_m_Abs))], isref, N_⟩ (an_q70 N_ S_m_Abs) 150 (shF_q70.args [.fl x]) [] c_ = G_q70 N_ S_m_Abs x (fun r0 r1 => c_ (.tup [.flt r0, .int .i64 r1]) []) := by kernel_rfl
theorem good_q70 (N_ : Nat) (S_m_Abs : TS_m_Abs) (h_m_Abs : GoodF Pg 69 (F_m_Abs S_m_Abs)) : GoodF Pg 150 (F_q70 (G_q70 N_ S_m_Abs)) := by
  refine good_fs (cx := ⟨Pg, ofList [(69, (F_m_Abs S_m_Abs))], isref, N_⟩) (ofList_cons h_m_Abs (ofList_nil _)) shF_q70 (sp_q70 (G_q70 N_ S_m_Abs)) (an_q70 N_ S_m_Abs) 0 0 (by kernel_rfl) (fun i_ hi_ => by omega) ?_
  intro a k h
  unfold sp_q70 at h
  split at h
  · exact ⟨[], rfl, rfl, (eq_q70 _ _ _ _).trans h⟩
  · cases h

def an_q186 (N_ : Nat) (S_q140 : TS_q140) (S_q147 : TS_q147) (S_q70 : TS_q70) (S_q108 : TS_q108) (S_q95 : TS_q95) : Nat -> Option Ann := fun b_ => none
theorem eq_q186 (N_ : Nat) (S_q140 : TS_q140) (S_q147 : TS_q147) (S_q70 : TS_q70) (S_q108 : TS_q108) (S_q95 : TS_q95) (f : Fl) (c_ : V -> List Blk -> Bool) : bodyV ⟨Pg, ofList [(148, (F_q140 S_q140)), (149, (F_q147 S_q147)), (150, (F_q70 S_q70)), (88, (F_q108 S_q108)), (100, (F_q95 S_q95))], isref, N_⟩ (an_q186 N_ S_q140 S_q147 S_q70 S_q108 S_q95) 119 (shF_q186.args [.fl f]) [] c_ = G_q186 N_ S_q140 S_q147 S_q70 S_q108 S_q95 f (fun r0 r1 => c_ (.tup [.flt r0, .int .i64 r1]) []) := by kernel_rfl
theorem good_q186 (N_ : Nat) (S_q140 : TS_q140) (S_q147 : TS_q147) (S_q70 : TS_q70) (S_q108 : TS_q108) (S_q95 : TS_q95) (h_q140 : GoodF Pg 148 (F_q140 S_q140)) (h_q147 : GoodF Pg 149 (F_q147 S_q147)) (h_q70 : GoodF Pg 150 (F_q70 S_q70)) (h_q108 : GoodF Pg 88 (F_q108 S_q108)) (h_q95 : GoodF Pg 100 (F_q95 S_q95)) : GoodF Pg 119 (F_q186 (G_q186 N_ S_q140 S_q147 S_q70 S_q108 S_q95)) := by
  refine good_fs (cx := ⟨Pg, ofList [(148, (F_q140 S_q140)), (149, (F_q147 S_q147)), (150, (F_q70 S_q70)), (88, (F_q108 S_q108)), (100, (F_q95 S_q95))], isref, N_⟩) (ofList_cons h_q140 (ofList_cons h_q147 (ofList_cons h_q70 (ofList_cons h_q108 (ofList_cons h_q95 (ofList_nil _)))))) shF_q186 (sp_q186 (G_q186 N_ S_q140 S_q147 S_q70 S_q108 S_q95)) (an_q186 N_ S_q140 S_q147 S_q70 S_q108 S_q95) 0 0 (by kernel_rfl) (fun i_ hi_ => by omega) ?_
  intro a k h
  unfold sp_q186 at h
  split at h
  · exact ⟨[], rfl, rfl, (eq_q186 _ _ _ _ _ _ _ _).trans h⟩
  · cases h

def an_q100 (N_ : Nat) (S_q186 : TS_q186) : Nat -> Option Ann := fun b_ => none
theorem eq_q100 (N_ : Nat) (S_q186 : TS_q186) (f : Fl) (c_ : V -> List Blk -> Bool) : bodyV ⟨Pg, ofList [(119, (F_q186 S_q186))], isref, N_⟩ (an_q100 N_ S_q186) 70 (shF_q100.args [.fl f]) [] c_ = G_q100 N_ S_q186 f (fun r0 r1 => c_ (.tup [.flt r0, .int .i64 r1]) []) := by kernel_rfl
theorem good_q100 (N_ : Nat) (S_q186 : TS_q186) (h_q186 : GoodF Pg 119 (F_q186 S_q186)) : GoodF Pg 70 (F_q100 (G_q100 N_ S_q186)) := by
  refine good_fs (cx := ⟨Pg, ofList [(119, (F_q186 S_q186))], isref, N_⟩) (ofList_cons h_q186 (ofList_nil _)) shF_q100 (sp_q100 (G_q100 N_ S_q186)) (an_q100 N_ S_q186) 0 0 (by kernel_rfl) (fun i_ hi_ => by omega) ?_
  intro a k h
  unfold sp_q100 at h
  split at h
  · exact ⟨[], rfl, rfl, (eq_q100 _ _ _ _).trans h⟩
  · cases h

def an_q116 (N_ : Nat) (S_q108 : TS_q108) (S_q95 : TS_q95) : Nat -> Option Ann := fun b_ => none
theorem eq_q116 (N_ : Nat) (S_q108 : TS_q108) (S_q95 : TS_q95) (f : Fl) (sign : Fl) (c_ : V -> List Blk -> Bool) : bodyV ⟨Pg, ofList [(88, (F_q108 S_q108)), (100, (F_q95 S_q95))], isref, N_⟩ (an_q116 N_ S_q108 S_q95) 151 (shF_q116.args [.fl f, .fl sign]) [] c_ = G_q116 N_ S_q108 S_q95 f sign (fun r0 => c_ (.flt r0) []) := by kernel_rfl
theorem good_q116 (N_ : Nat) (S_q108 : TS_q108) (S_q95 : TS_q95) (h_q108 : GoodF Pg 88 (F_q108 S_q108)) (h_q95 : GoodF Pg 100 (F_q95 S_q95)) : GoodF Pg 151 (F_q116 (G_q116 N_ S_q108 S_q95)) := by
  refine good_fs (cx := ⟨Pg, ofList [(88, (F_q108 S_q108)), (100, (F_q95 S_q95))], isref, N_⟩) (ofList_cons h_q108 (ofList_cons h_q95 (ofList_nil _))) shF_q116 (sp_q116 (G_q116 N_ S_q108 S_q95)) (an_q116 N_ S_q108 S_q95) 0 0 (by kernel_rfl) (fun i_ hi_ => by omega) ?_
  intro a k h
  unfold sp_q116 at h
  split at h
  · exact ⟨[], rfl, rfl, (eq_q116 _ _ _ _ _ _).trans h⟩
  · cases h

def an_m_Inf (N_ : Nat) (S_q95 : TS_q95) : Nat -> Option Ann := fun b_ => none
def ls_m_Inf_0 (d_ : List V) (u_ : List (Option Blk)) (sign : Int) (v : Int) : St := ⟨(dqs d_ 0 3 [.int .u64 v, (dq d_ 3), (dq d_ 4), (dq d_ 5), (dq d_ 6)]), []⟩
theorem jn_m_Inf_0 (N_ : Nat) (S_q95 : TS_q95) (d_ : List V) (u_ : List (Option Blk)) (sign : Int) (v : Int) (c_ : V -> List Blk -> Bool) : codesV ⟨Pg, ofList [(100, (F_q95 S_q95))], isref, N_⟩ 0 (an_m_Inf N_ S_q95) ((cds Pg 152).drop 4) 0 (ls_m_Inf_0 d_ u_ sign v) (finV Pg 152 0 c_) = J_m_Inf_0 N_ S_q95 sign v (fun r0 => c_ (.flt r0) []) := by kernel_rfl
theorem hd_m_Inf_w (N_ : Nat) (S_q95 : TS_q95) (sign : Int) (c_ : V -> List Blk -> Bool) (κn_ : St -> Bool) : codesV ⟨Pg, ofList [(100, (F_q95 S_q95))], isref, N_⟩ 0 (an_m_Inf N_ S_q95) (sg Pg 152 0 4) 0 (st0 Pg 152 (shF_m_Inf.args [.int sign]) []) { (finV Pg 152 0 c_) with nrm := κn_ } = (cond (decide (sign >= 0)) (κn_ (ls_m_Inf_0 [.int .i64 sign, .any, .flt (some 0), .int .i64 sign, .bool true, .any, .any] [] sign 9218868437227405312)) (κn_ (ls_m_Inf_0 [.int .i64 sign, .any, .flt (some 0), .int .i64 sign, .bool false, .any, .any] [] sign 18442240474082181120))) := by kernel_rfl
theorem jn_m_Inf_w (N_ : Nat) (S_q95 : TS_q95) (sign : Int) (c_ : V -> List Blk -> Bool) : codesV ⟨Pg, ofList [(100, (F_q95 S_q95))], isref, N_⟩ 0 (an_m_Inf N_ S_q95) ((cds Pg 152).drop 0) 0 (st0 Pg 152 (shF_m_Inf.args [.int sign]) []) (finV Pg 152 0 c_) = G_m_Inf N_ S_q95 sign (fun r0 => c_ (.flt r0) []) := by
  rw [codesV_cut 0 4 4 rfl]
  refine (hd_m_Inf_w N_ S_q95 sign c_ _).trans ?_
  simp only [jn_m_Inf_0]
  kernel_rfl
theorem eq_m_Inf (N_ : Nat) (S_q95 : TS_q95) (sign : Int) (c_ : V -> List Blk -> Bool) : bodyV ⟨Pg, ofList [(100, (F_q95 S_q95))], isref, N_⟩ (an_m_Inf N_ S_q95) 152 (shF_m_Inf.args [.int sign]) [] c_ = G_m_Inf N_ S_q95 sign (fun r0 => c_ (.flt r0) []) :=
  (bodyV_codes (by kernel_rfl)).trans (jn_m_Inf_w N_ S_q95 sign c_)
theorem good_m_Inf (N_ : Nat) (S_q95 : TS_q95) (h_q95 : GoodF Pg 100 (F_q95 S_q95)) : GoodF Pg 152 (F_m_Inf (G_m_Inf N_ S_q95)) := by
  refine good_fs (cx := ⟨Pg, ofList [(100, (F_q95 S_q95))], isref, N_⟩) (ofList_cons h_q95 (ofList_nil _)) shF_m_Inf (sp_m_Inf (G_m_Inf N_ S_q95)) (an_m_Inf N_ S_q95) 0 0 (by kernel_rfl) (fun i_ hi_ => by omega) ?_
  intro a k h
  unfold sp_m_Inf at h
  split at h
  · exact ⟨[], rfl, rfl, (eq_m_Inf _ _ _ _).trans h⟩
  · cases h

def an_q182 (N_ : Nat) (S_q140 : TS_q140) (S_q147 : TS_q147) (S_q70 : TS_q70) (S_q108 : TS_q108) (S_q116 : TS_q116) (S_m_Inf : TS_m_Inf) (S_q95 : TS_q95) : Nat -> Option Ann := fun b_ => none
def ls_q225 (d_ : List V) (u_ : List (Option Blk)) (frac : Fl) (exp : Int) (exp_1 : Int) (x : Int) (m : Fl) : St := ⟨[(dq d_ 0), .int .i64 exp_1, (dq d_ 1), (dq d_ 2), (dq d_ 3), (dq d_ 4), .int .u64 x, .flt m, (dq d_ 5), (dq d_ 6), (dq d_ 7), (dq d_ 8), (dq d_ 9), (dq d_ 10), (dq d_ 11), (dq d_ 12), (dq d_ 13), (dq d_ 14), (dq d_ 15), (dq d_ 16), (dq d_ 17), (dq d_ 18), (dq d_ 19), (dq d_ 20), (dq d_ 21), (dq d_ 22), (dq d_ 23), (dq d_ 24), (dq d_ 25), (dq d_ 26), (dq d_ 27), (dq d_ 28), (dq d_ 29), (dq d_ 30), (dq d_ 31), (dq d_ 32), (dq d_ 33), (dq d_ 34), (dq d_ 35), (dq d_ 36), (dq d_ 37), (dq d_ 38), (dq d_ 39), (dq d_ 40), (dq d_ 41), (dq d_ 42), (dq d_ 43), (dq d_ 44), (dq d_ 45), (dq d_ 46), (dq d_ 47), (dq d_ 48), (dq d_ 49), (dq d_ 50), (dq d_ 51), (dq d_ 52), (dq d_ 53), (dq d_ 54), (dq d_ 55), (dq d_ 56), (dq d_ 57), (dq d_ 58), (dq d_ 59)], []⟩
theorem jn_q225 (N_ : Nat) (S_q140 : TS_q140) (S_q147 : TS_q147) (S_q70 : TS_q70) (S_q108 : TS_q108) (S_q116 : TS_q116) (S_m_Inf : TS_m_Inf) (S_q95 : TS_q95) (d_ : List V) (u_ : List (Option Blk)) (frac : Fl) (exp : Int) (exp_1 : Int) (x : Int) (m : Fl) (c_ : V -> List Blk -> Bool) : codesV ⟨Pg, ofList [(148, (F_q140 S_q140)), (149, (F_q147 S_q147)), (150, (F_q70 S_q70)), (88, (F_q108 S_q108)), (151, (F_q116 S_q116)), (152, (F_m_Inf S_m_Inf)), (100, (F_q95 S_q95))], isref, N_⟩ 0 (an_q182 N_ S_q140 S_q147 S_q70 S_q108 S_q116 S_m_Inf S_q95) ((cds Pg 121).drop 13) 0 (ls_q225 d_ u_ frac exp exp_1 x m) (finV Pg 121 0 c_) = J_q225 N_ S_q140 S_q147 S_q70 S_q108 S_q116 S_m_Inf S_q95 frac exp exp_1 x m (fun r0 => c_ (.flt r0) []) := by kernel_rfl
theorem hd_m_ldexp_w (N_ : Nat) (S_q140 : TS_q140) (S_q147 : TS_q147) (S_q70 : TS_q70) (S_q108 : TS_q108) (S_q116 : TS_q116) (S_m_Inf : TS_m_Inf) (S_q95 : TS_q95) (frac : Fl) (exp : Int) (c_ : V -> List Blk -> Bool) (κn_ : St -> Bool) : codesV ⟨Pg, ofList [(148, (F_q140 S_q140)), (149, (F_q147 S_q147)), (150, (F_q70 S_q70)), (88, (F_q108 S_q108)), (151, (F_q116 S_q116)), (152, (F_m_Inf S_m_Inf)), (100, (F_q95 S_q95))], isref, N_⟩ 0 (an_q182 N_ S_q140 S_q147 S_q70 S_q108 S_q116 S_m_Inf S_q95) (sg Pg 121 0 13) 0 (st0 Pg 121 (shF_q182.args [.fl frac, .int exp]) []) { (finV Pg 121 0 c_) with nrm := κn_ } = (cond (feq frac (some 0)) (c_ (.flt frac) []) (S_q140 frac 0 (fun cr => (cond (cr == false) (S_q147 frac (fun cr_1 => (cond cr_1 (c_ (.flt frac) []) (S_q70 frac (fun xr nr => ((fits .i64 (exp + nr)) && (S_q108 xr (fun nr_1 => ((fits .i64 (Int.fdiv nr_1 (2 ^ 52))) && ((fits .i64 ((bitsN .and .i64 (Int.fdiv nr_1 (2 ^ 52)) 2047) - 1023)) && ((fits .i64 ((exp + nr) + ((bitsN .and .i64 (Int.fdiv nr_1 (2 ^ 52)) 2047) - 1023))) && (cond (decide (((exp + nr) + ((bitsN .and .i64 (Int.fdiv nr_1 (2 ^ 52)) 2047) - 1023)) < (-1075))) (S_q116 (some 0) xr (fun xr_1 => (c_ (.flt xr_1) []))) (cond (decide (((exp + nr) + ((bitsN .and .i64 (Int.fdiv nr_1 (2 ^ 52)) 2047) - 1023)) > 1023)) (cond (flt xr (some 0)) (S_m_Inf (-1) (fun xr_2 => (c_ (.flt xr_2) []))) (S_m_Inf 1 (fun xr_3 => (c_ (.flt xr_3) [])))) (cond (decide (((exp + nr) + ((bitsN .and .i64 (Int.fdiv nr_1 (2 ^ 52)) 2047) - 1023)) < (-1022))) ((fits .i64 (((exp + nr) + ((bitsN .and .i64 (Int.fdiv nr_1 (2 ^ 52)) 2047) - 1023)) + 53)) && (κn_ (ls_q225 [.flt xr, .any, .any, .flt (some 0), .int .i64 nr, .bool false, .flt frac, .bool (feq frac (some 0)), .any, .bool false, .flt frac, .bool cr, .bool false, .flt frac, .bool cr_1, .bool cr_1, .any, .tup [.flt xr, .int .i64 nr], .flt frac, .tup [.flt xr, .int .i64 nr], .flt xr, .int .i64 nr, .int .i64 exp, .int .i64 nr, .int .i64 (exp + nr), .flt xr, .int .u64 nr_1, .int .i64 (exp + nr), .int .u64 nr_1, .int .u64 (Int.fdiv nr_1 (2 ^ 52)), .int .i64 (Int.fdiv nr_1 (2 ^ 52)), .int .i64 (bitsN .and .i64 (Int.fdiv nr_1 (2 ^ 52)) 2047), .int .i64 ((bitsN .and .i64 (Int.fdiv nr_1 (2 ^ 52)) 2047) - 1023), .int .i64 ((exp + nr) + ((bitsN .and .i64 (Int.fdiv nr_1 (2 ^ 52)) 2047) - 1023)), .int .i64 ((exp + nr) + ((bitsN .and .i64 (Int.fdiv nr_1 (2 ^ 52)) 2047) - 1023)), .bool false, .any, .any, .int .i64 ((exp + nr) + ((bitsN .and .i64 (Int.fdiv nr_1 (2 ^ 52)) 2047) - 1023)), .bool false, .any, .any, .any, .any, .int .i64 ((exp + nr) + ((bitsN .and .i64 (Int.fdiv nr_1 (2 ^ 52)) 2047) - 1023)), .bool true, .int .i64 ((exp + nr) + ((bitsN .and .i64 (Int.fdiv nr_1 (2 ^ 52)) 2047) - 1023)), .int .i64 (((exp + nr) + ((bitsN .and .i64 (Int.fdiv nr_1 (2 ^ 52)) 2047) - 1023)) + 53), .any, .any, .any, .any, .any, .any, .any, .any, .any, .any, .any, .any] [] frac exp (((exp + nr) + ((bitsN .and .i64 (Int.fdiv nr_1 (2 ^ 52)) 2047) - 1023)) + 53) nr_1 (some 4368491638549381120)))) (κn_ (ls_q225 [.flt xr, .any, .any, .flt (some 0), .int .i64 nr, .bool false, .flt frac, .bool (feq frac (some 0)), .any, .bool false, .flt frac, .bool cr, .bool false, .flt frac, .bool cr_1, .bool cr_1, .any, .tup [.flt xr, .int .i64 nr], .flt frac, .tup [.flt xr, .int .i64 nr], .flt xr, .int .i64 nr, .int .i64 exp, .int .i64 nr, .int .i64 (exp + nr), .flt xr, .int .u64 nr_1, .int .i64 (exp + nr), .int .u64 nr_1, .int .u64 (Int.fdiv nr_1 (2 ^ 52)), .int .i64 (Int.fdiv nr_1 (2 ^ 52)), .int .i64 (bitsN .and .i64 (Int.fdiv nr_1 (2 ^ 52)) 2047), .int .i64 ((bitsN .and .i64 (Int.fdiv nr_1 (2 ^ 52)) 2047) - 1023), .int .i64 ((exp + nr) + ((bitsN .and .i64 (Int.fdiv nr_1 (2 ^ 52)) 2047) - 1023)), .int .i64 ((exp + nr) + ((bitsN .and .i64 (Int.fdiv nr_1 (2 ^ 52)) 2047) - 1023)), .bool false, .any, .any, .int .i64 ((exp + nr) + ((bitsN .and .i64 (Int.fdiv nr_1 (2 ^ 52)) 2047) - 1023)), .bool false, .any, .any, .any, .any, .int .i64 ((exp + nr) + ((bitsN .and .i64 (Int.fdiv nr_1 (2 ^ 52)) 2047) - 1023)), .bool false, .any, .any, .any, .any, .any, .any, .any, .any, .any, .any, .any, .any, .any, .any] [] frac exp ((exp + nr) + ((bitsN .and .i64 (Int.fdiv nr_1 (2 ^ 52)) 2047) - 1023)) nr_1 (some 4607182418800017408))))))))))))))))) (c_ (.flt frac) []))))) := by kernel_rfl
theorem jn_m_ldexp_w (N_ : Nat) (S_q140 : TS_q140) (S_q147 : TS_q147) (S_q70 : TS_q70) (S_q108 : TS_q108) (S_q116 : TS_q116) (S_m_Inf : TS_m_Inf) (S_q95 : TS_q95) (frac : Fl) (exp : Int) (c_ : V -> List Blk -> Bool) : codesV ⟨Pg, ofList [(148, (F_q140 S_q140)), (149, (F_q147 S_q147)), (150, (F_q70 S_q70)), (88, (F_q108 S_q108)), (151, (F_q116 S_q116)), (152, (F_m_Inf S_m_Inf)), (100, (F_q95 S_q95))], isref, N_⟩ 0 (an_q182 N_ S_q140 S_q147 S_q70 S_q108 S_q116 S_m_Inf S_q95) ((cds Pg 121).drop 0) 0 (st0 Pg 121 (shF_q182.args [.fl frac, .int exp]) []) (finV Pg 121 0 c_) = G_q182 N_ S_q140 S_q147 S_q70 S_q108 S_q116 S_m_Inf S_q95 frac exp (fun r0 => c_ (.flt r0) []) := by
  rw [codesV_cut 0 13 13 rfl]
  refine (hd_m_ldexp_w N_ S_q140 S_q147 S_q70 S_q108 S_q116 S_m_Inf S_q95 frac exp c_ _).trans ?_
  simp only [jn_q225]
  kernel_rfl
theorem eq_q182 (N_ : Nat) (S_q140 : TS_q140) (S_q147 : TS_q147) (S_q70 : TS_q70) (S_q108 : TS_q108) (S_q116 : TS_q116) (S_m_Inf : TS_m_Inf) (S_q95 : TS_q95) (frac : Fl) (exp : Int) (c_ : V -> List Blk -> Bool) : bodyV ⟨Pg, ofList [(148, (F_q140 S_q140)), (149, (F_q147 S_q147)), (150, (F_q70 S_q70)), (88, (F_q108 S_q108)), (151, (F_q116 S_q116)), (152, (F_m_Inf S_m_Inf)), (100, (F_q95 S_q95))], isref, N_⟩ (an_q182 N_ S_q140 S_q147 S_q70 S_q108 S_q116 S_m_Inf S_q95) 121 (shF_q182.args [.fl frac, .int exp]) [] c_ = G_q182 N_ S_q140 S_q147 S_q70 S_q108 S_q116 S_m_Inf S_q95 frac exp (fun r0 => c_ (.flt r0) []) :=
  (bodyV_codes (by kernel_rfl)).trans (jn_m_ldexp_w N_ S_q140 S_q147 S_q70 S_q108 S_q116 S_m_Inf S_q95 frac exp c_)
theorem good_q182 (N_ : Nat) (S_q140 : TS_q140) (S_q147 : TS_q147) (S_q70 : TS_q70) (S_q108 : TS_q108) (S_q116 : TS_q116) (S_m_Inf : TS_m_Inf) (S_q95 : TS_q95) (h_q140 : GoodF Pg 148 (F_q140 S_q140)) (h_q147 : GoodF Pg 149 (F_q147 S_q147)) (h_q70 : GoodF Pg 150 (F_q70 S_q70)) (h_q108 : GoodF Pg 88 (F_q108 S_q108)) (h_q116 : GoodF Pg 151 (F_q116 S_q116)) (h_m_Inf : GoodF Pg 152 (F_m_Inf S_m_Inf)) (h_q95 : GoodF Pg 100 (F_q95 S_q95)) : GoodF Pg 121 (F_q182 (G_q182 N_ S_q140 S_q147 S_q70 S_q108 S_q116 S_m_Inf S_q95)) := by
  refine good_fs (cx := ⟨Pg, ofList [(148, (F_q140 S_q140)), (149, (F_q147 S_q147)), (150, (F_q70 S_q70)), (88, (F_q108 S_q108)), (151, (F_q116 S_q116)), (152, (F_m_Inf S_m_Inf)), (100, (F_q95 S_q95))], isref, N_⟩) (ofList_cons h_q140 (ofList_cons h_q147 (ofList_cons h_q70 (ofList_cons h_q108 (ofList_cons h_q116 (ofList_cons h_m_Inf (ofList_cons h_q95 (ofList_nil _)))))))) shF_q182 (sp_q182 (G_q182 N_ S_q140 S_q147 S_q70 S_q108 S_q116 S_m_Inf S_q95)) (an_q182 N_ S_q140 S_q147 S_q70 S_q108 S_q116 S_m_Inf S_q95) 0 0 (by kernel_rfl) (fun i_ hi_ => by omega) ?_
  intro a k h
  unfold sp_q182 at h
  split at h
  · exact ⟨[], rfl, rfl, (eq_q182 _ _ _ _ _ _ _ _ _ _ _).trans h⟩
  · cases h

def an_q118 (N_ : Nat) (S_q182 : TS_q182) : Nat -> Option Ann := fun b_ => none
theorem eq_q118 (N_ : Nat) (S_q182 : TS_q182) (frac : Fl) (exp : Int) (c_ : V -> List Blk -> Bool) : bodyV ⟨Pg, ofList [(121, (F_q182 S_q182))], isref, N_⟩ (an_q118 N_ S_q182) 71 (shF_q118.args [.fl frac, .int exp]) [] c_ = G_q118 N_ S_q182 frac exp (fun r0 => c_ (.flt r0) []) := by kernel_rfl
theorem good_q118 (N_ : Nat) (S_q182 : TS_q182) (h_q182 : GoodF Pg 121 (F_q182 S_q182)) : GoodF Pg 71 (F_q118 (G_q118 N_ S_q182)) := by
  refine good_fs (cx := ⟨Pg, ofList [(121, (F_q182 S_q182))], isref, N_⟩) (ofList_cons h_q182 (ofList_nil _)) shF_q118 (sp_q118 (G_q118 N_ S_q182)) (an_q118 N_ S_q182) 0 0 (by kernel_rfl) (fun i_ hi_ => by omega) ?_
  intro a k h
  unfold sp_q118 at h
  split at h
  · exact ⟨[], rfl, rfl, (eq_q118 _ _ _ _ _).trans h⟩
  · cases h


def an_q120 (N_ : Nat) (S_q196 : TS_q196) : Nat -> Option Ann := fun b_ => none
theorem eq_q120 (N_ : Nat) (S_q196 : TS_q196) (x : Fl) (c_ : V -> List Blk -> Bool) : bodyV ⟨Pg, ofList [(122, (F_q196 S_q196))], isref, N_⟩ (an_q120 N_ S_q196) 72 (shF_q120.args [.fl x]) [] c_ = G_q120 N_ S_q196 x (fun r0 => c_ (.flt r0) []) := by kernel_rfl
theorem good_q120 (N_ : Nat) (S_q196 : TS_q196) (h_q196 : GoodF Pg 122 (F_q196 S_q196)) : GoodF Pg 72 (F_q120 (G_q120 N_ S_q196)) := by
  refine good_fs (cx := ⟨Pg, ofList [(122, (F_q196 S_q196))], isref, N_⟩) (ofList_cons h_q196 (ofList_nil _)) shF_q120 (sp_q120 (G_q120 N_ S_q196)) (an_q120 N_ S_q196) 0 0 (by kernel_rfl) (fun i_ hi_ => by omega) ?_
  intro a k h
  unfold sp_q120 at h
  split at h
  · exact ⟨[], rfl, rfl, (eq_q120 _ _ _ _).trans h⟩
  · cases h

def an_q160 (N_ : Nat) : Nat -> Option Ann := fun b_ => none
theorem eq_q160 (N_ : Nat) (l_0 : Fl) (l_1 : Fl) (l_2 : Fl) (l_3 : Fl) (c_ : V -> List Blk -> Bool) : bodyV ⟨Pg, ofList [], isref, N_⟩ (an_q160 N_) 73 (shF_q160.args [.fl l_0, .fl l_1, .fl l_2, .fl l_3]) [] c_ = G_q160 N_ l_0 l_1 l_2 l_3 (c_ (.agg [.flt l_0, .flt l_1, .flt l_2, .flt l_3]) []) := by kernel_rfl
theorem good_q160 (N_ : Nat) : GoodF Pg 73 (F_q160 (G_q160 N_)) := by
  refine good_fs (cx := ⟨Pg, ofList [], isref, N_⟩) (ofList_nil _) shF_q160 (sp_q160 (G_q160 N_)) (an_q160 N_) 0 0 (by kernel_rfl) (fun i_ hi_ => by omega) ?_
  intro a k h
  unfold sp_q160 at h
  split at h
  · exact ⟨[], rfl, rfl, (eq_q160 _ _ _ _ _ _).trans h⟩
  · cases h

def an_q63 (N_ : Nat) (S_q12 : TS_q12) (S_q30 : TS_q30) (S_m_Abs : TS_m_Abs) (S_q100 : TS_q100) (S_q118 : TS_q118) (S_q120 : TS_q120) (S_q160 : TS_q160) : Nat -> Option Ann := fun b_ => none
theorem eq_q63 (N_ : Nat) (S_q12 : TS_q12) (S_q30 : TS_q30) (S_m_Abs : TS_m_Abs) (S_q100 : TS_q100) (S_q118 : TS_q118) (S_q120 : TS_q120) (S_q160 : TS_q160) (q_0 : Fl) (q_1 : Fl) (q_2 : Fl) (q_3 : Fl) (c_ : V -> List Blk -> Bool) : bodyV ⟨Pg, ofList [(56, (F_q12 S_q12)), (68, (F_q30 S_q30)), (69, (F_m_Abs S_m_Abs)), (70, (F_q100 S_q100)), (71, (F_q118 S_q118)), (72, (F_q120 S_q120)), (73, (F_q160 S_q160))], isref, (N_ + 24)⟩ (an_q63 (N_ + 24) S_q12 S_q30 S_m_Abs S_q100 S_q118 S_q120 S_q160) 18 (shF_q63.args [.fl q_0, .fl q_1, .fl q_2, .fl q_3]) [] c_ = G_q63 (N_ + 24) S_q12 S_q30 S_m_Abs S_q100 S_q118 S_q120 S_q160 q_0 q_1 q_2 q_3 (fun r0 r1 r2 r3 r4 => c_ (.tup [.agg [.flt r0, .flt r1, .flt r2, .flt r3], .int .i64 r4]) []) := by kernel_rfl
theorem good_q63 (N_ : Nat) (S_q12 : TS_q12) (S_q30 : TS_q30) (S_m_Abs : TS_m_Abs) (S_q100 : TS_q100) (S_q118 : TS_q118) (S_q120 : TS_q120) (S_q160 : TS_q160) (h_q12 : GoodF Pg 56 (F_q12 S_q12)) (h_q30 : GoodF Pg 68 (F_q30 S_q30)) (h_m_Abs : GoodF Pg 69 (F_m_Abs S_m_Abs)) (h_q100 : GoodF Pg 70 (F_q100 S_q100)) (h_q118 : GoodF Pg 71 (F_q118 S_q118)) (h_q120 : GoodF Pg 72 (F_q120 S_q120)) (h_q160 : GoodF Pg 73 (F_q160 S_q160)) : GoodF Pg 18 (F_q63 (G_q63 (N_ + 24) S_q12 S_q30 S_m_Abs S_q100 S_q118 S_q120 S_q160)) := by
  refine good_fs (cx := ⟨Pg, ofList [(56, (F_q12 S_q12)), (68, (F_q30 S_q30)), (69, (F_m_Abs S_m_Abs)), (70, (F_q100 S_q100)), (71, (F_q118 S_q118)), (72, (F_q120 S_q120)), (73, (F_q160 S_q160))], isref, (N_ + 24)⟩) (ofList_cons h_q12 (ofList_cons h_q30 (ofList_cons h_m_Abs (ofList_cons h_q100 (ofList_cons h_q118 (ofList_cons h_q120 (ofList_cons h_q160 (ofList_nil _)))))))) shF_q63 (sp_q63 (G_q63 (N_ + 24) S_q12 S_q30 S_m_Abs S_q100 S_q118 S_q120 S_q160)) (an_q63 (N_ + 24) S_q12 S_q30 S_m_Abs S_q100 S_q118 S_q120 S_q160) 3 0 (by kernel_rfl) (fun i_ hi_ => by
    match i_, hi_ with
    | 0, _ => exact (fun hk e => by rw [show hookOf ((an_q63 (N_ + 24) S_q12 S_q30 S_m_Abs S_q100 S_q118 S_q120 S_q160) (lp Pg 18 0).1) = none from by kernel_rfl] at e; cases e)
    | 1, _ => exact (fun hk e => by rw [show hookOf ((an_q63 (N_ + 24) S_q12 S_q30 S_m_Abs S_q100 S_q118 S_q120 S_q160) (lp Pg 18 1).1) = none from by kernel_rfl] at e; cases e)
    | 2, _ => exact (fun hk e => by rw [show hookOf ((an_q63 (N_ + 24) S_q12 S_q30 S_m_Abs S_q100 S_q118 S_q120 S_q160) (lp Pg 18 2).1) = none from by kernel_rfl] at e; cases e)
    | (q + 3), h => omega) ?_
  intro a k h
  unfold sp_q63 at h
  split at h
  · exact ⟨[], rfl, rfl, (eq_q63 _ _ _ _ _ _ _ _ _ _ _ _ _).trans h⟩
  · cases h

def an_q129 (N_ : Nat) (S_q13 : TS_q13) : Nat -> Option Ann := fun b_ => none
theorem eq_q129 (N_ : Nat) (S_q13 : TS_q13) (qs_0 : Fl) (qs_1 : Fl) (qs_2 : Fl) (qs_3 : Fl) (qs_4 : Fl) (qs_5 : Fl) (qs_6 : Fl) (qs_7 : Fl) (c_ : V -> List Blk -> Bool) : bodyV ⟨Pg, ofList [(86, (F_q13 S_q13))], isref, (N_ + 24)⟩ (an_q129 (N_ + 24) S_q13) 56 (shF_q129.args [.fl qs_0, .fl qs_1, .fl qs_2, .fl qs_3, .fl qs_4, .fl qs_5, .fl qs_6, .fl qs_7]) [] c_ = G_q129 (N_ + 24) S_q13 qs_0 qs_1 qs_2 qs_3 qs_4 qs_5 qs_6 qs_7 (fun r0 => c_ (.bool r0) []) := by kernel_rfl
theorem good_q129 (N_ : Nat) (S_q13 : TS_q13) (h_q13 : GoodF Pg 86 (F_q13 S_q13)) : GoodF Pg 56 (F_q129 (G_q129 (N_ + 24) S_q13)) := by
  refine good_fs (cx := ⟨Pg, ofList [(86, (F_q13 S_q13))], isref, (N_ + 24)⟩) (ofList_cons h_q13 (ofList_nil _)) shF_q129 (sp_q129 (G_q129 (N_ + 24) S_q13)) (an_q129 (N_ + 24) S_q13) 1 0 (by kernel_rfl) (fun i_ hi_ => by
    match i_, hi_ with
    | 0, _ => exact (fun hk e => by rw [show hookOf ((an_q129 (N_ + 24) S_q13) (lp Pg 56 0).1) = none from by kernel_rfl] at e; cases e)
    | (q + 1), h => omega) ?_
  intro a k h
  unfold sp_q129 at h
  split at h
  · exact ⟨[], rfl, rfl, (eq_q129 _ _ _ _ _ _ _ _ _ _ _).trans h⟩
  · cases h

def an_q181 (N_ : Nat) : Nat -> Option Ann := fun b_ => none
theorem eq_q181 (N_ : Nat) (a_0 : Fl) (a_1 : Fl) (a_2 : Fl) (a_3 : Fl) (b_0 : Fl) (b_1 : Fl) (b_2 : Fl) (b_3 : Fl) (c_ : V -> List Blk -> Bool) : bodyV ⟨Pg, ofList [], isref, N_⟩ (an_q181 N_) 58 (shF_q181.args [.fl a_0, .fl a_1, .fl a_2, .fl a_3, .fl b_0, .fl b_1, .fl b_2, .fl b_3]) [] c_ = G_q181 N_ a_0 a_1 a_2 a_3 b_0 b_1 b_2 b_3 (fun r0 r1 r2 r3 => c_ (.agg [.flt r0, .flt r1, .flt r2, .flt r3]) []) := by kernel_rfl
theorem good_q181 (N_ : Nat) : GoodF Pg 58 (F_q181 (G_q181 N_)) := by
  refine good_fs (cx := ⟨Pg, ofList [], isref, N_⟩) (ofList_nil _) shF_q181 (sp_q181 (G_q181 N_)) (an_q181 N_) 0 0 (by kernel_rfl) (fun i_ hi_ => by omega) ?_
  intro a k h
  unfold sp_q181 at h
  split at h
  · exact ⟨[], rfl, rfl, (eq_q181 _ _ _ _ _ _ _ _ _ _).trans h⟩
  · cases h

def an_q161 (N_ : Nat) (S_q12 : TS_q12) : Nat -> Option Ann := fun b_ => none
theorem eq_q161 (N_ : Nat) (S_q12 : TS_q12) (q_0 : Fl) (q_1 : Fl) (q_2 : Fl) (q_3 : Fl) (c_ : V -> List Blk -> Bool) : bodyV ⟨Pg, ofList [(56, (F_q12 S_q12))], isref, N_⟩ (an_q161 N_ S_q12) 57 (shF_q161.args [.fl q_0, .fl q_1, .fl q_2, .fl q_3]) [] c_ = G_q161 N_ S_q12 q_0 q_1 q_2 q_3 (fun r0 r1 r2 r3 r4 => c_ (.tup [.agg [.flt r0, .flt r1, .flt r2, .flt r3], .int .i64 r4]) []) := by kernel_rfl
theorem good_q161 (N_ : Nat) (S_q12 : TS_q12) (h_q12 : GoodF Pg 56 (F_q12 S_q12)) : GoodF Pg 57 (F_q161 (G_q161 N_ S_q12)) := by
  refine good_fs (cx := ⟨Pg, ofList [(56, (F_q12 S_q12))], isref, N_⟩) (ofList_cons h_q12 (ofList_nil _)) shF_q161 (sp_q161 (G_q161 N_ S_q12)) (an_q161 N_ S_q12) 0 0 (by kernel_rfl) (fun i_ hi_ => by omega) ?_
  intro a k h
  unfold sp_q161 at h
  split at h
  · exact ⟨[], rfl, rfl, (eq_q161 _ _ _ _ _ _ _).trans h⟩
  · cases h

def an_q180 (N_ : Nat) (S_q129 : TS_q129) (S_q181 : TS_q181) (S_q161 : TS_q161) : Nat -> Option Ann := fun b_ => none
theorem eq_q180 (N_ : Nat) (S_q129 : TS_q129) (S_q181 : TS_q181) (S_q161 : TS_q161) (a_0 : Fl) (a_1 : Fl) (a_2 : Fl) (a_3 : Fl) (b_0 : Fl) (b_1 : Fl) (b_2 : Fl) (b_3 : Fl) (c_ : V -> List Blk -> Bool) : bodyV ⟨Pg, ofList [(56, (F_q129 S_q129)), (58, (F_q181 S_q181)), (57, (F_q161 S_q161))], isref, N_⟩ (an_q180 N_ S_q129 S_q181 S_q161) 10 (shF_q180.args [.fl a_0, .fl a_1, .fl a_2, .fl a_3, .fl b_0, .fl b_1, .fl b_2, .fl b_3]) [] c_ = G_q180 N_ S_q129 S_q181 S_q161 a_0 a_1 a_2 a_3 b_0 b_1 b_2 b_3 (fun r0 r1 r2 r3 r4 => c_ (.tup [.agg [.flt r0, .flt r1, .flt r2, .flt r3], .int .i64 r4]) []) := by kernel_rfl
theorem good_q180 (N_ : Nat) (S_q129 : TS_q129) (S_q181 : TS_q181) (S_q161 : TS_q161) (h_q129 : GoodF Pg 56 (F_q129 S_q129)) (h_q181 : GoodF Pg 58 (F_q181 S_q181)) (h_q161 : GoodF Pg 57 (F_q161 S_q161)) : GoodF Pg 10 (F_q180 (G_q180 N_ S_q129 S_q181 S_q161)) := by
  refine good_fs (cx := ⟨Pg, ofList [(56, (F_q129 S_q129)), (58, (F_q181 S_q181)), (57, (F_q161 S_q161))], isref, N_⟩) (ofList_cons h_q129 (ofList_cons h_q181 (ofList_cons h_q161 (ofList_nil _)))) shF_q180 (sp_q180 (G_q180 N_ S_q129 S_q181 S_q161)) (an_q180 N_ S_q129 S_q181 S_q161) 0 0 (by kernel_rfl) (fun i_ hi_ => by omega) ?_
  intro a k h
  unfold sp_q180 at h
  split at h
  · exact ⟨[], rfl, rfl, (eq_q180 _ _ _ _ _ _ _ _ _ _ _ _ _).trans h⟩
  · cases h


def sh_st_anatomy_Finite_0 : StSh := ⟨[.any, .any, .any, .any, .any, .any, .rof, .int .i64, .int .i64, .any, .any, .any, .any, .any, .any, .any, .any, .any, .any, .any, .any], []⟩
def sx0_st_anatomy_Finite_0 : StSh := ⟨[.any, .any, .bool, .any, .any, .any, .any, .any, .any, .any, .any, .any, .any, .any, .any, .any, .any, .any, .any, .any, .any], []⟩
def sx1_st_anatomy_Finite_0 : StSh := ⟨[.any, .any, .any, .any, .any, .any, .any, .any, .any, .any, .any, .any, .any, .any, .any, .any, .any, .any, .any, .any, .any], []⟩
def hk_st_anatomy_Finite_0 (N_ : Nat) (S_q159 : TS_q159) : List Atom -> K -> Bool := fun a_ κ => match a_ with
  | [.fls t6, .int t7, .int t8] => iterG N_ (st_an_Finite_0 N_ S_q159 t6 t7 (fun r0 => κ.ret (sx0_st_anatomy_Finite_0.build [.bool r0])) (κ.ext 0 (sx1_st_anatomy_Finite_0.build []))) t8
  | _ => false
def an_q97 (N_ : Nat) (S_q159 : TS_q159) : Nat -> Option Ann := fun b_ => cond (b_ == 0) (some ⟨⟨[6, 7, 8], [], []⟩, [(0, ⟨[], [], []⟩)], some ⟨[2], [], []⟩, some (mkHooks [(sh_st_anatomy_Finite_0, hk_st_anatomy_Finite_0 N_ S_q159)])⟩) (none)
theorem eq_st_anatomy_Finite_0 (N_ : Nat) (S_q159 : TS_q159) (κ : K) (t6 : List Fl) (t7 : Int) (t8 : Int) : iter N_ (fun s k => codeV ⟨Pg, ofList [(157, (F_q159 S_q159))], isref, N_⟩ 0 (an_q97 N_ S_q159) (lp Pg 124 0).2 (lp Pg 124 0).1 s (roundK Pg 0 ((an_q97 N_ S_q159) (lp Pg 124 0).1) κ k)) (sh_st_anatomy_Finite_0.build [.fls t6, .int t7, .int t8]) = iterG N_ (st_an_Finite_0 N_ S_q159 t6 t7 (fun r0 => κ.ret (sx0_st_anatomy_Finite_0.build [.bool r0])) (κ.ext 0 (sx1_st_anatomy_Finite_0.build []))) t8 :=
  iter_tr (fun v_ => sh_st_anatomy_Finite_0.build [.fls t6, .int t7, .int v_]) (fun v_ K_ => by kernel_rfl) N_ t8
theorem hk1_st_anatomy_Finite_0 (N_ : Nat) (S_q159 : TS_q159) : HookFor ⟨Pg, ofList [(157, (F_q159 S_q159))], isref, N_⟩ 0 (an_q97 N_ S_q159) (lp Pg 124 0) (sh_st_anatomy_Finite_0, hk_st_anatomy_Finite_0 N_ S_q159) := by
  intro a κ h
  simp only at h
  unfold hk_st_anatomy_Finite_0 at h
  split at h
  · exact (eq_st_anatomy_Finite_0 _ _ _ _ _ _).trans h
  · cases h
theorem ho_anatomy_Finite_0 (N_ : Nat) (S_q159 : TS_q159) : HookOk ⟨Pg, ofList [(157, (F_q159 S_q159))], isref, N_⟩ 0 (an_q97 N_ S_q159) (lp Pg 124 0) :=
  hooks_ok [(sh_st_anatomy_Finite_0, hk_st_anatomy_Finite_0 N_ S_q159)] (by kernel_rfl) ⟨hk1_st_anatomy_Finite_0 _ _, trivial⟩
theorem eq_q97 (N_ : Nat) (S_q159 : TS_q159) (l : List Fl) (c_ : V -> List Blk -> Bool) : bodyV ⟨Pg, ofList [(157, (F_q159 S_q159))], isref, N_⟩ (an_q97 N_ S_q159) 124 (shF_q97.args [.fls l]) [] c_ = G_q97 N_ S_q159 l (fun r0 => c_ (.bool r0) []) := by kernel_rfl
theorem good_q97 (N_ : Nat) (S_q159 : TS_q159) (h_q159 : GoodF Pg 157 (F_q159 S_q159)) : GoodF Pg 124 (F_q97 (G_q97 N_ S_q159)) := by
  refine good_fs (cx := ⟨Pg, ofList [(157, (F_q159 S_q159))], isref, N_⟩) (ofList_cons h_q159 (ofList_nil _)) shF_q97 (sp_q97 (G_q97 N_ S_q159)) (an_q97 N_ S_q159) 1 0 (by kernel_rfl) (fun i_ hi_ => by
    match i_, hi_ with
    | 0, _ => exact ho_anatomy_Finite_0 _ _
    | (q + 1), h => omega) ?_
  intro a k h
  unfold sp_q97 at h
  split at h
  · exact ⟨[], rfl, rfl, (eq_q97 _ _ _ _).trans h⟩
  · cases h

end Go.Proofs.YtccocdgimamdhaaGreatDoor
