/-
  THE TIES: each printed meaning is what the program does (written by program).
  Conditions: none.
-/
import Derived.Test.YtldpkhfffeddiaaGreatGs
namespace Go.Proofs.YtldpkhfffeddiaaGreat
open Go Go.Mach Go.Proofs
set_option linter.unusedVariables false
set_option maxRecDepth 50000


def an_an_of (N_ : Nat) : Nat → Option Ann := fun b_ => none
theorem eq_an_of (N_ : Nat) (cont_ : V → List Blk → Bool) : bodyV ⟨Tryz.prog, ofList [], isref, N_⟩ (an_an_of N_) 161 (shF_an_of.args []) [] cont_ = G_an_of N_ (fun r0 r1 r2 => cont_ (.agg [.int .u64 r0, .int .i64 r1, .int .i64 r2]) []) := by kernel_rfl
theorem good_an_of (N_ : Nat) : GoodF Tryz.prog 161 (F_an_of (G_an_of N_)) := by
  refine good_fs (cx := ⟨Tryz.prog, ofList [], isref, N_⟩) (ofList_nil _) shF_an_of (sp_an_of (G_an_of N_)) (an_an_of N_) 0 0 (by kernel_rfl) (fun i_ hi_ => by omega) ?_
  intro a k h
  unfold sp_an_of at h
  split at h
  · exact ⟨[], rfl, rfl, (eq_an_of _ _).trans h⟩
  · cases h

def an_q103 (N_ : Nat) : Nat → Option Ann := fun b_ => none
theorem eq_q103 (N_ : Nat) (f_0 : Int) (f_1 : Int) (f_2 : Int) (cont_ : V → List Blk → Bool) : bodyV ⟨Tryz.prog, ofList [], isref, N_⟩ (an_q103 N_) 202 (shF_q103.args [.int f_0, .int f_1, .int f_2]) [] cont_ = G_q103 N_ f_0 f_1 f_2 (fun r0 => cont_ (.int .u64 r0) []) := by kernel_rfl
theorem good_q103 (N_ : Nat) : GoodF Tryz.prog 202 (F_q103 (G_q103 N_)) := by
  refine good_fs (cx := ⟨Tryz.prog, ofList [], isref, N_⟩) (ofList_nil _) shF_q103 (sp_q103 (G_q103 N_)) (an_q103 N_) 0 0 (by kernel_rfl) (fun i_ hi_ => by omega) ?_
  intro a k h
  unfold sp_q103 at h
  split at h
  · exact ⟨[], rfl, rfl, (eq_q103 _ _ _ _ _).trans h⟩
  · cases h

def an_q46 (N_ : Nat) : Nat → Option Ann := fun b_ => none
theorem eq_q46 (N_ : Nat) (f_0 : Int) (f_1 : Int) (f_2 : Int) (cont_ : V → List Blk → Bool) : bodyV ⟨Tryz.prog, ofList [], isref, N_⟩ (an_q46 N_) 210 (shF_q46.args [.int f_0, .int f_1, .int f_2]) [] cont_ = G_q46 N_ f_0 f_1 f_2 (fun r0 => cont_ (.int .u64 r0) []) := by kernel_rfl
theorem good_q46 (N_ : Nat) : GoodF Tryz.prog 210 (F_q46 (G_q46 N_)) := by
  refine good_fs (cx := ⟨Tryz.prog, ofList [], isref, N_⟩) (ofList_nil _) shF_q46 (sp_q46 (G_q46 N_)) (an_q46 N_) 0 0 (by kernel_rfl) (fun i_ hi_ => by omega) ?_
  intro a k h
  unfold sp_q46 at h
  split at h
  · exact ⟨[], rfl, rfl, (eq_q46 _ _ _ _ _).trans h⟩
  · cases h

def an_q42 (N_ : Nat) (S_q103 : TS_q103) (S_q46 : TS_q46) : Nat → Option Ann := fun b_ => none
theorem eq_q42 (N_ : Nat) (S_q103 : TS_q103) (S_q46 : TS_q46) (b : Int) (f_0 : Int) (f_1 : Int) (f_2 : Int) (cont_ : V → List Blk → Bool) : bodyV ⟨Tryz.prog, ofList [(202, (F_q103 S_q103)), (210, (F_q46 S_q46))], isref, N_⟩ (an_q42 N_ S_q103 S_q46) 198 (shF_q42.args [.int b, .int f_0, .int f_1, .int f_2]) [] cont_ = G_q42 N_ S_q103 S_q46 b f_0 f_1 f_2 (fun r0 => cont_ (.bool r0) []) := by kernel_rfl
theorem good_q42 (N_ : Nat) (S_q103 : TS_q103) (S_q46 : TS_q46) (h_v_anatomy_format_sign : GoodF Tryz.prog 202 (F_q103 S_q103)) (h_v_anatomy_format_infinite : GoodF Tryz.prog 210 (F_q46 S_q46)) : GoodF Tryz.prog 198 (F_q42 (G_q42 N_ S_q103 S_q46)) := by
  refine good_fs (cx := ⟨Tryz.prog, ofList [(202, (F_q103 S_q103)), (210, (F_q46 S_q46))], isref, N_⟩) (ofList_cons h_v_anatomy_format_sign (ofList_cons h_v_anatomy_format_infinite (ofList_nil _))) shF_q42 (sp_q42 (G_q42 N_ S_q103 S_q46)) (an_q42 N_ S_q103 S_q46) 0 0 (by kernel_rfl) (fun i_ hi_ => by omega) ?_
  intro a k h
  unfold sp_q42 at h
  split at h
  · exact ⟨[], rfl, rfl, (eq_q42 _ _ _ _ _ _ _ _).trans h⟩
  · cases h

def an_q71 (N_ : Nat) : Nat → Option Ann := fun b_ => none
theorem eq_q71 (N_ : Nat) (f_0 : Int) (f_1 : Int) (f_2 : Int) (cont_ : V → List Blk → Bool) : bodyV ⟨Tryz.prog, ofList [], isref, N_⟩ (an_q71 N_) 203 (shF_q71.args [.int f_0, .int f_1, .int f_2]) [] cont_ = G_q71 N_ f_0 f_1 f_2 (fun r0 => cont_ (.int .u64 r0) []) := by kernel_rfl
theorem good_q71 (N_ : Nat) : GoodF Tryz.prog 203 (F_q71 (G_q71 N_)) := by
  refine good_fs (cx := ⟨Tryz.prog, ofList [], isref, N_⟩) (ofList_nil _) shF_q71 (sp_q71 (G_q71 N_)) (an_q71 N_) 0 0 (by kernel_rfl) (fun i_ hi_ => by omega) ?_
  intro a k h
  unfold sp_q71 at h
  split at h
  · exact ⟨[], rfl, rfl, (eq_q71 _ _ _ _ _).trans h⟩
  · cases h

def an_q114 (N_ : Nat) (S_q46 : TS_q46) (S_q71 : TS_q71) : Nat → Option Ann := fun b_ => none
theorem eq_q114 (N_ : Nat) (S_q46 : TS_q46) (S_q71 : TS_q71) (f_0 : Int) (f_1 : Int) (f_2 : Int) (cont_ : V → List Blk → Bool) : bodyV ⟨Tryz.prog, ofList [(210, (F_q46 S_q46)), (203, (F_q71 S_q71))], isref, N_⟩ (an_q114 N_ S_q46 S_q71) 199 (shF_q114.args [.int f_0, .int f_1, .int f_2]) [] cont_ = G_q114 N_ S_q46 S_q71 f_0 f_1 f_2 (fun r0 => cont_ (.int .u64 r0) []) := by kernel_rfl
theorem good_q114 (N_ : Nat) (S_q46 : TS_q46) (S_q71 : TS_q71) (h_v_anatomy_format_infinite : GoodF Tryz.prog 210 (F_q46 S_q46)) (h_v_anatomy_format_hidden : GoodF Tryz.prog 203 (F_q71 S_q71)) : GoodF Tryz.prog 199 (F_q114 (G_q114 N_ S_q46 S_q71)) := by
  refine good_fs (cx := ⟨Tryz.prog, ofList [(210, (F_q46 S_q46)), (203, (F_q71 S_q71))], isref, N_⟩) (ofList_cons h_v_anatomy_format_infinite (ofList_cons h_v_anatomy_format_hidden (ofList_nil _))) shF_q114 (sp_q114 (G_q114 N_ S_q46 S_q71)) (an_q114 N_ S_q46 S_q71) 0 0 (by kernel_rfl) (fun i_ hi_ => by omega) ?_
  intro a k h
  unfold sp_q114 at h
  split at h
  · exact ⟨[], rfl, rfl, (eq_q114 _ _ _ _ _ _ _).trans h⟩
  · cases h

def an_q12 (N_ : Nat) (S_q42 : TS_q42) (S_q114 : TS_q114) : Nat → Option Ann := fun b_ => none
theorem eq_q12 (N_ : Nat) (S_q42 : TS_q42) (S_q114 : TS_q114) (b : Int) (f_0 : Int) (f_1 : Int) (f_2 : Int) (cont_ : V → List Blk → Bool) : bodyV ⟨Tryz.prog, ofList [(198, (F_q42 S_q42)), (199, (F_q114 S_q114))], isref, N_⟩ (an_q12 N_ S_q42 S_q114) 173 (shF_q12.args [.int b, .int f_0, .int f_1, .int f_2]) [] cont_ = G_q12 N_ S_q42 S_q114 b f_0 f_1 f_2 (fun r0 => cont_ (.int .u64 r0) []) := by kernel_rfl
theorem good_q12 (N_ : Nat) (S_q42 : TS_q42) (S_q114 : TS_q114) (h_anatomy_nan_uint64_ : GoodF Tryz.prog 198 (F_q42 S_q42)) (h_v_anatomy_format_none : GoodF Tryz.prog 199 (F_q114 S_q114)) : GoodF Tryz.prog 173 (F_q12 (G_q12 N_ S_q42 S_q114)) := by
  refine good_fs (cx := ⟨Tryz.prog, ofList [(198, (F_q42 S_q42)), (199, (F_q114 S_q114))], isref, N_⟩) (ofList_cons h_anatomy_nan_uint64_ (ofList_cons h_v_anatomy_format_none (ofList_nil _))) shF_q12 (sp_q12 (G_q12 N_ S_q42 S_q114)) (an_q12 N_ S_q42 S_q114) 0 0 (by kernel_rfl) (fun i_ hi_ => by omega) ?_
  intro a k h
  unfold sp_q12 at h
  split at h
  · exact ⟨[], rfl, rfl, (eq_q12 _ _ _ _ _ _ _ _).trans h⟩
  · cases h

def an_q28 (N_ : Nat) (S_q12 : TS_q12) (S_q103 : TS_q103) (S_q71 : TS_q71) : Nat → Option Ann := fun b_ => none
theorem eq_q28 (N_ : Nat) (S_q12 : TS_q12) (S_q103 : TS_q103) (S_q71 : TS_q71) (b : Int) (f_0 : Int) (f_1 : Int) (f_2 : Int) (cont_ : V → List Blk → Bool) : bodyV ⟨Tryz.prog, ofList [(173, (F_q12 S_q12)), (202, (F_q103 S_q103)), (203, (F_q71 S_q71))], isref, N_⟩ (an_q28 N_ S_q12 S_q103 S_q71) 189 (shF_q28.args [.int b, .int f_0, .int f_1, .int f_2]) [] cont_ = G_q28 N_ S_q12 S_q103 S_q71 b f_0 f_1 f_2 (fun r0 r1 r2 => cont_ (.tup [.bool r0, .int .i64 r1, .int .u64 r2]) []) := by kernel_rfl
theorem good_q28 (N_ : Nat) (S_q12 : TS_q12) (S_q103 : TS_q103) (S_q71 : TS_q71) (h_anatomy_canon_uint64_ : GoodF Tryz.prog 173 (F_q12 S_q12)) (h_v_anatomy_format_sign : GoodF Tryz.prog 202 (F_q103 S_q103)) (h_v_anatomy_format_hidden : GoodF Tryz.prog 203 (F_q71 S_q71)) : GoodF Tryz.prog 189 (F_q28 (G_q28 N_ S_q12 S_q103 S_q71)) := by
  refine good_fs (cx := ⟨Tryz.prog, ofList [(173, (F_q12 S_q12)), (202, (F_q103 S_q103)), (203, (F_q71 S_q71))], isref, N_⟩) (ofList_cons h_anatomy_canon_uint64_ (ofList_cons h_v_anatomy_format_sign (ofList_cons h_v_anatomy_format_hidden (ofList_nil _)))) shF_q28 (sp_q28 (G_q28 N_ S_q12 S_q103 S_q71)) (an_q28 N_ S_q12 S_q103 S_q71) 0 0 (by kernel_rfl) (fun i_ hi_ => by omega) ?_
  intro a k h
  unfold sp_q28 at h
  split at h
  · exact ⟨[], rfl, rfl, (eq_q28 _ _ _ _ _ _ _ _ _).trans h⟩
  · cases h

def an_q27 (N_ : Nat) (S_q28 : TS_q28) : Nat → Option Ann := fun b_ => none
theorem eq_q27 (N_ : Nat) (S_q28 : TS_q28) (b : Int) (f_0 : Int) (f_1 : Int) (f_2 : Int) (cont_ : V → List Blk → Bool) : bodyV ⟨Tryz.prog, ofList [(189, (F_q28 S_q28))], isref, N_⟩ (an_q27 N_ S_q28) 160 (shF_q27.args [.int b, .int f_0, .int f_1, .int f_2]) [] cont_ = G_q27 N_ S_q28 b f_0 f_1 f_2 (fun r0 => cont_ (.int .i64 r0) []) := by kernel_rfl
theorem good_q27 (N_ : Nat) (S_q28 : TS_q28) (h_anatomy_split_uint64_ : GoodF Tryz.prog 189 (F_q28 S_q28)) : GoodF Tryz.prog 160 (F_q27 (G_q27 N_ S_q28)) := by
  refine good_fs (cx := ⟨Tryz.prog, ofList [(189, (F_q28 S_q28))], isref, N_⟩) (ofList_cons h_anatomy_split_uint64_ (ofList_nil _)) shF_q27 (sp_q27 (G_q27 N_ S_q28)) (an_q27 N_ S_q28) 0 0 (by kernel_rfl) (fun i_ hi_ => by omega) ?_
  intro a k h
  unfold sp_q27 at h
  split at h
  · exact ⟨[], rfl, rfl, (eq_q27 _ _ _ _ _ _ _).trans h⟩
  · cases h

def an_q106 (N_ : Nat) (S_q78 : TS_q78) (S_an_of : TS_an_of) (S_q27 : TS_q27) : Nat → Option Ann := fun b_ => none
theorem eq_q106 (N_ : Nat) (S_q78 : TS_q78) (S_an_of : TS_an_of) (S_q27 : TS_q27) (x : Nat) (cont_ : V → List Blk → Bool) : bodyV ⟨Tryz.prog, ofList [(74, (F_q78 S_q78)), (161, (F_an_of S_an_of)), (160, (F_q27 S_q27))], isref, N_⟩ (an_q106 N_ S_q78 S_an_of S_q27) 118 (shF_q106.args [.nat x]) [] cont_ = G_q106 N_ S_q78 S_an_of S_q27 x (fun r0 => cont_ (.int .i64 r0) []) := by kernel_rfl
theorem good_q106 (N_ : Nat) (S_q78 : TS_q78) (S_an_of : TS_an_of) (S_q27 : TS_q27) (h_math_Float64bits_b : GoodF Tryz.prog 74 (F_q78 S_q78)) (h_anatomy_of : GoodF Tryz.prog 161 (F_an_of S_an_of)) (h_anatomy_class_uint64_ : GoodF Tryz.prog 160 (F_q27 S_q27)) : GoodF Tryz.prog 118 (F_q106 (G_q106 N_ S_q78 S_an_of S_q27)) := by
  refine good_fs (cx := ⟨Tryz.prog, ofList [(74, (F_q78 S_q78)), (161, (F_an_of S_an_of)), (160, (F_q27 S_q27))], isref, N_⟩) (ofList_cons h_math_Float64bits_b (ofList_cons h_anatomy_of (ofList_cons h_anatomy_class_uint64_ (ofList_nil _)))) shF_q106 (sp_q106 (G_q106 N_ S_q78 S_an_of S_q27)) (an_q106 N_ S_q78 S_an_of S_q27) 0 0 (by kernel_rfl) (fun i_ hi_ => by omega) ?_
  intro a k h
  unfold sp_q106 at h
  split at h
  · exact ⟨[], rfl, rfl, (eq_q106 _ _ _ _ _ _).trans h⟩
  · cases h

def an_q113 (N_ : Nat) (S_q78 : TS_q78) (S_an_of : TS_an_of) (S_q12 : TS_q12) : Nat → Option Ann := fun b_ => none
theorem eq_q113 (N_ : Nat) (S_q78 : TS_q78) (S_an_of : TS_an_of) (S_q12 : TS_q12) (a : Nat) (b : Nat) (cont_ : V → List Blk → Bool) : bodyV ⟨Tryz.prog, ofList [(74, (F_q78 S_q78)), (161, (F_an_of S_an_of)), (173, (F_q12 S_q12))], isref, N_⟩ (an_q113 N_ S_q78 S_an_of S_q12) 137 (shF_q113.args [.nat a, .nat b]) [] cont_ = G_q113 N_ S_q78 S_an_of S_q12 a b (fun r0 => cont_ (.bool r0) []) := by kernel_rfl
theorem good_q113 (N_ : Nat) (S_q78 : TS_q78) (S_an_of : TS_an_of) (S_q12 : TS_q12) (h_math_Float64bits_b : GoodF Tryz.prog 74 (F_q78 S_q78)) (h_anatomy_of : GoodF Tryz.prog 161 (F_an_of S_an_of)) (h_anatomy_canon_uint64_ : GoodF Tryz.prog 173 (F_q12 S_q12)) : GoodF Tryz.prog 137 (F_q113 (G_q113 N_ S_q78 S_an_of S_q12)) := by
  refine good_fs (cx := ⟨Tryz.prog, ofList [(74, (F_q78 S_q78)), (161, (F_an_of S_an_of)), (173, (F_q12 S_q12))], isref, N_⟩) (ofList_cons h_math_Float64bits_b (ofList_cons h_anatomy_of (ofList_cons h_anatomy_canon_uint64_ (ofList_nil _)))) shF_q113 (sp_q113 (G_q113 N_ S_q78 S_an_of S_q12)) (an_q113 N_ S_q78 S_an_of S_q12) 0 0 (by kernel_rfl) (fun i_ hi_ => by omega) ?_
  intro a k h
  unfold sp_q113 at h
  split at h
  · exact ⟨[], rfl, rfl, (eq_q113 _ _ _ _ _ _ _).trans h⟩
  · cases h


def an_q120 (N_ : Nat) (S_q78 : TS_q78) (S_q39 : TS_q39) : Nat → Option Ann := fun b_ => none
theorem eq_q120 (N_ : Nat) (S_q78 : TS_q78) (S_q39 : TS_q39) (x : Nat) (cont_ : V → List Blk → Bool) : bodyV ⟨Tryz.prog, ofList [(74, (F_q78 S_q78)), (67, (F_q39 S_q39))], isref, N_⟩ (an_q120 N_ S_q78 S_q39) 122 (shF_q120.args [.nat x]) [] cont_ = G_q120 N_ S_q78 S_q39 x (fun r0 => cont_ (.flt r0) []) := by kernel_rfl
theorem good_q120 (N_ : Nat) (S_q78 : TS_q78) (S_q39 : TS_q39) (h_math_Float64bits_b : GoodF Tryz.prog 74 (F_q78 S_q78)) (h_math_Float64frombits : GoodF Tryz.prog 67 (F_q39 S_q39)) : GoodF Tryz.prog 122 (F_q120 (G_q120 N_ S_q78 S_q39)) := by
  refine good_fs (cx := ⟨Tryz.prog, ofList [(74, (F_q78 S_q78)), (67, (F_q39 S_q39))], isref, N_⟩) (ofList_cons h_math_Float64bits_b (ofList_cons h_math_Float64frombits (ofList_nil _))) shF_q120 (sp_q120 (G_q120 N_ S_q78 S_q39)) (an_q120 N_ S_q78 S_q39) 0 0 (by kernel_rfl) (fun i_ hi_ => by omega) ?_
  intro a k h
  unfold sp_q120 at h
  split at h
  · exact ⟨[], rfl, rfl, (eq_q120 _ _ _ _ _).trans h⟩
  · cases h

def an_zl_f (N_ : Nat) (S_q39 : TS_q39) : Nat → Option Ann := fun b_ => none
theorem eq_zl_f (N_ : Nat) (S_q39 : TS_q39) (b : Int) (cont_ : V → List Blk → Bool) : bodyV ⟨Tryz.prog, ofList [(67, (F_q39 S_q39))], isref, N_⟩ (an_zl_f N_ S_q39) 24 (shF_zl_f.args [.int b]) [] cont_ = G_zl_f N_ S_q39 b (fun r0 => cont_ (.flt r0) []) := by kernel_rfl
theorem good_zl_f (N_ : Nat) (S_q39 : TS_q39) (h_math_Float64frombits : GoodF Tryz.prog 67 (F_q39 S_q39)) : GoodF Tryz.prog 24 (F_zl_f (G_zl_f N_ S_q39)) := by
  refine good_fs (cx := ⟨Tryz.prog, ofList [(67, (F_q39 S_q39))], isref, N_⟩) (ofList_cons h_math_Float64frombits (ofList_nil _)) shF_zl_f (sp_zl_f (G_zl_f N_ S_q39)) (an_zl_f N_ S_q39) 0 0 (by kernel_rfl) (fun i_ hi_ => by omega) ?_
  intro a k h
  unfold sp_zl_f at h
  split at h
  · exact ⟨[], rfl, rfl, (eq_zl_f _ _ _ _).trans h⟩
  · cases h

def an_q117 (N_ : Nat) (S_zl_f : TS_zl_f) : Nat → Option Ann := fun b_ => none
theorem eq_q117 (N_ : Nat) (S_zl_f : TS_zl_f) (b_0 : Int) (b_1 : Int) (b_2 : Int) (cont_ : V → List Blk → Bool) : bodyV ⟨Tryz.prog, ofList [(24, (F_zl_f S_zl_f))], isref, N_⟩ (an_q117 N_ S_zl_f) 6 (shF_q117.args [.int b_0, .int b_1, .int b_2]) [] cont_ = G_q117 N_ S_zl_f b_0 b_1 b_2 (fun r0 r1 r2 => cont_ (.agg [.flt r0, .flt r1, .flt r2]) []) := by kernel_rfl
theorem good_q117 (N_ : Nat) (S_zl_f : TS_zl_f) (h_binnaclelaw25_f : GoodF Tryz.prog 24 (F_zl_f S_zl_f)) : GoodF Tryz.prog 6 (F_q117 (G_q117 N_ S_zl_f)) := by
  refine good_fs (cx := ⟨Tryz.prog, ofList [(24, (F_zl_f S_zl_f))], isref, N_⟩) (ofList_cons h_binnaclelaw25_f (ofList_nil _)) shF_q117 (sp_q117 (G_q117 N_ S_zl_f)) (an_q117 N_ S_zl_f) 0 0 (by kernel_rfl) (fun i_ hi_ => by omega) ?_
  intro a k h
  unfold sp_q117 at h
  split at h
  · exact ⟨[], rfl, rfl, (eq_q117 _ _ _ _ _ _).trans h⟩
  · cases h


def sh_st_anatomy_Finite_0 : StSh := ⟨[.any, .any, .any, .any, .any, .any, .rof, .int .i64, .int .i64, .any, .any, .any, .any, .any, .any, .any, .any, .any, .any, .any, .any], []⟩
def sx0_st_anatomy_Finite_0 : StSh := ⟨[.any, .any, .bool, .any, .any, .any, .any, .any, .any, .any, .any, .any, .any, .any, .any, .any, .any, .any, .any, .any, .any], []⟩
def sx1_st_anatomy_Finite_0 : StSh := ⟨[.any, .any, .any, .any, .any, .any, .any, .any, .any, .any, .any, .any, .any, .any, .any, .any, .any, .any, .any, .any, .any], []⟩
def hk_st_anatomy_Finite_0 (N_ : Nat) (S_q88 : TS_q88) : List Atom → K → Bool := fun a_ κ => match a_ with
  | [.fls t6, .int t7, .int t8] => iterG N_ (st_an_Finite_0 N_ S_q88 t6 t7 (fun r0 => κ.ret (sx0_st_anatomy_Finite_0.build [.bool r0])) (κ.ext 0 (sx1_st_anatomy_Finite_0.build []))) t8
  | _ => false
def an_q14 (N_ : Nat) (S_q88 : TS_q88) : Nat → Option Ann := fun b_ => cond (b_ == 0) (some ⟨⟨[6, 7, 8], []⟩, [(0, ⟨[], []⟩)], some ⟨[2], []⟩, some (mkHooks [(sh_st_anatomy_Finite_0, hk_st_anatomy_Finite_0 N_ S_q88)])⟩) (none)
theorem eq_st_anatomy_Finite_0 (N_ : Nat) (S_q88 : TS_q88) (κ : K) (t6 : List Fl) (t7 : Int) (t8 : Int) : iter N_ (fun s k => codeV ⟨Tryz.prog, ofList [(118, (F_q88 S_q88))], isref, N_⟩ 0 (an_q14 N_ S_q88) (lp Tryz.prog 59 0).2 (lp Tryz.prog 59 0).1 s (roundK Tryz.prog 0 ((an_q14 N_ S_q88) (lp Tryz.prog 59 0).1) κ k)) (sh_st_anatomy_Finite_0.build [.fls t6, .int t7, .int t8]) = iterG N_ (st_an_Finite_0 N_ S_q88 t6 t7 (fun r0 => κ.ret (sx0_st_anatomy_Finite_0.build [.bool r0])) (κ.ext 0 (sx1_st_anatomy_Finite_0.build []))) t8 :=
  iter_tr (fun (v_ : Int) => sh_st_anatomy_Finite_0.build [.fls t6, .int t7, .int v_]) (fun v_ K_ => by kernel_rfl) N_ t8
theorem hk1_st_anatomy_Finite_0 (N_ : Nat) (S_q88 : TS_q88) : HookFor ⟨Tryz.prog, ofList [(118, (F_q88 S_q88))], isref, N_⟩ 0 (an_q14 N_ S_q88) (lp Tryz.prog 59 0) (sh_st_anatomy_Finite_0, hk_st_anatomy_Finite_0 N_ S_q88) := by
  intro a κ h
  simp only at h
  unfold hk_st_anatomy_Finite_0 at h
  split at h
  · exact (eq_st_anatomy_Finite_0 _ _ _ _ _ _).trans h
  · cases h
theorem ho_anatomy_Finite_0 (N_ : Nat) (S_q88 : TS_q88) : HookOk ⟨Tryz.prog, ofList [(118, (F_q88 S_q88))], isref, N_⟩ 0 (an_q14 N_ S_q88) (lp Tryz.prog 59 0) :=
  hooks_ok [(sh_st_anatomy_Finite_0, hk_st_anatomy_Finite_0 N_ S_q88)] (by kernel_rfl) ⟨hk1_st_anatomy_Finite_0 _ _, trivial⟩
theorem eq_q14 (N_ : Nat) (S_q88 : TS_q88) (l : List Fl) (cont_ : V → List Blk → Bool) : bodyV ⟨Tryz.prog, ofList [(118, (F_q88 S_q88))], isref, N_⟩ (an_q14 N_ S_q88) 59 (shF_q14.args [.fls l]) [] cont_ = G_q14 N_ S_q88 l (fun r0 => cont_ (.bool r0) []) := by kernel_rfl
theorem good_q14 (N_ : Nat) (S_q88 : TS_q88) (h_anatomy_Class : GoodF Tryz.prog 118 (F_q88 S_q88)) : GoodF Tryz.prog 59 (F_q14 (G_q14 N_ S_q88)) := by
  refine good_fs (cx := ⟨Tryz.prog, ofList [(118, (F_q88 S_q88))], isref, N_⟩) (ofList_cons h_anatomy_Class (ofList_nil _)) shF_q14 (sp_q14 (G_q14 N_ S_q88)) (an_q14 N_ S_q88) 1 0 (by kernel_rfl) (fun i_ hi_ => by
    match i_, hi_ with
    | 0, _ => exact ho_anatomy_Finite_0 _ _
    | (q + 1), h => omega) ?_
  intro a k h
  unfold sp_q14 at h
  split at h
  · exact ⟨[], rfl, rfl, (eq_q14 _ _ _ _).trans h⟩
  · cases h

def an_q26 (N_ : Nat) (S_q14 : TS_q14) : Nat → Option Ann := fun b_ => none
theorem eq_q26 (N_ : Nat) (S_q14 : TS_q14) (v_0 : Fl) (v_1 : Fl) (v_2 : Fl) (cont_ : V → List Blk → Bool) : bodyV ⟨Tryz.prog, ofList [(59, (F_q14 S_q14))], isref, N_⟩ (an_q26 N_ S_q14) 18 (shF_q26.args [.fl v_0, .fl v_1, .fl v_2]) [] cont_ = G_q26 N_ S_q14 v_0 v_1 v_2 (fun r0 => cont_ (.int .i64 r0) []) := by kernel_rfl
theorem good_q26 (N_ : Nat) (S_q14 : TS_q14) (h_anatomy_Finite : GoodF Tryz.prog 59 (F_q14 S_q14)) : GoodF Tryz.prog 18 (F_q26 (G_q26 N_ S_q14)) := by
  refine good_fs (cx := ⟨Tryz.prog, ofList [(59, (F_q14 S_q14))], isref, N_⟩) (ofList_cons h_anatomy_Finite (ofList_nil _)) shF_q26 (sp_q26 (G_q26 N_ S_q14)) (an_q26 N_ S_q14) 0 0 (by kernel_rfl) (fun i_ hi_ => by omega) ?_
  intro a k h
  unfold sp_q26 at h
  split at h
  · exact ⟨[], rfl, rfl, (eq_q26 _ _ _ _ _ _).trans h⟩
  · cases h

def an_qr_list (N_ : Nat) (S_q14 : TS_q14) : Nat → Option Ann := fun b_ => none
theorem eq_qr_list (N_ : Nat) (S_q14 : TS_q14) (x : List Fl) (cont_ : V → List Blk → Bool) : bodyV ⟨Tryz.prog, ofList [(59, (F_q14 S_q14))], isref, N_⟩ (an_qr_list N_ S_q14) 162 (shF_qr_list.args [.fls x]) [] cont_ = G_qr_list N_ S_q14 x (fun r0 => cont_ (.int .i64 r0) []) := by kernel_rfl
theorem good_qr_list (N_ : Nat) (S_q14 : TS_q14) (h_anatomy_Finite : GoodF Tryz.prog 59 (F_q14 S_q14)) : GoodF Tryz.prog 162 (F_qr_list (G_qr_list N_ S_q14)) := by
  refine good_fs (cx := ⟨Tryz.prog, ofList [(59, (F_q14 S_q14))], isref, N_⟩) (ofList_cons h_anatomy_Finite (ofList_nil _)) shF_qr_list (sp_qr_list (G_qr_list N_ S_q14)) (an_qr_list N_ S_q14) 0 0 (by kernel_rfl) (fun i_ hi_ => by omega) ?_
  intro a k h
  unfold sp_qr_list at h
  split at h
  · exact ⟨[], rfl, rfl, (eq_qr_list _ _ _ _).trans h⟩
  · cases h


def an_q64 (N_ : Nat) (S_m_Abs : TS_m_Abs) : Nat → Option Ann := fun b_ => none
theorem eq_q64 (N_ : Nat) (S_m_Abs : TS_m_Abs) (f : Fl) (sign : Int) (cont_ : V → List Blk → Bool) : bodyV ⟨Tryz.prog, ofList [(122, (F_m_Abs S_m_Abs))], isref, N_⟩ (an_q64 N_ S_m_Abs) 62 (shF_q64.args [.fl f, .int sign]) [] cont_ = G_q64 N_ S_m_Abs f sign (fun r0 => cont_ (.bool r0) []) := by kernel_rfl
theorem good_q64 (N_ : Nat) (S_m_Abs : TS_m_Abs) (h_math_Abs : GoodF Tryz.prog 122 (F_m_Abs S_m_Abs)) : GoodF Tryz.prog 62 (F_q64 (G_q64 N_ S_m_Abs)) := by
  refine good_fs (cx := ⟨Tryz.prog, ofList [(122, (F_m_Abs S_m_Abs))], isref, N_⟩) (ofList_cons h_math_Abs (ofList_nil _)) shF_q64 (sp_q64 (G_q64 N_ S_m_Abs)) (an_q64 N_ S_m_Abs) 0 0 (by kernel_rfl) (fun i_ hi_ => by omega) ?_
  intro a k h
  unfold sp_q64 at h
  split at h
  · exact ⟨[], rfl, rfl, (eq_q64 _ _ _ _ _).trans h⟩
  · cases h

def an_q84 (N_ : Nat) : Nat → Option Ann := fun b_ => none
theorem eq_q84 (N_ : Nat) (f : Fl) (cont_ : V → List Blk → Bool) : bodyV ⟨Tryz.prog, ofList [], isref, N_⟩ (an_q84 N_) 190 (shF_q84.args [.fl f]) [] cont_ = G_q84 N_ f (fun r0 => cont_ (.bool r0) []) := by kernel_rfl
theorem good_q84 (N_ : Nat) : GoodF Tryz.prog 190 (F_q84 (G_q84 N_)) := by
  refine good_fs (cx := ⟨Tryz.prog, ofList [], isref, N_⟩) (ofList_nil _) shF_q84 (sp_q84 (G_q84 N_)) (an_q84 N_) 0 0 (by kernel_rfl) (fun i_ hi_ => by omega) ?_
  intro a k h
  unfold sp_q84 at h
  split at h
  · exact ⟨[], rfl, rfl, (eq_q84 _ _ _).trans h⟩
  · cases h

def an_q22 (N_ : Nat) (S_m_Abs : TS_m_Abs) : Nat → Option Ann := fun b_ => none
theorem eq_q22 (N_ : Nat) (S_m_Abs : TS_m_Abs) (x : Fl) (cont_ : V → List Blk → Bool) : bodyV ⟨Tryz.prog, ofList [(122, (F_m_Abs S_m_Abs))], isref, N_⟩ (an_q22 N_ S_m_Abs) 191 (shF_q22.args [.fl x]) [] cont_ = G_q22 N_ S_m_Abs x (fun r0 r1 => cont_ (.tup [.flt r0, .int .i64 r1]) []) := by kernel_rfl
theorem good_q22 (N_ : Nat) (S_m_Abs : TS_m_Abs) (h_math_Abs : GoodF Tryz.prog 122 (F_m_Abs S_m_Abs)) : GoodF Tryz.prog 191 (F_q22 (G_q22 N_ S_m_Abs)) := by
  refine good_fs (cx := ⟨Tryz.prog, ofList [(122, (F_m_Abs S_m_Abs))], isref, N_⟩) (ofList_cons h_math_Abs (ofList_nil _)) shF_q22 (sp_q22 (G_q22 N_ S_m_Abs)) (an_q22 N_ S_m_Abs) 0 0 (by kernel_rfl) (fun i_ hi_ => by omega) ?_
  intro a k h
  unfold sp_q22 at h
  split at h
  · exact ⟨[], rfl, rfl, (eq_q22 _ _ _ _).trans h⟩
  · cases h


def an_q115 (N_ : Nat) (S_q64 : TS_q64) (S_q84 : TS_q84) (S_q22 : TS_q22) (S_q48 : TS_q48) (S_q39 : TS_q39) : Nat → Option Ann := fun b_ => none
theorem eq_q115 (N_ : Nat) (S_q64 : TS_q64) (S_q84 : TS_q84) (S_q22 : TS_q22) (S_q48 : TS_q48) (S_q39 : TS_q39) (f : Fl) (cont_ : V → List Blk → Bool) : bodyV ⟨Tryz.prog, ofList [(62, (F_q64 S_q64)), (190, (F_q84 S_q84)), (191, (F_q22 S_q22)), (74, (F_q48 S_q48)), (67, (F_q39 S_q39))], isref, N_⟩ (an_q115 N_ S_q64 S_q84 S_q22 S_q48 S_q39) 165 (shF_q115.args [.fl f]) [] cont_ = G_q115 N_ S_q64 S_q84 S_q22 S_q48 S_q39 f (fun r0 r1 => cont_ (.tup [.flt r0, .int .i64 r1]) []) := by kernel_rfl
theorem good_q115 (N_ : Nat) (S_q64 : TS_q64) (S_q84 : TS_q84) (S_q22 : TS_q22) (S_q48 : TS_q48) (S_q39 : TS_q39) (h_math_IsInf : GoodF Tryz.prog 62 (F_q64 S_q64)) (h_math_IsNaN : GoodF Tryz.prog 190 (F_q84 S_q84)) (h_math_normalize : GoodF Tryz.prog 191 (F_q22 S_q22)) (h_math_Float64bits : GoodF Tryz.prog 74 (F_q48 S_q48)) (h_math_Float64frombits : GoodF Tryz.prog 67 (F_q39 S_q39)) : GoodF Tryz.prog 165 (F_q115 (G_q115 N_ S_q64 S_q84 S_q22 S_q48 S_q39)) := by
  refine good_fs (cx := ⟨Tryz.prog, ofList [(62, (F_q64 S_q64)), (190, (F_q84 S_q84)), (191, (F_q22 S_q22)), (74, (F_q48 S_q48)), (67, (F_q39 S_q39))], isref, N_⟩) (ofList_cons h_math_IsInf (ofList_cons h_math_IsNaN (ofList_cons h_math_normalize (ofList_cons h_math_Float64bits (ofList_cons h_math_Float64frombits (ofList_nil _)))))) shF_q115 (sp_q115 (G_q115 N_ S_q64 S_q84 S_q22 S_q48 S_q39)) (an_q115 N_ S_q64 S_q84 S_q22 S_q48 S_q39) 0 0 (by kernel_rfl) (fun i_ hi_ => by omega) ?_
  intro a k h
  unfold sp_q115 at h
  split at h
  · exact ⟨[], rfl, rfl, (eq_q115 _ _ _ _ _ _ _ _).trans h⟩
  · cases h

def an_q41 (N_ : Nat) (S_q115 : TS_q115) : Nat → Option Ann := fun b_ => none
theorem eq_q41 (N_ : Nat) (S_q115 : TS_q115) (f : Fl) (cont_ : V → List Blk → Bool) : bodyV ⟨Tryz.prog, ofList [(165, (F_q115 S_q115))], isref, N_⟩ (an_q41 N_ S_q115) 125 (shF_q41.args [.fl f]) [] cont_ = G_q41 N_ S_q115 f (fun r0 r1 => cont_ (.tup [.flt r0, .int .i64 r1]) []) := by kernel_rfl
theorem good_q41 (N_ : Nat) (S_q115 : TS_q115) (h_math_frexp : GoodF Tryz.prog 165 (F_q115 S_q115)) : GoodF Tryz.prog 125 (F_q41 (G_q41 N_ S_q115)) := by
  refine good_fs (cx := ⟨Tryz.prog, ofList [(165, (F_q115 S_q115))], isref, N_⟩) (ofList_cons h_math_frexp (ofList_nil _)) shF_q41 (sp_q41 (G_q41 N_ S_q115)) (an_q41 N_ S_q115) 0 0 (by kernel_rfl) (fun i_ hi_ => by omega) ?_
  intro a k h
  unfold sp_q41 at h
  split at h
  · exact ⟨[], rfl, rfl, (eq_q41 _ _ _ _).trans h⟩
  · cases h

def sh_st_qr_power_0 : StSh := ⟨[.rof, .any, .any, .any, .flt, .any, .any, .any, .any, .int .i64, .int .i64, .any, .any, .any, .any, .any, .any, .any, .any, .any, .any, .any, .any, .any, .any, .any, .any, .any, .any, .any], []⟩
def sx0_st_qr_power_0 : StSh := ⟨[.any, .any, .any, .any, .flt, .any, .any, .any, .any, .any, .any, .any, .any, .any, .any, .any, .any, .any, .any, .any, .any, .any, .any, .any, .any, .any, .any, .any, .any, .any], []⟩
def hk_st_qr_power_0 (N_ : Nat) (S_m_Abs : TS_m_Abs) (S_q41 : TS_q41) : List Atom → K → Bool := fun a_ κ => match a_ with
  | [.fls x_1, .fl most, .int t9, .int t10] => iterG N_ (st_qr_power_0 N_ S_m_Abs S_q41 x_1 t9 (fun r0 => κ.ext 0 (sx0_st_qr_power_0.build [.fl r0]))) (most, t10)
  | _ => false
def an_qr_power (N_ : Nat) (S_m_Abs : TS_m_Abs) (S_q41 : TS_q41) : Nat → Option Ann := fun b_ => cond (b_ == 0) (some ⟨⟨[0, 4, 9, 10], []⟩, [(0, ⟨[4], []⟩)], some ⟨[2, 3], []⟩, some (mkHooks [(sh_st_qr_power_0, hk_st_qr_power_0 N_ S_m_Abs S_q41)])⟩) (none)
theorem eq_st_qr_power_0 (N_ : Nat) (S_m_Abs : TS_m_Abs) (S_q41 : TS_q41) (κ : K) (x_1 : List Fl) (most : Fl) (t9 : Int) (t10 : Int) : iter N_ (fun s k => codeV ⟨Tryz.prog, ofList [(122, (F_m_Abs S_m_Abs)), (125, (F_q41 S_q41))], isref, N_⟩ 0 (an_qr_power N_ S_m_Abs S_q41) (lp Tryz.prog 142 0).2 (lp Tryz.prog 142 0).1 s (roundK Tryz.prog 0 ((an_qr_power N_ S_m_Abs S_q41) (lp Tryz.prog 142 0).1) κ k)) (sh_st_qr_power_0.build [.fls x_1, .fl most, .int t9, .int t10]) = iterG N_ (st_qr_power_0 N_ S_m_Abs S_q41 x_1 t9 (fun r0 => κ.ext 0 (sx0_st_qr_power_0.build [.fl r0]))) (most, t10) :=
  iter_tr (fun (v_ : Fl × Int) => sh_st_qr_power_0.build [.fls x_1, .fl v_.1, .int t9, .int v_.2]) (fun v_ K_ => by obtain ⟨most, t10⟩ := v_; kernel_rfl) N_ (most, t10)
theorem hk1_st_qr_power_0 (N_ : Nat) (S_m_Abs : TS_m_Abs) (S_q41 : TS_q41) : HookFor ⟨Tryz.prog, ofList [(122, (F_m_Abs S_m_Abs)), (125, (F_q41 S_q41))], isref, N_⟩ 0 (an_qr_power N_ S_m_Abs S_q41) (lp Tryz.prog 142 0) (sh_st_qr_power_0, hk_st_qr_power_0 N_ S_m_Abs S_q41) := by
  intro a κ h
  simp only at h
  unfold hk_st_qr_power_0 at h
  split at h
  · exact (eq_st_qr_power_0 _ _ _ _ _ _ _ _).trans h
  · cases h
theorem ho_qr_power_0 (N_ : Nat) (S_m_Abs : TS_m_Abs) (S_q41 : TS_q41) : HookOk ⟨Tryz.prog, ofList [(122, (F_m_Abs S_m_Abs)), (125, (F_q41 S_q41))], isref, N_⟩ 0 (an_qr_power N_ S_m_Abs S_q41) (lp Tryz.prog 142 0) :=
  hooks_ok [(sh_st_qr_power_0, hk_st_qr_power_0 N_ S_m_Abs S_q41)] (by kernel_rfl) ⟨hk1_st_qr_power_0 _ _ _, trivial⟩
theorem eq_qr_power (N_ : Nat) (S_m_Abs : TS_m_Abs) (S_q41 : TS_q41) (x : List Fl) (cont_ : V → List Blk → Bool) : bodyV ⟨Tryz.prog, ofList [(122, (F_m_Abs S_m_Abs)), (125, (F_q41 S_q41))], isref, N_⟩ (an_qr_power N_ S_m_Abs S_q41) 142 (shF_qr_power.args [.fls x]) [] cont_ = G_qr_power N_ S_m_Abs S_q41 x (fun r0 r1 => cont_ (.tup [.int .i64 r0, .bool r1]) []) := by kernel_rfl
theorem good_qr_power (N_ : Nat) (S_m_Abs : TS_m_Abs) (S_q41 : TS_q41) (h_math_Abs : GoodF Tryz.prog 122 (F_m_Abs S_m_Abs)) (h_math_Frexp : GoodF Tryz.prog 125 (F_q41 S_q41)) : GoodF Tryz.prog 142 (F_qr_power (G_qr_power N_ S_m_Abs S_q41)) := by
  refine good_fs (cx := ⟨Tryz.prog, ofList [(122, (F_m_Abs S_m_Abs)), (125, (F_q41 S_q41))], isref, N_⟩) (ofList_cons h_math_Abs (ofList_cons h_math_Frexp (ofList_nil _))) shF_qr_power (sp_qr_power (G_qr_power N_ S_m_Abs S_q41)) (an_qr_power N_ S_m_Abs S_q41) 1 0 (by kernel_rfl) (fun i_ hi_ => by
    match i_, hi_ with
    | 0, _ => exact ho_qr_power_0 _ _ _
    | (q + 1), h => omega) ?_
  intro a k h
  unfold sp_qr_power at h
  split at h
  · exact ⟨[], rfl, rfl, (eq_qr_power _ _ _ _ _).trans h⟩
  · cases h

def an_q58 (N_ : Nat) (S_q48 : TS_q48) (S_q39 : TS_q39) : Nat → Option Ann := fun b_ => none
theorem eq_q58 (N_ : Nat) (S_q48 : TS_q48) (S_q39 : TS_q39) (f : Fl) (sign : Fl) (cont_ : V → List Blk → Bool) : bodyV ⟨Tryz.prog, ofList [(74, (F_q48 S_q48)), (67, (F_q39 S_q39))], isref, N_⟩ (an_q58 N_ S_q48 S_q39) 192 (shF_q58.args [.fl f, .fl sign]) [] cont_ = G_q58 N_ S_q48 S_q39 f sign (fun r0 => cont_ (.flt r0) []) := by kernel_rfl
theorem good_q58 (N_ : Nat) (S_q48 : TS_q48) (S_q39 : TS_q39) (h_math_Float64bits : GoodF Tryz.prog 74 (F_q48 S_q48)) (h_math_Float64frombits : GoodF Tryz.prog 67 (F_q39 S_q39)) : GoodF Tryz.prog 192 (F_q58 (G_q58 N_ S_q48 S_q39)) := by
  refine good_fs (cx := ⟨Tryz.prog, ofList [(74, (F_q48 S_q48)), (67, (F_q39 S_q39))], isref, N_⟩) (ofList_cons h_math_Float64bits (ofList_cons h_math_Float64frombits (ofList_nil _))) shF_q58 (sp_q58 (G_q58 N_ S_q48 S_q39)) (an_q58 N_ S_q48 S_q39) 0 0 (by kernel_rfl) (fun i_ hi_ => by omega) ?_
  intro a k h
  unfold sp_q58 at h
  split at h
  · exact ⟨[], rfl, rfl, (eq_q58 _ _ _ _ _ _).trans h⟩
  · cases h

def an_m_Inf (N_ : Nat) (S_q39 : TS_q39) : Nat → Option Ann := fun b_ => none
def ls_m_Inf_0 (ds_ : List V) (ms_ : List (Option Blk)) (sign : Int) (v : Int) : St := ⟨(dqs ds_ 0 3 [.int .u64 v, (dq ds_ 3), (dq ds_ 4), (dq ds_ 5), (dq ds_ 6)]), []⟩
theorem jn_m_Inf_0 (N_ : Nat) (S_q39 : TS_q39) (ds_ : List V) (ms_ : List (Option Blk)) (sign : Int) (v : Int) (cont_ : V → List Blk → Bool) : codesV ⟨Tryz.prog, ofList [(67, (F_q39 S_q39))], isref, N_⟩ 0 (an_m_Inf N_ S_q39) ((cds Tryz.prog 193).drop 4) 0 (ls_m_Inf_0 ds_ ms_ sign v) (finV Tryz.prog 193 0 cont_) = J_m_Inf_0 N_ S_q39 sign v (fun r0 => cont_ (.flt r0) []) := by kernel_rfl
theorem hd_m_Inf_w (N_ : Nat) (S_q39 : TS_q39) (sign : Int) (cont_ : V → List Blk → Bool) (κn_ : St → Bool) : codesV ⟨Tryz.prog, ofList [(67, (F_q39 S_q39))], isref, N_⟩ 0 (an_m_Inf N_ S_q39) (sg Tryz.prog 193 0 4) 0 (st0 Tryz.prog 193 (shF_m_Inf.args [.int sign]) []) { (finV Tryz.prog 193 0 cont_) with nrm := κn_ } = (cond (decide (sign ≥ 0)) (κn_ (ls_m_Inf_0 [.int .i64 sign, .any, .flt (some 0), .int .i64 sign, .bool true, .any, .any] [] sign 9218868437227405312)) (κn_ (ls_m_Inf_0 [.int .i64 sign, .any, .flt (some 0), .int .i64 sign, .bool false, .any, .any] [] sign 18442240474082181120))) := by kernel_rfl
theorem jn_m_Inf_w (N_ : Nat) (S_q39 : TS_q39) (sign : Int) (cont_ : V → List Blk → Bool) : codesV ⟨Tryz.prog, ofList [(67, (F_q39 S_q39))], isref, N_⟩ 0 (an_m_Inf N_ S_q39) ((cds Tryz.prog 193).drop 0) 0 (st0 Tryz.prog 193 (shF_m_Inf.args [.int sign]) []) (finV Tryz.prog 193 0 cont_) = G_m_Inf N_ S_q39 sign (fun r0 => cont_ (.flt r0) []) := by
  rw [codesV_cut 0 4 4 rfl]
  refine (hd_m_Inf_w N_ S_q39 sign cont_ _).trans ?_
  simp only [jn_m_Inf_0]
  kernel_rfl
theorem eq_m_Inf (N_ : Nat) (S_q39 : TS_q39) (sign : Int) (cont_ : V → List Blk → Bool) : bodyV ⟨Tryz.prog, ofList [(67, (F_q39 S_q39))], isref, N_⟩ (an_m_Inf N_ S_q39) 193 (shF_m_Inf.args [.int sign]) [] cont_ = G_m_Inf N_ S_q39 sign (fun r0 => cont_ (.flt r0) []) :=
  (bodyV_codes (by kernel_rfl)).trans (jn_m_Inf_w N_ S_q39 sign cont_)
theorem good_m_Inf (N_ : Nat) (S_q39 : TS_q39) (h_math_Float64frombits : GoodF Tryz.prog 67 (F_q39 S_q39)) : GoodF Tryz.prog 193 (F_m_Inf (G_m_Inf N_ S_q39)) := by
  refine good_fs (cx := ⟨Tryz.prog, ofList [(67, (F_q39 S_q39))], isref, N_⟩) (ofList_cons h_math_Float64frombits (ofList_nil _)) shF_m_Inf (sp_m_Inf (G_m_Inf N_ S_q39)) (an_m_Inf N_ S_q39) 0 0 (by kernel_rfl) (fun i_ hi_ => by omega) ?_
  intro a k h
  unfold sp_m_Inf at h
  split at h
  · exact ⟨[], rfl, rfl, (eq_m_Inf _ _ _ _).trans h⟩
  · cases h

def an_q112 (N_ : Nat) (S_q64 : TS_q64) (S_q84 : TS_q84) (S_q22 : TS_q22) (S_q48 : TS_q48) (S_q58 : TS_q58) (S_m_Inf : TS_m_Inf) (S_q39 : TS_q39) : Nat → Option Ann := fun b_ => none
def ls_q143 (ds_ : List V) (ms_ : List (Option Blk)) (frac : Fl) (exp : Int) (exp_1 : Int) (x : Int) (m : Fl) : St := ⟨[(dq ds_ 0), .int .i64 exp_1, (dq ds_ 1), (dq ds_ 2), (dq ds_ 3), (dq ds_ 4), .int .u64 x, .flt m, (dq ds_ 5), (dq ds_ 6), (dq ds_ 7), (dq ds_ 8), (dq ds_ 9), (dq ds_ 10), (dq ds_ 11), (dq ds_ 12), (dq ds_ 13), (dq ds_ 14), (dq ds_ 15), (dq ds_ 16), (dq ds_ 17), (dq ds_ 18), (dq ds_ 19), (dq ds_ 20), (dq ds_ 21), (dq ds_ 22), (dq ds_ 23), (dq ds_ 24), (dq ds_ 25), (dq ds_ 26), (dq ds_ 27), (dq ds_ 28), (dq ds_ 29), (dq ds_ 30), (dq ds_ 31), (dq ds_ 32), (dq ds_ 33), (dq ds_ 34), (dq ds_ 35), (dq ds_ 36), (dq ds_ 37), (dq ds_ 38), (dq ds_ 39), (dq ds_ 40), (dq ds_ 41), (dq ds_ 42), (dq ds_ 43), (dq ds_ 44), (dq ds_ 45), (dq ds_ 46), (dq ds_ 47), (dq ds_ 48), (dq ds_ 49), (dq ds_ 50), (dq ds_ 51), (dq ds_ 52), (dq ds_ 53), (dq ds_ 54), (dq ds_ 55), (dq ds_ 56), (dq ds_ 57), (dq ds_ 58), (dq ds_ 59)], []⟩
theorem jn_q143 (N_ : Nat) (S_q64 : TS_q64) (S_q84 : TS_q84) (S_q22 : TS_q22) (S_q48 : TS_q48) (S_q58 : TS_q58) (S_m_Inf : TS_m_Inf) (S_q39 : TS_q39) (ds_ : List V) (ms_ : List (Option Blk)) (frac : Fl) (exp : Int) (exp_1 : Int) (x : Int) (m : Fl) (cont_ : V → List Blk → Bool) : codesV ⟨Tryz.prog, ofList [(62, (F_q64 S_q64)), (190, (F_q84 S_q84)), (191, (F_q22 S_q22)), (74, (F_q48 S_q48)), (192, (F_q58 S_q58)), (193, (F_m_Inf S_m_Inf)), (67, (F_q39 S_q39))], isref, N_⟩ 0 (an_q112 N_ S_q64 S_q84 S_q22 S_q48 S_q58 S_m_Inf S_q39) ((cds Tryz.prog 167).drop 13) 0 (ls_q143 ds_ ms_ frac exp exp_1 x m) (finV Tryz.prog 167 0 cont_) = J_q143 N_ S_q64 S_q84 S_q22 S_q48 S_q58 S_m_Inf S_q39 frac exp exp_1 x m (fun r0 => cont_ (.flt r0) []) := by kernel_rfl
theorem hd_m_ldexp_w (N_ : Nat) (S_q64 : TS_q64) (S_q84 : TS_q84) (S_q22 : TS_q22) (S_q48 : TS_q48) (S_q58 : TS_q58) (S_m_Inf : TS_m_Inf) (S_q39 : TS_q39) (frac : Fl) (exp : Int) (cont_ : V → List Blk → Bool) (κn_ : St → Bool) : codesV ⟨Tryz.prog, ofList [(62, (F_q64 S_q64)), (190, (F_q84 S_q84)), (191, (F_q22 S_q22)), (74, (F_q48 S_q48)), (192, (F_q58 S_q58)), (193, (F_m_Inf S_m_Inf)), (67, (F_q39 S_q39))], isref, N_⟩ 0 (an_q112 N_ S_q64 S_q84 S_q22 S_q48 S_q58 S_m_Inf S_q39) (sg Tryz.prog 167 0 13) 0 (st0 Tryz.prog 167 (shF_q112.args [.fl frac, .int exp]) []) { (finV Tryz.prog 167 0 cont_) with nrm := κn_ } = (cond (feq frac (some 0)) (cont_ (.flt frac) []) (S_q64 frac 0 (fun (cr : Bool) => (cond (cr == false) (S_q84 frac (fun (cr_1 : Bool) => (cond cr_1 (cont_ (.flt frac) []) (S_q22 frac (fun (xr : Fl) (nr : Int) => ((fits .i64 (exp + nr)) && (S_q48 xr (fun (nr_1 : Int) => ((fits .i64 (Int.fdiv nr_1 (2 ^ 52))) && ((fits .i64 ((bitsN .and .i64 (Int.fdiv nr_1 (2 ^ 52)) 2047) - 1023)) && ((fits .i64 ((exp + nr) + ((bitsN .and .i64 (Int.fdiv nr_1 (2 ^ 52)) 2047) - 1023))) && (cond (decide (((exp + nr) + ((bitsN .and .i64 (Int.fdiv nr_1 (2 ^ 52)) 2047) - 1023)) < (-1075))) (S_q58 (some 0) xr (fun (xr_1 : Fl) => (cont_ (.flt xr_1) []))) (cond (decide (((exp + nr) + ((bitsN .and .i64 (Int.fdiv nr_1 (2 ^ 52)) 2047) - 1023)) > 1023)) (cond (flt xr (some 0)) (S_m_Inf (-1) (fun (xr_2 : Fl) => (cont_ (.flt xr_2) []))) (S_m_Inf 1 (fun (xr_3 : Fl) => (cont_ (.flt xr_3) [])))) (cond (decide (((exp + nr) + ((bitsN .and .i64 (Int.fdiv nr_1 (2 ^ 52)) 2047) - 1023)) < (-1022))) ((fits .i64 (((exp + nr) + ((bitsN .and .i64 (Int.fdiv nr_1 (2 ^ 52)) 2047) - 1023)) + 53)) && (κn_ (ls_q143 [.flt xr, .any, .any, .flt (some 0), .int .i64 nr, .bool false, .flt frac, .bool (feq frac (some 0)), .any, .bool false, .flt frac, .bool cr, .bool false, .flt frac, .bool cr_1, .bool cr_1, .any, .tup [.flt xr, .int .i64 nr], .flt frac, .tup [.flt xr, .int .i64 nr], .flt xr, .int .i64 nr, .int .i64 exp, .int .i64 nr, .int .i64 (exp + nr), .flt xr, .int .u64 nr_1, .int .i64 (exp + nr), .int .u64 nr_1, .int .u64 (Int.fdiv nr_1 (2 ^ 52)), .int .i64 (Int.fdiv nr_1 (2 ^ 52)), .int .i64 (bitsN .and .i64 (Int.fdiv nr_1 (2 ^ 52)) 2047), .int .i64 ((bitsN .and .i64 (Int.fdiv nr_1 (2 ^ 52)) 2047) - 1023), .int .i64 ((exp + nr) + ((bitsN .and .i64 (Int.fdiv nr_1 (2 ^ 52)) 2047) - 1023)), .int .i64 ((exp + nr) + ((bitsN .and .i64 (Int.fdiv nr_1 (2 ^ 52)) 2047) - 1023)), .bool false, .any, .any, .int .i64 ((exp + nr) + ((bitsN .and .i64 (Int.fdiv nr_1 (2 ^ 52)) 2047) - 1023)), .bool false, .any, .any, .any, .any, .int .i64 ((exp + nr) + ((bitsN .and .i64 (Int.fdiv nr_1 (2 ^ 52)) 2047) - 1023)), .bool true, .int .i64 ((exp + nr) + ((bitsN .and .i64 (Int.fdiv nr_1 (2 ^ 52)) 2047) - 1023)), .int .i64 (((exp + nr) + ((bitsN .and .i64 (Int.fdiv nr_1 (2 ^ 52)) 2047) - 1023)) + 53), .any, .any, .any, .any, .any, .any, .any, .any, .any, .any, .any, .any] [] frac exp (((exp + nr) + ((bitsN .and .i64 (Int.fdiv nr_1 (2 ^ 52)) 2047) - 1023)) + 53) nr_1 (some 4368491638549381120)))) (κn_ (ls_q143 [.flt xr, .any, .any, .flt (some 0), .int .i64 nr, .bool false, .flt frac, .bool (feq frac (some 0)), .any, .bool false, .flt frac, .bool cr, .bool false, .flt frac, .bool cr_1, .bool cr_1, .any, .tup [.flt xr, .int .i64 nr], .flt frac, .tup [.flt xr, .int .i64 nr], .flt xr, .int .i64 nr, .int .i64 exp, .int .i64 nr, .int .i64 (exp + nr), .flt xr, .int .u64 nr_1, .int .i64 (exp + nr), .int .u64 nr_1, .int .u64 (Int.fdiv nr_1 (2 ^ 52)), .int .i64 (Int.fdiv nr_1 (2 ^ 52)), .int .i64 (bitsN .and .i64 (Int.fdiv nr_1 (2 ^ 52)) 2047), .int .i64 ((bitsN .and .i64 (Int.fdiv nr_1 (2 ^ 52)) 2047) - 1023), .int .i64 ((exp + nr) + ((bitsN .and .i64 (Int.fdiv nr_1 (2 ^ 52)) 2047) - 1023)), .int .i64 ((exp + nr) + ((bitsN .and .i64 (Int.fdiv nr_1 (2 ^ 52)) 2047) - 1023)), .bool false, .any, .any, .int .i64 ((exp + nr) + ((bitsN .and .i64 (Int.fdiv nr_1 (2 ^ 52)) 2047) - 1023)), .bool false, .any, .any, .any, .any, .int .i64 ((exp + nr) + ((bitsN .and .i64 (Int.fdiv nr_1 (2 ^ 52)) 2047) - 1023)), .bool false, .any, .any, .any, .any, .any, .any, .any, .any, .any, .any, .any, .any, .any, .any] [] frac exp ((exp + nr) + ((bitsN .and .i64 (Int.fdiv nr_1 (2 ^ 52)) 2047) - 1023)) nr_1 (some 4607182418800017408))))))))))))))))) (cont_ (.flt frac) []))))) := by kernel_rfl
theorem jn_m_ldexp_w (N_ : Nat) (S_q64 : TS_q64) (S_q84 : TS_q84) (S_q22 : TS_q22) (S_q48 : TS_q48) (S_q58 : TS_q58) (S_m_Inf : TS_m_Inf) (S_q39 : TS_q39) (frac : Fl) (exp : Int) (cont_ : V → List Blk → Bool) : codesV ⟨Tryz.prog, ofList [(62, (F_q64 S_q64)), (190, (F_q84 S_q84)), (191, (F_q22 S_q22)), (74, (F_q48 S_q48)), (192, (F_q58 S_q58)), (193, (F_m_Inf S_m_Inf)), (67, (F_q39 S_q39))], isref, N_⟩ 0 (an_q112 N_ S_q64 S_q84 S_q22 S_q48 S_q58 S_m_Inf S_q39) ((cds Tryz.prog 167).drop 0) 0 (st0 Tryz.prog 167 (shF_q112.args [.fl frac, .int exp]) []) (finV Tryz.prog 167 0 cont_) = G_q112 N_ S_q64 S_q84 S_q22 S_q48 S_q58 S_m_Inf S_q39 frac exp (fun r0 => cont_ (.flt r0) []) := by
  rw [codesV_cut 0 13 13 rfl]
  refine (hd_m_ldexp_w N_ S_q64 S_q84 S_q22 S_q48 S_q58 S_m_Inf S_q39 frac exp cont_ _).trans ?_
  simp only [jn_q143]
  kernel_rfl
theorem eq_q112 (N_ : Nat) (S_q64 : TS_q64) (S_q84 : TS_q84) (S_q22 : TS_q22) (S_q48 : TS_q48) (S_q58 : TS_q58) (S_m_Inf : TS_m_Inf) (S_q39 : TS_q39) (frac : Fl) (exp : Int) (cont_ : V → List Blk → Bool) : bodyV ⟨Tryz.prog, ofList [(62, (F_q64 S_q64)), (190, (F_q84 S_q84)), (191, (F_q22 S_q22)), (74, (F_q48 S_q48)), (192, (F_q58 S_q58)), (193, (F_m_Inf S_m_Inf)), (67, (F_q39 S_q39))], isref, N_⟩ (an_q112 N_ S_q64 S_q84 S_q22 S_q48 S_q58 S_m_Inf S_q39) 167 (shF_q112.args [.fl frac, .int exp]) [] cont_ = G_q112 N_ S_q64 S_q84 S_q22 S_q48 S_q58 S_m_Inf S_q39 frac exp (fun r0 => cont_ (.flt r0) []) :=
  (bodyV_codes (by kernel_rfl)).trans (jn_m_ldexp_w N_ S_q64 S_q84 S_q22 S_q48 S_q58 S_m_Inf S_q39 frac exp cont_)
theorem good_q112 (N_ : Nat) (S_q64 : TS_q64) (S_q84 : TS_q84) (S_q22 : TS_q22) (S_q48 : TS_q48) (S_q58 : TS_q58) (S_m_Inf : TS_m_Inf) (S_q39 : TS_q39) (h_math_IsInf : GoodF Tryz.prog 62 (F_q64 S_q64)) (h_math_IsNaN : GoodF Tryz.prog 190 (F_q84 S_q84)) (h_math_normalize : GoodF Tryz.prog 191 (F_q22 S_q22)) (h_math_Float64bits : GoodF Tryz.prog 74 (F_q48 S_q48)) (h_math_Copysign : GoodF Tryz.prog 192 (F_q58 S_q58)) (h_math_Inf : GoodF Tryz.prog 193 (F_m_Inf S_m_Inf)) (h_math_Float64frombits : GoodF Tryz.prog 67 (F_q39 S_q39)) : GoodF Tryz.prog 167 (F_q112 (G_q112 N_ S_q64 S_q84 S_q22 S_q48 S_q58 S_m_Inf S_q39)) := by
  refine good_fs (cx := ⟨Tryz.prog, ofList [(62, (F_q64 S_q64)), (190, (F_q84 S_q84)), (191, (F_q22 S_q22)), (74, (F_q48 S_q48)), (192, (F_q58 S_q58)), (193, (F_m_Inf S_m_Inf)), (67, (F_q39 S_q39))], isref, N_⟩) (ofList_cons h_math_IsInf (ofList_cons h_math_IsNaN (ofList_cons h_math_normalize (ofList_cons h_math_Float64bits (ofList_cons h_math_Copysign (ofList_cons h_math_Inf (ofList_cons h_math_Float64frombits (ofList_nil _)))))))) shF_q112 (sp_q112 (G_q112 N_ S_q64 S_q84 S_q22 S_q48 S_q58 S_m_Inf S_q39)) (an_q112 N_ S_q64 S_q84 S_q22 S_q48 S_q58 S_m_Inf S_q39) 0 0 (by kernel_rfl) (fun i_ hi_ => by omega) ?_
  intro a k h
  unfold sp_q112 at h
  split at h
  · exact ⟨[], rfl, rfl, (eq_q112 _ _ _ _ _ _ _ _ _ _ _).trans h⟩
  · cases h

def an_q59 (N_ : Nat) (S_q112 : TS_q112) : Nat → Option Ann := fun b_ => none
theorem eq_q59 (N_ : Nat) (S_q112 : TS_q112) (frac : Fl) (exp : Int) (cont_ : V → List Blk → Bool) : bodyV ⟨Tryz.prog, ofList [(167, (F_q112 S_q112))], isref, N_⟩ (an_q59 N_ S_q112) 126 (shF_q59.args [.fl frac, .int exp]) [] cont_ = G_q59 N_ S_q112 frac exp (fun r0 => cont_ (.flt r0) []) := by kernel_rfl
theorem good_q59 (N_ : Nat) (S_q112 : TS_q112) (h_math_ldexp : GoodF Tryz.prog 167 (F_q112 S_q112)) : GoodF Tryz.prog 126 (F_q59 (G_q59 N_ S_q112)) := by
  refine good_fs (cx := ⟨Tryz.prog, ofList [(167, (F_q112 S_q112))], isref, N_⟩) (ofList_cons h_math_ldexp (ofList_nil _)) shF_q59 (sp_q59 (G_q59 N_ S_q112)) (an_q59 N_ S_q112) 0 0 (by kernel_rfl) (fun i_ hi_ => by omega) ?_
  intro a k h
  unfold sp_q59 at h
  split at h
  · exact ⟨[], rfl, rfl, (eq_q59 _ _ _ _ _).trans h⟩
  · cases h


def an_q61 (N_ : Nat) (S_q123 : TS_q123) : Nat → Option Ann := fun b_ => none
theorem eq_q61 (N_ : Nat) (S_q123 : TS_q123) (x : Fl) (cont_ : V → List Blk → Bool) : bodyV ⟨Tryz.prog, ofList [(155, (F_q123 S_q123))], isref, N_⟩ (an_q61 N_ S_q123) 116 (shF_q61.args [.fl x]) [] cont_ = G_q61 N_ S_q123 x (fun r0 => cont_ (.flt r0) []) := by kernel_rfl
theorem good_q61 (N_ : Nat) (S_q123 : TS_q123) (h_math_sqrt : GoodF Tryz.prog 155 (F_q123 S_q123)) : GoodF Tryz.prog 116 (F_q61 (G_q61 N_ S_q123)) := by
  refine good_fs (cx := ⟨Tryz.prog, ofList [(155, (F_q123 S_q123))], isref, N_⟩) (ofList_cons h_math_sqrt (ofList_nil _)) shF_q61 (sp_q61 (G_q61 N_ S_q123)) (an_q61 N_ S_q123) 0 0 (by kernel_rfl) (fun i_ hi_ => by omega) ?_
  intro a k h
  unfold sp_q61 at h
  split at h
  · exact ⟨[], rfl, rfl, (eq_q61 _ _ _ _).trans h⟩
  · cases h

def sh_st_qr_scaled_0 : StSh := ⟨[.rof, .int .i64, .any, .any, .any, .any, .slw 0, .flt, .any, .any, .any, .any, .any, .int .i64, .int .i64, .any, .any, .any, .any, .any, .any, .any, .any, .any, .any, .any, .any, .any, .any, .any, .any, .any, .any, .any, .any, .any, .any, .any, .any, .any, .any, .any], [some (24, 1, .flts)]⟩
def sx0_st_qr_scaled_0 : StSh := ⟨[.any, .any, .any, .any, .any, .any, .slw 0, .flt, .any, .any, .any, .any, .any, .any, .any, .any, .any, .any, .any, .any, .any, .any, .any, .any, .any, .any, .any, .any, .any, .any, .any, .any, .any, .any, .any, .any, .any, .any, .any, .any, .any, .any], [some (24, 1, .flts)]⟩
def hk_st_qr_scaled_0 (N_ : Nat) (S_q59 : TS_q59) (S_q61 : TS_q61) : List Atom → K → Bool := fun a_ κ => match a_ with
  | [.fls x_1, .int k__1, .fl s, .int t13, .int t14, .fls y] => iterG N_ (st_qr_scaled_0 N_ S_q59 S_q61 x_1 k__1 t13 (fun r0 r1 => κ.ext 0 (sx0_st_qr_scaled_0.build [.fl r0, .fls r1]))) (s, t14, y)
  | _ => false
def an_qr_scaled (N_ : Nat) (S_q59 : TS_q59) (S_q61 : TS_q61) : Nat → Option Ann := fun b_ => cond (b_ == 0) (some ⟨⟨[0, 1, 6, 7, 13, 14], []⟩, [(0, ⟨[6, 7], []⟩)], some ⟨[4, 5], []⟩, some (mkHooks [(sh_st_qr_scaled_0, hk_st_qr_scaled_0 N_ S_q59 S_q61)])⟩) (none)
theorem eq_st_qr_scaled_0 (N_ : Nat) (S_q59 : TS_q59) (S_q61 : TS_q61) (κ : K) (x_1 : List Fl) (k__1 : Int) (s : Fl) (t13 : Int) (t14 : Int) (y : List Fl) : iter N_ (fun s k => codeV ⟨Tryz.prog, ofList [(126, (F_q59 S_q59)), (116, (F_q61 S_q61))], isref, N_⟩ 0 (an_qr_scaled N_ S_q59 S_q61) (lp Tryz.prog 143 0).2 (lp Tryz.prog 143 0).1 s (roundK Tryz.prog 0 ((an_qr_scaled N_ S_q59 S_q61) (lp Tryz.prog 143 0).1) κ k)) (sh_st_qr_scaled_0.build [.fls x_1, .int k__1, .fl s, .int t13, .int t14, .fls y]) = iterG N_ (st_qr_scaled_0 N_ S_q59 S_q61 x_1 k__1 t13 (fun r0 r1 => κ.ext 0 (sx0_st_qr_scaled_0.build [.fl r0, .fls r1]))) (s, t14, y) :=
  iter_tr (fun (v_ : Fl × Int × List Fl) => sh_st_qr_scaled_0.build [.fls x_1, .int k__1, .fl v_.1, .int t13, .int v_.2.1, .fls v_.2.2]) (fun v_ K_ => by obtain ⟨s, t14, y⟩ := v_; kernel_rfl) N_ (s, t14, y)
theorem hk1_st_qr_scaled_0 (N_ : Nat) (S_q59 : TS_q59) (S_q61 : TS_q61) : HookFor ⟨Tryz.prog, ofList [(126, (F_q59 S_q59)), (116, (F_q61 S_q61))], isref, N_⟩ 0 (an_qr_scaled N_ S_q59 S_q61) (lp Tryz.prog 143 0) (sh_st_qr_scaled_0, hk_st_qr_scaled_0 N_ S_q59 S_q61) := by
  intro a κ h
  simp only at h
  unfold hk_st_qr_scaled_0 at h
  split at h
  · exact (eq_st_qr_scaled_0 _ _ _ _ _ _ _ _ _ _).trans h
  · cases h
theorem ho_qr_scaled_0 (N_ : Nat) (S_q59 : TS_q59) (S_q61 : TS_q61) : HookOk ⟨Tryz.prog, ofList [(126, (F_q59 S_q59)), (116, (F_q61 S_q61))], isref, N_⟩ 0 (an_qr_scaled N_ S_q59 S_q61) (lp Tryz.prog 143 0) :=
  hooks_ok [(sh_st_qr_scaled_0, hk_st_qr_scaled_0 N_ S_q59 S_q61)] (by kernel_rfl) ⟨hk1_st_qr_scaled_0 _ _ _, trivial⟩
theorem eq_qr_scaled (N_ : Nat) (S_q59 : TS_q59) (S_q61 : TS_q61) (x : List Fl) (k_ : Int) (cont_ : V → List Blk → Bool) : bodyV ⟨Tryz.prog, ofList [(126, (F_q59 S_q59)), (116, (F_q61 S_q61))], isref, N_⟩ (an_qr_scaled N_ S_q59 S_q61) 143 (shF_qr_scaled.args [.fls x, .int k_]) [] cont_ = G_qr_scaled N_ S_q59 S_q61 x k_ (fun r0 r1 => cont_ (.tup [.slw 0, .flt r0]) [⟨24, 1, .flts r1⟩]) := by kernel_rfl
theorem good_qr_scaled (N_ : Nat) (S_q59 : TS_q59) (S_q61 : TS_q61) (h_math_Ldexp : GoodF Tryz.prog 126 (F_q59 S_q59)) (h_math_Sqrt : GoodF Tryz.prog 116 (F_q61 S_q61)) : GoodF Tryz.prog 143 (F_qr_scaled (G_qr_scaled N_ S_q59 S_q61)) := by
  refine good_fs (cx := ⟨Tryz.prog, ofList [(126, (F_q59 S_q59)), (116, (F_q61 S_q61))], isref, N_⟩) (ofList_cons h_math_Ldexp (ofList_cons h_math_Sqrt (ofList_nil _))) shF_qr_scaled (sp_qr_scaled (G_qr_scaled N_ S_q59 S_q61)) (an_qr_scaled N_ S_q59 S_q61) 1 0 (by kernel_rfl) (fun i_ hi_ => by
    match i_, hi_ with
    | 0, _ => exact ho_qr_scaled_0 _ _ _
    | (q + 1), h => omega) ?_
  intro a k h
  unfold sp_qr_scaled at h
  split at h
  · exact ⟨[], rfl, rfl, (eq_qr_scaled _ _ _ _ _ _).trans h⟩
  · cases h

def an_qr_length (N_ : Nat) (S_qr_power : TS_qr_power) (S_qr_scaled : TS_qr_scaled) (S_q59 : TS_q59) : Nat → Option Ann := fun b_ => none
theorem eq_qr_length (N_ : Nat) (S_qr_power : TS_qr_power) (S_qr_scaled : TS_qr_scaled) (S_q59 : TS_q59) (x : List Fl) (cont_ : V → List Blk → Bool) : bodyV ⟨Tryz.prog, ofList [(142, (F_qr_power S_qr_power)), (143, (F_qr_scaled S_qr_scaled)), (126, (F_q59 S_q59))], isref, N_⟩ (an_qr_length N_ S_qr_power S_qr_scaled S_q59) 163 (shF_qr_length.args [.fls x]) [] cont_ = G_qr_length N_ S_qr_power S_qr_scaled S_q59 x (fun r0 => cont_ (.flt r0) []) := by kernel_rfl
theorem good_qr_length (N_ : Nat) (S_qr_power : TS_qr_power) (S_qr_scaled : TS_qr_scaled) (S_q59 : TS_q59) (h_qr_power : GoodF Tryz.prog 142 (F_qr_power S_qr_power)) (h_qr_scaled : GoodF Tryz.prog 143 (F_qr_scaled S_qr_scaled)) (h_math_Ldexp : GoodF Tryz.prog 126 (F_q59 S_q59)) : GoodF Tryz.prog 163 (F_qr_length (G_qr_length N_ S_qr_power S_qr_scaled S_q59)) := by
  refine good_fs (cx := ⟨Tryz.prog, ofList [(142, (F_qr_power S_qr_power)), (143, (F_qr_scaled S_qr_scaled)), (126, (F_q59 S_q59))], isref, N_⟩) (ofList_cons h_qr_power (ofList_cons h_qr_scaled (ofList_cons h_math_Ldexp (ofList_nil _)))) shF_qr_length (sp_qr_length (G_qr_length N_ S_qr_power S_qr_scaled S_q59)) (an_qr_length N_ S_qr_power S_qr_scaled S_q59) 0 0 (by kernel_rfl) (fun i_ hi_ => by omega) ?_
  intro a k h
  unfold sp_qr_length at h
  split at h
  · exact ⟨[], rfl, rfl, (eq_qr_length _ _ _ _ _ _).trans h⟩
  · cases h

def an_qr_finite (N_ : Nat) : Nat → Option Ann := fun b_ => none
theorem eq_qr_finite (N_ : Nat) (x : Fl) (cont_ : V → List Blk → Bool) : bodyV ⟨Tryz.prog, ofList [], isref, N_⟩ (an_qr_finite N_) 88 (shF_qr_finite.args [.fl x]) [] cont_ = G_qr_finite N_ x (fun r0 => cont_ (.bool r0) []) := by kernel_rfl
theorem good_qr_finite (N_ : Nat) : GoodF Tryz.prog 88 (F_qr_finite (G_qr_finite N_)) := by
  refine good_fs (cx := ⟨Tryz.prog, ofList [], isref, N_⟩) (ofList_nil _) shF_qr_finite (sp_qr_finite (G_qr_finite N_)) (an_qr_finite N_) 0 0 (by kernel_rfl) (fun i_ hi_ => by omega) ?_
  intro a k h
  unfold sp_qr_finite at h
  split at h
  · exact ⟨[], rfl, rfl, (eq_qr_finite _ _ _).trans h⟩
  · cases h

def an_qr_Length (N_ : Nat) (S_qr_list : TS_qr_list) (S_qr_length : TS_qr_length) (S_qr_finite : TS_qr_finite) : Nat → Option Ann := fun b_ => none
theorem eq_qr_Length (N_ : Nat) (S_qr_list : TS_qr_list) (S_qr_length : TS_qr_length) (S_qr_finite : TS_qr_finite) (x : List Fl) (cont_ : V → List Blk → Bool) : bodyV ⟨Tryz.prog, ofList [(162, (F_qr_list S_qr_list)), (163, (F_qr_length S_qr_length)), (88, (F_qr_finite S_qr_finite))], isref, N_⟩ (an_qr_Length N_ S_qr_list S_qr_length S_qr_finite) 119 (shF_qr_Length.args [.fls x]) [] cont_ = G_qr_Length N_ S_qr_list S_qr_length S_qr_finite x (fun r0 r1 => cont_ (.tup [.flt r0, .int .i64 r1]) []) := by kernel_rfl
theorem good_qr_Length (N_ : Nat) (S_qr_list : TS_qr_list) (S_qr_length : TS_qr_length) (S_qr_finite : TS_qr_finite) (h_qr_list : GoodF Tryz.prog 162 (F_qr_list S_qr_list)) (h_qr_length : GoodF Tryz.prog 163 (F_qr_length S_qr_length)) (h_qr_finite : GoodF Tryz.prog 88 (F_qr_finite S_qr_finite)) : GoodF Tryz.prog 119 (F_qr_Length (G_qr_Length N_ S_qr_list S_qr_length S_qr_finite)) := by
  refine good_fs (cx := ⟨Tryz.prog, ofList [(162, (F_qr_list S_qr_list)), (163, (F_qr_length S_qr_length)), (88, (F_qr_finite S_qr_finite))], isref, N_⟩) (ofList_cons h_qr_list (ofList_cons h_qr_length (ofList_cons h_qr_finite (ofList_nil _)))) shF_qr_Length (sp_qr_Length (G_qr_Length N_ S_qr_list S_qr_length S_qr_finite)) (an_qr_Length N_ S_qr_list S_qr_length S_qr_finite) 0 0 (by kernel_rfl) (fun i_ hi_ => by omega) ?_
  intro a k h
  unfold sp_qr_Length at h
  split at h
  · exact ⟨[], rfl, rfl, (eq_qr_Length _ _ _ _ _ _).trans h⟩
  · cases h

def an_q57 (N_ : Nat) (S_qr_Length : TS_qr_Length) : Nat → Option Ann := fun b_ => none
theorem eq_q57 (N_ : Nat) (S_qr_Length : TS_qr_Length) (v_0 : Fl) (v_1 : Fl) (v_2 : Fl) (cont_ : V → List Blk → Bool) : bodyV ⟨Tryz.prog, ofList [(119, (F_qr_Length S_qr_Length))], isref, (N_ + 24)⟩ (an_q57 (N_ + 24) S_qr_Length) 60 (shF_q57.args [.fl v_0, .fl v_1, .fl v_2]) [] cont_ = G_q57 (N_ + 24) S_qr_Length v_0 v_1 v_2 (fun r0 r1 r2 r3 => cont_ (.tup [.agg [.flt r0, .flt r1, .flt r2], .int .i64 r3]) []) := by kernel_rfl
theorem good_q57 (N_ : Nat) (S_qr_Length : TS_qr_Length) (h_qr_Length : GoodF Tryz.prog 119 (F_qr_Length S_qr_Length)) : GoodF Tryz.prog 60 (F_q57 (G_q57 (N_ + 24) S_qr_Length)) := by
  refine good_fs (cx := ⟨Tryz.prog, ofList [(119, (F_qr_Length S_qr_Length))], isref, (N_ + 24)⟩) (ofList_cons h_qr_Length (ofList_nil _)) shF_q57 (sp_q57 (G_q57 (N_ + 24) S_qr_Length)) (an_q57 (N_ + 24) S_qr_Length) 1 0 (by kernel_rfl) (fun i_ hi_ => by
    match i_, hi_ with
    | 0, _ => exact (fun hk e => by rw [show hookOf ((an_q57 (N_ + 24) S_qr_Length) (lp Tryz.prog 60 0).1) = none from by kernel_rfl] at e; cases e)
    | (q + 1), h => omega) ?_
  intro a k h
  unfold sp_q57 at h
  split at h
  · exact ⟨[], rfl, rfl, (eq_q57 _ _ _ _ _ _).trans h⟩
  · cases h

def sh_st_quat_finite_0 : StSh := ⟨[.rof, .any, .any, .any, .any, .int .i64, .int .i64, .any, .any, .any, .any, .any, .any, .any, .any, .any, .any, .any, .any, .any], []⟩
def sx0_st_quat_finite_0 : StSh := ⟨[.any, .any, .bool, .any, .any, .any, .any, .any, .any, .any, .any, .any, .any, .any, .any, .any, .any, .any, .any, .any], []⟩
def sx1_st_quat_finite_0 : StSh := ⟨[.any, .any, .any, .any, .any, .any, .any, .any, .any, .any, .any, .any, .any, .any, .any, .any, .any, .any, .any, .any], []⟩
def hk_st_quat_finite_0 (N_ : Nat) : List Atom → K → Bool := fun a_ κ => match a_ with
  | [.fls l_1, .int t5, .int t6] => iterG N_ (st_quat_finite_0 N_ l_1 t5 (fun r0 => κ.ret (sx0_st_quat_finite_0.build [.bool r0])) (κ.ext 0 (sx1_st_quat_finite_0.build []))) t6
  | _ => false
def an_quat_finite (N_ : Nat) : Nat → Option Ann := fun b_ => cond (b_ == 0) (some ⟨⟨[0, 5, 6], []⟩, [(0, ⟨[], []⟩)], some ⟨[2], []⟩, some (mkHooks [(sh_st_quat_finite_0, hk_st_quat_finite_0 N_)])⟩) (none)
theorem eq_st_quat_finite_0 (N_ : Nat) (κ : K) (l_1 : List Fl) (t5 : Int) (t6 : Int) : iter N_ (fun s k => codeV ⟨Tryz.prog, ofList [], isref, N_⟩ 0 (an_quat_finite N_) (lp Tryz.prog 64 0).2 (lp Tryz.prog 64 0).1 s (roundK Tryz.prog 0 ((an_quat_finite N_) (lp Tryz.prog 64 0).1) κ k)) (sh_st_quat_finite_0.build [.fls l_1, .int t5, .int t6]) = iterG N_ (st_quat_finite_0 N_ l_1 t5 (fun r0 => κ.ret (sx0_st_quat_finite_0.build [.bool r0])) (κ.ext 0 (sx1_st_quat_finite_0.build []))) t6 :=
  iter_tr (fun (v_ : Int) => sh_st_quat_finite_0.build [.fls l_1, .int t5, .int v_]) (fun v_ K_ => by kernel_rfl) N_ t6
theorem hk1_st_quat_finite_0 (N_ : Nat) : HookFor ⟨Tryz.prog, ofList [], isref, N_⟩ 0 (an_quat_finite N_) (lp Tryz.prog 64 0) (sh_st_quat_finite_0, hk_st_quat_finite_0 N_) := by
  intro a κ h
  simp only at h
  unfold hk_st_quat_finite_0 at h
  split at h
  · exact (eq_st_quat_finite_0 _ _ _ _ _).trans h
  · cases h
theorem ho_quat_finite_0 (N_ : Nat) : HookOk ⟨Tryz.prog, ofList [], isref, N_⟩ 0 (an_quat_finite N_) (lp Tryz.prog 64 0) :=
  hooks_ok [(sh_st_quat_finite_0, hk_st_quat_finite_0 N_)] (by kernel_rfl) ⟨hk1_st_quat_finite_0 _, trivial⟩
theorem eq_quat_finite (N_ : Nat) (l : List Fl) (cont_ : V → List Blk → Bool) : bodyV ⟨Tryz.prog, ofList [], isref, N_⟩ (an_quat_finite N_) 64 (shF_quat_finite.args [.fls l]) [] cont_ = G_quat_finite N_ l (fun r0 => cont_ (.bool r0) []) := by kernel_rfl
theorem good_quat_finite (N_ : Nat) : GoodF Tryz.prog 64 (F_quat_finite (G_quat_finite N_)) := by
  refine good_fs (cx := ⟨Tryz.prog, ofList [], isref, N_⟩) (ofList_nil _) shF_quat_finite (sp_quat_finite (G_quat_finite N_)) (an_quat_finite N_) 1 0 (by kernel_rfl) (fun i_ hi_ => by
    match i_, hi_ with
    | 0, _ => exact ho_quat_finite_0 _
    | (q + 1), h => omega) ?_
  intro a k h
  unfold sp_quat_finite at h
  split at h
  · exact ⟨[], rfl, rfl, (eq_quat_finite _ _ _).trans h⟩
  · cases h

def an_quat_cross (N_ : Nat) : Nat → Option Ann := fun b_ => none
theorem eq_quat_cross (N_ : Nat) (a_0 : Fl) (a_1 : Fl) (a_2 : Fl) (b_0 : Fl) (b_1 : Fl) (b_2 : Fl) (cont_ : V → List Blk → Bool) : bodyV ⟨Tryz.prog, ofList [], isref, N_⟩ (an_quat_cross N_) 121 (shF_quat_cross.args [.fl a_0, .fl a_1, .fl a_2, .fl b_0, .fl b_1, .fl b_2]) [] cont_ = G_quat_cross N_ a_0 a_1 a_2 b_0 b_1 b_2 (fun r0 r1 r2 => cont_ (.agg [.flt r0, .flt r1, .flt r2]) []) := by kernel_rfl
theorem good_quat_cross (N_ : Nat) : GoodF Tryz.prog 121 (F_quat_cross (G_quat_cross N_)) := by
  refine good_fs (cx := ⟨Tryz.prog, ofList [], isref, N_⟩) (ofList_nil _) shF_quat_cross (sp_quat_cross (G_quat_cross N_)) (an_quat_cross N_) 0 0 (by kernel_rfl) (fun i_ hi_ => by omega) ?_
  intro a k h
  unfold sp_quat_cross at h
  split at h
  · exact ⟨[], rfl, rfl, (eq_quat_cross _ _ _ _ _ _ _ _).trans h⟩
  · cases h

def an_quat_vec (N_ : Nat) (S_quat_finite : TS_quat_finite) : Nat → Option Ann := fun b_ => none
theorem eq_quat_vec (N_ : Nat) (S_quat_finite : TS_quat_finite) (v_0 : Fl) (v_1 : Fl) (v_2 : Fl) (cont_ : V → List Blk → Bool) : bodyV ⟨Tryz.prog, ofList [(64, (F_quat_finite S_quat_finite))], isref, N_⟩ (an_quat_vec N_ S_quat_finite) 120 (shF_quat_vec.args [.fl v_0, .fl v_1, .fl v_2]) [] cont_ = G_quat_vec N_ S_quat_finite v_0 v_1 v_2 (fun r0 r1 r2 r3 => cont_ (.tup [.agg [.flt r0, .flt r1, .flt r2], .int .i64 r3]) []) := by kernel_rfl
theorem good_quat_vec (N_ : Nat) (S_quat_finite : TS_quat_finite) (h_quat_finite : GoodF Tryz.prog 64 (F_quat_finite S_quat_finite)) : GoodF Tryz.prog 120 (F_quat_vec (G_quat_vec N_ S_quat_finite)) := by
  refine good_fs (cx := ⟨Tryz.prog, ofList [(64, (F_quat_finite S_quat_finite))], isref, N_⟩) (ofList_cons h_quat_finite (ofList_nil _)) shF_quat_vec (sp_quat_vec (G_quat_vec N_ S_quat_finite)) (an_quat_vec N_ S_quat_finite) 0 0 (by kernel_rfl) (fun i_ hi_ => by omega) ?_
  intro a k h
  unfold sp_quat_vec at h
  split at h
  · exact ⟨[], rfl, rfl, (eq_quat_vec _ _ _ _ _ _).trans h⟩
  · cases h

def an_quat_Cross (N_ : Nat) (S_quat_finite : TS_quat_finite) (S_quat_cross : TS_quat_cross) (S_quat_vec : TS_quat_vec) : Nat → Option Ann := fun b_ => none
theorem eq_quat_Cross (N_ : Nat) (S_quat_finite : TS_quat_finite) (S_quat_cross : TS_quat_cross) (S_quat_vec : TS_quat_vec) (a_0 : Fl) (a_1 : Fl) (a_2 : Fl) (b_0 : Fl) (b_1 : Fl) (b_2 : Fl) (cont_ : V → List Blk → Bool) : bodyV ⟨Tryz.prog, ofList [(64, (F_quat_finite S_quat_finite)), (121, (F_quat_cross S_quat_cross)), (120, (F_quat_vec S_quat_vec))], isref, N_⟩ (an_quat_Cross N_ S_quat_finite S_quat_cross S_quat_vec) 61 (shF_quat_Cross.args [.fl a_0, .fl a_1, .fl a_2, .fl b_0, .fl b_1, .fl b_2]) [] cont_ = G_quat_Cross N_ S_quat_finite S_quat_cross S_quat_vec a_0 a_1 a_2 b_0 b_1 b_2 (fun r0 r1 r2 r3 => cont_ (.tup [.agg [.flt r0, .flt r1, .flt r2], .int .i64 r3]) []) := by kernel_rfl
theorem good_quat_Cross (N_ : Nat) (S_quat_finite : TS_quat_finite) (S_quat_cross : TS_quat_cross) (S_quat_vec : TS_quat_vec) (h_quat_finite : GoodF Tryz.prog 64 (F_quat_finite S_quat_finite)) (h_quat_cross : GoodF Tryz.prog 121 (F_quat_cross S_quat_cross)) (h_quat_vec : GoodF Tryz.prog 120 (F_quat_vec S_quat_vec)) : GoodF Tryz.prog 61 (F_quat_Cross (G_quat_Cross N_ S_quat_finite S_quat_cross S_quat_vec)) := by
  refine good_fs (cx := ⟨Tryz.prog, ofList [(64, (F_quat_finite S_quat_finite)), (121, (F_quat_cross S_quat_cross)), (120, (F_quat_vec S_quat_vec))], isref, N_⟩) (ofList_cons h_quat_finite (ofList_cons h_quat_cross (ofList_cons h_quat_vec (ofList_nil _)))) shF_quat_Cross (sp_quat_Cross (G_quat_Cross N_ S_quat_finite S_quat_cross S_quat_vec)) (an_quat_Cross N_ S_quat_finite S_quat_cross S_quat_vec) 0 0 (by kernel_rfl) (fun i_ hi_ => by omega) ?_
  intro a k h
  unfold sp_quat_Cross at h
  split at h
  · exact ⟨[], rfl, rfl, (eq_quat_Cross _ _ _ _ _ _ _ _ _ _ _).trans h⟩
  · cases h

def an_q111 (N_ : Nat) (S_q57 : TS_q57) (S_quat_Cross : TS_quat_Cross) (S_q26 : TS_q26) : Nat → Option Ann := fun b_ => none
theorem eq_q111 (N_ : Nat) (S_q57 : TS_q57) (S_quat_Cross : TS_quat_Cross) (S_q26 : TS_q26) (a_0 : Fl) (a_1 : Fl) (a_2 : Fl) (b_0 : Fl) (b_1 : Fl) (b_2 : Fl) (cont_ : V → List Blk → Bool) : bodyV ⟨Tryz.prog, ofList [(60, (F_q57 S_q57)), (61, (F_quat_Cross S_quat_Cross)), (18, (F_q26 S_q26))], isref, N_⟩ (an_q111 N_ S_q57 S_quat_Cross S_q26) 19 (shF_q111.args [.fl a_0, .fl a_1, .fl a_2, .fl b_0, .fl b_1, .fl b_2]) [] cont_ = G_q111 N_ S_q57 S_quat_Cross S_q26 a_0 a_1 a_2 b_0 b_1 b_2 (fun r0 r1 r2 r3 r4 r5 r6 r7 r8 r9 => cont_ (.tup [.agg [.flt r0, .flt r1, .flt r2, .flt r3, .flt r4, .flt r5, .flt r6, .flt r7, .flt r8], .int .i64 r9]) []) := by kernel_rfl
theorem good_q111 (N_ : Nat) (S_q57 : TS_q57) (S_quat_Cross : TS_quat_Cross) (S_q26 : TS_q26) (h_attitude_shortened : GoodF Tryz.prog 60 (F_q57 S_q57)) (h_quat_Cross : GoodF Tryz.prog 61 (F_quat_Cross S_quat_Cross)) (h_attitude_direction : GoodF Tryz.prog 18 (F_q26 S_q26)) : GoodF Tryz.prog 19 (F_q111 (G_q111 N_ S_q57 S_quat_Cross S_q26)) := by
  refine good_fs (cx := ⟨Tryz.prog, ofList [(60, (F_q57 S_q57)), (61, (F_quat_Cross S_quat_Cross)), (18, (F_q26 S_q26))], isref, N_⟩) (ofList_cons h_attitude_shortened (ofList_cons h_quat_Cross (ofList_cons h_attitude_direction (ofList_nil _)))) shF_q111 (sp_q111 (G_q111 N_ S_q57 S_quat_Cross S_q26)) (an_q111 N_ S_q57 S_quat_Cross S_q26) 0 0 (by kernel_rfl) (fun i_ hi_ => by omega) ?_
  intro a k h
  unfold sp_q111 at h
  split at h
  · exact ⟨[], rfl, rfl, (eq_q111 _ _ _ _ _ _ _ _ _ _ _).trans h⟩
  · cases h

def an_q52 (N_ : Nat) (S_q64 : TS_q64) : Nat → Option Ann := fun b_ => none
theorem eq_q52 (N_ : Nat) (S_q64 : TS_q64) (x : Fl) (b : Bool) (cont_ : V → List Blk → Bool) : bodyV ⟨Tryz.prog, ofList [(62, (F_q64 S_q64))], isref, N_⟩ (an_q52 N_ S_q64) 20 (shF_q52.args [.fl x, .bool b]) [⟨66, 1, .cells [.bool b]⟩] cont_ = G_q52 N_ S_q64 x b (fun r1 => cont_ (.flt x) [⟨66, 1, .cells [.bool r1]⟩]) := by kernel_rfl
theorem good_q52 (N_ : Nat) (S_q64 : TS_q64) (h_math_IsInf : GoodF Tryz.prog 62 (F_q64 S_q64)) : GoodF Tryz.prog 20 (F_q52 (G_q52 N_ S_q64)) := by
  refine good_fs (cx := ⟨Tryz.prog, ofList [(62, (F_q64 S_q64))], isref, N_⟩) (ofList_cons h_math_IsInf (ofList_nil _)) shF_q52 (sp_q52 (G_q52 N_ S_q64)) (an_q52 N_ S_q64) 0 1 (by kernel_rfl) (fun i_ hi_ => by omega) ?_
  intro a k h
  unfold sp_q52 at h
  split at h
  · exact ⟨[_], rfl, rfl, (eq_q52 _ _ _ _ _).trans h⟩
  · cases h

def an_q36 (N_ : Nat) (S_q52 : TS_q52) : Nat → Option Ann := fun b_ => none
theorem eq_q36 (N_ : Nat) (S_q52 : TS_q52) (a : Fl) (b : Fl) (b_1 : Bool) (cont_ : V → List Blk → Bool) : bodyV ⟨Tryz.prog, ofList [(20, (F_q52 S_q52))], isref, N_⟩ (an_q36 N_ S_q52) 21 (shF_q36.args [.fl a, .fl b, .bool b_1]) [⟨66, 1, .cells [.bool b_1]⟩] cont_ = G_q36 N_ S_q52 a b b_1 (fun r0 r1 => cont_ (.flt r0) [⟨66, 1, .cells [.bool r1]⟩]) := by kernel_rfl
theorem good_q36 (N_ : Nat) (S_q52 : TS_q52) (h_finite_Steps_Of_p0 : GoodF Tryz.prog 20 (F_q52 S_q52)) : GoodF Tryz.prog 21 (F_q36 (G_q36 N_ S_q52)) := by
  refine good_fs (cx := ⟨Tryz.prog, ofList [(20, (F_q52 S_q52))], isref, N_⟩) (ofList_cons h_finite_Steps_Of_p0 (ofList_nil _)) shF_q36 (sp_q36 (G_q36 N_ S_q52)) (an_q36 N_ S_q52) 0 1 (by kernel_rfl) (fun i_ hi_ => by omega) ?_
  intro a k h
  unfold sp_q36 at h
  split at h
  · exact ⟨[_], rfl, rfl, (eq_q36 _ _ _ _ _ _).trans h⟩
  · cases h

def an_q81 (N_ : Nat) : Nat → Option Ann := fun b_ => none
theorem eq_q81 (N_ : Nat) (b : Bool) (cont_ : V → List Blk → Bool) : bodyV ⟨Tryz.prog, ofList [], isref, N_⟩ (an_q81 N_) 22 (shF_q81.args [.bool b]) [⟨66, 1, .cells [.bool b]⟩] cont_ = G_q81 N_ b (cont_ (.bool b) [⟨66, 1, .cells [.bool b]⟩]) := by kernel_rfl
theorem good_q81 (N_ : Nat) : GoodF Tryz.prog 22 (F_q81 (G_q81 N_)) := by
  refine good_fs (cx := ⟨Tryz.prog, ofList [], isref, N_⟩) (ofList_nil _) shF_q81 (sp_q81 (G_q81 N_)) (an_q81 N_) 0 1 (by kernel_rfl) (fun i_ hi_ => by omega) ?_
  intro a k h
  unfold sp_q81 at h
  split at h
  · exact ⟨[_], rfl, rfl, (eq_q81 _ _ _).trans h⟩
  · cases h

def an_matrix_size (N_ : Nat) : Nat → Option Ann := fun b_ => none
theorem eq_matrix_size (N_ : Nat) (n : Int) (cont_ : V → List Blk → Bool) : bodyV ⟨Tryz.prog, ofList [], isref, N_⟩ (an_matrix_size N_) 77 (shF_matrix_size.args [.int n]) [] cont_ = G_matrix_size N_ n (fun r0 => cont_ (.bool r0) []) := by kernel_rfl
theorem good_matrix_size (N_ : Nat) : GoodF Tryz.prog 77 (F_matrix_size (G_matrix_size N_)) := by
  refine good_fs (cx := ⟨Tryz.prog, ofList [], isref, N_⟩) (ofList_nil _) shF_matrix_size (sp_matrix_size (G_matrix_size N_)) (an_matrix_size N_) 0 0 (by kernel_rfl) (fun i_ hi_ => by omega) ?_
  intro a k h
  unfold sp_matrix_size at h
  split at h
  · exact ⟨[], rfl, rfl, (eq_matrix_size _ _ _).trans h⟩
  · cases h

def an_matrix_Check (N_ : Nat) (S_matrix_size : TS_matrix_size) (S_q14 : TS_q14) : Nat → Option Ann := fun b_ => none
theorem eq_matrix_Check (N_ : Nat) (S_matrix_size : TS_matrix_size) (S_q14 : TS_q14) (m_0 : Int) (m_1 : Int) (m_2 : List Fl) (cont_ : V → List Blk → Bool) : bodyV ⟨Tryz.prog, ofList [(77, (F_matrix_size S_matrix_size)), (59, (F_q14 S_q14))], isref, N_⟩ (an_matrix_Check N_ S_matrix_size S_q14) 36 (shF_matrix_Check.args [.int m_0, .int m_1, .fls m_2]) [] cont_ = G_matrix_Check N_ S_matrix_size S_q14 m_0 m_1 m_2 (fun r0 => cont_ (.int .i64 r0) []) := by kernel_rfl
theorem good_matrix_Check (N_ : Nat) (S_matrix_size : TS_matrix_size) (S_q14 : TS_q14) (h_matrix_size : GoodF Tryz.prog 77 (F_matrix_size S_matrix_size)) (h_anatomy_Finite : GoodF Tryz.prog 59 (F_q14 S_q14)) : GoodF Tryz.prog 36 (F_matrix_Check (G_matrix_Check N_ S_matrix_size S_q14)) := by
  refine good_fs (cx := ⟨Tryz.prog, ofList [(77, (F_matrix_size S_matrix_size)), (59, (F_q14 S_q14))], isref, N_⟩) (ofList_cons h_matrix_size (ofList_cons h_anatomy_Finite (ofList_nil _))) shF_matrix_Check (sp_matrix_Check (G_matrix_Check N_ S_matrix_size S_q14)) (an_matrix_Check N_ S_matrix_size S_q14) 0 0 (by kernel_rfl) (fun i_ hi_ => by omega) ?_
  intro a k h
  unfold sp_matrix_Check at h
  split at h
  · exact ⟨[], rfl, rfl, (eq_matrix_Check _ _ _ _ _ _ _).trans h⟩
  · cases h

def an_quat_From_1_p0r (N_ : Nat) : Nat → Option Ann := fun b_ => none
theorem eq_quat_From_1_p0r (N_ : Nat) (i : Int) (j : Int) (b : Int) (b_1 : Int) (b_2 : List Fl) (cont_ : V → List Blk → Bool) : bodyV ⟨Tryz.prog, ofList [], isref, N_⟩ (an_quat_From_1_p0r N_) 63 (shF_quat_From_1_p0r.args [.int i, .int j, .int b, .int b_1, .fls b_2]) [⟨46, 1, .cells [.int .i64 b, .int .i64 b_1, .rof b_2]⟩] cont_ = G_quat_From_1_p0r N_ i j b b_1 b_2 (fun r0 => cont_ (.flt r0) [⟨46, 1, .cells [.int .i64 b, .int .i64 b_1, .rof b_2]⟩]) := by kernel_rfl
theorem good_quat_From_1_p0r (N_ : Nat) : GoodF Tryz.prog 63 (F_quat_From_1_p0r (G_quat_From_1_p0r N_)) := by
  refine good_fs (cx := ⟨Tryz.prog, ofList [], isref, N_⟩) (ofList_nil _) shF_quat_From_1_p0r (sp_quat_From_1_p0r (G_quat_From_1_p0r N_)) (an_quat_From_1_p0r N_) 0 1 (by kernel_rfl) (fun i_ hi_ => by omega) ?_
  intro a k h
  unfold sp_quat_From_1_p0r at h
  split at h
  · exact ⟨[_], rfl, rfl, (eq_quat_From_1_p0r _ _ _ _ _ _ _).trans h⟩
  · cases h

def an_quat_good_o1 (N_ : Nat) (S_quat_finite : TS_quat_finite) : Nat → Option Ann := fun b_ => none
theorem eq_quat_good_o1 (N_ : Nat) (S_quat_finite : TS_quat_finite) (qs_0 : Fl) (qs_1 : Fl) (qs_2 : Fl) (qs_3 : Fl) (cont_ : V → List Blk → Bool) : bodyV ⟨Tryz.prog, ofList [(64, (F_quat_finite S_quat_finite))], isref, (N_ + 24)⟩ (an_quat_good_o1 (N_ + 24) S_quat_finite) 123 (shF_quat_good_o1.args [.fl qs_0, .fl qs_1, .fl qs_2, .fl qs_3]) [] cont_ = G_quat_good_o1 (N_ + 24) S_quat_finite qs_0 qs_1 qs_2 qs_3 (fun r0 => cont_ (.bool r0) []) := by kernel_rfl
theorem good_quat_good_o1 (N_ : Nat) (S_quat_finite : TS_quat_finite) (h_quat_finite : GoodF Tryz.prog 64 (F_quat_finite S_quat_finite)) : GoodF Tryz.prog 123 (F_quat_good_o1 (G_quat_good_o1 (N_ + 24) S_quat_finite)) := by
  refine good_fs (cx := ⟨Tryz.prog, ofList [(64, (F_quat_finite S_quat_finite))], isref, (N_ + 24)⟩) (ofList_cons h_quat_finite (ofList_nil _)) shF_quat_good_o1 (sp_quat_good_o1 (G_quat_good_o1 (N_ + 24) S_quat_finite)) (an_quat_good_o1 (N_ + 24) S_quat_finite) 1 0 (by kernel_rfl) (fun i_ hi_ => by
    match i_, hi_ with
    | 0, _ => exact (fun hk e => by rw [show hookOf ((an_quat_good_o1 (N_ + 24) S_quat_finite) (lp Tryz.prog 123 0).1) = none from by kernel_rfl] at e; cases e)
    | (q + 1), h => omega) ?_
  intro a k h
  unfold sp_quat_good_o1 at h
  split at h
  · exact ⟨[], rfl, rfl, (eq_quat_good_o1 _ _ _ _ _ _ _).trans h⟩
  · cases h

def an_quat_told (N_ : Nat) (S_quat_good_o1 : TS_quat_good_o1) : Nat → Option Ann := fun b_ => none
theorem eq_quat_told (N_ : Nat) (S_quat_good_o1 : TS_quat_good_o1) (q_0 : Fl) (q_1 : Fl) (q_2 : Fl) (q_3 : Fl) (cont_ : V → List Blk → Bool) : bodyV ⟨Tryz.prog, ofList [(123, (F_quat_good_o1 S_quat_good_o1))], isref, N_⟩ (an_quat_told N_ S_quat_good_o1) 65 (shF_quat_told.args [.fl q_0, .fl q_1, .fl q_2, .fl q_3]) [] cont_ = G_quat_told N_ S_quat_good_o1 q_0 q_1 q_2 q_3 (fun r0 r1 r2 r3 r4 => cont_ (.tup [.agg [.flt r0, .flt r1, .flt r2, .flt r3], .int .i64 r4]) []) := by kernel_rfl
theorem good_quat_told (N_ : Nat) (S_quat_good_o1 : TS_quat_good_o1) (h_quat_good_o1 : GoodF Tryz.prog 123 (F_quat_good_o1 S_quat_good_o1)) : GoodF Tryz.prog 65 (F_quat_told (G_quat_told N_ S_quat_good_o1)) := by
  refine good_fs (cx := ⟨Tryz.prog, ofList [(123, (F_quat_good_o1 S_quat_good_o1))], isref, N_⟩) (ofList_cons h_quat_good_o1 (ofList_nil _)) shF_quat_told (sp_quat_told (G_quat_told N_ S_quat_good_o1)) (an_quat_told N_ S_quat_good_o1) 0 0 (by kernel_rfl) (fun i_ hi_ => by omega) ?_
  intro a k h
  unfold sp_quat_told at h
  split at h
  · exact ⟨[], rfl, rfl, (eq_quat_told _ _ _ _ _ _ _).trans h⟩
  · cases h

def an_quat_four (N_ : Nat) : Nat → Option Ann := fun b_ => none
theorem eq_quat_four (N_ : Nat) (q_0 : Fl) (q_1 : Fl) (q_2 : Fl) (q_3 : Fl) (cont_ : V → List Blk → Bool) : bodyV ⟨Tryz.prog, ofList [], isref, N_⟩ (an_quat_four N_) 124 (shF_quat_four.args [.fl q_0, .fl q_1, .fl q_2, .fl q_3]) [] cont_ = G_quat_four N_ q_0 q_1 q_2 q_3 (cont_ (.agg [.flt q_0, .flt q_1, .flt q_2, .flt q_3]) []) := by kernel_rfl
theorem good_quat_four (N_ : Nat) : GoodF Tryz.prog 124 (F_quat_four (G_quat_four N_)) := by
  refine good_fs (cx := ⟨Tryz.prog, ofList [], isref, N_⟩) (ofList_nil _) shF_quat_four (sp_quat_four (G_quat_four N_)) (an_quat_four N_) 0 0 (by kernel_rfl) (fun i_ hi_ => by omega) ?_
  intro a k h
  unfold sp_quat_four at h
  split at h
  · exact ⟨[], rfl, rfl, (eq_quat_four _ _ _ _ _ _).trans h⟩
  · cases h

def an_quat_quat (N_ : Nat) : Nat → Option Ann := fun b_ => none
theorem eq_quat_quat (N_ : Nat) (l_0 : Fl) (l_1 : Fl) (l_2 : Fl) (l_3 : Fl) (cont_ : V → List Blk → Bool) : bodyV ⟨Tryz.prog, ofList [], isref, N_⟩ (an_quat_quat N_) 127 (shF_quat_quat.args [.fl l_0, .fl l_1, .fl l_2, .fl l_3]) [] cont_ = G_quat_quat N_ l_0 l_1 l_2 l_3 (cont_ (.agg [.flt l_0, .flt l_1, .flt l_2, .flt l_3]) []) := by kernel_rfl
theorem good_quat_quat (N_ : Nat) : GoodF Tryz.prog 127 (F_quat_quat (G_quat_quat N_)) := by
  refine good_fs (cx := ⟨Tryz.prog, ofList [], isref, N_⟩) (ofList_nil _) shF_quat_quat (sp_quat_quat (G_quat_quat N_)) (an_quat_quat N_) 0 0 (by kernel_rfl) (fun i_ hi_ => by omega) ?_
  intro a k h
  unfold sp_quat_quat at h
  split at h
  · exact ⟨[], rfl, rfl, (eq_quat_quat _ _ _ _ _ _).trans h⟩
  · cases h

def an_quat_Unit (N_ : Nat) (S_quat_good_o1 : TS_quat_good_o1) (S_quat_four : TS_quat_four) (S_m_Abs : TS_m_Abs) (S_q41 : TS_q41) (S_q59 : TS_q59) (S_q61 : TS_q61) (S_quat_quat : TS_quat_quat) : Nat → Option Ann := fun b_ => none
theorem eq_quat_Unit (N_ : Nat) (S_quat_good_o1 : TS_quat_good_o1) (S_quat_four : TS_quat_four) (S_m_Abs : TS_m_Abs) (S_q41 : TS_q41) (S_q59 : TS_q59) (S_q61 : TS_q61) (S_quat_quat : TS_quat_quat) (q_0 : Fl) (q_1 : Fl) (q_2 : Fl) (q_3 : Fl) (cont_ : V → List Blk → Bool) : bodyV ⟨Tryz.prog, ofList [(123, (F_quat_good_o1 S_quat_good_o1)), (124, (F_quat_four S_quat_four)), (122, (F_m_Abs S_m_Abs)), (125, (F_q41 S_q41)), (126, (F_q59 S_q59)), (116, (F_q61 S_q61)), (127, (F_quat_quat S_quat_quat))], isref, (N_ + 24)⟩ (an_quat_Unit (N_ + 24) S_quat_good_o1 S_quat_four S_m_Abs S_q41 S_q59 S_q61 S_quat_quat) 66 (shF_quat_Unit.args [.fl q_0, .fl q_1, .fl q_2, .fl q_3]) [] cont_ = G_quat_Unit (N_ + 24) S_quat_good_o1 S_quat_four S_m_Abs S_q41 S_q59 S_q61 S_quat_quat q_0 q_1 q_2 q_3 (fun r0 r1 r2 r3 r4 => cont_ (.tup [.agg [.flt r0, .flt r1, .flt r2, .flt r3], .int .i64 r4]) []) := by kernel_rfl
theorem good_quat_Unit (N_ : Nat) (S_quat_good_o1 : TS_quat_good_o1) (S_quat_four : TS_quat_four) (S_m_Abs : TS_m_Abs) (S_q41 : TS_q41) (S_q59 : TS_q59) (S_q61 : TS_q61) (S_quat_quat : TS_quat_quat) (h_quat_good_o1 : GoodF Tryz.prog 123 (F_quat_good_o1 S_quat_good_o1)) (h_quat_four : GoodF Tryz.prog 124 (F_quat_four S_quat_four)) (h_math_Abs : GoodF Tryz.prog 122 (F_m_Abs S_m_Abs)) (h_math_Frexp : GoodF Tryz.prog 125 (F_q41 S_q41)) (h_math_Ldexp : GoodF Tryz.prog 126 (F_q59 S_q59)) (h_math_Sqrt : GoodF Tryz.prog 116 (F_q61 S_q61)) (h_quat_quat : GoodF Tryz.prog 127 (F_quat_quat S_quat_quat)) : GoodF Tryz.prog 66 (F_quat_Unit (G_quat_Unit (N_ + 24) S_quat_good_o1 S_quat_four S_m_Abs S_q41 S_q59 S_q61 S_quat_quat)) := by
  refine good_fs (cx := ⟨Tryz.prog, ofList [(123, (F_quat_good_o1 S_quat_good_o1)), (124, (F_quat_four S_quat_four)), (122, (F_m_Abs S_m_Abs)), (125, (F_q41 S_q41)), (126, (F_q59 S_q59)), (116, (F_q61 S_q61)), (127, (F_quat_quat S_quat_quat))], isref, (N_ + 24)⟩) (ofList_cons h_quat_good_o1 (ofList_cons h_quat_four (ofList_cons h_math_Abs (ofList_cons h_math_Frexp (ofList_cons h_math_Ldexp (ofList_cons h_math_Sqrt (ofList_cons h_quat_quat (ofList_nil _)))))))) shF_quat_Unit (sp_quat_Unit (G_quat_Unit (N_ + 24) S_quat_good_o1 S_quat_four S_m_Abs S_q41 S_q59 S_q61 S_quat_quat)) (an_quat_Unit (N_ + 24) S_quat_good_o1 S_quat_four S_m_Abs S_q41 S_q59 S_q61 S_quat_quat) 3 0 (by kernel_rfl) (fun i_ hi_ => by
    match i_, hi_ with
    | 0, _ => exact (fun hk e => by rw [show hookOf ((an_quat_Unit (N_ + 24) S_quat_good_o1 S_quat_four S_m_Abs S_q41 S_q59 S_q61 S_quat_quat) (lp Tryz.prog 66 0).1) = none from by kernel_rfl] at e; cases e)
    | 1, _ => exact (fun hk e => by rw [show hookOf ((an_quat_Unit (N_ + 24) S_quat_good_o1 S_quat_four S_m_Abs S_q41 S_q59 S_q61 S_quat_quat) (lp Tryz.prog 66 1).1) = none from by kernel_rfl] at e; cases e)
    | 2, _ => exact (fun hk e => by rw [show hookOf ((an_quat_Unit (N_ + 24) S_quat_good_o1 S_quat_four S_m_Abs S_q41 S_q59 S_q61 S_quat_quat) (lp Tryz.prog 66 2).1) = none from by kernel_rfl] at e; cases e)
    | (q + 3), h => omega) ?_
  intro a k h
  unfold sp_quat_Unit at h
  split at h
  · exact ⟨[], rfl, rfl, (eq_quat_Unit _ _ _ _ _ _ _ _ _ _ _ _ _).trans h⟩
  · cases h

end Go.Proofs.YtldpkhfffeddiaaGreat
