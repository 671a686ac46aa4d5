/-
  THE TIES: each printed meaning is what the program does (written by program).
  Conditions: none.
-/
import Derived.Test.YtoagmokejfcpbaaGs
namespace Go.Proofs.Ytoagmokejfcpbaa
open Go Go.Mach Go.Proofs
set_option linter.unusedVariables false
set_option maxRecDepth 20000


def an_anatomy_of (N_ : Nat) : Nat → Option Ann := fun b_ => none
theorem eq_anatomy_of (N_ : Nat) (k_ : V → List Blk → Bool) : bodyV ⟨Try.prog, ofList [], isref, N_⟩ (an_anatomy_of N_) 77 (shF_anatomy_of.args []) [] k_ = G_anatomy_of N_ (fun r0 r1 r2 => k_ (.agg [.int .u64 r0, .int .i64 r1, .int .i64 r2]) []) := by kernel_rfl
theorem good_anatomy_of (N_ : Nat) : GoodF Try.prog 77 (F_anatomy_of (G_anatomy_of N_)) := by
  refine good_fs (cx := ⟨Try.prog, ofList [], isref, N_⟩) (ofList_nil _) shF_anatomy_of (sp_anatomy_of (G_anatomy_of N_)) (an_anatomy_of N_) 0 0 (by kernel_rfl) (fun i_ hi_ => by omega) ?_
  intro a k h
  unfold sp_anatomy_of at h
  split at h
  · exact ⟨[], rfl, rfl, (eq_anatomy_of _ _).trans h⟩
  · cases h

def an_v_anatomy_format_sign (N_ : Nat) : Nat → Option Ann := fun b_ => none
theorem eq_v_anatomy_format_sign (N_ : Nat) (f_0 : Int) (f_1 : Int) (f_2 : Int) (k_ : V → List Blk → Bool) : bodyV ⟨Try.prog, ofList [], isref, N_⟩ (an_v_anatomy_format_sign N_) 94 (shF_v_anatomy_format_sign.args [.int f_0, .int f_1, .int f_2]) [] k_ = G_v_anatomy_format_sign N_ f_0 f_1 f_2 (fun r0 => k_ (.int .u64 r0) []) := by kernel_rfl
theorem good_v_anatomy_format_sign (N_ : Nat) : GoodF Try.prog 94 (F_v_anatomy_format_sign (G_v_anatomy_format_sign N_)) := by
  refine good_fs (cx := ⟨Try.prog, ofList [], isref, N_⟩) (ofList_nil _) shF_v_anatomy_format_sign (sp_v_anatomy_format_sign (G_v_anatomy_format_sign N_)) (an_v_anatomy_format_sign N_) 0 0 (by kernel_rfl) (fun i_ hi_ => by omega) ?_
  intro a k h
  unfold sp_v_anatomy_format_sign at h
  split at h
  · exact ⟨[], rfl, rfl, (eq_v_anatomy_format_sign _ _ _ _ _).trans h⟩
  · cases h

def an_v_anatomy_format_infinite (N_ : Nat) : Nat → Option Ann := fun b_ => none
theorem eq_v_anatomy_format_infinite (N_ : Nat) (f_0 : Int) (f_1 : Int) (f_2 : Int) (k_ : V → List Blk → Bool) : bodyV ⟨Try.prog, ofList [], isref, N_⟩ (an_v_anatomy_format_infinite N_) 96 (shF_v_anatomy_format_infinite.args [.int f_0, .int f_1, .int f_2]) [] k_ = G_v_anatomy_format_infinite N_ f_0 f_1 f_2 (fun r0 => k_ (.int .u64 r0) []) := by kernel_rfl
theorem good_v_anatomy_format_infinite (N_ : Nat) : GoodF Try.prog 96 (F_v_anatomy_format_infinite (G_v_anatomy_format_infinite N_)) := by
  refine good_fs (cx := ⟨Try.prog, ofList [], isref, N_⟩) (ofList_nil _) shF_v_anatomy_format_infinite (sp_v_anatomy_format_infinite (G_v_anatomy_format_infinite N_)) (an_v_anatomy_format_infinite N_) 0 0 (by kernel_rfl) (fun i_ hi_ => by omega) ?_
  intro a k h
  unfold sp_v_anatomy_format_infinite at h
  split at h
  · exact ⟨[], rfl, rfl, (eq_v_anatomy_format_infinite _ _ _ _ _).trans h⟩
  · cases h

def an_anatomy_nan_uint64_ (N_ : Nat) (S_v_anatomy_format_sign : TS_v_anatomy_format_sign) (S_v_anatomy_format_infinite : TS_v_anatomy_format_infinite) : Nat → Option Ann := fun b_ => none
theorem eq_anatomy_nan_uint64_ (N_ : Nat) (S_v_anatomy_format_sign : TS_v_anatomy_format_sign) (S_v_anatomy_format_infinite : TS_v_anatomy_format_infinite) (b : Int) (f_0 : Int) (f_1 : Int) (f_2 : Int) (k_ : V → List Blk → Bool) : bodyV ⟨Try.prog, ofList [(94, (F_v_anatomy_format_sign S_v_anatomy_format_sign)), (96, (F_v_anatomy_format_infinite S_v_anatomy_format_infinite))], isref, N_⟩ (an_anatomy_nan_uint64_ N_ S_v_anatomy_format_sign S_v_anatomy_format_infinite) 91 (shF_anatomy_nan_uint64_.args [.int b, .int f_0, .int f_1, .int f_2]) [] k_ = G_anatomy_nan_uint64_ N_ S_v_anatomy_format_sign S_v_anatomy_format_infinite b f_0 f_1 f_2 (fun r0 => k_ (.bool r0) []) := by kernel_rfl
theorem good_anatomy_nan_uint64_ (N_ : Nat) (S_v_anatomy_format_sign : TS_v_anatomy_format_sign) (S_v_anatomy_format_infinite : TS_v_anatomy_format_infinite) (h_v_anatomy_format_sign : GoodF Try.prog 94 (F_v_anatomy_format_sign S_v_anatomy_format_sign)) (h_v_anatomy_format_infinite : GoodF Try.prog 96 (F_v_anatomy_format_infinite S_v_anatomy_format_infinite)) : GoodF Try.prog 91 (F_anatomy_nan_uint64_ (G_anatomy_nan_uint64_ N_ S_v_anatomy_format_sign S_v_anatomy_format_infinite)) := by
  refine good_fs (cx := ⟨Try.prog, ofList [(94, (F_v_anatomy_format_sign S_v_anatomy_format_sign)), (96, (F_v_anatomy_format_infinite S_v_anatomy_format_infinite))], isref, N_⟩) (ofList_cons h_v_anatomy_format_sign (ofList_cons h_v_anatomy_format_infinite (ofList_nil _))) shF_anatomy_nan_uint64_ (sp_anatomy_nan_uint64_ (G_anatomy_nan_uint64_ N_ S_v_anatomy_format_sign S_v_anatomy_format_infinite)) (an_anatomy_nan_uint64_ N_ S_v_anatomy_format_sign S_v_anatomy_format_infinite) 0 0 (by kernel_rfl) (fun i_ hi_ => by omega) ?_
  intro a k h
  unfold sp_anatomy_nan_uint64_ at h
  split at h
  · exact ⟨[], rfl, rfl, (eq_anatomy_nan_uint64_ _ _ _ _ _ _ _ _).trans h⟩
  · cases h

def an_v_anatomy_format_hidden (N_ : Nat) : Nat → Option Ann := fun b_ => none
theorem eq_v_anatomy_format_hidden (N_ : Nat) (f_0 : Int) (f_1 : Int) (f_2 : Int) (k_ : V → List Blk → Bool) : bodyV ⟨Try.prog, ofList [], isref, N_⟩ (an_v_anatomy_format_hidden N_) 95 (shF_v_anatomy_format_hidden.args [.int f_0, .int f_1, .int f_2]) [] k_ = G_v_anatomy_format_hidden N_ f_0 f_1 f_2 (fun r0 => k_ (.int .u64 r0) []) := by kernel_rfl
theorem good_v_anatomy_format_hidden (N_ : Nat) : GoodF Try.prog 95 (F_v_anatomy_format_hidden (G_v_anatomy_format_hidden N_)) := by
  refine good_fs (cx := ⟨Try.prog, ofList [], isref, N_⟩) (ofList_nil _) shF_v_anatomy_format_hidden (sp_v_anatomy_format_hidden (G_v_anatomy_format_hidden N_)) (an_v_anatomy_format_hidden N_) 0 0 (by kernel_rfl) (fun i_ hi_ => by omega) ?_
  intro a k h
  unfold sp_v_anatomy_format_hidden at h
  split at h
  · exact ⟨[], rfl, rfl, (eq_v_anatomy_format_hidden _ _ _ _ _).trans h⟩
  · cases h

def an_v_anatomy_format_none (N_ : Nat) (S_v_anatomy_format_infinite : TS_v_anatomy_format_infinite) (S_v_anatomy_format_hidden : TS_v_anatomy_format_hidden) : Nat → Option Ann := fun b_ => none
theorem eq_v_anatomy_format_none (N_ : Nat) (S_v_anatomy_format_infinite : TS_v_anatomy_format_infinite) (S_v_anatomy_format_hidden : TS_v_anatomy_format_hidden) (f_0 : Int) (f_1 : Int) (f_2 : Int) (k_ : V → List Blk → Bool) : bodyV ⟨Try.prog, ofList [(96, (F_v_anatomy_format_infinite S_v_anatomy_format_infinite)), (95, (F_v_anatomy_format_hidden S_v_anatomy_format_hidden))], isref, N_⟩ (an_v_anatomy_format_none N_ S_v_anatomy_format_infinite S_v_anatomy_format_hidden) 92 (shF_v_anatomy_format_none.args [.int f_0, .int f_1, .int f_2]) [] k_ = G_v_anatomy_format_none N_ S_v_anatomy_format_infinite S_v_anatomy_format_hidden f_0 f_1 f_2 (fun r0 => k_ (.int .u64 r0) []) := by kernel_rfl
theorem good_v_anatomy_format_none (N_ : Nat) (S_v_anatomy_format_infinite : TS_v_anatomy_format_infinite) (S_v_anatomy_format_hidden : TS_v_anatomy_format_hidden) (h_v_anatomy_format_infinite : GoodF Try.prog 96 (F_v_anatomy_format_infinite S_v_anatomy_format_infinite)) (h_v_anatomy_format_hidden : GoodF Try.prog 95 (F_v_anatomy_format_hidden S_v_anatomy_format_hidden)) : GoodF Try.prog 92 (F_v_anatomy_format_none (G_v_anatomy_format_none N_ S_v_anatomy_format_infinite S_v_anatomy_format_hidden)) := by
  refine good_fs (cx := ⟨Try.prog, ofList [(96, (F_v_anatomy_format_infinite S_v_anatomy_format_infinite)), (95, (F_v_anatomy_format_hidden S_v_anatomy_format_hidden))], isref, N_⟩) (ofList_cons h_v_anatomy_format_infinite (ofList_cons h_v_anatomy_format_hidden (ofList_nil _))) shF_v_anatomy_format_none (sp_v_anatomy_format_none (G_v_anatomy_format_none N_ S_v_anatomy_format_infinite S_v_anatomy_format_hidden)) (an_v_anatomy_format_none N_ S_v_anatomy_format_infinite S_v_anatomy_format_hidden) 0 0 (by kernel_rfl) (fun i_ hi_ => by omega) ?_
  intro a k h
  unfold sp_v_anatomy_format_none at h
  split at h
  · exact ⟨[], rfl, rfl, (eq_v_anatomy_format_none _ _ _ _ _ _ _).trans h⟩
  · cases h

def an_anatomy_canon_uint64_ (N_ : Nat) (S_anatomy_nan_uint64_ : TS_anatomy_nan_uint64_) (S_v_anatomy_format_none : TS_v_anatomy_format_none) : Nat → Option Ann := fun b_ => none
theorem eq_anatomy_canon_uint64_ (N_ : Nat) (S_anatomy_nan_uint64_ : TS_anatomy_nan_uint64_) (S_v_anatomy_format_none : TS_v_anatomy_format_none) (b : Int) (f_0 : Int) (f_1 : Int) (f_2 : Int) (k_ : V → List Blk → Bool) : bodyV ⟨Try.prog, ofList [(91, (F_anatomy_nan_uint64_ S_anatomy_nan_uint64_)), (92, (F_v_anatomy_format_none S_v_anatomy_format_none))], isref, N_⟩ (an_anatomy_canon_uint64_ N_ S_anatomy_nan_uint64_ S_v_anatomy_format_none) 78 (shF_anatomy_canon_uint64_.args [.int b, .int f_0, .int f_1, .int f_2]) [] k_ = G_anatomy_canon_uint64_ N_ S_anatomy_nan_uint64_ S_v_anatomy_format_none b f_0 f_1 f_2 (fun r0 => k_ (.int .u64 r0) []) := by kernel_rfl
theorem good_anatomy_canon_uint64_ (N_ : Nat) (S_anatomy_nan_uint64_ : TS_anatomy_nan_uint64_) (S_v_anatomy_format_none : TS_v_anatomy_format_none) (h_anatomy_nan_uint64_ : GoodF Try.prog 91 (F_anatomy_nan_uint64_ S_anatomy_nan_uint64_)) (h_v_anatomy_format_none : GoodF Try.prog 92 (F_v_anatomy_format_none S_v_anatomy_format_none)) : GoodF Try.prog 78 (F_anatomy_canon_uint64_ (G_anatomy_canon_uint64_ N_ S_anatomy_nan_uint64_ S_v_anatomy_format_none)) := by
  refine good_fs (cx := ⟨Try.prog, ofList [(91, (F_anatomy_nan_uint64_ S_anatomy_nan_uint64_)), (92, (F_v_anatomy_format_none S_v_anatomy_format_none))], isref, N_⟩) (ofList_cons h_anatomy_nan_uint64_ (ofList_cons h_v_anatomy_format_none (ofList_nil _))) shF_anatomy_canon_uint64_ (sp_anatomy_canon_uint64_ (G_anatomy_canon_uint64_ N_ S_anatomy_nan_uint64_ S_v_anatomy_format_none)) (an_anatomy_canon_uint64_ N_ S_anatomy_nan_uint64_ S_v_anatomy_format_none) 0 0 (by kernel_rfl) (fun i_ hi_ => by omega) ?_
  intro a k h
  unfold sp_anatomy_canon_uint64_ at h
  split at h
  · exact ⟨[], rfl, rfl, (eq_anatomy_canon_uint64_ _ _ _ _ _ _ _ _).trans h⟩
  · cases h

def an_anatomy_split_uint64_ (N_ : Nat) (S_anatomy_canon_uint64_ : TS_anatomy_canon_uint64_) (S_v_anatomy_format_sign : TS_v_anatomy_format_sign) (S_v_anatomy_format_hidden : TS_v_anatomy_format_hidden) : Nat → Option Ann := fun b_ => none
theorem eq_anatomy_split_uint64_ (N_ : Nat) (S_anatomy_canon_uint64_ : TS_anatomy_canon_uint64_) (S_v_anatomy_format_sign : TS_v_anatomy_format_sign) (S_v_anatomy_format_hidden : TS_v_anatomy_format_hidden) (b : Int) (f_0 : Int) (f_1 : Int) (f_2 : Int) (k_ : V → List Blk → Bool) : bodyV ⟨Try.prog, ofList [(78, (F_anatomy_canon_uint64_ S_anatomy_canon_uint64_)), (94, (F_v_anatomy_format_sign S_v_anatomy_format_sign)), (95, (F_v_anatomy_format_hidden S_v_anatomy_format_hidden))], isref, N_⟩ (an_anatomy_split_uint64_ N_ S_anatomy_canon_uint64_ S_v_anatomy_format_sign S_v_anatomy_format_hidden) 90 (shF_anatomy_split_uint64_.args [.int b, .int f_0, .int f_1, .int f_2]) [] k_ = G_anatomy_split_uint64_ N_ S_anatomy_canon_uint64_ S_v_anatomy_format_sign S_v_anatomy_format_hidden b f_0 f_1 f_2 (fun r0 r1 r2 => k_ (.tup [.bool r0, .int .i64 r1, .int .u64 r2]) []) := by kernel_rfl
theorem good_anatomy_split_uint64_ (N_ : Nat) (S_anatomy_canon_uint64_ : TS_anatomy_canon_uint64_) (S_v_anatomy_format_sign : TS_v_anatomy_format_sign) (S_v_anatomy_format_hidden : TS_v_anatomy_format_hidden) (h_anatomy_canon_uint64_ : GoodF Try.prog 78 (F_anatomy_canon_uint64_ S_anatomy_canon_uint64_)) (h_v_anatomy_format_sign : GoodF Try.prog 94 (F_v_anatomy_format_sign S_v_anatomy_format_sign)) (h_v_anatomy_format_hidden : GoodF Try.prog 95 (F_v_anatomy_format_hidden S_v_anatomy_format_hidden)) : GoodF Try.prog 90 (F_anatomy_split_uint64_ (G_anatomy_split_uint64_ N_ S_anatomy_canon_uint64_ S_v_anatomy_format_sign S_v_anatomy_format_hidden)) := by
  refine good_fs (cx := ⟨Try.prog, ofList [(78, (F_anatomy_canon_uint64_ S_anatomy_canon_uint64_)), (94, (F_v_anatomy_format_sign S_v_anatomy_format_sign)), (95, (F_v_anatomy_format_hidden S_v_anatomy_format_hidden))], isref, N_⟩) (ofList_cons h_anatomy_canon_uint64_ (ofList_cons h_v_anatomy_format_sign (ofList_cons h_v_anatomy_format_hidden (ofList_nil _)))) shF_anatomy_split_uint64_ (sp_anatomy_split_uint64_ (G_anatomy_split_uint64_ N_ S_anatomy_canon_uint64_ S_v_anatomy_format_sign S_v_anatomy_format_hidden)) (an_anatomy_split_uint64_ N_ S_anatomy_canon_uint64_ S_v_anatomy_format_sign S_v_anatomy_format_hidden) 0 0 (by kernel_rfl) (fun i_ hi_ => by omega) ?_
  intro a k h
  unfold sp_anatomy_split_uint64_ at h
  split at h
  · exact ⟨[], rfl, rfl, (eq_anatomy_split_uint64_ _ _ _ _ _ _ _ _ _).trans h⟩
  · cases h

def an_anatomy_class_uint64_ (N_ : Nat) (S_anatomy_split_uint64_ : TS_anatomy_split_uint64_) : Nat → Option Ann := fun b_ => none
theorem eq_anatomy_class_uint64_ (N_ : Nat) (S_anatomy_split_uint64_ : TS_anatomy_split_uint64_) (b : Int) (f_0 : Int) (f_1 : Int) (f_2 : Int) (k_ : V → List Blk → Bool) : bodyV ⟨Try.prog, ofList [(90, (F_anatomy_split_uint64_ S_anatomy_split_uint64_))], isref, N_⟩ (an_anatomy_class_uint64_ N_ S_anatomy_split_uint64_) 76 (shF_anatomy_class_uint64_.args [.int b, .int f_0, .int f_1, .int f_2]) [] k_ = G_anatomy_class_uint64_ N_ S_anatomy_split_uint64_ b f_0 f_1 f_2 (fun r0 => k_ (.int .i64 r0) []) := by kernel_rfl
theorem good_anatomy_class_uint64_ (N_ : Nat) (S_anatomy_split_uint64_ : TS_anatomy_split_uint64_) (h_anatomy_split_uint64_ : GoodF Try.prog 90 (F_anatomy_split_uint64_ S_anatomy_split_uint64_)) : GoodF Try.prog 76 (F_anatomy_class_uint64_ (G_anatomy_class_uint64_ N_ S_anatomy_split_uint64_)) := by
  refine good_fs (cx := ⟨Try.prog, ofList [(90, (F_anatomy_split_uint64_ S_anatomy_split_uint64_))], isref, N_⟩) (ofList_cons h_anatomy_split_uint64_ (ofList_nil _)) shF_anatomy_class_uint64_ (sp_anatomy_class_uint64_ (G_anatomy_class_uint64_ N_ S_anatomy_split_uint64_)) (an_anatomy_class_uint64_ N_ S_anatomy_split_uint64_) 0 0 (by kernel_rfl) (fun i_ hi_ => by omega) ?_
  intro a k h
  unfold sp_anatomy_class_uint64_ at h
  split at h
  · exact ⟨[], rfl, rfl, (eq_anatomy_class_uint64_ _ _ _ _ _ _ _).trans h⟩
  · cases h

def an_anatomy_Class (N_ : Nat) (S_math_Float64bits : TS_math_Float64bits) (S_anatomy_of : TS_anatomy_of) (S_anatomy_class_uint64_ : TS_anatomy_class_uint64_) : Nat → Option Ann := fun b_ => none
theorem eq_anatomy_Class (N_ : Nat) (S_math_Float64bits : TS_math_Float64bits) (S_anatomy_of : TS_anatomy_of) (S_anatomy_class_uint64_ : TS_anatomy_class_uint64_) (x : Nat) (k_ : V → List Blk → Bool) : bodyV ⟨Try.prog, ofList [(38, (F_math_Float64bits S_math_Float64bits)), (77, (F_anatomy_of S_anatomy_of)), (76, (F_anatomy_class_uint64_ S_anatomy_class_uint64_))], isref, N_⟩ (an_anatomy_Class N_ S_math_Float64bits S_anatomy_of S_anatomy_class_uint64_) 59 (shF_anatomy_Class.args [.nat x]) [] k_ = G_anatomy_Class N_ S_math_Float64bits S_anatomy_of S_anatomy_class_uint64_ x (fun r0 => k_ (.int .i64 r0) []) := by kernel_rfl
theorem good_anatomy_Class (N_ : Nat) (S_math_Float64bits : TS_math_Float64bits) (S_anatomy_of : TS_anatomy_of) (S_anatomy_class_uint64_ : TS_anatomy_class_uint64_) (h_math_Float64bits : GoodF Try.prog 38 (F_math_Float64bits S_math_Float64bits)) (h_anatomy_of : GoodF Try.prog 77 (F_anatomy_of S_anatomy_of)) (h_anatomy_class_uint64_ : GoodF Try.prog 76 (F_anatomy_class_uint64_ S_anatomy_class_uint64_)) : GoodF Try.prog 59 (F_anatomy_Class (G_anatomy_Class N_ S_math_Float64bits S_anatomy_of S_anatomy_class_uint64_)) := by
  refine good_fs (cx := ⟨Try.prog, ofList [(38, (F_math_Float64bits S_math_Float64bits)), (77, (F_anatomy_of S_anatomy_of)), (76, (F_anatomy_class_uint64_ S_anatomy_class_uint64_))], isref, N_⟩) (ofList_cons h_math_Float64bits (ofList_cons h_anatomy_of (ofList_cons h_anatomy_class_uint64_ (ofList_nil _)))) shF_anatomy_Class (sp_anatomy_Class (G_anatomy_Class N_ S_math_Float64bits S_anatomy_of S_anatomy_class_uint64_)) (an_anatomy_Class N_ S_math_Float64bits S_anatomy_of S_anatomy_class_uint64_) 0 0 (by kernel_rfl) (fun i_ hi_ => by omega) ?_
  intro a k h
  unfold sp_anatomy_Class at h
  split at h
  · exact ⟨[], rfl, rfl, (eq_anatomy_Class _ _ _ _ _ _).trans h⟩
  · cases h

def an_anatomy_Same (N_ : Nat) (S_math_Float64bits : TS_math_Float64bits) (S_anatomy_of : TS_anatomy_of) (S_anatomy_canon_uint64_ : TS_anatomy_canon_uint64_) : Nat → Option Ann := fun b_ => none
theorem eq_anatomy_Same (N_ : Nat) (S_math_Float64bits : TS_math_Float64bits) (S_anatomy_of : TS_anatomy_of) (S_anatomy_canon_uint64_ : TS_anatomy_canon_uint64_) (a : Nat) (b : Nat) (k_ : V → List Blk → Bool) : bodyV ⟨Try.prog, ofList [(38, (F_math_Float64bits S_math_Float64bits)), (77, (F_anatomy_of S_anatomy_of)), (78, (F_anatomy_canon_uint64_ S_anatomy_canon_uint64_))], isref, N_⟩ (an_anatomy_Same N_ S_math_Float64bits S_anatomy_of S_anatomy_canon_uint64_) 60 (shF_anatomy_Same.args [.nat a, .nat b]) [] k_ = G_anatomy_Same N_ S_math_Float64bits S_anatomy_of S_anatomy_canon_uint64_ a b (fun r0 => k_ (.bool r0) []) := by kernel_rfl
theorem good_anatomy_Same (N_ : Nat) (S_math_Float64bits : TS_math_Float64bits) (S_anatomy_of : TS_anatomy_of) (S_anatomy_canon_uint64_ : TS_anatomy_canon_uint64_) (h_math_Float64bits : GoodF Try.prog 38 (F_math_Float64bits S_math_Float64bits)) (h_anatomy_of : GoodF Try.prog 77 (F_anatomy_of S_anatomy_of)) (h_anatomy_canon_uint64_ : GoodF Try.prog 78 (F_anatomy_canon_uint64_ S_anatomy_canon_uint64_)) : GoodF Try.prog 60 (F_anatomy_Same (G_anatomy_Same N_ S_math_Float64bits S_anatomy_of S_anatomy_canon_uint64_)) := by
  refine good_fs (cx := ⟨Try.prog, ofList [(38, (F_math_Float64bits S_math_Float64bits)), (77, (F_anatomy_of S_anatomy_of)), (78, (F_anatomy_canon_uint64_ S_anatomy_canon_uint64_))], isref, N_⟩) (ofList_cons h_math_Float64bits (ofList_cons h_anatomy_of (ofList_cons h_anatomy_canon_uint64_ (ofList_nil _)))) shF_anatomy_Same (sp_anatomy_Same (G_anatomy_Same N_ S_math_Float64bits S_anatomy_of S_anatomy_canon_uint64_)) (an_anatomy_Same N_ S_math_Float64bits S_anatomy_of S_anatomy_canon_uint64_) 0 0 (by kernel_rfl) (fun i_ hi_ => by omega) ?_
  intro a k h
  unfold sp_anatomy_Same at h
  split at h
  · exact ⟨[], rfl, rfl, (eq_anatomy_Same _ _ _ _ _ _ _).trans h⟩
  · cases h


def an_math_Abs (N_ : Nat) (S_math_Float64bits : TS_math_Float64bits) (S_math_Float64frombits : TS_math_Float64frombits) : Nat → Option Ann := fun b_ => none
theorem eq_math_Abs (N_ : Nat) (S_math_Float64bits : TS_math_Float64bits) (S_math_Float64frombits : TS_math_Float64frombits) (x : Nat) (k_ : V → List Blk → Bool) : bodyV ⟨Try.prog, ofList [(38, (F_math_Float64bits S_math_Float64bits)), (30, (F_math_Float64frombits S_math_Float64frombits))], isref, N_⟩ (an_math_Abs N_ S_math_Float64bits S_math_Float64frombits) 31 (shF_math_Abs.args [.nat x]) [] k_ = G_math_Abs N_ S_math_Float64bits S_math_Float64frombits x (fun r0 => k_ (.flt r0) []) := by kernel_rfl
theorem good_math_Abs (N_ : Nat) (S_math_Float64bits : TS_math_Float64bits) (S_math_Float64frombits : TS_math_Float64frombits) (h_math_Float64bits : GoodF Try.prog 38 (F_math_Float64bits S_math_Float64bits)) (h_math_Float64frombits : GoodF Try.prog 30 (F_math_Float64frombits S_math_Float64frombits)) : GoodF Try.prog 31 (F_math_Abs (G_math_Abs N_ S_math_Float64bits S_math_Float64frombits)) := by
  refine good_fs (cx := ⟨Try.prog, ofList [(38, (F_math_Float64bits S_math_Float64bits)), (30, (F_math_Float64frombits S_math_Float64frombits))], isref, N_⟩) (ofList_cons h_math_Float64bits (ofList_cons h_math_Float64frombits (ofList_nil _))) shF_math_Abs (sp_math_Abs (G_math_Abs N_ S_math_Float64bits S_math_Float64frombits)) (an_math_Abs N_ S_math_Float64bits S_math_Float64frombits) 0 0 (by kernel_rfl) (fun i_ hi_ => by omega) ?_
  intro a k h
  unfold sp_math_Abs at h
  split at h
  · exact ⟨[], rfl, rfl, (eq_math_Abs _ _ _ _ _).trans h⟩
  · cases h

def sh_st_binnacleref01_Of64_0 : StSh := ⟨[.any, .any, .any, .slw 0, .any, .any, .roi .u64, .int .i64, .int .i64, .any, .any, .any, .any, .any, .any, .any, .any, .any, .any], [some (35, 1, .flts)]⟩
def sx0_st_binnacleref01_Of64_0 : StSh := ⟨[.any, .any, .any, .slw 0, .any, .any, .any, .any, .any, .any, .any, .any, .any, .any, .any, .any, .any, .any, .any], [some (35, 1, .flts)]⟩
def hk_st_binnacleref01_Of64_0 (N_ : Nat) (S_math_Float64frombits : TS_math_Float64frombits) : List Atom → K → Bool := fun a_ κ => match a_ with
  | [.ints t6_1, .int t7_1, .int t8_1, .fls x] => iterG N_ (st_binnacleref01_Of64_0 N_ S_math_Float64frombits t6_1 t7_1 (fun r0 => κ.ext 0 (sx0_st_binnacleref01_Of64_0.build [.fls r0]))) (t8_1, x)
  | _ => false
def an_binnacleref01_Of64 (N_ : Nat) (S_math_Float64frombits : TS_math_Float64frombits) : Nat → Option Ann := fun b_ => cond (b_ == 0) (some ⟨⟨[3, 6, 7, 8], [(3, none, 35)]⟩, [(0, ⟨[3], []⟩)], some ⟨[2], []⟩, some (mkHooks [(sh_st_binnacleref01_Of64_0, hk_st_binnacleref01_Of64_0 N_ S_math_Float64frombits)])⟩) (none)
theorem eq_st_binnacleref01_Of64_0 (N_ : Nat) (S_math_Float64frombits : TS_math_Float64frombits) (κ : K) (t6_1 : List Int) (t7_1 : Int) (t8_1 : Int) (x : List Fl) : iter N_ (fun s k => codeV ⟨Try.prog, ofList [(30, (F_math_Float64frombits S_math_Float64frombits))], isref, N_⟩ 0 (an_binnacleref01_Of64 N_ S_math_Float64frombits) (lp Try.prog 40 0).2 (lp Try.prog 40 0).1 s (roundK Try.prog 0 ((an_binnacleref01_Of64 N_ S_math_Float64frombits) (lp Try.prog 40 0).1) κ k)) (sh_st_binnacleref01_Of64_0.build [.ints t6_1, .int t7_1, .int t8_1, .fls x]) = iterG N_ (st_binnacleref01_Of64_0 N_ S_math_Float64frombits t6_1 t7_1 (fun r0 => κ.ext 0 (sx0_st_binnacleref01_Of64_0.build [.fls r0]))) (t8_1, x) :=
  iter_tr (fun (v_ : Int × List Fl) => sh_st_binnacleref01_Of64_0.build [.ints t6_1, .int t7_1, .int v_.1, .fls v_.2]) (fun v_ K_ => by obtain ⟨t8_1, x⟩ := v_; kernel_rfl) N_ (t8_1, x)
theorem hk1_st_binnacleref01_Of64_0 (N_ : Nat) (S_math_Float64frombits : TS_math_Float64frombits) : HookFor ⟨Try.prog, ofList [(30, (F_math_Float64frombits S_math_Float64frombits))], isref, N_⟩ 0 (an_binnacleref01_Of64 N_ S_math_Float64frombits) (lp Try.prog 40 0) (sh_st_binnacleref01_Of64_0, hk_st_binnacleref01_Of64_0 N_ S_math_Float64frombits) := by
  intro a κ h
  simp only at h
  unfold hk_st_binnacleref01_Of64_0 at h
  split at h
  · exact (eq_st_binnacleref01_Of64_0 _ _ _ _ _ _ _).trans h
  · cases h
theorem ho_binnacleref01_Of64_0 (N_ : Nat) (S_math_Float64frombits : TS_math_Float64frombits) : HookOk ⟨Try.prog, ofList [(30, (F_math_Float64frombits S_math_Float64frombits))], isref, N_⟩ 0 (an_binnacleref01_Of64 N_ S_math_Float64frombits) (lp Try.prog 40 0) :=
  hooks_ok [(sh_st_binnacleref01_Of64_0, hk_st_binnacleref01_Of64_0 N_ S_math_Float64frombits)] (by kernel_rfl) ⟨hk1_st_binnacleref01_Of64_0 _ _, trivial⟩
theorem eq_binnacleref01_Of64 (N_ : Nat) (S_math_Float64frombits : TS_math_Float64frombits) (l : List Int) (k_ : V → List Blk → Bool) : bodyV ⟨Try.prog, ofList [(30, (F_math_Float64frombits S_math_Float64frombits))], isref, N_⟩ (an_binnacleref01_Of64 N_ S_math_Float64frombits) 40 (shF_binnacleref01_Of64.args [.ints l]) [] k_ = G_binnacleref01_Of64 N_ S_math_Float64frombits l (fun r0 => k_ (.slw 0) [⟨35, 1, .flts r0⟩]) := by kernel_rfl
theorem good_binnacleref01_Of64 (N_ : Nat) (S_math_Float64frombits : TS_math_Float64frombits) (h_math_Float64frombits : GoodF Try.prog 30 (F_math_Float64frombits S_math_Float64frombits)) : GoodF Try.prog 40 (F_binnacleref01_Of64 (G_binnacleref01_Of64 N_ S_math_Float64frombits)) := by
  refine good_fs (cx := ⟨Try.prog, ofList [(30, (F_math_Float64frombits S_math_Float64frombits))], isref, N_⟩) (ofList_cons h_math_Float64frombits (ofList_nil _)) shF_binnacleref01_Of64 (sp_binnacleref01_Of64 (G_binnacleref01_Of64 N_ S_math_Float64frombits)) (an_binnacleref01_Of64 N_ S_math_Float64frombits) 1 0 (by kernel_rfl) (fun i_ hi_ => by
    match i_, hi_ with
    | 0, _ => exact ho_binnacleref01_Of64_0 _ _
    | (q + 1), h => omega) ?_
  intro a k h
  unfold sp_binnacleref01_Of64 at h
  split at h
  · exact ⟨[], rfl, rfl, (eq_binnacleref01_Of64 _ _ _ _).trans h⟩
  · cases h

def an_binnaclelaw16_l (N_ : Nat) (S_binnacleref01_Of64 : TS_binnacleref01_Of64) : Nat → Option Ann := fun b_ => none
theorem eq_binnaclelaw16_l (N_ : Nat) (S_binnacleref01_Of64 : TS_binnacleref01_Of64) (b : List Int) (k_ : V → List Blk → Bool) : bodyV ⟨Try.prog, ofList [(40, (F_binnacleref01_Of64 S_binnacleref01_Of64))], isref, N_⟩ (an_binnaclelaw16_l N_ S_binnacleref01_Of64) 15 (shF_binnaclelaw16_l.args [.ints b]) [] k_ = G_binnaclelaw16_l N_ S_binnacleref01_Of64 b (fun r0 => k_ (.slw 0) [⟨35, 1, .flts r0⟩]) := by kernel_rfl
theorem good_binnaclelaw16_l (N_ : Nat) (S_binnacleref01_Of64 : TS_binnacleref01_Of64) (h_binnacleref01_Of64 : GoodF Try.prog 40 (F_binnacleref01_Of64 S_binnacleref01_Of64)) : GoodF Try.prog 15 (F_binnaclelaw16_l (G_binnaclelaw16_l N_ S_binnacleref01_Of64)) := by
  refine good_fs (cx := ⟨Try.prog, ofList [(40, (F_binnacleref01_Of64 S_binnacleref01_Of64))], isref, N_⟩) (ofList_cons h_binnacleref01_Of64 (ofList_nil _)) shF_binnaclelaw16_l (sp_binnaclelaw16_l (G_binnaclelaw16_l N_ S_binnacleref01_Of64)) (an_binnaclelaw16_l N_ S_binnacleref01_Of64) 0 0 (by kernel_rfl) (fun i_ hi_ => by omega) ?_
  intro a k h
  unfold sp_binnaclelaw16_l at h
  split at h
  · exact ⟨[], rfl, rfl, (eq_binnaclelaw16_l _ _ _ _).trans h⟩
  · cases h

def an_binnaclelaw16_mat (N_ : Nat) (S_binnaclelaw16_l : TS_binnaclelaw16_l) : Nat → Option Ann := fun b_ => none
theorem eq_binnaclelaw16_mat (N_ : Nat) (S_binnaclelaw16_l : TS_binnaclelaw16_l) (m_0 : Int) (m_1 : Int) (m_2 : List Int) (k_ : V → List Blk → Bool) : bodyV ⟨Try.prog, ofList [(15, (F_binnaclelaw16_l S_binnaclelaw16_l))], isref, N_⟩ (an_binnaclelaw16_mat N_ S_binnaclelaw16_l) 25 (shF_binnaclelaw16_mat.args [.int m_0, .int m_1, .ints m_2]) [] k_ = G_binnaclelaw16_mat N_ S_binnaclelaw16_l m_0 m_1 m_2 (fun r2 => k_ (.agg [.int .i64 m_0, .int .i64 m_1, .slw 0]) [⟨35, 1, .flts r2⟩]) := by kernel_rfl
theorem good_binnaclelaw16_mat (N_ : Nat) (S_binnaclelaw16_l : TS_binnaclelaw16_l) (h_binnaclelaw16_l : GoodF Try.prog 15 (F_binnaclelaw16_l S_binnaclelaw16_l)) : GoodF Try.prog 25 (F_binnaclelaw16_mat (G_binnaclelaw16_mat N_ S_binnaclelaw16_l)) := by
  refine good_fs (cx := ⟨Try.prog, ofList [(15, (F_binnaclelaw16_l S_binnaclelaw16_l))], isref, N_⟩) (ofList_cons h_binnaclelaw16_l (ofList_nil _)) shF_binnaclelaw16_mat (sp_binnaclelaw16_mat (G_binnaclelaw16_mat N_ S_binnaclelaw16_l)) (an_binnaclelaw16_mat N_ S_binnaclelaw16_l) 0 0 (by kernel_rfl) (fun i_ hi_ => by omega) ?_
  intro a k h
  unfold sp_binnaclelaw16_mat at h
  split at h
  · exact ⟨[], rfl, rfl, (eq_binnaclelaw16_mat _ _ _ _ _ _).trans h⟩
  · cases h

def an_binnaclelaw16_of (N_ : Nat) (S_binnaclelaw16_l : TS_binnaclelaw16_l) (S_binnaclelaw16_mat : TS_binnaclelaw16_mat) : Nat → Option Ann := fun b_ => none
theorem eq_binnaclelaw16_of (N_ : Nat) (S_binnaclelaw16_l : TS_binnaclelaw16_l) (S_binnaclelaw16_mat : TS_binnaclelaw16_mat) (x : List Int) (m_0 : Int) (m_1 : Int) (m_2 : List Int) (k_ : V → List Blk → Bool) : bodyV ⟨Try.prog, ofList [(15, (F_binnaclelaw16_l S_binnaclelaw16_l)), (25, (F_binnaclelaw16_mat S_binnaclelaw16_mat))], isref, N_⟩ (an_binnaclelaw16_of N_ S_binnaclelaw16_l S_binnaclelaw16_mat) 7 (shF_binnaclelaw16_of.args [.ints x, .int m_0, .int m_1, .ints m_2]) [] k_ = G_binnaclelaw16_of N_ S_binnaclelaw16_l S_binnaclelaw16_mat x m_0 m_1 m_2 (fun r2 r3 => k_ (.agg [.slw 0, .int .i64 m_0, .int .i64 m_1, .slw 1]) [⟨35, 1, .flts r2⟩, ⟨35, 1, .flts r3⟩]) := by kernel_rfl
theorem good_binnaclelaw16_of (N_ : Nat) (S_binnaclelaw16_l : TS_binnaclelaw16_l) (S_binnaclelaw16_mat : TS_binnaclelaw16_mat) (h_binnaclelaw16_l : GoodF Try.prog 15 (F_binnaclelaw16_l S_binnaclelaw16_l)) (h_binnaclelaw16_mat : GoodF Try.prog 25 (F_binnaclelaw16_mat S_binnaclelaw16_mat)) : GoodF Try.prog 7 (F_binnaclelaw16_of (G_binnaclelaw16_of N_ S_binnaclelaw16_l S_binnaclelaw16_mat)) := by
  refine good_fs (cx := ⟨Try.prog, ofList [(15, (F_binnaclelaw16_l S_binnaclelaw16_l)), (25, (F_binnaclelaw16_mat S_binnaclelaw16_mat))], isref, N_⟩) (ofList_cons h_binnaclelaw16_l (ofList_cons h_binnaclelaw16_mat (ofList_nil _))) shF_binnaclelaw16_of (sp_binnaclelaw16_of (G_binnaclelaw16_of N_ S_binnaclelaw16_l S_binnaclelaw16_mat)) (an_binnaclelaw16_of N_ S_binnaclelaw16_l S_binnaclelaw16_mat) 0 0 (by kernel_rfl) (fun i_ hi_ => by omega) ?_
  intro a k h
  unfold sp_binnaclelaw16_of at h
  split at h
  · exact ⟨[], rfl, rfl, (eq_binnaclelaw16_of _ _ _ _ _ _ _ _).trans h⟩
  · cases h

def an_binnaclelaw16_f (N_ : Nat) (S_math_Float64frombits : TS_math_Float64frombits) : Nat → Option Ann := fun b_ => none
theorem eq_binnaclelaw16_f (N_ : Nat) (S_math_Float64frombits : TS_math_Float64frombits) (b : Int) (k_ : V → List Blk → Bool) : bodyV ⟨Try.prog, ofList [(30, (F_math_Float64frombits S_math_Float64frombits))], isref, N_⟩ (an_binnaclelaw16_f N_ S_math_Float64frombits) 9 (shF_binnaclelaw16_f.args [.int b]) [] k_ = G_binnaclelaw16_f N_ S_math_Float64frombits b (fun r0 => k_ (.flt r0) []) := by kernel_rfl
theorem good_binnaclelaw16_f (N_ : Nat) (S_math_Float64frombits : TS_math_Float64frombits) (h_math_Float64frombits : GoodF Try.prog 30 (F_math_Float64frombits S_math_Float64frombits)) : GoodF Try.prog 9 (F_binnaclelaw16_f (G_binnaclelaw16_f N_ S_math_Float64frombits)) := by
  refine good_fs (cx := ⟨Try.prog, ofList [(30, (F_math_Float64frombits S_math_Float64frombits))], isref, N_⟩) (ofList_cons h_math_Float64frombits (ofList_nil _)) shF_binnaclelaw16_f (sp_binnaclelaw16_f (G_binnaclelaw16_f N_ S_math_Float64frombits)) (an_binnaclelaw16_f N_ S_math_Float64frombits) 0 0 (by kernel_rfl) (fun i_ hi_ => by omega) ?_
  intro a k h
  unfold sp_binnaclelaw16_f at h
  split at h
  · exact ⟨[], rfl, rfl, (eq_binnaclelaw16_f _ _ _ _).trans h⟩
  · cases h

def an_matrix_size (N_ : Nat) : Nat → Option Ann := fun b_ => none
theorem eq_matrix_size (N_ : Nat) (n : Int) (k_ : V → List Blk → Bool) : bodyV ⟨Try.prog, ofList [], isref, N_⟩ (an_matrix_size N_) 58 (shF_matrix_size.args [.int n]) [] k_ = G_matrix_size N_ n (fun r0 => k_ (.bool r0) []) := by kernel_rfl
theorem good_matrix_size (N_ : Nat) : GoodF Try.prog 58 (F_matrix_size (G_matrix_size N_)) := by
  refine good_fs (cx := ⟨Try.prog, ofList [], isref, N_⟩) (ofList_nil _) shF_matrix_size (sp_matrix_size (G_matrix_size N_)) (an_matrix_size N_) 0 0 (by kernel_rfl) (fun i_ hi_ => by omega) ?_
  intro a k h
  unfold sp_matrix_size at h
  split at h
  · exact ⟨[], rfl, rfl, (eq_matrix_size _ _ _).trans h⟩
  · cases h


def sh_st_anatomy_Finite_0 : StSh := ⟨[.any, .any, .any, .any, .any, .any, .rof, .int .i64, .int .i64, .any, .any, .any, .any, .any, .any, .any, .any, .any, .any, .any, .any], []⟩
def sx0_st_anatomy_Finite_0 : StSh := ⟨[.any, .any, .bool, .any, .any, .any, .any, .any, .any, .any, .any, .any, .any, .any, .any, .any, .any, .any, .any, .any, .any], []⟩
def sx1_st_anatomy_Finite_0 : StSh := ⟨[.any, .any, .any, .any, .any, .any, .any, .any, .any, .any, .any, .any, .any, .any, .any, .any, .any, .any, .any, .any, .any], []⟩
def hk_st_anatomy_Finite_0 (N_ : Nat) (S_anatomy_Class_2 : TS_anatomy_Class_2) : List Atom → K → Bool := fun a_ κ => match a_ with
  | [.fls t6, .int t7, .int t8] => iterG N_ (st_anatomy_Finite_0 N_ S_anatomy_Class_2 t6 t7 (fun r0 => κ.ret (sx0_st_anatomy_Finite_0.build [.bool r0])) (κ.ext 0 (sx1_st_anatomy_Finite_0.build []))) t8
  | _ => false
def an_anatomy_Finite (N_ : Nat) (S_anatomy_Class_2 : TS_anatomy_Class_2) : Nat → Option Ann := fun b_ => cond (b_ == 0) (some ⟨⟨[6, 7, 8], []⟩, [(0, ⟨[], []⟩)], some ⟨[2], []⟩, some (mkHooks [(sh_st_anatomy_Finite_0, hk_st_anatomy_Finite_0 N_ S_anatomy_Class_2)])⟩) (none)
theorem eq_st_anatomy_Finite_0 (N_ : Nat) (S_anatomy_Class_2 : TS_anatomy_Class_2) (κ : K) (t6 : List Fl) (t7 : Int) (t8 : Int) : iter N_ (fun s k => codeV ⟨Try.prog, ofList [(59, (F_anatomy_Class_2 S_anatomy_Class_2))], isref, N_⟩ 0 (an_anatomy_Finite N_ S_anatomy_Class_2) (lp Try.prog 27 0).2 (lp Try.prog 27 0).1 s (roundK Try.prog 0 ((an_anatomy_Finite N_ S_anatomy_Class_2) (lp Try.prog 27 0).1) κ k)) (sh_st_anatomy_Finite_0.build [.fls t6, .int t7, .int t8]) = iterG N_ (st_anatomy_Finite_0 N_ S_anatomy_Class_2 t6 t7 (fun r0 => κ.ret (sx0_st_anatomy_Finite_0.build [.bool r0])) (κ.ext 0 (sx1_st_anatomy_Finite_0.build []))) t8 :=
  iter_tr (fun (v_ : Int) => sh_st_anatomy_Finite_0.build [.fls t6, .int t7, .int v_]) (fun v_ K_ => by kernel_rfl) N_ t8
theorem hk1_st_anatomy_Finite_0 (N_ : Nat) (S_anatomy_Class_2 : TS_anatomy_Class_2) : HookFor ⟨Try.prog, ofList [(59, (F_anatomy_Class_2 S_anatomy_Class_2))], isref, N_⟩ 0 (an_anatomy_Finite N_ S_anatomy_Class_2) (lp Try.prog 27 0) (sh_st_anatomy_Finite_0, hk_st_anatomy_Finite_0 N_ S_anatomy_Class_2) := by
  intro a κ h
  simp only at h
  unfold hk_st_anatomy_Finite_0 at h
  split at h
  · exact (eq_st_anatomy_Finite_0 _ _ _ _ _ _).trans h
  · cases h
theorem ho_anatomy_Finite_0 (N_ : Nat) (S_anatomy_Class_2 : TS_anatomy_Class_2) : HookOk ⟨Try.prog, ofList [(59, (F_anatomy_Class_2 S_anatomy_Class_2))], isref, N_⟩ 0 (an_anatomy_Finite N_ S_anatomy_Class_2) (lp Try.prog 27 0) :=
  hooks_ok [(sh_st_anatomy_Finite_0, hk_st_anatomy_Finite_0 N_ S_anatomy_Class_2)] (by kernel_rfl) ⟨hk1_st_anatomy_Finite_0 _ _, trivial⟩
theorem eq_anatomy_Finite (N_ : Nat) (S_anatomy_Class_2 : TS_anatomy_Class_2) (l : List Fl) (k_ : V → List Blk → Bool) : bodyV ⟨Try.prog, ofList [(59, (F_anatomy_Class_2 S_anatomy_Class_2))], isref, N_⟩ (an_anatomy_Finite N_ S_anatomy_Class_2) 27 (shF_anatomy_Finite.args [.fls l]) [] k_ = G_anatomy_Finite N_ S_anatomy_Class_2 l (fun r0 => k_ (.bool r0) []) := by kernel_rfl
theorem good_anatomy_Finite (N_ : Nat) (S_anatomy_Class_2 : TS_anatomy_Class_2) (h_anatomy_Class_2 : GoodF Try.prog 59 (F_anatomy_Class_2 S_anatomy_Class_2)) : GoodF Try.prog 27 (F_anatomy_Finite (G_anatomy_Finite N_ S_anatomy_Class_2)) := by
  refine good_fs (cx := ⟨Try.prog, ofList [(59, (F_anatomy_Class_2 S_anatomy_Class_2))], isref, N_⟩) (ofList_cons h_anatomy_Class_2 (ofList_nil _)) shF_anatomy_Finite (sp_anatomy_Finite (G_anatomy_Finite N_ S_anatomy_Class_2)) (an_anatomy_Finite N_ S_anatomy_Class_2) 1 0 (by kernel_rfl) (fun i_ hi_ => by
    match i_, hi_ with
    | 0, _ => exact ho_anatomy_Finite_0 _ _
    | (q + 1), h => omega) ?_
  intro a k h
  unfold sp_anatomy_Finite at h
  split at h
  · exact ⟨[], rfl, rfl, (eq_anatomy_Finite _ _ _ _).trans h⟩
  · cases h

def an_matrix_Check (N_ : Nat) (S_matrix_size : TS_matrix_size) (S_anatomy_Finite : TS_anatomy_Finite) : Nat → Option Ann := fun b_ => none
theorem eq_matrix_Check (N_ : Nat) (S_matrix_size : TS_matrix_size) (S_anatomy_Finite : TS_anatomy_Finite) (m_0 : Int) (m_1 : Int) (m_2 : List Fl) (k_ : V → List Blk → Bool) : bodyV ⟨Try.prog, ofList [(58, (F_matrix_size S_matrix_size)), (27, (F_anatomy_Finite S_anatomy_Finite))], isref, N_⟩ (an_matrix_Check N_ S_matrix_size S_anatomy_Finite) 26 (shF_matrix_Check.args [.int m_0, .int m_1, .fls m_2]) [] k_ = G_matrix_Check N_ S_matrix_size S_anatomy_Finite m_0 m_1 m_2 (fun r0 => k_ (.int .i64 r0) []) := by kernel_rfl
theorem good_matrix_Check (N_ : Nat) (S_matrix_size : TS_matrix_size) (S_anatomy_Finite : TS_anatomy_Finite) (h_matrix_size : GoodF Try.prog 58 (F_matrix_size S_matrix_size)) (h_anatomy_Finite : GoodF Try.prog 27 (F_anatomy_Finite S_anatomy_Finite)) : GoodF Try.prog 26 (F_matrix_Check (G_matrix_Check N_ S_matrix_size S_anatomy_Finite)) := by
  refine good_fs (cx := ⟨Try.prog, ofList [(58, (F_matrix_size S_matrix_size)), (27, (F_anatomy_Finite S_anatomy_Finite))], isref, N_⟩) (ofList_cons h_matrix_size (ofList_cons h_anatomy_Finite (ofList_nil _))) shF_matrix_Check (sp_matrix_Check (G_matrix_Check N_ S_matrix_size S_anatomy_Finite)) (an_matrix_Check N_ S_matrix_size S_anatomy_Finite) 0 0 (by kernel_rfl) (fun i_ hi_ => by omega) ?_
  intro a k h
  unfold sp_matrix_Check at h
  split at h
  · exact ⟨[], rfl, rfl, (eq_matrix_Check _ _ _ _ _ _ _).trans h⟩
  · cases h

def an_matrix_at (N_ : Nat) : Nat → Option Ann := fun b_ => none
theorem eq_matrix_at (N_ : Nat) (m_0 : Int) (m_1 : Int) (m_2 : List Fl) (i : Int) (j : Int) (k_ : V → List Blk → Bool) : bodyV ⟨Try.prog, ofList [], isref, N_⟩ (an_matrix_at N_) 61 (shF_matrix_at.args [.int m_0, .int m_1, .fls m_2, .int i, .int j]) [] k_ = G_matrix_at N_ m_0 m_1 m_2 i j (fun r0 => k_ (.flt r0) []) := by kernel_rfl
theorem good_matrix_at (N_ : Nat) : GoodF Try.prog 61 (F_matrix_at (G_matrix_at N_)) := by
  refine good_fs (cx := ⟨Try.prog, ofList [], isref, N_⟩) (ofList_nil _) shF_matrix_at (sp_matrix_at (G_matrix_at N_)) (an_matrix_at N_) 0 0 (by kernel_rfl) (fun i_ hi_ => by omega) ?_
  intro a k h
  unfold sp_matrix_at at h
  split at h
  · exact ⟨[], rfl, rfl, (eq_matrix_at _ _ _ _ _ _ _).trans h⟩
  · cases h


def sh_st_matrix_Lower_2 : StSh := ⟨[.any, .ptr 0 0, .any, .int .i64, .int .i64, .any, .any, .any, .any, .any, .any, .any, .any, .any, .any, .any, .int .i64, .int .i64, .any, .any, .any, .any, .any, .any, .any, .any, .any, .any, .any, .any, .any, .any, .any, .any, .any], [some (29, 1, .cells [.int .i64, .int .i64, .rof])]⟩
def sx0_st_matrix_Lower_2 : StSh := ⟨[.any, .any, .bool, .any, .any, .any, .any, .any, .any, .any, .any, .any, .any, .any, .any, .any, .any, .any, .any, .any, .any, .any, .any, .any, .any, .any, .any, .any, .any, .any, .any, .any, .any, .any, .any], []⟩
def sx1_st_matrix_Lower_2 : StSh := ⟨[.any, .ptr 0 0, .any, .any, .any, .any, .any, .any, .any, .any, .any, .any, .any, .any, .any, .any, .int .i64, .int .i64, .any, .any, .any, .any, .any, .any, .any, .any, .any, .any, .any, .any, .any, .any, .any, .any, .any], [some (29, 1, .cells [.int .i64, .int .i64, .rof])]⟩
def hk_st_matrix_Lower_2 (N_ : Nat) (S_matrix_Check : TS_matrix_Check) (S_matrix_at : TS_matrix_at) (S_anatomy_Same_2 : TS_anatomy_Same_2) : List Atom → K → Bool := fun a_ κ => match a_ with
  | [.int i, .int j, .int t16_1, .int t17_1, .int m_3, .int m_4, .fls m_5] => iterG N_ (st_matrix_Lower_2 N_ S_matrix_Check S_matrix_at S_anatomy_Same_2 i t16_1 t17_1 m_3 m_4 m_5 (fun r0 => κ.ret (sx0_st_matrix_Lower_2.build [.bool r0])) (κ.ext 2 (sx1_st_matrix_Lower_2.build [.int t16_1, .int t17_1, .int m_3, .int m_4, .fls m_5]))) j
  | _ => false
def sh_st_matrix_Lower_0 : StSh := ⟨[.any, .ptr 0 0, .any, .any, .any, .any, .any, .any, .any, .any, .any, .any, .any, .any, .any, .any, .int .i64, .int .i64, .any, .any, .any, .any, .any, .any, .any, .any, .any, .any, .any, .any, .any, .any, .any, .any, .any], [some (29, 1, .cells [.int .i64, .int .i64, .rof])]⟩
def sx0_st_matrix_Lower_0 : StSh := ⟨[.any, .any, .bool, .any, .any, .any, .any, .any, .any, .any, .any, .any, .any, .any, .any, .any, .any, .any, .any, .any, .any, .any, .any, .any, .any, .any, .any, .any, .any, .any, .any, .any, .any, .any, .any], []⟩
def sx1_st_matrix_Lower_0 : StSh := ⟨[.any, .any, .any, .any, .any, .any, .any, .any, .any, .any, .any, .any, .any, .any, .any, .any, .any, .any, .any, .any, .any, .any, .any, .any, .any, .any, .any, .any, .any, .any, .any, .any, .any, .any, .any], []⟩
def hk_st_matrix_Lower_0 (N_ : Nat) (S_matrix_Check : TS_matrix_Check) (S_matrix_at : TS_matrix_at) (S_anatomy_Same_2 : TS_anatomy_Same_2) : List Atom → K → Bool := fun a_ κ => match a_ with
  | [.int t16, .int t17, .int m, .int m_1, .fls m_2] => iterG N_ (st_matrix_Lower_0 N_ S_matrix_Check S_matrix_at S_anatomy_Same_2 t16 m m_1 m_2 (fun r0 => κ.ret (sx0_st_matrix_Lower_0.build [.bool r0])) (κ.ext 0 (sx1_st_matrix_Lower_0.build []))) t17
  | _ => false
def an_matrix_Lower (N_ : Nat) (S_matrix_Check : TS_matrix_Check) (S_matrix_at : TS_matrix_at) (S_anatomy_Same_2 : TS_anatomy_Same_2) : Nat → Option Ann := fun b_ => cond (b_ == 2) (some ⟨⟨[1, 3, 4, 16, 17], []⟩, [(2, ⟨[1, 16, 17], []⟩)], some ⟨[2], []⟩, some (mkHooks [(sh_st_matrix_Lower_2, hk_st_matrix_Lower_2 N_ S_matrix_Check S_matrix_at S_anatomy_Same_2)])⟩) (cond (b_ == 0) (some ⟨⟨[1, 16, 17], []⟩, [(0, ⟨[], []⟩)], some ⟨[2], []⟩, some (mkHooks [(sh_st_matrix_Lower_0, hk_st_matrix_Lower_0 N_ S_matrix_Check S_matrix_at S_anatomy_Same_2)])⟩) (none))
theorem eq_st_matrix_Lower_2 (N_ : Nat) (S_matrix_Check : TS_matrix_Check) (S_matrix_at : TS_matrix_at) (S_anatomy_Same_2 : TS_anatomy_Same_2) (κ : K) (i : Int) (j : Int) (t16_1 : Int) (t17_1 : Int) (m_3 : Int) (m_4 : Int) (m_5 : List Fl) : iter N_ (fun s k => codeV ⟨Try.prog, ofList [(26, (F_matrix_Check S_matrix_Check)), (61, (F_matrix_at S_matrix_at)), (60, (F_anatomy_Same_2 S_anatomy_Same_2))], isref, N_⟩ 0 (an_matrix_Lower N_ S_matrix_Check S_matrix_at S_anatomy_Same_2) (lp Try.prog 28 1).2 (lp Try.prog 28 1).1 s (roundK Try.prog 0 ((an_matrix_Lower N_ S_matrix_Check S_matrix_at S_anatomy_Same_2) (lp Try.prog 28 1).1) κ k)) (sh_st_matrix_Lower_2.build [.int i, .int j, .int t16_1, .int t17_1, .int m_3, .int m_4, .fls m_5]) = iterG N_ (st_matrix_Lower_2 N_ S_matrix_Check S_matrix_at S_anatomy_Same_2 i t16_1 t17_1 m_3 m_4 m_5 (fun r0 => κ.ret (sx0_st_matrix_Lower_2.build [.bool r0])) (κ.ext 2 (sx1_st_matrix_Lower_2.build [.int t16_1, .int t17_1, .int m_3, .int m_4, .fls m_5]))) j :=
  iter_tr (fun (v_ : Int) => sh_st_matrix_Lower_2.build [.int i, .int v_, .int t16_1, .int t17_1, .int m_3, .int m_4, .fls m_5]) (fun v_ K_ => by kernel_rfl) N_ j
theorem hk1_st_matrix_Lower_2 (N_ : Nat) (S_matrix_Check : TS_matrix_Check) (S_matrix_at : TS_matrix_at) (S_anatomy_Same_2 : TS_anatomy_Same_2) : HookFor ⟨Try.prog, ofList [(26, (F_matrix_Check S_matrix_Check)), (61, (F_matrix_at S_matrix_at)), (60, (F_anatomy_Same_2 S_anatomy_Same_2))], isref, N_⟩ 0 (an_matrix_Lower N_ S_matrix_Check S_matrix_at S_anatomy_Same_2) (lp Try.prog 28 1) (sh_st_matrix_Lower_2, hk_st_matrix_Lower_2 N_ S_matrix_Check S_matrix_at S_anatomy_Same_2) := by
  intro a κ h
  simp only at h
  unfold hk_st_matrix_Lower_2 at h
  split at h
  · exact (eq_st_matrix_Lower_2 _ _ _ _ _ _ _ _ _ _ _ _).trans h
  · cases h
theorem eq_st_matrix_Lower_0 (N_ : Nat) (S_matrix_Check : TS_matrix_Check) (S_matrix_at : TS_matrix_at) (S_anatomy_Same_2 : TS_anatomy_Same_2) (κ : K) (t16 : Int) (t17 : Int) (m : Int) (m_1 : Int) (m_2 : List Fl) : iter N_ (fun s k => codeV ⟨Try.prog, ofList [(26, (F_matrix_Check S_matrix_Check)), (61, (F_matrix_at S_matrix_at)), (60, (F_anatomy_Same_2 S_anatomy_Same_2))], isref, N_⟩ 0 (an_matrix_Lower N_ S_matrix_Check S_matrix_at S_anatomy_Same_2) (lp Try.prog 28 0).2 (lp Try.prog 28 0).1 s (roundK Try.prog 0 ((an_matrix_Lower N_ S_matrix_Check S_matrix_at S_anatomy_Same_2) (lp Try.prog 28 0).1) κ k)) (sh_st_matrix_Lower_0.build [.int t16, .int t17, .int m, .int m_1, .fls m_2]) = iterG N_ (st_matrix_Lower_0 N_ S_matrix_Check S_matrix_at S_anatomy_Same_2 t16 m m_1 m_2 (fun r0 => κ.ret (sx0_st_matrix_Lower_0.build [.bool r0])) (κ.ext 0 (sx1_st_matrix_Lower_0.build []))) t17 :=
  iter_tr (fun (v_ : Int) => sh_st_matrix_Lower_0.build [.int t16, .int v_, .int m, .int m_1, .fls m_2]) (fun v_ K_ => by kernel_rfl) N_ t17
theorem hk1_st_matrix_Lower_0 (N_ : Nat) (S_matrix_Check : TS_matrix_Check) (S_matrix_at : TS_matrix_at) (S_anatomy_Same_2 : TS_anatomy_Same_2) : HookFor ⟨Try.prog, ofList [(26, (F_matrix_Check S_matrix_Check)), (61, (F_matrix_at S_matrix_at)), (60, (F_anatomy_Same_2 S_anatomy_Same_2))], isref, N_⟩ 0 (an_matrix_Lower N_ S_matrix_Check S_matrix_at S_anatomy_Same_2) (lp Try.prog 28 0) (sh_st_matrix_Lower_0, hk_st_matrix_Lower_0 N_ S_matrix_Check S_matrix_at S_anatomy_Same_2) := by
  intro a κ h
  simp only at h
  unfold hk_st_matrix_Lower_0 at h
  split at h
  · exact (eq_st_matrix_Lower_0 _ _ _ _ _ _ _ _ _ _).trans h
  · cases h
theorem ho_matrix_Lower_2 (N_ : Nat) (S_matrix_Check : TS_matrix_Check) (S_matrix_at : TS_matrix_at) (S_anatomy_Same_2 : TS_anatomy_Same_2) : HookOk ⟨Try.prog, ofList [(26, (F_matrix_Check S_matrix_Check)), (61, (F_matrix_at S_matrix_at)), (60, (F_anatomy_Same_2 S_anatomy_Same_2))], isref, N_⟩ 0 (an_matrix_Lower N_ S_matrix_Check S_matrix_at S_anatomy_Same_2) (lp Try.prog 28 1) :=
  hooks_ok [(sh_st_matrix_Lower_2, hk_st_matrix_Lower_2 N_ S_matrix_Check S_matrix_at S_anatomy_Same_2)] (by kernel_rfl) ⟨hk1_st_matrix_Lower_2 _ _ _ _, trivial⟩
theorem ho_matrix_Lower_0 (N_ : Nat) (S_matrix_Check : TS_matrix_Check) (S_matrix_at : TS_matrix_at) (S_anatomy_Same_2 : TS_anatomy_Same_2) : HookOk ⟨Try.prog, ofList [(26, (F_matrix_Check S_matrix_Check)), (61, (F_matrix_at S_matrix_at)), (60, (F_anatomy_Same_2 S_anatomy_Same_2))], isref, N_⟩ 0 (an_matrix_Lower N_ S_matrix_Check S_matrix_at S_anatomy_Same_2) (lp Try.prog 28 0) :=
  hooks_ok [(sh_st_matrix_Lower_0, hk_st_matrix_Lower_0 N_ S_matrix_Check S_matrix_at S_anatomy_Same_2)] (by kernel_rfl) ⟨hk1_st_matrix_Lower_0 _ _ _ _, trivial⟩
theorem eq_matrix_Lower (N_ : Nat) (S_matrix_Check : TS_matrix_Check) (S_matrix_at : TS_matrix_at) (S_anatomy_Same_2 : TS_anatomy_Same_2) (m_0 : Int) (m_1 : Int) (m_2 : List Fl) (k_ : V → List Blk → Bool) : bodyV ⟨Try.prog, ofList [(26, (F_matrix_Check S_matrix_Check)), (61, (F_matrix_at S_matrix_at)), (60, (F_anatomy_Same_2 S_anatomy_Same_2))], isref, N_⟩ (an_matrix_Lower N_ S_matrix_Check S_matrix_at S_anatomy_Same_2) 28 (shF_matrix_Lower.args [.int m_0, .int m_1, .fls m_2]) [] k_ = G_matrix_Lower N_ S_matrix_Check S_matrix_at S_anatomy_Same_2 m_0 m_1 m_2 (fun r0 => k_ (.bool r0) []) := by kernel_rfl
theorem good_matrix_Lower (N_ : Nat) (S_matrix_Check : TS_matrix_Check) (S_matrix_at : TS_matrix_at) (S_anatomy_Same_2 : TS_anatomy_Same_2) (h_matrix_Check : GoodF Try.prog 26 (F_matrix_Check S_matrix_Check)) (h_matrix_at : GoodF Try.prog 61 (F_matrix_at S_matrix_at)) (h_anatomy_Same_2 : GoodF Try.prog 60 (F_anatomy_Same_2 S_anatomy_Same_2)) : GoodF Try.prog 28 (F_matrix_Lower (G_matrix_Lower N_ S_matrix_Check S_matrix_at S_anatomy_Same_2)) := by
  refine good_fs (cx := ⟨Try.prog, ofList [(26, (F_matrix_Check S_matrix_Check)), (61, (F_matrix_at S_matrix_at)), (60, (F_anatomy_Same_2 S_anatomy_Same_2))], isref, N_⟩) (ofList_cons h_matrix_Check (ofList_cons h_matrix_at (ofList_cons h_anatomy_Same_2 (ofList_nil _)))) shF_matrix_Lower (sp_matrix_Lower (G_matrix_Lower N_ S_matrix_Check S_matrix_at S_anatomy_Same_2)) (an_matrix_Lower N_ S_matrix_Check S_matrix_at S_anatomy_Same_2) 2 0 (by kernel_rfl) (fun i_ hi_ => by
    match i_, hi_ with
    | 0, _ => exact ho_matrix_Lower_0 _ _ _ _
    | 1, _ => exact ho_matrix_Lower_2 _ _ _ _
    | (q + 2), h => omega) ?_
  intro a k h
  unfold sp_matrix_Lower at h
  split at h
  · exact ⟨[], rfl, rfl, (eq_matrix_Lower _ _ _ _ _ _ _ _).trans h⟩
  · cases h

def sh_st_root_above_0 : StSh := ⟨[.any, .ptr 0 0, .any, .any, .any, .int .i64, .int .i64, .any, .any, .any, .any, .any, .any, .any, .any, .any, .any, .any, .any, .any, .any, .any], [some (29, 1, .cells [.int .i64, .int .i64, .rof])]⟩
def sx0_st_root_above_0 : StSh := ⟨[.any, .any, .bool, .any, .any, .any, .any, .any, .any, .any, .any, .any, .any, .any, .any, .any, .any, .any, .any, .any, .any, .any], []⟩
def sx1_st_root_above_0 : StSh := ⟨[.any, .any, .any, .any, .any, .any, .any, .any, .any, .any, .any, .any, .any, .any, .any, .any, .any, .any, .any, .any, .any, .any], []⟩
def hk_st_root_above_0 (N_ : Nat) : List Atom → K → Bool := fun a_ κ => match a_ with
  | [.int t5, .int t6, .int l, .int l_1, .fls l_2] => iterG N_ (st_root_above_0 N_ t5 l l_1 l_2 (fun r0 => κ.ret (sx0_st_root_above_0.build [.bool r0])) (κ.ext 0 (sx1_st_root_above_0.build []))) t6
  | _ => false
def an_root_above (N_ : Nat) : Nat → Option Ann := fun b_ => cond (b_ == 0) (some ⟨⟨[1, 5, 6], []⟩, [(0, ⟨[], []⟩)], some ⟨[2], []⟩, some (mkHooks [(sh_st_root_above_0, hk_st_root_above_0 N_)])⟩) (none)
theorem eq_st_root_above_0 (N_ : Nat) (κ : K) (t5 : Int) (t6 : Int) (l : Int) (l_1 : Int) (l_2 : List Fl) : iter N_ (fun s k => codeV ⟨Try.prog, ofList [], isref, N_⟩ 0 (an_root_above N_) (lp Try.prog 29 0).2 (lp Try.prog 29 0).1 s (roundK Try.prog 0 ((an_root_above N_) (lp Try.prog 29 0).1) κ k)) (sh_st_root_above_0.build [.int t5, .int t6, .int l, .int l_1, .fls l_2]) = iterG N_ (st_root_above_0 N_ t5 l l_1 l_2 (fun r0 => κ.ret (sx0_st_root_above_0.build [.bool r0])) (κ.ext 0 (sx1_st_root_above_0.build []))) t6 :=
  iter_tr (fun (v_ : Int) => sh_st_root_above_0.build [.int t5, .int v_, .int l, .int l_1, .fls l_2]) (fun v_ K_ => by kernel_rfl) N_ t6
theorem hk1_st_root_above_0 (N_ : Nat) : HookFor ⟨Try.prog, ofList [], isref, N_⟩ 0 (an_root_above N_) (lp Try.prog 29 0) (sh_st_root_above_0, hk_st_root_above_0 N_) := by
  intro a κ h
  simp only at h
  unfold hk_st_root_above_0 at h
  split at h
  · exact (eq_st_root_above_0 _ _ _ _ _ _ _).trans h
  · cases h
theorem ho_root_above_0 (N_ : Nat) : HookOk ⟨Try.prog, ofList [], isref, N_⟩ 0 (an_root_above N_) (lp Try.prog 29 0) :=
  hooks_ok [(sh_st_root_above_0, hk_st_root_above_0 N_)] (by kernel_rfl) ⟨hk1_st_root_above_0 _, trivial⟩
theorem eq_root_above (N_ : Nat) (l_0 : Int) (l_1 : Int) (l_2 : List Fl) (k_ : V → List Blk → Bool) : bodyV ⟨Try.prog, ofList [], isref, N_⟩ (an_root_above N_) 29 (shF_root_above.args [.int l_0, .int l_1, .fls l_2]) [] k_ = G_root_above N_ l_0 l_1 l_2 (fun r0 => k_ (.bool r0) []) := by kernel_rfl
theorem good_root_above (N_ : Nat) : GoodF Try.prog 29 (F_root_above (G_root_above N_)) := by
  refine good_fs (cx := ⟨Try.prog, ofList [], isref, N_⟩) (ofList_nil _) shF_root_above (sp_root_above (G_root_above N_)) (an_root_above N_) 1 0 (by kernel_rfl) (fun i_ hi_ => by
    match i_, hi_ with
    | 0, _ => exact ho_root_above_0 _
    | (q + 1), h => omega) ?_
  intro a k h
  unfold sp_root_above at h
  split at h
  · exact ⟨[], rfl, rfl, (eq_root_above _ _ _ _ _).trans h⟩
  · cases h

def an_root_Check (N_ : Nat) (S_matrix_Check : TS_matrix_Check) (S_anatomy_Finite : TS_anatomy_Finite) (S_matrix_Lower : TS_matrix_Lower) (S_root_above : TS_root_above) : Nat → Option Ann := fun b_ => none
theorem eq_root_Check (N_ : Nat) (S_matrix_Check : TS_matrix_Check) (S_anatomy_Finite : TS_anatomy_Finite) (S_matrix_Lower : TS_matrix_Lower) (S_root_above : TS_root_above) (s_0 : List Fl) (s_1 : Int) (s_2 : Int) (s_3 : List Fl) (k_ : V → List Blk → Bool) : bodyV ⟨Try.prog, ofList [(26, (F_matrix_Check S_matrix_Check)), (27, (F_anatomy_Finite S_anatomy_Finite)), (28, (F_matrix_Lower S_matrix_Lower)), (29, (F_root_above S_root_above))], isref, N_⟩ (an_root_Check N_ S_matrix_Check S_anatomy_Finite S_matrix_Lower S_root_above) 8 (shF_root_Check.args [.fls s_0, .int s_1, .int s_2, .fls s_3]) [] k_ = G_root_Check N_ S_matrix_Check S_anatomy_Finite S_matrix_Lower S_root_above s_0 s_1 s_2 s_3 (fun r0 => k_ (.int .i64 r0) []) := by kernel_rfl
theorem good_root_Check (N_ : Nat) (S_matrix_Check : TS_matrix_Check) (S_anatomy_Finite : TS_anatomy_Finite) (S_matrix_Lower : TS_matrix_Lower) (S_root_above : TS_root_above) (h_matrix_Check : GoodF Try.prog 26 (F_matrix_Check S_matrix_Check)) (h_anatomy_Finite : GoodF Try.prog 27 (F_anatomy_Finite S_anatomy_Finite)) (h_matrix_Lower : GoodF Try.prog 28 (F_matrix_Lower S_matrix_Lower)) (h_root_above : GoodF Try.prog 29 (F_root_above S_root_above)) : GoodF Try.prog 8 (F_root_Check (G_root_Check N_ S_matrix_Check S_anatomy_Finite S_matrix_Lower S_root_above)) := by
  refine good_fs (cx := ⟨Try.prog, ofList [(26, (F_matrix_Check S_matrix_Check)), (27, (F_anatomy_Finite S_anatomy_Finite)), (28, (F_matrix_Lower S_matrix_Lower)), (29, (F_root_above S_root_above))], isref, N_⟩) (ofList_cons h_matrix_Check (ofList_cons h_anatomy_Finite (ofList_cons h_matrix_Lower (ofList_cons h_root_above (ofList_nil _))))) shF_root_Check (sp_root_Check (G_root_Check N_ S_matrix_Check S_anatomy_Finite S_matrix_Lower S_root_above)) (an_root_Check N_ S_matrix_Check S_anatomy_Finite S_matrix_Lower S_root_above) 0 0 (by kernel_rfl) (fun i_ hi_ => by omega) ?_
  intro a k h
  unfold sp_root_Check at h
  split at h
  · exact ⟨[], rfl, rfl, (eq_root_Check _ _ _ _ _ _ _ _ _ _).trans h⟩
  · cases h

def an_root_finite (N_ : Nat) : Nat → Option Ann := fun b_ => none
theorem eq_root_finite (N_ : Nat) (x : Fl) (k_ : V → List Blk → Bool) : bodyV ⟨Try.prog, ofList [], isref, N_⟩ (an_root_finite N_) 34 (shF_root_finite.args [.fl x]) [] k_ = G_root_finite N_ x (fun r0 => k_ (.bool r0) []) := by kernel_rfl
theorem good_root_finite (N_ : Nat) : GoodF Try.prog 34 (F_root_finite (G_root_finite N_)) := by
  refine good_fs (cx := ⟨Try.prog, ofList [], isref, N_⟩) (ofList_nil _) shF_root_finite (sp_root_finite (G_root_finite N_)) (an_root_finite N_) 0 0 (by kernel_rfl) (fun i_ hi_ => by omega) ?_
  intro a k h
  unfold sp_root_finite at h
  split at h
  · exact ⟨[], rfl, rfl, (eq_root_finite _ _ _).trans h⟩
  · cases h

def an_root_checkRow (N_ : Nat) (S_anatomy_Finite : TS_anatomy_Finite) (S_root_finite : TS_root_finite) : Nat → Option Ann := fun b_ => none
theorem eq_root_checkRow (N_ : Nat) (S_anatomy_Finite : TS_anatomy_Finite) (S_root_finite : TS_root_finite) (n : Int) (h : List Fl) (r : Fl) (k_ : V → List Blk → Bool) : bodyV ⟨Try.prog, ofList [(27, (F_anatomy_Finite S_anatomy_Finite)), (34, (F_root_finite S_root_finite))], isref, N_⟩ (an_root_checkRow N_ S_anatomy_Finite S_root_finite) 33 (shF_root_checkRow.args [.int n, .fls h, .fl r]) [] k_ = G_root_checkRow N_ S_anatomy_Finite S_root_finite n h r (fun r0 => k_ (.int .i64 r0) []) := by kernel_rfl
theorem good_root_checkRow (N_ : Nat) (S_anatomy_Finite : TS_anatomy_Finite) (S_root_finite : TS_root_finite) (h_anatomy_Finite : GoodF Try.prog 27 (F_anatomy_Finite S_anatomy_Finite)) (h_root_finite : GoodF Try.prog 34 (F_root_finite S_root_finite)) : GoodF Try.prog 33 (F_root_checkRow (G_root_checkRow N_ S_anatomy_Finite S_root_finite)) := by
  refine good_fs (cx := ⟨Try.prog, ofList [(27, (F_anatomy_Finite S_anatomy_Finite)), (34, (F_root_finite S_root_finite))], isref, N_⟩) (ofList_cons h_anatomy_Finite (ofList_cons h_root_finite (ofList_nil _))) shF_root_checkRow (sp_root_checkRow (G_root_checkRow N_ S_anatomy_Finite S_root_finite)) (an_root_checkRow N_ S_anatomy_Finite S_root_finite) 0 0 (by kernel_rfl) (fun i_ hi_ => by omega) ?_
  intro a k h
  unfold sp_root_checkRow at h
  split at h
  · exact ⟨[], rfl, rfl, (eq_root_checkRow _ _ _ _ _ _ _).trans h⟩
  · cases h

def an_root_steps_see (N_ : Nat) (S_root_finite : TS_root_finite) : Nat → Option Ann := fun b_ => none
theorem eq_root_steps_see (N_ : Nat) (S_root_finite : TS_root_finite) (x : Fl) (b : Bool) (k_ : V → List Blk → Bool) : bodyV ⟨Try.prog, ofList [(34, (F_root_finite S_root_finite))], isref, N_⟩ (an_root_steps_see N_ S_root_finite) 36 (shF_root_steps_see.args [.fl x, .bool b]) [⟨78, 1, .cells [.bool b]⟩] k_ = G_root_steps_see N_ S_root_finite x b (fun r1 => k_ (.flt x) [⟨78, 1, .cells [.bool r1]⟩]) := by kernel_rfl
theorem good_root_steps_see (N_ : Nat) (S_root_finite : TS_root_finite) (h_root_finite : GoodF Try.prog 34 (F_root_finite S_root_finite)) : GoodF Try.prog 36 (F_root_steps_see (G_root_steps_see N_ S_root_finite)) := by
  refine good_fs (cx := ⟨Try.prog, ofList [(34, (F_root_finite S_root_finite))], isref, N_⟩) (ofList_cons h_root_finite (ofList_nil _)) shF_root_steps_see (sp_root_steps_see (G_root_steps_see N_ S_root_finite)) (an_root_steps_see N_ S_root_finite) 0 1 (by kernel_rfl) (fun i_ hi_ => by omega) ?_
  intro a k h
  unfold sp_root_steps_see at h
  split at h
  · exact ⟨[_], rfl, rfl, (eq_root_steps_see _ _ _ _ _).trans h⟩
  · cases h

def sh_st_root_steps_dot_0 : StSh := ⟨[.ptr 0 0, .rof, .rof, .any, .any, .any, .any, .flt, .any, .any, .int .i64, .int .i64, .any, .any, .any, .any, .any, .any, .any, .any, .any, .any, .any, .any, .any, .any, .any, .any, .any, .any, .any], [some (78, 1, .cells [.bool])]⟩
def sx0_st_root_steps_dot_0 : StSh := ⟨[.any, .any, .any, .any, .any, .any, .any, .flt, .any, .any, .any, .any, .any, .any, .any, .any, .any, .any, .any, .any, .any, .any, .any, .any, .any, .any, .any, .any, .any, .any, .any], [some (78, 1, .cells [.bool])]⟩
def hk_st_root_steps_dot_0 (N_ : Nat) (S_root_steps_see : TS_root_steps_see) : List Atom → K → Bool := fun a_ κ => match a_ with
  | [.fls a_1, .fls b_2, .fl t, .int t10, .int t11, .bool s] => iterG N_ (st_root_steps_dot_0 N_ S_root_steps_see a_1 b_2 t10 (fun r0 r1 => κ.ext 0 (sx0_st_root_steps_dot_0.build [.fl r0, .bool r1]))) (t, t11, s)
  | _ => false
def an_root_steps_dot (N_ : Nat) (S_root_steps_see : TS_root_steps_see) : Nat → Option Ann := fun b_ => cond (b_ == 0) (some ⟨⟨[0, 1, 2, 7, 10, 11], []⟩, [(0, ⟨[7], []⟩)], some ⟨[6], []⟩, some (mkHooks [(sh_st_root_steps_dot_0, hk_st_root_steps_dot_0 N_ S_root_steps_see)])⟩) (none)
theorem eq_st_root_steps_dot_0 (N_ : Nat) (S_root_steps_see : TS_root_steps_see) (κ : K) (a_1 : List Fl) (b_2 : List Fl) (t : Fl) (t10 : Int) (t11 : Int) (s : Bool) : iter N_ (fun s k => codeV ⟨Try.prog, ofList [(36, (F_root_steps_see S_root_steps_see))], isref, N_⟩ 1 (an_root_steps_dot N_ S_root_steps_see) (lp Try.prog 57 0).2 (lp Try.prog 57 0).1 s (roundK Try.prog 1 ((an_root_steps_dot N_ S_root_steps_see) (lp Try.prog 57 0).1) κ k)) (sh_st_root_steps_dot_0.build [.fls a_1, .fls b_2, .fl t, .int t10, .int t11, .bool s]) = iterG N_ (st_root_steps_dot_0 N_ S_root_steps_see a_1 b_2 t10 (fun r0 r1 => κ.ext 0 (sx0_st_root_steps_dot_0.build [.fl r0, .bool r1]))) (t, t11, s) :=
  iter_tr (fun (v_ : Fl × Int × Bool) => sh_st_root_steps_dot_0.build [.fls a_1, .fls b_2, .fl v_.1, .int t10, .int v_.2.1, .bool v_.2.2]) (fun v_ K_ => by obtain ⟨t, t11, s⟩ := v_; kernel_rfl) N_ (t, t11, s)
theorem hk1_st_root_steps_dot_0 (N_ : Nat) (S_root_steps_see : TS_root_steps_see) : HookFor ⟨Try.prog, ofList [(36, (F_root_steps_see S_root_steps_see))], isref, N_⟩ 1 (an_root_steps_dot N_ S_root_steps_see) (lp Try.prog 57 0) (sh_st_root_steps_dot_0, hk_st_root_steps_dot_0 N_ S_root_steps_see) := by
  intro a κ h
  simp only at h
  unfold hk_st_root_steps_dot_0 at h
  split at h
  · exact (eq_st_root_steps_dot_0 _ _ _ _ _ _ _ _ _).trans h
  · cases h
theorem ho_root_steps_dot_0 (N_ : Nat) (S_root_steps_see : TS_root_steps_see) : HookOk ⟨Try.prog, ofList [(36, (F_root_steps_see S_root_steps_see))], isref, N_⟩ 1 (an_root_steps_dot N_ S_root_steps_see) (lp Try.prog 57 0) :=
  hooks_ok [(sh_st_root_steps_dot_0, hk_st_root_steps_dot_0 N_ S_root_steps_see)] (by kernel_rfl) ⟨hk1_st_root_steps_dot_0 _ _, trivial⟩
theorem eq_root_steps_dot (N_ : Nat) (S_root_steps_see : TS_root_steps_see) (a : List Fl) (b : List Fl) (b_1 : Bool) (k_ : V → List Blk → Bool) : bodyV ⟨Try.prog, ofList [(36, (F_root_steps_see S_root_steps_see))], isref, N_⟩ (an_root_steps_dot N_ S_root_steps_see) 57 (shF_root_steps_dot.args [.fls a, .fls b, .bool b_1]) [⟨78, 1, .cells [.bool b_1]⟩] k_ = G_root_steps_dot N_ S_root_steps_see a b b_1 (fun r0 r1 => k_ (.flt r0) [⟨78, 1, .cells [.bool r1]⟩]) := by kernel_rfl
theorem good_root_steps_dot (N_ : Nat) (S_root_steps_see : TS_root_steps_see) (h_root_steps_see : GoodF Try.prog 36 (F_root_steps_see S_root_steps_see)) : GoodF Try.prog 57 (F_root_steps_dot (G_root_steps_dot N_ S_root_steps_see)) := by
  refine good_fs (cx := ⟨Try.prog, ofList [(36, (F_root_steps_see S_root_steps_see))], isref, N_⟩) (ofList_cons h_root_steps_see (ofList_nil _)) shF_root_steps_dot (sp_root_steps_dot (G_root_steps_dot N_ S_root_steps_see)) (an_root_steps_dot N_ S_root_steps_see) 1 1 (by kernel_rfl) (fun i_ hi_ => by
    match i_, hi_ with
    | 0, _ => exact ho_root_steps_dot_0 _ _
    | (q + 1), h => omega) ?_
  intro a k h
  unfold sp_root_steps_dot at h
  split at h
  · exact ⟨[_], rfl, rfl, (eq_root_steps_dot _ _ _ _ _ _).trans h⟩
  · cases h

def sh_st_root_foresee_2 : StSh := ⟨[.any, .rof, .flt, .ptr 0 0, .ptr 1 0, .any, .any, .any, .ptr 2 0, .int .i64, .ptr 3 0, .int .i64, .slw 4, .any, .any, .any, .any, .any, .any, .any, .any, .any, .any, .any, .int .i64, .int .i64, .any, .any, .int .i64, .int .i64, .any, .any, .any, .any, .any, .any, .any, .any, .any, .any, .any, .any, .any, .any, .any, .any, .any, .any, .any, .any, .any, .any, .any, .any, .any, .any, .any, .any, .any, .any, .any, .any, .any, .any, .any, .any, .any, .any, .any, .any, .any, .any, .any, .any, .any, .any, .any, .any, .any, .any, .any, .any, .any, .any, .any, .any, .any, .any, .any, .any, .any, .any, .any, .any, .any, .any, .any, .any, .any], [some (78, 1, .cells [.bool]), some (31, 1, .cells [.rof, .int .i64, .int .i64, .rof]), some (80, 1, .cells [.flt, .nil, .nil]), some (80, 1, .cells [.flt, .slw 5, .slw 6]), some (35, 1, .flts), some (35, 1, .flts), some (35, 1, .flts)]⟩
def sx0_st_root_foresee_2 : StSh := ⟨[.any, .rof, .flt, .ptr 0 0, .ptr 1 0, .any, .any, .any, .ptr 2 0, .int .i64, .ptr 3 0, .int .i64, .slw 4, .any, .any, .any, .any, .any, .any, .any, .any, .any, .any, .any, .int .i64, .int .i64, .any, .any, .any, .any, .any, .any, .any, .any, .any, .any, .any, .any, .any, .any, .any, .any, .any, .any, .any, .any, .any, .any, .any, .any, .any, .any, .any, .any, .any, .any, .any, .any, .any, .any, .any, .any, .any, .any, .any, .any, .any, .any, .any, .any, .any, .any, .any, .any, .any, .any, .any, .any, .any, .any, .any, .any, .any, .any, .any, .any, .any, .any, .any, .any, .any, .any, .any, .any, .any, .any, .any, .any, .any], [some (78, 1, .cells [.bool]), some (31, 1, .cells [.rof, .int .i64, .int .i64, .rof]), some (80, 1, .cells [.flt, .nil, .nil]), some (80, 1, .cells [.flt, .slw 5, .slw 6]), some (35, 1, .flts), some (35, 1, .flts), some (35, 1, .flts)]⟩
def hk_st_root_foresee_2 (N_ : Nat) (S_root_steps_dot : TS_root_steps_dot) (S_root_steps_see : TS_root_steps_see) : List Atom → K → Bool := fun a_ κ => match a_ with
  | [.fls h_3, .fl r_3, .int n_2, .int j_1, .int t24_2, .int t25_2, .int t28_1, .int t29_1, .bool k__2, .fls s_8, .int s_9, .int s_10, .fls s_11, .fl t8_2, .fl o_2, .fls col, .fls b5_2, .fls b6] => iterG N_ (st_root_foresee_2 N_ S_root_steps_dot S_root_steps_see h_3 r_3 n_2 j_1 t24_2 t25_2 t28_1 k__2 s_8 s_9 s_10 s_11 t8_2 o_2 b5_2 b6 (fun r13 => κ.ext 2 (sx0_st_root_foresee_2.build [.fls h_3, .fl r_3, .int n_2, .int j_1, .int t24_2, .int t25_2, .bool k__2, .fls s_8, .int s_9, .int s_10, .fls s_11, .fl t8_2, .fl o_2, .fls r13, .fls b5_2, .fls b6]))) (t29_1, col)
  | _ => false
def sh_st_root_foresee_0 : StSh := ⟨[.any, .rof, .flt, .ptr 0 0, .ptr 1 0, .any, .any, .any, .ptr 2 0, .int .i64, .ptr 3 0, .any, .any, .any, .any, .any, .any, .any, .any, .any, .any, .any, .any, .any, .int .i64, .int .i64, .any, .any, .any, .any, .any, .any, .any, .any, .any, .any, .any, .any, .any, .any, .any, .any, .any, .any, .any, .any, .any, .any, .any, .any, .any, .any, .any, .any, .any, .any, .any, .any, .any, .any, .any, .any, .any, .any, .any, .any, .any, .any, .any, .any, .any, .any, .any, .any, .any, .any, .any, .any, .any, .any, .any, .any, .any, .any, .any, .any, .any, .any, .any, .any, .any, .any, .any, .any, .any, .any, .any, .any, .any], [some (78, 1, .cells [.bool]), some (31, 1, .cells [.rof, .int .i64, .int .i64, .rof]), some (80, 1, .cells [.flt, .nil, .nil]), some (80, 1, .cells [.flt, .slw 4, .slw 5]), some (35, 1, .flts), some (35, 1, .flts)]⟩
def sx0_st_root_foresee_0 : StSh := ⟨[.any, .rof, .flt, .ptr 0 0, .ptr 1 0, .any, .any, .any, .ptr 2 0, .int .i64, .ptr 3 0, .any, .any, .any, .any, .any, .any, .any, .any, .any, .any, .any, .any, .any, .any, .any, .any, .any, .any, .any, .any, .any, .any, .any, .any, .any, .any, .any, .any, .any, .any, .any, .any, .any, .any, .any, .any, .any, .any, .any, .any, .any, .any, .any, .any, .any, .any, .any, .any, .any, .any, .any, .any, .any, .any, .any, .any, .any, .any, .any, .any, .any, .any, .any, .any, .any, .any, .any, .any, .any, .any, .any, .any, .any, .any, .any, .any, .any, .any, .any, .any, .any, .any, .any, .any, .any, .any, .any, .any], [some (78, 1, .cells [.bool]), some (31, 1, .cells [.rof, .int .i64, .int .i64, .rof]), some (80, 1, .cells [.flt, .nil, .nil]), some (80, 1, .cells [.flt, .slw 4, .slw 5]), some (35, 1, .flts), some (35, 1, .flts)]⟩
def hk_st_root_foresee_0 (N_ : Nat) (S_root_steps_dot : TS_root_steps_dot) (S_root_steps_see : TS_root_steps_see) : List Atom → K → Bool := fun a_ κ => match a_ with
  | [.fls h_1, .fl r_1, .int n, .int t24, .int t25, .bool k_, .fls s, .int s_1, .int s_2, .fls s_3, .fl t8, .fl o, .fls b4, .fls b5] => iterG N_ (st_root_foresee_0 N_ S_root_steps_dot S_root_steps_see h_1 r_1 n t24 s s_1 s_2 s_3 t8 o b5 (fun r3 r10 => κ.ext 0 (sx0_st_root_foresee_0.build [.fls h_1, .fl r_1, .int n, .bool r3, .fls s, .int s_1, .int s_2, .fls s_3, .fl t8, .fl o, .fls r10, .fls b5]))) (t25, k_, b4)
  | _ => false
def sh_st_root_foresee_4 : StSh := ⟨[.any, .any, .any, .ptr 0 0, .any, .any, .any, .any, .ptr 1 0, .any, .ptr 2 0, .any, .any, .any, .int .i64, .any, .any, .any, .any, .any, .any, .any, .any, .any, .any, .any, .any, .any, .any, .any, .any, .any, .any, .any, .any, .any, .any, .any, .any, .any, .any, .any, .any, .any, .any, .any, .any, .any, .any, .any, .any, .any, .any, .any, .any, .any, .any, .any, .any, .any, .any, .any, .any, .any, .any, .any, .any, .any, .any, .any, .any, .any, .any, .any, .any, .any, .any, .any, .any, .any, .any, .any, .any, .any, .any, .any, .any, .any, .any, .any, .any, .any, .any, .any, .any, .any, .any, .any, .any], [some (78, 1, .cells [.bool]), some (80, 1, .cells [.flt, .nil, .nil]), some (80, 1, .cells [.flt, .slw 3, .slw 4]), some (35, 1, .flts), some (35, 1, .flts)]⟩
def sx0_st_root_foresee_4 : StSh := ⟨[.any, .any, .any, .any, .any, .any, .any, .any, .ptr 1 0, .any, .ptr 2 0, .any, .any, .any, .any, .any, .any, .any, .any, .any, .any, .any, .any, .any, .any, .any, .any, .any, .any, .any, .any, .any, .any, .any, .any, .any, .any, .any, .any, .any, .any, .any, .any, .any, .any, .any, .any, .any, .any, .any, .any, .any, .any, .any, .any, .any, .any, .any, .any, .any, .any, .any, .any, .any, .any, .any, .any, .any, .any, .any, .any, .any, .any, .any, .any, .any, .any, .any, .any, .any, .any, .any, .any, .any, .any, .any, .any, .any, .any, .any, .any, .any, .any, .any, .any, .any, .any, .any, .any], [some (78, 1, .cells [.bool]), some (80, 1, .cells [.flt, .nil, .nil]), some (80, 1, .cells [.flt, .slw 3, .slw 4]), some (35, 1, .flts), some (35, 1, .flts)]⟩
def hk_st_root_foresee_4 (N_ : Nat) (S_root_steps_dot : TS_root_steps_dot) (S_root_steps_see : TS_root_steps_see) : List Atom → K → Bool := fun a_ κ => match a_ with
  | [.int j_2, .bool k__4, .fl t8_3, .fl o_3, .fls b3, .fls b4_3] => iterG N_ (st_root_foresee_4 N_ S_root_steps_dot S_root_steps_see t8_3 o_3 b3 (fun r0 r4 => κ.ext 4 (sx0_st_root_foresee_4.build [.bool r0, .fl t8_3, .fl o_3, .fls b3, .fls r4]))) (j_2, k__4, b4_3)
  | _ => false
def an_root_foresee (N_ : Nat) (S_root_steps_dot : TS_root_steps_dot) (S_root_steps_see : TS_root_steps_see) : Nat → Option Ann := fun b_ => cond (b_ == 2) (some ⟨⟨[1, 2, 3, 4, 8, 9, 10, 11, 12, 24, 25, 28, 29], [(12, none, 35)]⟩, [(2, ⟨[1, 2, 3, 4, 8, 9, 10, 11, 12, 24, 25], []⟩)], some ⟨[8], []⟩, some (mkHooks [(sh_st_root_foresee_2, hk_st_root_foresee_2 N_ S_root_steps_dot S_root_steps_see)])⟩) (cond (b_ == 0) (some ⟨⟨[1, 2, 3, 4, 8, 9, 10, 24, 25], []⟩, [(0, ⟨[1, 2, 3, 4, 8, 9, 10], []⟩)], some ⟨[8], []⟩, some (mkHooks [(sh_st_root_foresee_0, hk_st_root_foresee_0 N_ S_root_steps_dot S_root_steps_see)])⟩) (cond (b_ == 4) (some ⟨⟨[3, 8, 10, 14], []⟩, [(4, ⟨[8, 10], []⟩)], some ⟨[8], []⟩, some (mkHooks [(sh_st_root_foresee_4, hk_st_root_foresee_4 N_ S_root_steps_dot S_root_steps_see)])⟩) (none)))
theorem eq_st_root_foresee_2 (N_ : Nat) (S_root_steps_dot : TS_root_steps_dot) (S_root_steps_see : TS_root_steps_see) (κ : K) (h_3 : List Fl) (r_3 : Fl) (n_2 : Int) (j_1 : Int) (t24_2 : Int) (t25_2 : Int) (t28_1 : Int) (t29_1 : Int) (k__2 : Bool) (s_8 : List Fl) (s_9 : Int) (s_10 : Int) (s_11 : List Fl) (t8_2 : Fl) (o_2 : Fl) (col : List Fl) (b5_2 : List Fl) (b6 : List Fl) : iter N_ (fun s k => codeV ⟨Try.prog, ofList [(57, (F_root_steps_dot S_root_steps_dot)), (36, (F_root_steps_see S_root_steps_see))], isref, N_⟩ 1 (an_root_foresee N_ S_root_steps_dot S_root_steps_see) (lp Try.prog 35 1).2 (lp Try.prog 35 1).1 s (roundK Try.prog 1 ((an_root_foresee N_ S_root_steps_dot S_root_steps_see) (lp Try.prog 35 1).1) κ k)) (sh_st_root_foresee_2.build [.fls h_3, .fl r_3, .int n_2, .int j_1, .int t24_2, .int t25_2, .int t28_1, .int t29_1, .bool k__2, .fls s_8, .int s_9, .int s_10, .fls s_11, .fl t8_2, .fl o_2, .fls col, .fls b5_2, .fls b6]) = iterG N_ (st_root_foresee_2 N_ S_root_steps_dot S_root_steps_see h_3 r_3 n_2 j_1 t24_2 t25_2 t28_1 k__2 s_8 s_9 s_10 s_11 t8_2 o_2 b5_2 b6 (fun r13 => κ.ext 2 (sx0_st_root_foresee_2.build [.fls h_3, .fl r_3, .int n_2, .int j_1, .int t24_2, .int t25_2, .bool k__2, .fls s_8, .int s_9, .int s_10, .fls s_11, .fl t8_2, .fl o_2, .fls r13, .fls b5_2, .fls b6]))) (t29_1, col) :=
  iter_tr (fun (v_ : Int × List Fl) => sh_st_root_foresee_2.build [.fls h_3, .fl r_3, .int n_2, .int j_1, .int t24_2, .int t25_2, .int t28_1, .int v_.1, .bool k__2, .fls s_8, .int s_9, .int s_10, .fls s_11, .fl t8_2, .fl o_2, .fls v_.2, .fls b5_2, .fls b6]) (fun v_ K_ => by obtain ⟨t29_1, col⟩ := v_; kernel_rfl) N_ (t29_1, col)
theorem hk1_st_root_foresee_2 (N_ : Nat) (S_root_steps_dot : TS_root_steps_dot) (S_root_steps_see : TS_root_steps_see) : HookFor ⟨Try.prog, ofList [(57, (F_root_steps_dot S_root_steps_dot)), (36, (F_root_steps_see S_root_steps_see))], isref, N_⟩ 1 (an_root_foresee N_ S_root_steps_dot S_root_steps_see) (lp Try.prog 35 1) (sh_st_root_foresee_2, hk_st_root_foresee_2 N_ S_root_steps_dot S_root_steps_see) := by
  intro a κ h
  simp only at h
  unfold hk_st_root_foresee_2 at h
  split at h
  · exact (eq_st_root_foresee_2 _ _ _ _ _ _ _ _ _ _ _ _ _ _ _ _ _ _ _ _ _ _).trans h
  · cases h
theorem eq_st_root_foresee_0 (N_ : Nat) (S_root_steps_dot : TS_root_steps_dot) (S_root_steps_see : TS_root_steps_see) (κ : K) (h_1 : List Fl) (r_1 : Fl) (n : Int) (t24 : Int) (t25 : Int) (k_ : Bool) (s : List Fl) (s_1 : Int) (s_2 : Int) (s_3 : List Fl) (t8 : Fl) (o : Fl) (b4 : List Fl) (b5 : List Fl) : iter N_ (fun s k => codeV ⟨Try.prog, ofList [(57, (F_root_steps_dot S_root_steps_dot)), (36, (F_root_steps_see S_root_steps_see))], isref, N_⟩ 1 (an_root_foresee N_ S_root_steps_dot S_root_steps_see) (lp Try.prog 35 0).2 (lp Try.prog 35 0).1 s (roundK Try.prog 1 ((an_root_foresee N_ S_root_steps_dot S_root_steps_see) (lp Try.prog 35 0).1) κ k)) (sh_st_root_foresee_0.build [.fls h_1, .fl r_1, .int n, .int t24, .int t25, .bool k_, .fls s, .int s_1, .int s_2, .fls s_3, .fl t8, .fl o, .fls b4, .fls b5]) = iterG N_ (st_root_foresee_0 N_ S_root_steps_dot S_root_steps_see h_1 r_1 n t24 s s_1 s_2 s_3 t8 o b5 (fun r3 r10 => κ.ext 0 (sx0_st_root_foresee_0.build [.fls h_1, .fl r_1, .int n, .bool r3, .fls s, .int s_1, .int s_2, .fls s_3, .fl t8, .fl o, .fls r10, .fls b5]))) (t25, k_, b4) :=
  iter_tr (fun (v_ : Int × Bool × List Fl) => sh_st_root_foresee_0.build [.fls h_1, .fl r_1, .int n, .int t24, .int v_.1, .bool v_.2.1, .fls s, .int s_1, .int s_2, .fls s_3, .fl t8, .fl o, .fls v_.2.2, .fls b5]) (fun v_ K_ => by obtain ⟨t25, k_, b4⟩ := v_; kernel_rfl) N_ (t25, k_, b4)
theorem hk1_st_root_foresee_0 (N_ : Nat) (S_root_steps_dot : TS_root_steps_dot) (S_root_steps_see : TS_root_steps_see) : HookFor ⟨Try.prog, ofList [(57, (F_root_steps_dot S_root_steps_dot)), (36, (F_root_steps_see S_root_steps_see))], isref, N_⟩ 1 (an_root_foresee N_ S_root_steps_dot S_root_steps_see) (lp Try.prog 35 0) (sh_st_root_foresee_0, hk_st_root_foresee_0 N_ S_root_steps_dot S_root_steps_see) := by
  intro a κ h
  simp only at h
  unfold hk_st_root_foresee_0 at h
  split at h
  · exact (eq_st_root_foresee_0 _ _ _ _ _ _ _ _ _ _ _ _ _ _ _ _ _ _).trans h
  · cases h
theorem eq_st_root_foresee_4 (N_ : Nat) (S_root_steps_dot : TS_root_steps_dot) (S_root_steps_see : TS_root_steps_see) (κ : K) (j_2 : Int) (k__4 : Bool) (t8_3 : Fl) (o_3 : Fl) (b3 : List Fl) (b4_3 : List Fl) : iter N_ (fun s k => codeV ⟨Try.prog, ofList [(57, (F_root_steps_dot S_root_steps_dot)), (36, (F_root_steps_see S_root_steps_see))], isref, N_⟩ 1 (an_root_foresee N_ S_root_steps_dot S_root_steps_see) (lp Try.prog 35 2).2 (lp Try.prog 35 2).1 s (roundK Try.prog 1 ((an_root_foresee N_ S_root_steps_dot S_root_steps_see) (lp Try.prog 35 2).1) κ k)) (sh_st_root_foresee_4.build [.int j_2, .bool k__4, .fl t8_3, .fl o_3, .fls b3, .fls b4_3]) = iterG N_ (st_root_foresee_4 N_ S_root_steps_dot S_root_steps_see t8_3 o_3 b3 (fun r0 r4 => κ.ext 4 (sx0_st_root_foresee_4.build [.bool r0, .fl t8_3, .fl o_3, .fls b3, .fls r4]))) (j_2, k__4, b4_3) :=
  iter_tr (fun (v_ : Int × Bool × List Fl) => sh_st_root_foresee_4.build [.int v_.1, .bool v_.2.1, .fl t8_3, .fl o_3, .fls b3, .fls v_.2.2]) (fun v_ K_ => by obtain ⟨j_2, k__4, b4_3⟩ := v_; kernel_rfl) N_ (j_2, k__4, b4_3)
theorem hk1_st_root_foresee_4 (N_ : Nat) (S_root_steps_dot : TS_root_steps_dot) (S_root_steps_see : TS_root_steps_see) : HookFor ⟨Try.prog, ofList [(57, (F_root_steps_dot S_root_steps_dot)), (36, (F_root_steps_see S_root_steps_see))], isref, N_⟩ 1 (an_root_foresee N_ S_root_steps_dot S_root_steps_see) (lp Try.prog 35 2) (sh_st_root_foresee_4, hk_st_root_foresee_4 N_ S_root_steps_dot S_root_steps_see) := by
  intro a κ h
  simp only at h
  unfold hk_st_root_foresee_4 at h
  split at h
  · exact (eq_st_root_foresee_4 _ _ _ _ _ _ _ _ _ _).trans h
  · cases h
theorem ho_root_foresee_2 (N_ : Nat) (S_root_steps_dot : TS_root_steps_dot) (S_root_steps_see : TS_root_steps_see) : HookOk ⟨Try.prog, ofList [(57, (F_root_steps_dot S_root_steps_dot)), (36, (F_root_steps_see S_root_steps_see))], isref, N_⟩ 1 (an_root_foresee N_ S_root_steps_dot S_root_steps_see) (lp Try.prog 35 1) :=
  hooks_ok [(sh_st_root_foresee_2, hk_st_root_foresee_2 N_ S_root_steps_dot S_root_steps_see)] (by kernel_rfl) ⟨hk1_st_root_foresee_2 _ _ _, trivial⟩
theorem ho_root_foresee_0 (N_ : Nat) (S_root_steps_dot : TS_root_steps_dot) (S_root_steps_see : TS_root_steps_see) : HookOk ⟨Try.prog, ofList [(57, (F_root_steps_dot S_root_steps_dot)), (36, (F_root_steps_see S_root_steps_see))], isref, N_⟩ 1 (an_root_foresee N_ S_root_steps_dot S_root_steps_see) (lp Try.prog 35 0) :=
  hooks_ok [(sh_st_root_foresee_0, hk_st_root_foresee_0 N_ S_root_steps_dot S_root_steps_see)] (by kernel_rfl) ⟨hk1_st_root_foresee_0 _ _ _, trivial⟩
theorem ho_root_foresee_4 (N_ : Nat) (S_root_steps_dot : TS_root_steps_dot) (S_root_steps_see : TS_root_steps_see) : HookOk ⟨Try.prog, ofList [(57, (F_root_steps_dot S_root_steps_dot)), (36, (F_root_steps_see S_root_steps_see))], isref, N_⟩ 1 (an_root_foresee N_ S_root_steps_dot S_root_steps_see) (lp Try.prog 35 2) :=
  hooks_ok [(sh_st_root_foresee_4, hk_st_root_foresee_4 N_ S_root_steps_dot S_root_steps_see)] (by kernel_rfl) ⟨hk1_st_root_foresee_4 _ _ _, trivial⟩
theorem eq_root_foresee (N_ : Nat) (S_root_steps_dot : TS_root_steps_dot) (S_root_steps_see : TS_root_steps_see) (s_0 : List Fl) (s_1 : Int) (s_2 : Int) (s_3 : List Fl) (h : List Fl) (r : Fl) (b : Bool) (k_ : V → List Blk → Bool) : bodyV ⟨Try.prog, ofList [(57, (F_root_steps_dot S_root_steps_dot)), (36, (F_root_steps_see S_root_steps_see))], isref, N_⟩ (an_root_foresee N_ S_root_steps_dot S_root_steps_see) 35 (shF_root_foresee.args [.fls s_0, .int s_1, .int s_2, .fls s_3, .fls h, .fl r, .bool b]) [⟨78, 1, .cells [.bool b]⟩] k_ = G_root_foresee N_ S_root_steps_dot S_root_steps_see s_0 s_1 s_2 s_3 h r b (fun r0 r1 r2 r3 => k_ (.agg [.flt r0, .slw 1, .slw 2]) [⟨78, 1, .cells [.bool r1]⟩, ⟨35, 1, .flts r2⟩, ⟨35, 1, .flts r3⟩]) := by kernel_rfl
theorem good_root_foresee (N_ : Nat) (S_root_steps_dot : TS_root_steps_dot) (S_root_steps_see : TS_root_steps_see) (h_root_steps_dot : GoodF Try.prog 57 (F_root_steps_dot S_root_steps_dot)) (h_root_steps_see : GoodF Try.prog 36 (F_root_steps_see S_root_steps_see)) : GoodF Try.prog 35 (F_root_foresee (G_root_foresee N_ S_root_steps_dot S_root_steps_see)) := by
  refine good_fs (cx := ⟨Try.prog, ofList [(57, (F_root_steps_dot S_root_steps_dot)), (36, (F_root_steps_see S_root_steps_see))], isref, N_⟩) (ofList_cons h_root_steps_dot (ofList_cons h_root_steps_see (ofList_nil _))) shF_root_foresee (sp_root_foresee (G_root_foresee N_ S_root_steps_dot S_root_steps_see)) (an_root_foresee N_ S_root_steps_dot S_root_steps_see) 3 1 (by kernel_rfl) (fun i_ hi_ => by
    match i_, hi_ with
    | 0, _ => exact ho_root_foresee_0 _ _ _
    | 1, _ => exact ho_root_foresee_2 _ _ _
    | 2, _ => exact ho_root_foresee_4 _ _ _
    | (q + 3), h => omega) ?_
  intro a k h
  unfold sp_root_foresee at h
  split at h
  · exact ⟨[_], rfl, rfl, (eq_root_foresee _ _ _ _ _ _ _ _ _ _ _).trans h⟩
  · cases h

def an_root_Foresee (N_ : Nat) (S_root_Check : TS_root_Check) (S_root_checkRow : TS_root_checkRow) (S_root_foresee : TS_root_foresee) : Nat → Option Ann := fun b_ => none
theorem eq_root_Foresee (N_ : Nat) (S_root_Check : TS_root_Check) (S_root_checkRow : TS_root_checkRow) (S_root_foresee : TS_root_foresee) (s_0 : List Fl) (s_1 : Int) (s_2 : Int) (s_3 : List Fl) (h : List Fl) (r : Fl) (k_ : V → List Blk → Bool) : bodyV ⟨Try.prog, ofList [(8, (F_root_Check S_root_Check)), (33, (F_root_checkRow S_root_checkRow)), (35, (F_root_foresee S_root_foresee))], isref, N_⟩ (an_root_Foresee N_ S_root_Check S_root_checkRow S_root_foresee) 14 (shF_root_Foresee.args [.fls s_0, .int s_1, .int s_2, .fls s_3, .fls h, .fl r]) [] k_ = G_root_Foresee N_ S_root_Check S_root_checkRow S_root_foresee s_0 s_1 s_2 s_3 h r (fun r0 r1 r2 => k_ (.tup [.flt r0, .flt r1, .int .i64 r2]) []) := by kernel_rfl
theorem good_root_Foresee (N_ : Nat) (S_root_Check : TS_root_Check) (S_root_checkRow : TS_root_checkRow) (S_root_foresee : TS_root_foresee) (h_root_Check : GoodF Try.prog 8 (F_root_Check S_root_Check)) (h_root_checkRow : GoodF Try.prog 33 (F_root_checkRow S_root_checkRow)) (h_root_foresee : GoodF Try.prog 35 (F_root_foresee S_root_foresee)) : GoodF Try.prog 14 (F_root_Foresee (G_root_Foresee N_ S_root_Check S_root_checkRow S_root_foresee)) := by
  refine good_fs (cx := ⟨Try.prog, ofList [(8, (F_root_Check S_root_Check)), (33, (F_root_checkRow S_root_checkRow)), (35, (F_root_foresee S_root_foresee))], isref, N_⟩) (ofList_cons h_root_Check (ofList_cons h_root_checkRow (ofList_cons h_root_foresee (ofList_nil _)))) shF_root_Foresee (sp_root_Foresee (G_root_Foresee N_ S_root_Check S_root_checkRow S_root_foresee)) (an_root_Foresee N_ S_root_Check S_root_checkRow S_root_foresee) 0 0 (by kernel_rfl) (fun i_ hi_ => by omega) ?_
  intro a k h
  unfold sp_root_Foresee at h
  split at h
  · exact ⟨[], rfl, rfl, (eq_root_Foresee _ _ _ _ _ _ _ _ _ _ _).trans h⟩
  · cases h


def an_binnacleref01_Bits (N_ : Nat) (S_math_Float64bits_2 : TS_math_Float64bits_2) : Nat → Option Ann := fun b_ => none
theorem eq_binnacleref01_Bits (N_ : Nat) (S_math_Float64bits_2 : TS_math_Float64bits_2) (x : Fl) (k_ : V → List Blk → Bool) : bodyV ⟨Try.prog, ofList [(38, (F_math_Float64bits_2 S_math_Float64bits_2))], isref, N_⟩ (an_binnacleref01_Bits N_ S_math_Float64bits_2) 39 (shF_binnacleref01_Bits.args [.fl x]) [] k_ = G_binnacleref01_Bits N_ S_math_Float64bits_2 x (fun r0 => k_ (.int .u64 r0) []) := by kernel_rfl
theorem good_binnacleref01_Bits (N_ : Nat) (S_math_Float64bits_2 : TS_math_Float64bits_2) (h_math_Float64bits_2 : GoodF Try.prog 38 (F_math_Float64bits_2 S_math_Float64bits_2)) : GoodF Try.prog 39 (F_binnacleref01_Bits (G_binnacleref01_Bits N_ S_math_Float64bits_2)) := by
  refine good_fs (cx := ⟨Try.prog, ofList [(38, (F_math_Float64bits_2 S_math_Float64bits_2))], isref, N_⟩) (ofList_cons h_math_Float64bits_2 (ofList_nil _)) shF_binnacleref01_Bits (sp_binnacleref01_Bits (G_binnacleref01_Bits N_ S_math_Float64bits_2)) (an_binnacleref01_Bits N_ S_math_Float64bits_2) 0 0 (by kernel_rfl) (fun i_ hi_ => by omega) ?_
  intro a k h
  unfold sp_binnacleref01_Bits at h
  split at h
  · exact ⟨[], rfl, rfl, (eq_binnacleref01_Bits _ _ _ _).trans h⟩
  · cases h

def an_binnacleref01_Split (N_ : Nat) (S_binnacleref01_Bits : TS_binnacleref01_Bits) : Nat → Option Ann := fun b_ => none
theorem eq_binnacleref01_Split (N_ : Nat) (S_binnacleref01_Bits : TS_binnacleref01_Bits) (x : Fl) (k_ : V → List Blk → Bool) : bodyV ⟨Try.prog, ofList [(39, (F_binnacleref01_Bits S_binnacleref01_Bits))], isref, N_⟩ (an_binnacleref01_Split N_ S_binnacleref01_Bits) 62 (shF_binnacleref01_Split.args [.fl x]) [] k_ = G_binnacleref01_Split N_ S_binnacleref01_Bits x (fun r0 r1 r2 => k_ (.tup [.bool r0, .int .i64 r1, .int .u64 r2]) []) := by kernel_rfl
theorem good_binnacleref01_Split (N_ : Nat) (S_binnacleref01_Bits : TS_binnacleref01_Bits) (h_binnacleref01_Bits : GoodF Try.prog 39 (F_binnacleref01_Bits S_binnacleref01_Bits)) : GoodF Try.prog 62 (F_binnacleref01_Split (G_binnacleref01_Split N_ S_binnacleref01_Bits)) := by
  refine good_fs (cx := ⟨Try.prog, ofList [(39, (F_binnacleref01_Bits S_binnacleref01_Bits))], isref, N_⟩) (ofList_cons h_binnacleref01_Bits (ofList_nil _)) shF_binnacleref01_Split (sp_binnacleref01_Split (G_binnacleref01_Split N_ S_binnacleref01_Bits)) (an_binnacleref01_Split N_ S_binnacleref01_Bits) 0 0 (by kernel_rfl) (fun i_ hi_ => by omega) ?_
  intro a k h
  unfold sp_binnacleref01_Split at h
  split at h
  · exact ⟨[], rfl, rfl, (eq_binnacleref01_Split _ _ _ _).trans h⟩
  · cases h

def an_binnacleref01_classify (N_ : Nat) : Nat → Option Ann := fun b_ => none
theorem eq_binnacleref01_classify (N_ : Nat) (exp : Int) (frac : Int) (most : Int) (k_ : V → List Blk → Bool) : bodyV ⟨Try.prog, ofList [], isref, N_⟩ (an_binnacleref01_classify N_) 63 (shF_binnacleref01_classify.args [.int exp, .int frac, .int most]) [] k_ = G_binnacleref01_classify N_ exp frac most (fun r0 => k_ (.int .i64 r0) []) := by kernel_rfl
theorem good_binnacleref01_classify (N_ : Nat) : GoodF Try.prog 63 (F_binnacleref01_classify (G_binnacleref01_classify N_)) := by
  refine good_fs (cx := ⟨Try.prog, ofList [], isref, N_⟩) (ofList_nil _) shF_binnacleref01_classify (sp_binnacleref01_classify (G_binnacleref01_classify N_)) (an_binnacleref01_classify N_) 0 0 (by kernel_rfl) (fun i_ hi_ => by omega) ?_
  intro a k h
  unfold sp_binnacleref01_classify at h
  split at h
  · exact ⟨[], rfl, rfl, (eq_binnacleref01_classify _ _ _ _ _).trans h⟩
  · cases h

def an_binnacleref01_Class (N_ : Nat) (S_binnacleref01_Split : TS_binnacleref01_Split) (S_binnacleref01_classify : TS_binnacleref01_classify) : Nat → Option Ann := fun b_ => none
theorem eq_binnacleref01_Class (N_ : Nat) (S_binnacleref01_Split : TS_binnacleref01_Split) (S_binnacleref01_classify : TS_binnacleref01_classify) (x : Fl) (k_ : V → List Blk → Bool) : bodyV ⟨Try.prog, ofList [(62, (F_binnacleref01_Split S_binnacleref01_Split)), (63, (F_binnacleref01_classify S_binnacleref01_classify))], isref, N_⟩ (an_binnacleref01_Class N_ S_binnacleref01_Split S_binnacleref01_classify) 32 (shF_binnacleref01_Class.args [.fl x]) [] k_ = G_binnacleref01_Class N_ S_binnacleref01_Split S_binnacleref01_classify x (fun r0 => k_ (.int .i64 r0) []) := by kernel_rfl
theorem good_binnacleref01_Class (N_ : Nat) (S_binnacleref01_Split : TS_binnacleref01_Split) (S_binnacleref01_classify : TS_binnacleref01_classify) (h_binnacleref01_Split : GoodF Try.prog 62 (F_binnacleref01_Split S_binnacleref01_Split)) (h_binnacleref01_classify : GoodF Try.prog 63 (F_binnacleref01_classify S_binnacleref01_classify)) : GoodF Try.prog 32 (F_binnacleref01_Class (G_binnacleref01_Class N_ S_binnacleref01_Split S_binnacleref01_classify)) := by
  refine good_fs (cx := ⟨Try.prog, ofList [(62, (F_binnacleref01_Split S_binnacleref01_Split)), (63, (F_binnacleref01_classify S_binnacleref01_classify))], isref, N_⟩) (ofList_cons h_binnacleref01_Split (ofList_cons h_binnacleref01_classify (ofList_nil _))) shF_binnacleref01_Class (sp_binnacleref01_Class (G_binnacleref01_Class N_ S_binnacleref01_Split S_binnacleref01_classify)) (an_binnacleref01_Class N_ S_binnacleref01_Split S_binnacleref01_classify) 0 0 (by kernel_rfl) (fun i_ hi_ => by omega) ?_
  intro a k h
  unfold sp_binnacleref01_Class at h
  split at h
  · exact ⟨[], rfl, rfl, (eq_binnacleref01_Class _ _ _ _ _).trans h⟩
  · cases h

def an_binnacleref01_Finite (N_ : Nat) (S_binnacleref01_Class : TS_binnacleref01_Class) : Nat → Option Ann := fun b_ => none
theorem eq_binnacleref01_Finite (N_ : Nat) (S_binnacleref01_Class : TS_binnacleref01_Class) (x : Fl) (k_ : V → List Blk → Bool) : bodyV ⟨Try.prog, ofList [(32, (F_binnacleref01_Class S_binnacleref01_Class))], isref, N_⟩ (an_binnacleref01_Finite N_ S_binnacleref01_Class) 11 (shF_binnacleref01_Finite.args [.fl x]) [] k_ = G_binnacleref01_Finite N_ S_binnacleref01_Class x (fun r0 => k_ (.bool r0) []) := by kernel_rfl
theorem good_binnacleref01_Finite (N_ : Nat) (S_binnacleref01_Class : TS_binnacleref01_Class) (h_binnacleref01_Class : GoodF Try.prog 32 (F_binnacleref01_Class S_binnacleref01_Class)) : GoodF Try.prog 11 (F_binnacleref01_Finite (G_binnacleref01_Finite N_ S_binnacleref01_Class)) := by
  refine good_fs (cx := ⟨Try.prog, ofList [(32, (F_binnacleref01_Class S_binnacleref01_Class))], isref, N_⟩) (ofList_cons h_binnacleref01_Class (ofList_nil _)) shF_binnacleref01_Finite (sp_binnacleref01_Finite (G_binnacleref01_Finite N_ S_binnacleref01_Class)) (an_binnacleref01_Finite N_ S_binnacleref01_Class) 0 0 (by kernel_rfl) (fun i_ hi_ => by omega) ?_
  intro a k h
  unfold sp_binnacleref01_Finite at h
  split at h
  · exact ⟨[], rfl, rfl, (eq_binnacleref01_Finite _ _ _ _).trans h⟩
  · cases h

def sh_st_binnacleref01_AllFinite_0 : StSh := ⟨[.any, .any, .any, .any, .any, .rof, .int .i64, .int .i64, .any, .any, .any, .any, .any, .any, .any], []⟩
def sx0_st_binnacleref01_AllFinite_0 : StSh := ⟨[.any, .any, .bool, .any, .any, .any, .any, .any, .any, .any, .any, .any, .any, .any, .any], []⟩
def sx1_st_binnacleref01_AllFinite_0 : StSh := ⟨[.any, .any, .any, .any, .any, .any, .any, .any, .any, .any, .any, .any, .any, .any, .any], []⟩
def hk_st_binnacleref01_AllFinite_0 (N_ : Nat) (S_binnacleref01_Finite : TS_binnacleref01_Finite) : List Atom → K → Bool := fun a_ κ => match a_ with
  | [.fls t5, .int t6, .int t7] => iterG N_ (st_binnacleref01_AllFinite_0 N_ S_binnacleref01_Finite t5 t6 (fun r0 => κ.ret (sx0_st_binnacleref01_AllFinite_0.build [.bool r0])) (κ.ext 0 (sx1_st_binnacleref01_AllFinite_0.build []))) t7
  | _ => false
def an_binnacleref01_AllFinite (N_ : Nat) (S_binnacleref01_Finite : TS_binnacleref01_Finite) : Nat → Option Ann := fun b_ => cond (b_ == 0) (some ⟨⟨[5, 6, 7], []⟩, [(0, ⟨[], []⟩)], some ⟨[2], []⟩, some (mkHooks [(sh_st_binnacleref01_AllFinite_0, hk_st_binnacleref01_AllFinite_0 N_ S_binnacleref01_Finite)])⟩) (none)
theorem eq_st_binnacleref01_AllFinite_0 (N_ : Nat) (S_binnacleref01_Finite : TS_binnacleref01_Finite) (κ : K) (t5 : List Fl) (t6 : Int) (t7 : Int) : iter N_ (fun s k => codeV ⟨Try.prog, ofList [(11, (F_binnacleref01_Finite S_binnacleref01_Finite))], isref, N_⟩ 0 (an_binnacleref01_AllFinite N_ S_binnacleref01_Finite) (lp Try.prog 66 0).2 (lp Try.prog 66 0).1 s (roundK Try.prog 0 ((an_binnacleref01_AllFinite N_ S_binnacleref01_Finite) (lp Try.prog 66 0).1) κ k)) (sh_st_binnacleref01_AllFinite_0.build [.fls t5, .int t6, .int t7]) = iterG N_ (st_binnacleref01_AllFinite_0 N_ S_binnacleref01_Finite t5 t6 (fun r0 => κ.ret (sx0_st_binnacleref01_AllFinite_0.build [.bool r0])) (κ.ext 0 (sx1_st_binnacleref01_AllFinite_0.build []))) t7 :=
  iter_tr (fun (v_ : Int) => sh_st_binnacleref01_AllFinite_0.build [.fls t5, .int t6, .int v_]) (fun v_ K_ => by kernel_rfl) N_ t7
theorem hk1_st_binnacleref01_AllFinite_0 (N_ : Nat) (S_binnacleref01_Finite : TS_binnacleref01_Finite) : HookFor ⟨Try.prog, ofList [(11, (F_binnacleref01_Finite S_binnacleref01_Finite))], isref, N_⟩ 0 (an_binnacleref01_AllFinite N_ S_binnacleref01_Finite) (lp Try.prog 66 0) (sh_st_binnacleref01_AllFinite_0, hk_st_binnacleref01_AllFinite_0 N_ S_binnacleref01_Finite) := by
  intro a κ h
  simp only at h
  unfold hk_st_binnacleref01_AllFinite_0 at h
  split at h
  · exact (eq_st_binnacleref01_AllFinite_0 _ _ _ _ _ _).trans h
  · cases h
theorem ho_binnacleref01_AllFinite_0 (N_ : Nat) (S_binnacleref01_Finite : TS_binnacleref01_Finite) : HookOk ⟨Try.prog, ofList [(11, (F_binnacleref01_Finite S_binnacleref01_Finite))], isref, N_⟩ 0 (an_binnacleref01_AllFinite N_ S_binnacleref01_Finite) (lp Try.prog 66 0) :=
  hooks_ok [(sh_st_binnacleref01_AllFinite_0, hk_st_binnacleref01_AllFinite_0 N_ S_binnacleref01_Finite)] (by kernel_rfl) ⟨hk1_st_binnacleref01_AllFinite_0 _ _, trivial⟩
theorem eq_binnacleref01_AllFinite (N_ : Nat) (S_binnacleref01_Finite : TS_binnacleref01_Finite) (l : List Fl) (k_ : V → List Blk → Bool) : bodyV ⟨Try.prog, ofList [(11, (F_binnacleref01_Finite S_binnacleref01_Finite))], isref, N_⟩ (an_binnacleref01_AllFinite N_ S_binnacleref01_Finite) 66 (shF_binnacleref01_AllFinite.args [.fls l]) [] k_ = G_binnacleref01_AllFinite N_ S_binnacleref01_Finite l (fun r0 => k_ (.bool r0) []) := by kernel_rfl
theorem good_binnacleref01_AllFinite (N_ : Nat) (S_binnacleref01_Finite : TS_binnacleref01_Finite) (h_binnacleref01_Finite : GoodF Try.prog 11 (F_binnacleref01_Finite S_binnacleref01_Finite)) : GoodF Try.prog 66 (F_binnacleref01_AllFinite (G_binnacleref01_AllFinite N_ S_binnacleref01_Finite)) := by
  refine good_fs (cx := ⟨Try.prog, ofList [(11, (F_binnacleref01_Finite S_binnacleref01_Finite))], isref, N_⟩) (ofList_cons h_binnacleref01_Finite (ofList_nil _)) shF_binnacleref01_AllFinite (sp_binnacleref01_AllFinite (G_binnacleref01_AllFinite N_ S_binnacleref01_Finite)) (an_binnacleref01_AllFinite N_ S_binnacleref01_Finite) 1 0 (by kernel_rfl) (fun i_ hi_ => by
    match i_, hi_ with
    | 0, _ => exact ho_binnacleref01_AllFinite_0 _ _
    | (q + 1), h => omega) ?_
  intro a k h
  unfold sp_binnacleref01_AllFinite at h
  split at h
  · exact ⟨[], rfl, rfl, (eq_binnacleref01_AllFinite _ _ _ _).trans h⟩
  · cases h

def an_binnacleref08_Check (N_ : Nat) (S_binnacleref01_AllFinite : TS_binnacleref01_AllFinite) : Nat → Option Ann := fun b_ => none
theorem eq_binnacleref08_Check (N_ : Nat) (S_binnacleref01_AllFinite : TS_binnacleref01_AllFinite) (m_0 : Int) (m_1 : Int) (m_2 : List Fl) (k_ : V → List Blk → Bool) : bodyV ⟨Try.prog, ofList [(66, (F_binnacleref01_AllFinite S_binnacleref01_AllFinite))], isref, N_⟩ (an_binnacleref08_Check N_ S_binnacleref01_AllFinite) 65 (shF_binnacleref08_Check.args [.int m_0, .int m_1, .fls m_2]) [] k_ = G_binnacleref08_Check N_ S_binnacleref01_AllFinite m_0 m_1 m_2 (fun r0 => k_ (.int .i64 r0) []) := by kernel_rfl
theorem good_binnacleref08_Check (N_ : Nat) (S_binnacleref01_AllFinite : TS_binnacleref01_AllFinite) (h_binnacleref01_AllFinite : GoodF Try.prog 66 (F_binnacleref01_AllFinite S_binnacleref01_AllFinite)) : GoodF Try.prog 65 (F_binnacleref08_Check (G_binnacleref08_Check N_ S_binnacleref01_AllFinite)) := by
  refine good_fs (cx := ⟨Try.prog, ofList [(66, (F_binnacleref01_AllFinite S_binnacleref01_AllFinite))], isref, N_⟩) (ofList_cons h_binnacleref01_AllFinite (ofList_nil _)) shF_binnacleref08_Check (sp_binnacleref08_Check (G_binnacleref08_Check N_ S_binnacleref01_AllFinite)) (an_binnacleref08_Check N_ S_binnacleref01_AllFinite) 0 0 (by kernel_rfl) (fun i_ hi_ => by omega) ?_
  intro a k h
  unfold sp_binnacleref08_Check at h
  split at h
  · exact ⟨[], rfl, rfl, (eq_binnacleref08_Check _ _ _ _ _ _).trans h⟩
  · cases h

def an_binnacleref03_shape (N_ : Nat) : Nat → Option Ann := fun b_ => none
theorem eq_binnacleref03_shape (N_ : Nat) (rows : Int) (cols : Int) (n : Int) (k_ : V → List Blk → Bool) : bodyV ⟨Try.prog, ofList [], isref, N_⟩ (an_binnacleref03_shape N_) 93 (shF_binnacleref03_shape.args [.int rows, .int cols, .int n]) [] k_ = G_binnacleref03_shape N_ rows cols n (fun r0 => k_ (.int .i64 r0) []) := by kernel_rfl
theorem good_binnacleref03_shape (N_ : Nat) : GoodF Try.prog 93 (F_binnacleref03_shape (G_binnacleref03_shape N_)) := by
  refine good_fs (cx := ⟨Try.prog, ofList [], isref, N_⟩) (ofList_nil _) shF_binnacleref03_shape (sp_binnacleref03_shape (G_binnacleref03_shape N_)) (an_binnacleref03_shape N_) 0 0 (by kernel_rfl) (fun i_ hi_ => by omega) ?_
  intro a k h
  unfold sp_binnacleref03_shape at h
  split at h
  · exact ⟨[], rfl, rfl, (eq_binnacleref03_shape _ _ _ _ _).trans h⟩
  · cases h

def an_binnacleref03_Good (N_ : Nat) (S_binnacleref03_shape : TS_binnacleref03_shape) (S_binnacleref01_AllFinite : TS_binnacleref01_AllFinite) : Nat → Option Ann := fun b_ => none
theorem eq_binnacleref03_Good (N_ : Nat) (S_binnacleref03_shape : TS_binnacleref03_shape) (S_binnacleref01_AllFinite : TS_binnacleref01_AllFinite) (m_0 : Int) (m_1 : Int) (m_2 : List Fl) (k_ : V → List Blk → Bool) : bodyV ⟨Try.prog, ofList [(93, (F_binnacleref03_shape S_binnacleref03_shape)), (66, (F_binnacleref01_AllFinite S_binnacleref01_AllFinite))], isref, N_⟩ (an_binnacleref03_Good N_ S_binnacleref03_shape S_binnacleref01_AllFinite) 81 (shF_binnacleref03_Good.args [.int m_0, .int m_1, .fls m_2]) [] k_ = G_binnacleref03_Good N_ S_binnacleref03_shape S_binnacleref01_AllFinite m_0 m_1 m_2 (fun r0 => k_ (.int .i64 r0) []) := by kernel_rfl
theorem good_binnacleref03_Good (N_ : Nat) (S_binnacleref03_shape : TS_binnacleref03_shape) (S_binnacleref01_AllFinite : TS_binnacleref01_AllFinite) (h_binnacleref03_shape : GoodF Try.prog 93 (F_binnacleref03_shape S_binnacleref03_shape)) (h_binnacleref01_AllFinite : GoodF Try.prog 66 (F_binnacleref01_AllFinite S_binnacleref01_AllFinite)) : GoodF Try.prog 81 (F_binnacleref03_Good (G_binnacleref03_Good N_ S_binnacleref03_shape S_binnacleref01_AllFinite)) := by
  refine good_fs (cx := ⟨Try.prog, ofList [(93, (F_binnacleref03_shape S_binnacleref03_shape)), (66, (F_binnacleref01_AllFinite S_binnacleref01_AllFinite))], isref, N_⟩) (ofList_cons h_binnacleref03_shape (ofList_cons h_binnacleref01_AllFinite (ofList_nil _))) shF_binnacleref03_Good (sp_binnacleref03_Good (G_binnacleref03_Good N_ S_binnacleref03_shape S_binnacleref01_AllFinite)) (an_binnacleref03_Good N_ S_binnacleref03_shape S_binnacleref01_AllFinite) 0 0 (by kernel_rfl) (fun i_ hi_ => by omega) ?_
  intro a k h
  unfold sp_binnacleref03_Good at h
  split at h
  · exact ⟨[], rfl, rfl, (eq_binnacleref03_Good _ _ _ _ _ _ _).trans h⟩
  · cases h

def an_binnacleref09_At (N_ : Nat) : Nat → Option Ann := fun b_ => none
theorem eq_binnacleref09_At (N_ : Nat) (m_0 : Int) (m_1 : Int) (m_2 : List Fl) (i : Int) (j : Int) (k_ : V → List Blk → Bool) : bodyV ⟨Try.prog, ofList [], isref, N_⟩ (an_binnacleref09_At N_) 82 (shF_binnacleref09_At.args [.int m_0, .int m_1, .fls m_2, .int i, .int j]) [] k_ = G_binnacleref09_At N_ m_0 m_1 m_2 i j (fun r0 => k_ (.flt r0) []) := by kernel_rfl
theorem good_binnacleref09_At (N_ : Nat) : GoodF Try.prog 82 (F_binnacleref09_At (G_binnacleref09_At N_)) := by
  refine good_fs (cx := ⟨Try.prog, ofList [], isref, N_⟩) (ofList_nil _) shF_binnacleref09_At (sp_binnacleref09_At (G_binnacleref09_At N_)) (an_binnacleref09_At N_) 0 0 (by kernel_rfl) (fun i_ hi_ => by omega) ?_
  intro a k h
  unfold sp_binnacleref09_At at h
  split at h
  · exact ⟨[], rfl, rfl, (eq_binnacleref09_At _ _ _ _ _ _ _).trans h⟩
  · cases h

def an_binnacleref01_Same (N_ : Nat) (S_binnacleref01_Bits : TS_binnacleref01_Bits) : Nat → Option Ann := fun b_ => none
theorem eq_binnacleref01_Same (N_ : Nat) (S_binnacleref01_Bits : TS_binnacleref01_Bits) (a : Fl) (b : Fl) (k_ : V → List Blk → Bool) : bodyV ⟨Try.prog, ofList [(39, (F_binnacleref01_Bits S_binnacleref01_Bits))], isref, N_⟩ (an_binnacleref01_Same N_ S_binnacleref01_Bits) 83 (shF_binnacleref01_Same.args [.fl a, .fl b]) [] k_ = G_binnacleref01_Same N_ S_binnacleref01_Bits a b (fun r0 => k_ (.bool r0) []) := by kernel_rfl
theorem good_binnacleref01_Same (N_ : Nat) (S_binnacleref01_Bits : TS_binnacleref01_Bits) (h_binnacleref01_Bits : GoodF Try.prog 39 (F_binnacleref01_Bits S_binnacleref01_Bits)) : GoodF Try.prog 83 (F_binnacleref01_Same (G_binnacleref01_Same N_ S_binnacleref01_Bits)) := by
  refine good_fs (cx := ⟨Try.prog, ofList [(39, (F_binnacleref01_Bits S_binnacleref01_Bits))], isref, N_⟩) (ofList_cons h_binnacleref01_Bits (ofList_nil _)) shF_binnacleref01_Same (sp_binnacleref01_Same (G_binnacleref01_Same N_ S_binnacleref01_Bits)) (an_binnacleref01_Same N_ S_binnacleref01_Bits) 0 0 (by kernel_rfl) (fun i_ hi_ => by omega) ?_
  intro a k h
  unfold sp_binnacleref01_Same at h
  split at h
  · exact ⟨[], rfl, rfl, (eq_binnacleref01_Same _ _ _ _ _).trans h⟩
  · cases h

end Go.Proofs.Ytoagmokejfcpbaa
