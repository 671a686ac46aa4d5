/-
  THE TIES: each printed meaning is what the program does (written by program).
  Conditions: none.
-/
import Derived.Test.YtccocdgimamdhaaGreatDoorGs
namespace Go.Proofs.YtccocdgimamdhaaGreatDoor
open Go Go.Mach Go.Proofs
set_option linter.unusedVariables false
set_option maxRecDepth 50000


def an_an_of (N_ : Nat) : Nat → Option Ann := fun b_ => none
theorem eq_an_of (N_ : Nat) (cont_ : V → List Blk → Bool) : bodyV ⟨Tryz.prog, ofList [], isref, N_⟩ (an_an_of N_) 190 (shF_an_of.args []) [] cont_ = G_an_of N_ (fun r0 r1 r2 => cont_ (.agg [.int .u64 r0, .int .i64 r1, .int .i64 r2]) []) := by kernel_rfl
theorem good_an_of (N_ : Nat) : GoodF Tryz.prog 190 (F_an_of (G_an_of N_)) := by
  refine good_fs (cx := ⟨Tryz.prog, ofList [], isref, N_⟩) (ofList_nil _) shF_an_of (sp_an_of (G_an_of N_)) (an_an_of N_) 0 0 (by kernel_rfl) (fun i_ hi_ => by omega) ?_
  intro a k h
  unfold sp_an_of at h
  split at h
  · exact ⟨[], rfl, rfl, (eq_an_of _ _).trans h⟩
  · cases h

def an_q167 (N_ : Nat) : Nat → Option Ann := fun b_ => none
theorem eq_q167 (N_ : Nat) (f_0 : Int) (f_1 : Int) (f_2 : Int) (cont_ : V → List Blk → Bool) : bodyV ⟨Tryz.prog, ofList [], isref, N_⟩ (an_q167 N_) 229 (shF_q167.args [.int f_0, .int f_1, .int f_2]) [] cont_ = G_q167 N_ f_0 f_1 f_2 (fun r0 => cont_ (.int .u64 r0) []) := by kernel_rfl
theorem good_q167 (N_ : Nat) : GoodF Tryz.prog 229 (F_q167 (G_q167 N_)) := by
  refine good_fs (cx := ⟨Tryz.prog, ofList [], isref, N_⟩) (ofList_nil _) shF_q167 (sp_q167 (G_q167 N_)) (an_q167 N_) 0 0 (by kernel_rfl) (fun i_ hi_ => by omega) ?_
  intro a k h
  unfold sp_q167 at h
  split at h
  · exact ⟨[], rfl, rfl, (eq_q167 _ _ _ _ _).trans h⟩
  · cases h

def an_q96 (N_ : Nat) : Nat → Option Ann := fun b_ => none
theorem eq_q96 (N_ : Nat) (f_0 : Int) (f_1 : Int) (f_2 : Int) (cont_ : V → List Blk → Bool) : bodyV ⟨Tryz.prog, ofList [], isref, N_⟩ (an_q96 N_) 234 (shF_q96.args [.int f_0, .int f_1, .int f_2]) [] cont_ = G_q96 N_ f_0 f_1 f_2 (fun r0 => cont_ (.int .u64 r0) []) := by kernel_rfl
theorem good_q96 (N_ : Nat) : GoodF Tryz.prog 234 (F_q96 (G_q96 N_)) := by
  refine good_fs (cx := ⟨Tryz.prog, ofList [], isref, N_⟩) (ofList_nil _) shF_q96 (sp_q96 (G_q96 N_)) (an_q96 N_) 0 0 (by kernel_rfl) (fun i_ hi_ => by omega) ?_
  intro a k h
  unfold sp_q96 at h
  split at h
  · exact ⟨[], rfl, rfl, (eq_q96 _ _ _ _ _).trans h⟩
  · cases h

def an_q93 (N_ : Nat) (S_q167 : TS_q167) (S_q96 : TS_q96) : Nat → Option Ann := fun b_ => none
theorem eq_q93 (N_ : Nat) (S_q167 : TS_q167) (S_q96 : TS_q96) (b : Int) (f_0 : Int) (f_1 : Int) (f_2 : Int) (cont_ : V → List Blk → Bool) : bodyV ⟨Tryz.prog, ofList [(229, (F_q167 S_q167)), (234, (F_q96 S_q96))], isref, N_⟩ (an_q93 N_ S_q167 S_q96) 232 (shF_q93.args [.int b, .int f_0, .int f_1, .int f_2]) [] cont_ = G_q93 N_ S_q167 S_q96 b f_0 f_1 f_2 (fun r0 => cont_ (.bool r0) []) := by kernel_rfl
theorem good_q93 (N_ : Nat) (S_q167 : TS_q167) (S_q96 : TS_q96) (h_v_anatomy_format_sign : GoodF Tryz.prog 229 (F_q167 S_q167)) (h_v_anatomy_format_infinite : GoodF Tryz.prog 234 (F_q96 S_q96)) : GoodF Tryz.prog 232 (F_q93 (G_q93 N_ S_q167 S_q96)) := by
  refine good_fs (cx := ⟨Tryz.prog, ofList [(229, (F_q167 S_q167)), (234, (F_q96 S_q96))], isref, N_⟩) (ofList_cons h_v_anatomy_format_sign (ofList_cons h_v_anatomy_format_infinite (ofList_nil _))) shF_q93 (sp_q93 (G_q93 N_ S_q167 S_q96)) (an_q93 N_ S_q167 S_q96) 0 0 (by kernel_rfl) (fun i_ hi_ => by omega) ?_
  intro a k h
  unfold sp_q93 at h
  split at h
  · exact ⟨[], rfl, rfl, (eq_q93 _ _ _ _ _ _ _ _).trans h⟩
  · cases h

def an_q80 (N_ : Nat) : Nat → Option Ann := fun b_ => none
theorem eq_q80 (N_ : Nat) (f_0 : Int) (f_1 : Int) (f_2 : Int) (cont_ : V → List Blk → Bool) : bodyV ⟨Tryz.prog, ofList [], isref, N_⟩ (an_q80 N_) 217 (shF_q80.args [.int f_0, .int f_1, .int f_2]) [] cont_ = G_q80 N_ f_0 f_1 f_2 (fun r0 => cont_ (.int .u64 r0) []) := by kernel_rfl
theorem good_q80 (N_ : Nat) : GoodF Tryz.prog 217 (F_q80 (G_q80 N_)) := by
  refine good_fs (cx := ⟨Tryz.prog, ofList [], isref, N_⟩) (ofList_nil _) shF_q80 (sp_q80 (G_q80 N_)) (an_q80 N_) 0 0 (by kernel_rfl) (fun i_ hi_ => by omega) ?_
  intro a k h
  unfold sp_q80 at h
  split at h
  · exact ⟨[], rfl, rfl, (eq_q80 _ _ _ _ _).trans h⟩
  · cases h

def an_q184 (N_ : Nat) (S_q96 : TS_q96) (S_q80 : TS_q80) : Nat → Option Ann := fun b_ => none
theorem eq_q184 (N_ : Nat) (S_q96 : TS_q96) (S_q80 : TS_q80) (f_0 : Int) (f_1 : Int) (f_2 : Int) (cont_ : V → List Blk → Bool) : bodyV ⟨Tryz.prog, ofList [(234, (F_q96 S_q96)), (217, (F_q80 S_q80))], isref, N_⟩ (an_q184 N_ S_q96 S_q80) 233 (shF_q184.args [.int f_0, .int f_1, .int f_2]) [] cont_ = G_q184 N_ S_q96 S_q80 f_0 f_1 f_2 (fun r0 => cont_ (.int .u64 r0) []) := by kernel_rfl
theorem good_q184 (N_ : Nat) (S_q96 : TS_q96) (S_q80 : TS_q80) (h_v_anatomy_format_infinite : GoodF Tryz.prog 234 (F_q96 S_q96)) (h_v_anatomy_format_hidden : GoodF Tryz.prog 217 (F_q80 S_q80)) : GoodF Tryz.prog 233 (F_q184 (G_q184 N_ S_q96 S_q80)) := by
  refine good_fs (cx := ⟨Tryz.prog, ofList [(234, (F_q96 S_q96)), (217, (F_q80 S_q80))], isref, N_⟩) (ofList_cons h_v_anatomy_format_infinite (ofList_cons h_v_anatomy_format_hidden (ofList_nil _))) shF_q184 (sp_q184 (G_q184 N_ S_q96 S_q80)) (an_q184 N_ S_q96 S_q80) 0 0 (by kernel_rfl) (fun i_ hi_ => by omega) ?_
  intro a k h
  unfold sp_q184 at h
  split at h
  · exact ⟨[], rfl, rfl, (eq_q184 _ _ _ _ _ _ _).trans h⟩
  · cases h

def an_q75 (N_ : Nat) (S_q93 : TS_q93) (S_q184 : TS_q184) : Nat → Option Ann := fun b_ => none
theorem eq_q75 (N_ : Nat) (S_q93 : TS_q93) (S_q184 : TS_q184) (b : Int) (f_0 : Int) (f_1 : Int) (f_2 : Int) (cont_ : V → List Blk → Bool) : bodyV ⟨Tryz.prog, ofList [(232, (F_q93 S_q93)), (233, (F_q184 S_q184))], isref, N_⟩ (an_q75 N_ S_q93 S_q184) 228 (shF_q75.args [.int b, .int f_0, .int f_1, .int f_2]) [] cont_ = G_q75 N_ S_q93 S_q184 b f_0 f_1 f_2 (fun r0 => cont_ (.int .u64 r0) []) := by kernel_rfl
theorem good_q75 (N_ : Nat) (S_q93 : TS_q93) (S_q184 : TS_q184) (h_anatomy_nan_uint64_ : GoodF Tryz.prog 232 (F_q93 S_q93)) (h_v_anatomy_format_none : GoodF Tryz.prog 233 (F_q184 S_q184)) : GoodF Tryz.prog 228 (F_q75 (G_q75 N_ S_q93 S_q184)) := by
  refine good_fs (cx := ⟨Tryz.prog, ofList [(232, (F_q93 S_q93)), (233, (F_q184 S_q184))], isref, N_⟩) (ofList_cons h_anatomy_nan_uint64_ (ofList_cons h_v_anatomy_format_none (ofList_nil _))) shF_q75 (sp_q75 (G_q75 N_ S_q93 S_q184)) (an_q75 N_ S_q93 S_q184) 0 0 (by kernel_rfl) (fun i_ hi_ => by omega) ?_
  intro a k h
  unfold sp_q75 at h
  split at h
  · exact ⟨[], rfl, rfl, (eq_q75 _ _ _ _ _ _ _ _).trans h⟩
  · cases h

def an_q29 (N_ : Nat) (S_q75 : TS_q75) (S_q167 : TS_q167) (S_q80 : TS_q80) : Nat → Option Ann := fun b_ => none
theorem eq_q29 (N_ : Nat) (S_q75 : TS_q75) (S_q167 : TS_q167) (S_q80 : TS_q80) (b : Int) (f_0 : Int) (f_1 : Int) (f_2 : Int) (cont_ : V → List Blk → Bool) : bodyV ⟨Tryz.prog, ofList [(228, (F_q75 S_q75)), (229, (F_q167 S_q167)), (217, (F_q80 S_q80))], isref, N_⟩ (an_q29 N_ S_q75 S_q167 S_q80) 214 (shF_q29.args [.int b, .int f_0, .int f_1, .int f_2]) [] cont_ = G_q29 N_ S_q75 S_q167 S_q80 b f_0 f_1 f_2 (fun r0 r1 r2 => cont_ (.tup [.bool r0, .int .i64 r1, .int .u64 r2]) []) := by kernel_rfl
theorem good_q29 (N_ : Nat) (S_q75 : TS_q75) (S_q167 : TS_q167) (S_q80 : TS_q80) (h_anatomy_canon_uint64_ : GoodF Tryz.prog 228 (F_q75 S_q75)) (h_v_anatomy_format_sign : GoodF Tryz.prog 229 (F_q167 S_q167)) (h_v_anatomy_format_hidden : GoodF Tryz.prog 217 (F_q80 S_q80)) : GoodF Tryz.prog 214 (F_q29 (G_q29 N_ S_q75 S_q167 S_q80)) := by
  refine good_fs (cx := ⟨Tryz.prog, ofList [(228, (F_q75 S_q75)), (229, (F_q167 S_q167)), (217, (F_q80 S_q80))], isref, N_⟩) (ofList_cons h_anatomy_canon_uint64_ (ofList_cons h_v_anatomy_format_sign (ofList_cons h_v_anatomy_format_hidden (ofList_nil _)))) shF_q29 (sp_q29 (G_q29 N_ S_q75 S_q167 S_q80)) (an_q29 N_ S_q75 S_q167 S_q80) 0 0 (by kernel_rfl) (fun i_ hi_ => by omega) ?_
  intro a k h
  unfold sp_q29 at h
  split at h
  · exact ⟨[], rfl, rfl, (eq_q29 _ _ _ _ _ _ _ _ _).trans h⟩
  · cases h

def an_q28 (N_ : Nat) (S_q29 : TS_q29) : Nat → Option Ann := fun b_ => none
theorem eq_q28 (N_ : Nat) (S_q29 : TS_q29) (b : Int) (f_0 : Int) (f_1 : Int) (f_2 : Int) (cont_ : V → List Blk → Bool) : bodyV ⟨Tryz.prog, ofList [(214, (F_q29 S_q29))], isref, N_⟩ (an_q28 N_ S_q29) 189 (shF_q28.args [.int b, .int f_0, .int f_1, .int f_2]) [] cont_ = G_q28 N_ S_q29 b f_0 f_1 f_2 (fun r0 => cont_ (.int .i64 r0) []) := by kernel_rfl
theorem good_q28 (N_ : Nat) (S_q29 : TS_q29) (h_anatomy_split_uint64_ : GoodF Tryz.prog 214 (F_q29 S_q29)) : GoodF Tryz.prog 189 (F_q28 (G_q28 N_ S_q29)) := by
  refine good_fs (cx := ⟨Tryz.prog, ofList [(214, (F_q29 S_q29))], isref, N_⟩) (ofList_cons h_anatomy_split_uint64_ (ofList_nil _)) shF_q28 (sp_q28 (G_q28 N_ S_q29)) (an_q28 N_ S_q29) 0 0 (by kernel_rfl) (fun i_ hi_ => by omega) ?_
  intro a k h
  unfold sp_q28 at h
  split at h
  · exact ⟨[], rfl, rfl, (eq_q28 _ _ _ _ _ _ _).trans h⟩
  · cases h

def an_q170 (N_ : Nat) (S_q166 : TS_q166) (S_an_of : TS_an_of) (S_q28 : TS_q28) : Nat → Option Ann := fun b_ => none
theorem eq_q170 (N_ : Nat) (S_q166 : TS_q166) (S_an_of : TS_an_of) (S_q28 : TS_q28) (x : Nat) (cont_ : V → List Blk → Bool) : bodyV ⟨Tryz.prog, ofList [(88, (F_q166 S_q166)), (190, (F_an_of S_an_of)), (189, (F_q28 S_q28))], isref, N_⟩ (an_q170 N_ S_q166 S_an_of S_q28) 157 (shF_q170.args [.nat x]) [] cont_ = G_q170 N_ S_q166 S_an_of S_q28 x (fun r0 => cont_ (.int .i64 r0) []) := by kernel_rfl
theorem good_q170 (N_ : Nat) (S_q166 : TS_q166) (S_an_of : TS_an_of) (S_q28 : TS_q28) (h_math_Float64bits_b : GoodF Tryz.prog 88 (F_q166 S_q166)) (h_anatomy_of : GoodF Tryz.prog 190 (F_an_of S_an_of)) (h_anatomy_class_uint64_ : GoodF Tryz.prog 189 (F_q28 S_q28)) : GoodF Tryz.prog 157 (F_q170 (G_q170 N_ S_q166 S_an_of S_q28)) := by
  refine good_fs (cx := ⟨Tryz.prog, ofList [(88, (F_q166 S_q166)), (190, (F_an_of S_an_of)), (189, (F_q28 S_q28))], isref, N_⟩) (ofList_cons h_math_Float64bits_b (ofList_cons h_anatomy_of (ofList_cons h_anatomy_class_uint64_ (ofList_nil _)))) shF_q170 (sp_q170 (G_q170 N_ S_q166 S_an_of S_q28)) (an_q170 N_ S_q166 S_an_of S_q28) 0 0 (by kernel_rfl) (fun i_ hi_ => by omega) ?_
  intro a k h
  unfold sp_q170 at h
  split at h
  · exact ⟨[], rfl, rfl, (eq_q170 _ _ _ _ _ _).trans h⟩
  · cases h


def an_q188 (N_ : Nat) (S_q166 : TS_q166) (S_q90 : TS_q90) : Nat → Option Ann := fun b_ => none
theorem eq_q188 (N_ : Nat) (S_q166 : TS_q166) (S_q90 : TS_q90) (x : Nat) (cont_ : V → List Blk → Bool) : bodyV ⟨Tryz.prog, ofList [(88, (F_q166 S_q166)), (100, (F_q90 S_q90))], isref, N_⟩ (an_q188 N_ S_q166 S_q90) 69 (shF_q188.args [.nat x]) [] cont_ = G_q188 N_ S_q166 S_q90 x (fun r0 => cont_ (.flt r0) []) := by kernel_rfl
theorem good_q188 (N_ : Nat) (S_q166 : TS_q166) (S_q90 : TS_q90) (h_math_Float64bits_b : GoodF Tryz.prog 88 (F_q166 S_q166)) (h_math_Float64frombits : GoodF Tryz.prog 100 (F_q90 S_q90)) : GoodF Tryz.prog 69 (F_q188 (G_q188 N_ S_q166 S_q90)) := by
  refine good_fs (cx := ⟨Tryz.prog, ofList [(88, (F_q166 S_q166)), (100, (F_q90 S_q90))], isref, N_⟩) (ofList_cons h_math_Float64bits_b (ofList_cons h_math_Float64frombits (ofList_nil _))) shF_q188 (sp_q188 (G_q188 N_ S_q166 S_q90)) (an_q188 N_ S_q166 S_q90) 0 0 (by kernel_rfl) (fun i_ hi_ => by omega) ?_
  intro a k h
  unfold sp_q188 at h
  split at h
  · exact ⟨[], rfl, rfl, (eq_q188 _ _ _ _ _).trans h⟩
  · cases h

def an_q48 (N_ : Nat) (S_q90 : TS_q90) : Nat → Option Ann := fun b_ => none
theorem eq_q48 (N_ : Nat) (S_q90 : TS_q90) (b : Int) (cont_ : V → List Blk → Bool) : bodyV ⟨Tryz.prog, ofList [(100, (F_q90 S_q90))], isref, N_⟩ (an_q48 N_ S_q90) 39 (shF_q48.args [.int b]) [] cont_ = G_q48 N_ S_q90 b (fun r0 => cont_ (.flt r0) []) := by kernel_rfl
theorem good_q48 (N_ : Nat) (S_q90 : TS_q90) (h_math_Float64frombits : GoodF Tryz.prog 100 (F_q90 S_q90)) : GoodF Tryz.prog 39 (F_q48 (G_q48 N_ S_q90)) := by
  refine good_fs (cx := ⟨Tryz.prog, ofList [(100, (F_q90 S_q90))], isref, N_⟩) (ofList_cons h_math_Float64frombits (ofList_nil _)) shF_q48 (sp_q48 (G_q48 N_ S_q90)) (an_q48 N_ S_q90) 0 0 (by kernel_rfl) (fun i_ hi_ => by omega) ?_
  intro a k h
  unfold sp_q48 at h
  split at h
  · exact ⟨[], rfl, rfl, (eq_q48 _ _ _ _).trans h⟩
  · cases h

def an_q43 (N_ : Nat) (S_q48 : TS_q48) : Nat → Option Ann := fun b_ => none
theorem eq_q43 (N_ : Nat) (S_q48 : TS_q48) (q_0 : Int) (q_1 : Int) (q_2 : Int) (q_3 : Int) (cont_ : V → List Blk → Bool) : bodyV ⟨Tryz.prog, ofList [(39, (F_q48 S_q48))], isref, N_⟩ (an_q43 N_ S_q48) 17 (shF_q43.args [.int q_0, .int q_1, .int q_2, .int q_3]) [] cont_ = G_q43 N_ S_q48 q_0 q_1 q_2 q_3 (fun r0 r1 r2 r3 => cont_ (.agg [.flt r0, .flt r1, .flt r2, .flt r3]) []) := by kernel_rfl
theorem good_q43 (N_ : Nat) (S_q48 : TS_q48) (h_binnaclelaw12_f : GoodF Tryz.prog 39 (F_q48 S_q48)) : GoodF Tryz.prog 17 (F_q43 (G_q43 N_ S_q48)) := by
  refine good_fs (cx := ⟨Tryz.prog, ofList [(39, (F_q48 S_q48))], isref, N_⟩) (ofList_cons h_binnaclelaw12_f (ofList_nil _)) shF_q43 (sp_q43 (G_q43 N_ S_q48)) (an_q43 N_ S_q48) 0 0 (by kernel_rfl) (fun i_ hi_ => by omega) ?_
  intro a k h
  unfold sp_q43 at h
  split at h
  · exact ⟨[], rfl, rfl, (eq_q43 _ _ _ _ _ _ _).trans h⟩
  · cases h

def sh_st_quat_finite_0 : StSh := ⟨[.rof, .any, .any, .any, .any, .int .i64, .int .i64, .any, .any, .any, .any, .any, .any, .any, .any, .any, .any, .any, .any, .any], []⟩
def sx0_st_quat_finite_0 : StSh := ⟨[.any, .any, .bool, .any, .any, .any, .any, .any, .any, .any, .any, .any, .any, .any, .any, .any, .any, .any, .any, .any], []⟩
def sx1_st_quat_finite_0 : StSh := ⟨[.any, .any, .any, .any, .any, .any, .any, .any, .any, .any, .any, .any, .any, .any, .any, .any, .any, .any, .any, .any], []⟩
def hk_st_quat_finite_0 (N_ : Nat) : List Atom → K → Bool := fun a_ κ => match a_ with
  | [.fls l_1, .int t5, .int t6] => iterG N_ (st_quat_finite_0 N_ l_1 t5 (fun r0 => κ.ret (sx0_st_quat_finite_0.build [.bool r0])) (κ.ext 0 (sx1_st_quat_finite_0.build []))) t6
  | _ => false
def an_q23 (N_ : Nat) : Nat → Option Ann := fun b_ => cond (b_ == 0) (some ⟨⟨[0, 5, 6], [], []⟩, [(0, ⟨[], [], []⟩)], some ⟨[2], [], []⟩, some (mkHooks [(sh_st_quat_finite_0, hk_st_quat_finite_0 N_)])⟩) (none)
theorem eq_st_quat_finite_0 (N_ : Nat) (κ : K) (l_1 : List Fl) (t5 : Int) (t6 : Int) : iter N_ (fun s k => codeV ⟨Tryz.prog, ofList [], isref, N_⟩ 0 (an_q23 N_) (lp Tryz.prog 86 0).2 (lp Tryz.prog 86 0).1 s (roundK Tryz.prog 0 ((an_q23 N_) (lp Tryz.prog 86 0).1) κ k)) (sh_st_quat_finite_0.build [.fls l_1, .int t5, .int t6]) = iterG N_ (st_quat_finite_0 N_ l_1 t5 (fun r0 => κ.ret (sx0_st_quat_finite_0.build [.bool r0])) (κ.ext 0 (sx1_st_quat_finite_0.build []))) t6 :=
  iter_tr (fun (v_ : Int) => sh_st_quat_finite_0.build [.fls l_1, .int t5, .int v_]) (fun v_ K_ => by kernel_rfl) N_ t6
theorem hk1_st_quat_finite_0 (N_ : Nat) : HookFor ⟨Tryz.prog, ofList [], isref, N_⟩ 0 (an_q23 N_) (lp Tryz.prog 86 0) (sh_st_quat_finite_0, hk_st_quat_finite_0 N_) := by
  intro a κ h
  simp only at h
  unfold hk_st_quat_finite_0 at h
  split at h
  · exact (eq_st_quat_finite_0 _ _ _ _ _).trans h
  · cases h
theorem ho_quat_finite_0 (N_ : Nat) : HookOk ⟨Tryz.prog, ofList [], isref, N_⟩ 0 (an_q23 N_) (lp Tryz.prog 86 0) :=
  hooks_ok [(sh_st_quat_finite_0, hk_st_quat_finite_0 N_)] (by kernel_rfl) ⟨hk1_st_quat_finite_0 _, trivial⟩
theorem eq_q23 (N_ : Nat) (l : List Fl) (cont_ : V → List Blk → Bool) : bodyV ⟨Tryz.prog, ofList [], isref, N_⟩ (an_q23 N_) 86 (shF_q23.args [.fls l]) [] cont_ = G_q23 N_ l (fun r0 => cont_ (.bool r0) []) := by kernel_rfl
theorem good_q23 (N_ : Nat) : GoodF Tryz.prog 86 (F_q23 (G_q23 N_)) := by
  refine good_fs (cx := ⟨Tryz.prog, ofList [], isref, N_⟩) (ofList_nil _) shF_q23 (sp_q23 (G_q23 N_)) (an_q23 N_) 1 0 (by kernel_rfl) (fun i_ hi_ => by
    match i_, hi_ with
    | 0, _ => exact ho_quat_finite_0 _
    | (q + 1), h => omega) ?_
  intro a k h
  unfold sp_q23 at h
  split at h
  · exact ⟨[], rfl, rfl, (eq_q23 _ _ _).trans h⟩
  · cases h

def an_q45 (N_ : Nat) (S_q23 : TS_q23) : Nat → Option Ann := fun b_ => none
theorem eq_q45 (N_ : Nat) (S_q23 : TS_q23) (qs_0 : Fl) (qs_1 : Fl) (qs_2 : Fl) (qs_3 : Fl) (qs_4 : Fl) (qs_5 : Fl) (qs_6 : Fl) (qs_7 : Fl) (cont_ : V → List Blk → Bool) : bodyV ⟨Tryz.prog, ofList [(86, (F_q23 S_q23))], isref, (N_ + 24)⟩ (an_q45 (N_ + 24) S_q23) 56 (shF_q45.args [.fl qs_0, .fl qs_1, .fl qs_2, .fl qs_3, .fl qs_4, .fl qs_5, .fl qs_6, .fl qs_7]) [] cont_ = G_q45 (N_ + 24) S_q23 qs_0 qs_1 qs_2 qs_3 qs_4 qs_5 qs_6 qs_7 (fun r0 => cont_ (.bool r0) []) := by kernel_rfl
theorem good_q45 (N_ : Nat) (S_q23 : TS_q23) (h_quat_finite : GoodF Tryz.prog 86 (F_q23 S_q23)) : GoodF Tryz.prog 56 (F_q45 (G_q45 (N_ + 24) S_q23)) := by
  refine good_fs (cx := ⟨Tryz.prog, ofList [(86, (F_q23 S_q23))], isref, (N_ + 24)⟩) (ofList_cons h_quat_finite (ofList_nil _)) shF_q45 (sp_q45 (G_q45 (N_ + 24) S_q23)) (an_q45 (N_ + 24) S_q23) 1 0 (by kernel_rfl) (fun i_ hi_ => by
    match i_, hi_ with
    | 0, _ => exact (fun hk e => by rw [show hookOf ((an_q45 (N_ + 24) S_q23) (lp Tryz.prog 56 0).1) = none from by kernel_rfl] at e; cases e)
    | (q + 1), h => omega) ?_
  intro a k h
  unfold sp_q45 at h
  split at h
  · exact ⟨[], rfl, rfl, (eq_q45 _ _ _ _ _ _ _ _ _ _ _).trans h⟩
  · cases h

def an_q171 (N_ : Nat) (S_q45 : TS_q45) (S_q23 : TS_q23) : Nat → Option Ann := fun b_ => none
theorem eq_q171 (N_ : Nat) (S_q45 : TS_q45) (S_q23 : TS_q23) (a_0 : Fl) (a_1 : Fl) (a_2 : Fl) (a_3 : Fl) (b_0 : Fl) (b_1 : Fl) (b_2 : Fl) (b_3 : Fl) (cont_ : V → List Blk → Bool) : bodyV ⟨Tryz.prog, ofList [(56, (F_q45 S_q45)), (86, (F_q23 S_q23))], isref, N_⟩ (an_q171 N_ S_q45 S_q23) 27 (shF_q171.args [.fl a_0, .fl a_1, .fl a_2, .fl a_3, .fl b_0, .fl b_1, .fl b_2, .fl b_3]) [] cont_ = G_q171 N_ S_q45 S_q23 a_0 a_1 a_2 a_3 b_0 b_1 b_2 b_3 (fun r0 r1 => cont_ (.tup [.flt r0, .int .i64 r1]) []) := by kernel_rfl
theorem good_q171 (N_ : Nat) (S_q45 : TS_q45) (S_q23 : TS_q23) (h_quat_good_o2 : GoodF Tryz.prog 56 (F_q45 S_q45)) (h_quat_finite : GoodF Tryz.prog 86 (F_q23 S_q23)) : GoodF Tryz.prog 27 (F_q171 (G_q171 N_ S_q45 S_q23)) := by
  refine good_fs (cx := ⟨Tryz.prog, ofList [(56, (F_q45 S_q45)), (86, (F_q23 S_q23))], isref, N_⟩) (ofList_cons h_quat_good_o2 (ofList_cons h_quat_finite (ofList_nil _))) shF_q171 (sp_q171 (G_q171 N_ S_q45 S_q23)) (an_q171 N_ S_q45 S_q23) 0 0 (by kernel_rfl) (fun i_ hi_ => by omega) ?_
  intro a k h
  unfold sp_q171 at h
  split at h
  · exact ⟨[], rfl, rfl, (eq_q171 _ _ _ _ _ _ _ _ _ _ _ _).trans h⟩
  · cases h

def an_q70 (N_ : Nat) (S_q171 : TS_q171) : Nat → Option Ann := fun b_ => none
theorem eq_q70 (N_ : Nat) (S_q171 : TS_q171) (a_0 : Fl) (a_1 : Fl) (a_2 : Fl) (a_3 : Fl) (b_0 : Fl) (b_1 : Fl) (b_2 : Fl) (b_3 : Fl) (cont_ : V → List Blk → Bool) : bodyV ⟨Tryz.prog, ofList [(27, (F_q171 S_q171))], isref, N_⟩ (an_q70 N_ S_q171) 36 (shF_q70.args [.fl a_0, .fl a_1, .fl a_2, .fl a_3, .fl b_0, .fl b_1, .fl b_2, .fl b_3]) [] cont_ = G_q70 N_ S_q171 a_0 a_1 a_2 a_3 b_0 b_1 b_2 b_3 (fun r0 r1 r2 r3 r4 => cont_ (.tup [.agg [.flt r0, .flt r1, .flt r2, .flt r3], .int .i64 r4]) []) := by kernel_rfl
theorem good_q70 (N_ : Nat) (S_q171 : TS_q171) (h_quat_Dot : GoodF Tryz.prog 27 (F_q171 S_q171)) : GoodF Tryz.prog 36 (F_q70 (G_q70 N_ S_q171)) := by
  refine good_fs (cx := ⟨Tryz.prog, ofList [(27, (F_q171 S_q171))], isref, N_⟩) (ofList_cons h_quat_Dot (ofList_nil _)) shF_q70 (sp_q70 (G_q70 N_ S_q171)) (an_q70 N_ S_q171) 0 0 (by kernel_rfl) (fun i_ hi_ => by omega) ?_
  intro a k h
  unfold sp_q70 at h
  split at h
  · exact ⟨[], rfl, rfl, (eq_q70 _ _ _ _ _ _ _ _ _ _ _).trans h⟩
  · cases h

def an_q111 (N_ : Nat) : Nat → Option Ann := fun b_ => none
theorem eq_q111 (N_ : Nat) (q_0 : Fl) (q_1 : Fl) (q_2 : Fl) (q_3 : Fl) (cont_ : V → List Blk → Bool) : bodyV ⟨Tryz.prog, ofList [], isref, N_⟩ (an_q111 N_) 60 (shF_q111.args [.fl q_0, .fl q_1, .fl q_2, .fl q_3]) [] cont_ = G_q111 N_ q_0 q_1 q_2 q_3 (fun r0 => cont_ (.slw 0) [⟨24, 1, .flts r0⟩]) := by kernel_rfl
theorem good_q111 (N_ : Nat) : GoodF Tryz.prog 60 (F_q111 (G_q111 N_)) := by
  refine good_fs (cx := ⟨Tryz.prog, ofList [], isref, N_⟩) (ofList_nil _) shF_q111 (sp_q111 (G_q111 N_)) (an_q111 N_) 0 0 (by kernel_rfl) (fun i_ hi_ => by omega) ?_
  intro a k h
  unfold sp_q111 at h
  split at h
  · exact ⟨[], rfl, rfl, (eq_q111 _ _ _ _ _ _).trans h⟩
  · cases h


def an_q139 (N_ : Nat) (S_q99 : TS_q99) : Nat → Option Ann := fun b_ => none
theorem eq_q139 (N_ : Nat) (S_q99 : TS_q99) (x : Fl) (cont_ : V → List Blk → Bool) : bodyV ⟨Tryz.prog, ofList [(88, (F_q99 S_q99))], isref, N_⟩ (an_q139 N_ S_q99) 89 (shF_q139.args [.fl x]) [] cont_ = G_q139 N_ S_q99 x (fun r0 => cont_ (.int .u64 r0) []) := by kernel_rfl
theorem good_q139 (N_ : Nat) (S_q99 : TS_q99) (h_math_Float64bits : GoodF Tryz.prog 88 (F_q99 S_q99)) : GoodF Tryz.prog 89 (F_q139 (G_q139 N_ S_q99)) := by
  refine good_fs (cx := ⟨Tryz.prog, ofList [(88, (F_q99 S_q99))], isref, N_⟩) (ofList_cons h_math_Float64bits (ofList_nil _)) shF_q139 (sp_q139 (G_q139 N_ S_q99)) (an_q139 N_ S_q99) 0 0 (by kernel_rfl) (fun i_ hi_ => by omega) ?_
  intro a k h
  unfold sp_q139 at h
  split at h
  · exact ⟨[], rfl, rfl, (eq_q139 _ _ _ _).trans h⟩
  · cases h

def an_q155 (N_ : Nat) (S_q139 : TS_q139) : Nat → Option Ann := fun b_ => none
theorem eq_q155 (N_ : Nat) (S_q139 : TS_q139) (x : Fl) (cont_ : V → List Blk → Bool) : bodyV ⟨Tryz.prog, ofList [(89, (F_q139 S_q139))], isref, N_⟩ (an_q155 N_ S_q139) 115 (shF_q155.args [.fl x]) [] cont_ = G_q155 N_ S_q139 x (fun r0 r1 r2 => cont_ (.tup [.bool r0, .int .i64 r1, .int .u64 r2]) []) := by kernel_rfl
theorem good_q155 (N_ : Nat) (S_q139 : TS_q139) (h_binnacleref01_Bits : GoodF Tryz.prog 89 (F_q139 S_q139)) : GoodF Tryz.prog 115 (F_q155 (G_q155 N_ S_q139)) := by
  refine good_fs (cx := ⟨Tryz.prog, ofList [(89, (F_q139 S_q139))], isref, N_⟩) (ofList_cons h_binnacleref01_Bits (ofList_nil _)) shF_q155 (sp_q155 (G_q155 N_ S_q139)) (an_q155 N_ S_q139) 0 0 (by kernel_rfl) (fun i_ hi_ => by omega) ?_
  intro a k h
  unfold sp_q155 at h
  split at h
  · exact ⟨[], rfl, rfl, (eq_q155 _ _ _ _).trans h⟩
  · cases h

def an_q116 (N_ : Nat) : Nat → Option Ann := fun b_ => none
theorem eq_q116 (N_ : Nat) (exp : Int) (frac : Int) (most : Int) (cont_ : V → List Blk → Bool) : bodyV ⟨Tryz.prog, ofList [], isref, N_⟩ (an_q116 N_) 176 (shF_q116.args [.int exp, .int frac, .int most]) [] cont_ = G_q116 N_ exp frac most (fun r0 => cont_ (.int .i64 r0) []) := by kernel_rfl
theorem good_q116 (N_ : Nat) : GoodF Tryz.prog 176 (F_q116 (G_q116 N_)) := by
  refine good_fs (cx := ⟨Tryz.prog, ofList [], isref, N_⟩) (ofList_nil _) shF_q116 (sp_q116 (G_q116 N_)) (an_q116 N_) 0 0 (by kernel_rfl) (fun i_ hi_ => by omega) ?_
  intro a k h
  unfold sp_q116 at h
  split at h
  · exact ⟨[], rfl, rfl, (eq_q116 _ _ _ _ _).trans h⟩
  · cases h

def an_q154 (N_ : Nat) (S_q155 : TS_q155) (S_q116 : TS_q116) : Nat → Option Ann := fun b_ => none
theorem eq_q154 (N_ : Nat) (S_q155 : TS_q155) (S_q116 : TS_q116) (x : Fl) (cont_ : V → List Blk → Bool) : bodyV ⟨Tryz.prog, ofList [(115, (F_q155 S_q155)), (176, (F_q116 S_q116))], isref, N_⟩ (an_q154 N_ S_q155 S_q116) 138 (shF_q154.args [.fl x]) [] cont_ = G_q154 N_ S_q155 S_q116 x (fun r0 => cont_ (.int .i64 r0) []) := by kernel_rfl
theorem good_q154 (N_ : Nat) (S_q155 : TS_q155) (S_q116 : TS_q116) (h_binnacleref01_Split : GoodF Tryz.prog 115 (F_q155 S_q155)) (h_binnacleref01_classify : GoodF Tryz.prog 176 (F_q116 S_q116)) : GoodF Tryz.prog 138 (F_q154 (G_q154 N_ S_q155 S_q116)) := by
  refine good_fs (cx := ⟨Tryz.prog, ofList [(115, (F_q155 S_q155)), (176, (F_q116 S_q116))], isref, N_⟩) (ofList_cons h_binnacleref01_Split (ofList_cons h_binnacleref01_classify (ofList_nil _))) shF_q154 (sp_q154 (G_q154 N_ S_q155 S_q116)) (an_q154 N_ S_q155 S_q116) 0 0 (by kernel_rfl) (fun i_ hi_ => by omega) ?_
  intro a k h
  unfold sp_q154 at h
  split at h
  · exact ⟨[], rfl, rfl, (eq_q154 _ _ _ _ _).trans h⟩
  · cases h

def an_q50 (N_ : Nat) (S_q154 : TS_q154) : Nat → Option Ann := fun b_ => none
theorem eq_q50 (N_ : Nat) (S_q154 : TS_q154) (x : Fl) (cont_ : V → List Blk → Bool) : bodyV ⟨Tryz.prog, ofList [(138, (F_q154 S_q154))], isref, N_⟩ (an_q50 N_ S_q154) 87 (shF_q50.args [.fl x]) [] cont_ = G_q50 N_ S_q154 x (fun r0 => cont_ (.bool r0) []) := by kernel_rfl
theorem good_q50 (N_ : Nat) (S_q154 : TS_q154) (h_binnacleref01_Class : GoodF Tryz.prog 138 (F_q154 S_q154)) : GoodF Tryz.prog 87 (F_q50 (G_q50 N_ S_q154)) := by
  refine good_fs (cx := ⟨Tryz.prog, ofList [(138, (F_q154 S_q154))], isref, N_⟩) (ofList_cons h_binnacleref01_Class (ofList_nil _)) shF_q50 (sp_q50 (G_q50 N_ S_q154)) (an_q50 N_ S_q154) 0 0 (by kernel_rfl) (fun i_ hi_ => by omega) ?_
  intro a k h
  unfold sp_q50 at h
  split at h
  · exact ⟨[], rfl, rfl, (eq_q50 _ _ _ _).trans h⟩
  · cases h

def sh_st_binnacleref01_AllFinite_0 : StSh := ⟨[.any, .any, .any, .any, .any, .rof, .int .i64, .int .i64, .any, .any, .any, .any, .any, .any, .any], []⟩
def sx0_st_binnacleref01_AllFinite_0 : StSh := ⟨[.any, .any, .bool, .any, .any, .any, .any, .any, .any, .any, .any, .any, .any, .any, .any], []⟩
def sx1_st_binnacleref01_AllFinite_0 : StSh := ⟨[.any, .any, .any, .any, .any, .any, .any, .any, .any, .any, .any, .any, .any, .any, .any], []⟩
def hk_st_binnacleref01_AllFinite_0 (N_ : Nat) (S_q50 : TS_q50) : List Atom → K → Bool := fun a_ κ => match a_ with
  | [.fls t5, .int t6, .int t7] => iterG N_ (st_q223 N_ S_q50 t5 t6 (fun r0 => κ.ret (sx0_st_binnacleref01_AllFinite_0.build [.bool r0])) (κ.ext 0 (sx1_st_binnacleref01_AllFinite_0.build []))) t7
  | _ => false
def an_q49 (N_ : Nat) (S_q50 : TS_q50) : Nat → Option Ann := fun b_ => cond (b_ == 0) (some ⟨⟨[5, 6, 7], [], []⟩, [(0, ⟨[], [], []⟩)], some ⟨[2], [], []⟩, some (mkHooks [(sh_st_binnacleref01_AllFinite_0, hk_st_binnacleref01_AllFinite_0 N_ S_q50)])⟩) (none)
theorem eq_st_binnacleref01_AllFinite_0 (N_ : Nat) (S_q50 : TS_q50) (κ : K) (t5 : List Fl) (t6 : Int) (t7 : Int) : iter N_ (fun s k => codeV ⟨Tryz.prog, ofList [(87, (F_q50 S_q50))], isref, N_⟩ 0 (an_q49 N_ S_q50) (lp Tryz.prog 101 0).2 (lp Tryz.prog 101 0).1 s (roundK Tryz.prog 0 ((an_q49 N_ S_q50) (lp Tryz.prog 101 0).1) κ k)) (sh_st_binnacleref01_AllFinite_0.build [.fls t5, .int t6, .int t7]) = iterG N_ (st_q223 N_ S_q50 t5 t6 (fun r0 => κ.ret (sx0_st_binnacleref01_AllFinite_0.build [.bool r0])) (κ.ext 0 (sx1_st_binnacleref01_AllFinite_0.build []))) t7 :=
  iter_tr (fun (v_ : Int) => sh_st_binnacleref01_AllFinite_0.build [.fls t5, .int t6, .int v_]) (fun v_ K_ => by kernel_rfl) N_ t7
theorem hk1_st_binnacleref01_AllFinite_0 (N_ : Nat) (S_q50 : TS_q50) : HookFor ⟨Tryz.prog, ofList [(87, (F_q50 S_q50))], isref, N_⟩ 0 (an_q49 N_ S_q50) (lp Tryz.prog 101 0) (sh_st_binnacleref01_AllFinite_0, hk_st_binnacleref01_AllFinite_0 N_ S_q50) := by
  intro a κ h
  simp only at h
  unfold hk_st_binnacleref01_AllFinite_0 at h
  split at h
  · exact (eq_st_binnacleref01_AllFinite_0 _ _ _ _ _ _).trans h
  · cases h
theorem ho_binnacleref01_AllFinite_0 (N_ : Nat) (S_q50 : TS_q50) : HookOk ⟨Tryz.prog, ofList [(87, (F_q50 S_q50))], isref, N_⟩ 0 (an_q49 N_ S_q50) (lp Tryz.prog 101 0) :=
  hooks_ok [(sh_st_binnacleref01_AllFinite_0, hk_st_binnacleref01_AllFinite_0 N_ S_q50)] (by kernel_rfl) ⟨hk1_st_binnacleref01_AllFinite_0 _ _, trivial⟩
theorem eq_q49 (N_ : Nat) (S_q50 : TS_q50) (l : List Fl) (cont_ : V → List Blk → Bool) : bodyV ⟨Tryz.prog, ofList [(87, (F_q50 S_q50))], isref, N_⟩ (an_q49 N_ S_q50) 101 (shF_q49.args [.fls l]) [] cont_ = G_q49 N_ S_q50 l (fun r0 => cont_ (.bool r0) []) := by kernel_rfl
theorem good_q49 (N_ : Nat) (S_q50 : TS_q50) (h_binnacleref01_Finite : GoodF Tryz.prog 87 (F_q50 S_q50)) : GoodF Tryz.prog 101 (F_q49 (G_q49 N_ S_q50)) := by
  refine good_fs (cx := ⟨Tryz.prog, ofList [(87, (F_q50 S_q50))], isref, N_⟩) (ofList_cons h_binnacleref01_Finite (ofList_nil _)) shF_q49 (sp_q49 (G_q49 N_ S_q50)) (an_q49 N_ S_q50) 1 0 (by kernel_rfl) (fun i_ hi_ => by
    match i_, hi_ with
    | 0, _ => exact ho_binnacleref01_AllFinite_0 _ _
    | (q + 1), h => omega) ?_
  intro a k h
  unfold sp_q49 at h
  split at h
  · exact ⟨[], rfl, rfl, (eq_q49 _ _ _ _).trans h⟩
  · cases h

def an_q40 (N_ : Nat) (S_q111 : TS_q111) (S_q49 : TS_q49) : Nat → Option Ann := fun b_ => none
theorem eq_q40 (N_ : Nat) (S_q111 : TS_q111) (S_q49 : TS_q49) (q_0 : Fl) (q_1 : Fl) (q_2 : Fl) (q_3 : Fl) (cont_ : V → List Blk → Bool) : bodyV ⟨Tryz.prog, ofList [(60, (F_q111 S_q111)), (101, (F_q49 S_q49))], isref, N_⟩ (an_q40 N_ S_q111 S_q49) 75 (shF_q40.args [.fl q_0, .fl q_1, .fl q_2, .fl q_3]) [] cont_ = G_q40 N_ S_q111 S_q49 q_0 q_1 q_2 q_3 (fun r0 => cont_ (.bool r0) []) := by kernel_rfl
theorem good_q40 (N_ : Nat) (S_q111 : TS_q111) (S_q49 : TS_q49) (h_binnacleref12_List : GoodF Tryz.prog 60 (F_q111 S_q111)) (h_binnacleref01_AllFinite : GoodF Tryz.prog 101 (F_q49 S_q49)) : GoodF Tryz.prog 75 (F_q40 (G_q40 N_ S_q111 S_q49)) := by
  refine good_fs (cx := ⟨Tryz.prog, ofList [(60, (F_q111 S_q111)), (101, (F_q49 S_q49))], isref, N_⟩) (ofList_cons h_binnacleref12_List (ofList_cons h_binnacleref01_AllFinite (ofList_nil _))) shF_q40 (sp_q40 (G_q40 N_ S_q111 S_q49)) (an_q40 N_ S_q111 S_q49) 0 0 (by kernel_rfl) (fun i_ hi_ => by omega) ?_
  intro a k h
  unfold sp_q40 at h
  split at h
  · exact ⟨[], rfl, rfl, (eq_q40 _ _ _ _ _ _ _ _).trans h⟩
  · cases h

def an_q61 (N_ : Nat) : Nat → Option Ann := fun b_ => none
theorem eq_q61 (N_ : Nat) (ok_0 : Bool) (ok_1 : Bool) (cont_ : V → List Blk → Bool) : bodyV ⟨Tryz.prog, ofList [], isref, (N_ + 24)⟩ (an_q61 (N_ + 24)) 74 (shF_q61.args [.bool ok_0, .bool ok_1]) [] cont_ = G_q61 (N_ + 24) ok_0 ok_1 (fun r0 => cont_ (.int .i64 r0) []) := by kernel_rfl
theorem good_q61 (N_ : Nat) : GoodF Tryz.prog 74 (F_q61 (G_q61 (N_ + 24))) := by
  refine good_fs (cx := ⟨Tryz.prog, ofList [], isref, (N_ + 24)⟩) (ofList_nil _) shF_q61 (sp_q61 (G_q61 (N_ + 24))) (an_q61 (N_ + 24)) 1 0 (by kernel_rfl) (fun i_ hi_ => by
    match i_, hi_ with
    | 0, _ => exact (fun hk e => by rw [show hookOf ((an_q61 (N_ + 24)) (lp Tryz.prog 74 0).1) = none from by kernel_rfl] at e; cases e)
    | (q + 1), h => omega) ?_
  intro a k h
  unfold sp_q61 at h
  split at h
  · exact ⟨[], rfl, rfl, (eq_q61 _ _ _ _).trans h⟩
  · cases h

def an_q182 (N_ : Nat) (S_q40 : TS_q40) (S_q61 : TS_q61) (S_q50 : TS_q50) : Nat → Option Ann := fun b_ => none
theorem eq_q182 (N_ : Nat) (S_q40 : TS_q40) (S_q61 : TS_q61) (S_q50 : TS_q50) (a_0 : Fl) (a_1 : Fl) (a_2 : Fl) (a_3 : Fl) (b_0 : Fl) (b_1 : Fl) (b_2 : Fl) (b_3 : Fl) (cont_ : V → List Blk → Bool) : bodyV ⟨Tryz.prog, ofList [(75, (F_q40 S_q40)), (74, (F_q61 S_q61)), (87, (F_q50 S_q50))], isref, N_⟩ (an_q182 N_ S_q40 S_q61 S_q50) 28 (shF_q182.args [.fl a_0, .fl a_1, .fl a_2, .fl a_3, .fl b_0, .fl b_1, .fl b_2, .fl b_3]) [] cont_ = G_q182 N_ S_q40 S_q61 S_q50 a_0 a_1 a_2 a_3 b_0 b_1 b_2 b_3 (fun r0 r1 => cont_ (.tup [.flt r0, .int .i64 r1]) []) := by kernel_rfl
theorem good_q182 (N_ : Nat) (S_q40 : TS_q40) (S_q61 : TS_q61) (S_q50 : TS_q50) (h_binnacleref12_Finite : GoodF Tryz.prog 75 (F_q40 S_q40)) (h_binnacleref12_numbers_o2 : GoodF Tryz.prog 74 (F_q61 S_q61)) (h_binnacleref01_Finite : GoodF Tryz.prog 87 (F_q50 S_q50)) : GoodF Tryz.prog 28 (F_q182 (G_q182 N_ S_q40 S_q61 S_q50)) := by
  refine good_fs (cx := ⟨Tryz.prog, ofList [(75, (F_q40 S_q40)), (74, (F_q61 S_q61)), (87, (F_q50 S_q50))], isref, N_⟩) (ofList_cons h_binnacleref12_Finite (ofList_cons h_binnacleref12_numbers_o2 (ofList_cons h_binnacleref01_Finite (ofList_nil _)))) shF_q182 (sp_q182 (G_q182 N_ S_q40 S_q61 S_q50)) (an_q182 N_ S_q40 S_q61 S_q50) 0 0 (by kernel_rfl) (fun i_ hi_ => by omega) ?_
  intro a k h
  unfold sp_q182 at h
  split at h
  · exact ⟨[], rfl, rfl, (eq_q182 _ _ _ _ _ _ _ _ _ _ _ _ _).trans h⟩
  · cases h

def an_q81 (N_ : Nat) (S_q182 : TS_q182) : Nat → Option Ann := fun b_ => none
theorem eq_q81 (N_ : Nat) (S_q182 : TS_q182) (a_0 : Fl) (a_1 : Fl) (a_2 : Fl) (a_3 : Fl) (b_0 : Fl) (b_1 : Fl) (b_2 : Fl) (b_3 : Fl) (cont_ : V → List Blk → Bool) : bodyV ⟨Tryz.prog, ofList [(28, (F_q182 S_q182))], isref, N_⟩ (an_q81 N_ S_q182) 37 (shF_q81.args [.fl a_0, .fl a_1, .fl a_2, .fl a_3, .fl b_0, .fl b_1, .fl b_2, .fl b_3]) [] cont_ = G_q81 N_ S_q182 a_0 a_1 a_2 a_3 b_0 b_1 b_2 b_3 (fun r0 r1 r2 r3 r4 => cont_ (.tup [.agg [.flt r0, .flt r1, .flt r2, .flt r3], .int .i64 r4]) []) := by kernel_rfl
theorem good_q81 (N_ : Nat) (S_q182 : TS_q182) (h_binnacleref12_Dot : GoodF Tryz.prog 28 (F_q182 S_q182)) : GoodF Tryz.prog 37 (F_q81 (G_q81 N_ S_q182)) := by
  refine good_fs (cx := ⟨Tryz.prog, ofList [(28, (F_q182 S_q182))], isref, N_⟩) (ofList_cons h_binnacleref12_Dot (ofList_nil _)) shF_q81 (sp_q81 (G_q81 N_ S_q182)) (an_q81 N_ S_q182) 0 0 (by kernel_rfl) (fun i_ hi_ => by omega) ?_
  intro a k h
  unfold sp_q81 at h
  split at h
  · exact ⟨[], rfl, rfl, (eq_q81 _ _ _ _ _ _ _ _ _ _ _).trans h⟩
  · cases h

def an_q25 (N_ : Nat) (S_q99 : TS_q99) (S_q139 : TS_q139) : Nat → Option Ann := fun b_ => none
theorem eq_q25 (N_ : Nat) (S_q99 : TS_q99) (S_q139 : TS_q139) (a : Fl) (b : Fl) (cont_ : V → List Blk → Bool) : bodyV ⟨Tryz.prog, ofList [(88, (F_q99 S_q99)), (89, (F_q139 S_q139))], isref, N_⟩ (an_q25 N_ S_q99 S_q139) 29 (shF_q25.args [.fl a, .fl b]) [] cont_ = G_q25 N_ S_q99 S_q139 a b (fun r0 => cont_ (.bool r0) []) := by kernel_rfl
theorem good_q25 (N_ : Nat) (S_q99 : TS_q99) (S_q139 : TS_q139) (h_math_Float64bits : GoodF Tryz.prog 88 (F_q99 S_q99)) (h_binnacleref01_Bits : GoodF Tryz.prog 89 (F_q139 S_q139)) : GoodF Tryz.prog 29 (F_q25 (G_q25 N_ S_q99 S_q139)) := by
  refine good_fs (cx := ⟨Tryz.prog, ofList [(88, (F_q99 S_q99)), (89, (F_q139 S_q139))], isref, N_⟩) (ofList_cons h_math_Float64bits (ofList_cons h_binnacleref01_Bits (ofList_nil _))) shF_q25 (sp_q25 (G_q25 N_ S_q99 S_q139)) (an_q25 N_ S_q99 S_q139) 0 0 (by kernel_rfl) (fun i_ hi_ => by omega) ?_
  intro a k h
  unfold sp_q25 at h
  split at h
  · exact ⟨[], rfl, rfl, (eq_q25 _ _ _ _ _ _).trans h⟩
  · cases h

def an_q47 (N_ : Nat) (S_q25 : TS_q25) : Nat → Option Ann := fun b_ => none
theorem eq_q47 (N_ : Nat) (S_q25 : TS_q25) (a_0 : Fl) (a_1 : Fl) (a_2 : Fl) (a_3 : Fl) (e : Int) (b_0 : Fl) (b_1 : Fl) (b_2 : Fl) (b_3 : Fl) (n : Int) (cont_ : V → List Blk → Bool) : bodyV ⟨Tryz.prog, ofList [(29, (F_q25 S_q25))], isref, N_⟩ (an_q47 N_ S_q25) 20 (shF_q47.args [.fl a_0, .fl a_1, .fl a_2, .fl a_3, .int e, .fl b_0, .fl b_1, .fl b_2, .fl b_3, .int n]) [] cont_ = G_q47 N_ S_q25 a_0 a_1 a_2 a_3 e b_0 b_1 b_2 b_3 n (fun r0 => cont_ (.bool r0) []) := by kernel_rfl
theorem good_q47 (N_ : Nat) (S_q25 : TS_q25) (h_binnaclelaw12_same : GoodF Tryz.prog 29 (F_q25 S_q25)) : GoodF Tryz.prog 20 (F_q47 (G_q47 N_ S_q25)) := by
  refine good_fs (cx := ⟨Tryz.prog, ofList [(29, (F_q25 S_q25))], isref, N_⟩) (ofList_cons h_binnaclelaw12_same (ofList_nil _)) shF_q47 (sp_q47 (G_q47 N_ S_q25)) (an_q47 N_ S_q25) 0 0 (by kernel_rfl) (fun i_ hi_ => by omega) ?_
  intro a k h
  unfold sp_q47 at h
  split at h
  · exact ⟨[], rfl, rfl, (eq_q47 _ _ _ _ _ _ _ _ _ _ _ _ _).trans h⟩
  · cases h

def an_q12 (N_ : Nat) (S_q23 : TS_q23) : Nat → Option Ann := fun b_ => none
theorem eq_q12 (N_ : Nat) (S_q23 : TS_q23) (qs_0 : Fl) (qs_1 : Fl) (qs_2 : Fl) (qs_3 : Fl) (cont_ : V → List Blk → Bool) : bodyV ⟨Tryz.prog, ofList [(86, (F_q23 S_q23))], isref, (N_ + 24)⟩ (an_q12 (N_ + 24) S_q23) 56 (shF_q12.args [.fl qs_0, .fl qs_1, .fl qs_2, .fl qs_3]) [] cont_ = G_q12 (N_ + 24) S_q23 qs_0 qs_1 qs_2 qs_3 (fun r0 => cont_ (.bool r0) []) := by kernel_rfl
theorem good_q12 (N_ : Nat) (S_q23 : TS_q23) (h_quat_finite : GoodF Tryz.prog 86 (F_q23 S_q23)) : GoodF Tryz.prog 56 (F_q12 (G_q12 (N_ + 24) S_q23)) := by
  refine good_fs (cx := ⟨Tryz.prog, ofList [(86, (F_q23 S_q23))], isref, (N_ + 24)⟩) (ofList_cons h_quat_finite (ofList_nil _)) shF_q12 (sp_q12 (G_q12 (N_ + 24) S_q23)) (an_q12 (N_ + 24) S_q23) 1 0 (by kernel_rfl) (fun i_ hi_ => by
    match i_, hi_ with
    | 0, _ => exact (fun hk e => by rw [show hookOf ((an_q12 (N_ + 24) S_q23) (lp Tryz.prog 56 0).1) = none from by kernel_rfl] at e; cases e)
    | (q + 1), h => omega) ?_
  intro a k h
  unfold sp_q12 at h
  split at h
  · exact ⟨[], rfl, rfl, (eq_q12 _ _ _ _ _ _ _).trans h⟩
  · cases h

def an_q44 (N_ : Nat) : Nat → Option Ann := fun b_ => none
theorem eq_q44 (N_ : Nat) (q_0 : Fl) (q_1 : Fl) (q_2 : Fl) (q_3 : Fl) (cont_ : V → List Blk → Bool) : bodyV ⟨Tryz.prog, ofList [], isref, N_⟩ (an_q44 N_) 68 (shF_q44.args [.fl q_0, .fl q_1, .fl q_2, .fl q_3]) [] cont_ = G_q44 N_ q_0 q_1 q_2 q_3 (cont_ (.agg [.flt q_0, .flt q_1, .flt q_2, .flt q_3]) []) := by kernel_rfl
theorem good_q44 (N_ : Nat) : GoodF Tryz.prog 68 (F_q44 (G_q44 N_)) := by
  refine good_fs (cx := ⟨Tryz.prog, ofList [], isref, N_⟩) (ofList_nil _) shF_q44 (sp_q44 (G_q44 N_)) (an_q44 N_) 0 0 (by kernel_rfl) (fun i_ hi_ => by omega) ?_
  intro a k h
  unfold sp_q44 at h
  split at h
  · exact ⟨[], rfl, rfl, (eq_q44 _ _ _ _ _ _).trans h⟩
  · cases h


def an_q130 (N_ : Nat) (S_m_Abs : TS_m_Abs) : Nat → Option Ann := fun b_ => none
theorem eq_q130 (N_ : Nat) (S_m_Abs : TS_m_Abs) (f : Fl) (sign : Int) (cont_ : V → List Blk → Bool) : bodyV ⟨Tryz.prog, ofList [(69, (F_m_Abs S_m_Abs))], isref, N_⟩ (an_q130 N_ S_m_Abs) 148 (shF_q130.args [.fl f, .int sign]) [] cont_ = G_q130 N_ S_m_Abs f sign (fun r0 => cont_ (.bool r0) []) := by kernel_rfl
theorem good_q130 (N_ : Nat) (S_m_Abs : TS_m_Abs) (h_math_Abs : GoodF Tryz.prog 69 (F_m_Abs S_m_Abs)) : GoodF Tryz.prog 148 (F_q130 (G_q130 N_ S_m_Abs)) := by
  refine good_fs (cx := ⟨Tryz.prog, ofList [(69, (F_m_Abs S_m_Abs))], isref, N_⟩) (ofList_cons h_math_Abs (ofList_nil _)) shF_q130 (sp_q130 (G_q130 N_ S_m_Abs)) (an_q130 N_ S_m_Abs) 0 0 (by kernel_rfl) (fun i_ hi_ => by omega) ?_
  intro a k h
  unfold sp_q130 at h
  split at h
  · exact ⟨[], rfl, rfl, (eq_q130 _ _ _ _ _).trans h⟩
  · cases h

def an_q138 (N_ : Nat) : Nat → Option Ann := fun b_ => none
theorem eq_q138 (N_ : Nat) (f : Fl) (cont_ : V → List Blk → Bool) : bodyV ⟨Tryz.prog, ofList [], isref, N_⟩ (an_q138 N_) 149 (shF_q138.args [.fl f]) [] cont_ = G_q138 N_ f (fun r0 => cont_ (.bool r0) []) := by kernel_rfl
theorem good_q138 (N_ : Nat) : GoodF Tryz.prog 149 (F_q138 (G_q138 N_)) := by
  refine good_fs (cx := ⟨Tryz.prog, ofList [], isref, N_⟩) (ofList_nil _) shF_q138 (sp_q138 (G_q138 N_)) (an_q138 N_) 0 0 (by kernel_rfl) (fun i_ hi_ => by omega) ?_
  intro a k h
  unfold sp_q138 at h
  split at h
  · exact ⟨[], rfl, rfl, (eq_q138 _ _ _).trans h⟩
  · cases h

def an_q66 (N_ : Nat) (S_m_Abs : TS_m_Abs) : Nat → Option Ann := fun b_ => none
theorem eq_q66 (N_ : Nat) (S_m_Abs : TS_m_Abs) (x : Fl) (cont_ : V → List Blk → Bool) : bodyV ⟨Tryz.prog, ofList [(69, (F_m_Abs S_m_Abs))], isref, N_⟩ (an_q66 N_ S_m_Abs) 150 (shF_q66.args [.fl x]) [] cont_ = G_q66 N_ S_m_Abs x (fun r0 r1 => cont_ (.tup [.flt r0, .int .i64 r1]) []) := by kernel_rfl
theorem good_q66 (N_ : Nat) (S_m_Abs : TS_m_Abs) (h_math_Abs : GoodF Tryz.prog 69 (F_m_Abs S_m_Abs)) : GoodF Tryz.prog 150 (F_q66 (G_q66 N_ S_m_Abs)) := by
  refine good_fs (cx := ⟨Tryz.prog, ofList [(69, (F_m_Abs S_m_Abs))], isref, N_⟩) (ofList_cons h_math_Abs (ofList_nil _)) shF_q66 (sp_q66 (G_q66 N_ S_m_Abs)) (an_q66 N_ S_m_Abs) 0 0 (by kernel_rfl) (fun i_ hi_ => by omega) ?_
  intro a k h
  unfold sp_q66 at h
  split at h
  · exact ⟨[], rfl, rfl, (eq_q66 _ _ _ _).trans h⟩
  · cases h

def an_q185 (N_ : Nat) (S_q130 : TS_q130) (S_q138 : TS_q138) (S_q66 : TS_q66) (S_q99 : TS_q99) (S_q90 : TS_q90) : Nat → Option Ann := fun b_ => none
theorem eq_q185 (N_ : Nat) (S_q130 : TS_q130) (S_q138 : TS_q138) (S_q66 : TS_q66) (S_q99 : TS_q99) (S_q90 : TS_q90) (f : Fl) (cont_ : V → List Blk → Bool) : bodyV ⟨Tryz.prog, ofList [(148, (F_q130 S_q130)), (149, (F_q138 S_q138)), (150, (F_q66 S_q66)), (88, (F_q99 S_q99)), (100, (F_q90 S_q90))], isref, N_⟩ (an_q185 N_ S_q130 S_q138 S_q66 S_q99 S_q90) 119 (shF_q185.args [.fl f]) [] cont_ = G_q185 N_ S_q130 S_q138 S_q66 S_q99 S_q90 f (fun r0 r1 => cont_ (.tup [.flt r0, .int .i64 r1]) []) := by kernel_rfl
theorem good_q185 (N_ : Nat) (S_q130 : TS_q130) (S_q138 : TS_q138) (S_q66 : TS_q66) (S_q99 : TS_q99) (S_q90 : TS_q90) (h_math_IsInf : GoodF Tryz.prog 148 (F_q130 S_q130)) (h_math_IsNaN : GoodF Tryz.prog 149 (F_q138 S_q138)) (h_math_normalize : GoodF Tryz.prog 150 (F_q66 S_q66)) (h_math_Float64bits : GoodF Tryz.prog 88 (F_q99 S_q99)) (h_math_Float64frombits : GoodF Tryz.prog 100 (F_q90 S_q90)) : GoodF Tryz.prog 119 (F_q185 (G_q185 N_ S_q130 S_q138 S_q66 S_q99 S_q90)) := by
  refine good_fs (cx := ⟨Tryz.prog, ofList [(148, (F_q130 S_q130)), (149, (F_q138 S_q138)), (150, (F_q66 S_q66)), (88, (F_q99 S_q99)), (100, (F_q90 S_q90))], isref, N_⟩) (ofList_cons h_math_IsInf (ofList_cons h_math_IsNaN (ofList_cons h_math_normalize (ofList_cons h_math_Float64bits (ofList_cons h_math_Float64frombits (ofList_nil _)))))) shF_q185 (sp_q185 (G_q185 N_ S_q130 S_q138 S_q66 S_q99 S_q90)) (an_q185 N_ S_q130 S_q138 S_q66 S_q99 S_q90) 0 0 (by kernel_rfl) (fun i_ hi_ => by omega) ?_
  intro a k h
  unfold sp_q185 at h
  split at h
  · exact ⟨[], rfl, rfl, (eq_q185 _ _ _ _ _ _ _ _).trans h⟩
  · cases h

def an_q92 (N_ : Nat) (S_q185 : TS_q185) : Nat → Option Ann := fun b_ => none
theorem eq_q92 (N_ : Nat) (S_q185 : TS_q185) (f : Fl) (cont_ : V → List Blk → Bool) : bodyV ⟨Tryz.prog, ofList [(119, (F_q185 S_q185))], isref, N_⟩ (an_q92 N_ S_q185) 70 (shF_q92.args [.fl f]) [] cont_ = G_q92 N_ S_q185 f (fun r0 r1 => cont_ (.tup [.flt r0, .int .i64 r1]) []) := by kernel_rfl
theorem good_q92 (N_ : Nat) (S_q185 : TS_q185) (h_math_frexp : GoodF Tryz.prog 119 (F_q185 S_q185)) : GoodF Tryz.prog 70 (F_q92 (G_q92 N_ S_q185)) := by
  refine good_fs (cx := ⟨Tryz.prog, ofList [(119, (F_q185 S_q185))], isref, N_⟩) (ofList_cons h_math_frexp (ofList_nil _)) shF_q92 (sp_q92 (G_q92 N_ S_q185)) (an_q92 N_ S_q185) 0 0 (by kernel_rfl) (fun i_ hi_ => by omega) ?_
  intro a k h
  unfold sp_q92 at h
  split at h
  · exact ⟨[], rfl, rfl, (eq_q92 _ _ _ _).trans h⟩
  · cases h

def an_q105 (N_ : Nat) (S_q99 : TS_q99) (S_q90 : TS_q90) : Nat → Option Ann := fun b_ => none
theorem eq_q105 (N_ : Nat) (S_q99 : TS_q99) (S_q90 : TS_q90) (f : Fl) (sign : Fl) (cont_ : V → List Blk → Bool) : bodyV ⟨Tryz.prog, ofList [(88, (F_q99 S_q99)), (100, (F_q90 S_q90))], isref, N_⟩ (an_q105 N_ S_q99 S_q90) 151 (shF_q105.args [.fl f, .fl sign]) [] cont_ = G_q105 N_ S_q99 S_q90 f sign (fun r0 => cont_ (.flt r0) []) := by kernel_rfl
theorem good_q105 (N_ : Nat) (S_q99 : TS_q99) (S_q90 : TS_q90) (h_math_Float64bits : GoodF Tryz.prog 88 (F_q99 S_q99)) (h_math_Float64frombits : GoodF Tryz.prog 100 (F_q90 S_q90)) : GoodF Tryz.prog 151 (F_q105 (G_q105 N_ S_q99 S_q90)) := by
  refine good_fs (cx := ⟨Tryz.prog, ofList [(88, (F_q99 S_q99)), (100, (F_q90 S_q90))], isref, N_⟩) (ofList_cons h_math_Float64bits (ofList_cons h_math_Float64frombits (ofList_nil _))) shF_q105 (sp_q105 (G_q105 N_ S_q99 S_q90)) (an_q105 N_ S_q99 S_q90) 0 0 (by kernel_rfl) (fun i_ hi_ => by omega) ?_
  intro a k h
  unfold sp_q105 at h
  split at h
  · exact ⟨[], rfl, rfl, (eq_q105 _ _ _ _ _ _).trans h⟩
  · cases h

def an_m_Inf (N_ : Nat) (S_q90 : TS_q90) : Nat → Option Ann := fun b_ => none
def ls_m_Inf_0 (ds_ : List V) (ms_ : List (Option Blk)) (sign : Int) (v : Int) : St := ⟨(dqs ds_ 0 3 [.int .u64 v, (dq ds_ 3), (dq ds_ 4), (dq ds_ 5), (dq ds_ 6)]), []⟩
theorem jn_m_Inf_0 (N_ : Nat) (S_q90 : TS_q90) (ds_ : List V) (ms_ : List (Option Blk)) (sign : Int) (v : Int) (cont_ : V → List Blk → Bool) : codesV ⟨Tryz.prog, ofList [(100, (F_q90 S_q90))], isref, N_⟩ 0 (an_m_Inf N_ S_q90) ((cds Tryz.prog 152).drop 4) 0 (ls_m_Inf_0 ds_ ms_ sign v) (finV Tryz.prog 152 0 cont_) = J_m_Inf_0 N_ S_q90 sign v (fun r0 => cont_ (.flt r0) []) := by kernel_rfl
theorem hd_m_Inf_w (N_ : Nat) (S_q90 : TS_q90) (sign : Int) (cont_ : V → List Blk → Bool) (κn_ : St → Bool) : codesV ⟨Tryz.prog, ofList [(100, (F_q90 S_q90))], isref, N_⟩ 0 (an_m_Inf N_ S_q90) (sg Tryz.prog 152 0 4) 0 (st0 Tryz.prog 152 (shF_m_Inf.args [.int sign]) []) { (finV Tryz.prog 152 0 cont_) with nrm := κn_ } = (cond (decide (sign ≥ 0)) (κn_ (ls_m_Inf_0 [.int .i64 sign, .any, .flt (some 0), .int .i64 sign, .bool true, .any, .any] [] sign 9218868437227405312)) (κn_ (ls_m_Inf_0 [.int .i64 sign, .any, .flt (some 0), .int .i64 sign, .bool false, .any, .any] [] sign 18442240474082181120))) := by kernel_rfl
theorem jn_m_Inf_w (N_ : Nat) (S_q90 : TS_q90) (sign : Int) (cont_ : V → List Blk → Bool) : codesV ⟨Tryz.prog, ofList [(100, (F_q90 S_q90))], isref, N_⟩ 0 (an_m_Inf N_ S_q90) ((cds Tryz.prog 152).drop 0) 0 (st0 Tryz.prog 152 (shF_m_Inf.args [.int sign]) []) (finV Tryz.prog 152 0 cont_) = G_m_Inf N_ S_q90 sign (fun r0 => cont_ (.flt r0) []) := by
  rw [codesV_cut 0 4 4 rfl]
  refine (hd_m_Inf_w N_ S_q90 sign cont_ _).trans ?_
  simp only [jn_m_Inf_0]
  kernel_rfl
theorem eq_m_Inf (N_ : Nat) (S_q90 : TS_q90) (sign : Int) (cont_ : V → List Blk → Bool) : bodyV ⟨Tryz.prog, ofList [(100, (F_q90 S_q90))], isref, N_⟩ (an_m_Inf N_ S_q90) 152 (shF_m_Inf.args [.int sign]) [] cont_ = G_m_Inf N_ S_q90 sign (fun r0 => cont_ (.flt r0) []) :=
  (bodyV_codes (by kernel_rfl)).trans (jn_m_Inf_w N_ S_q90 sign cont_)
theorem good_m_Inf (N_ : Nat) (S_q90 : TS_q90) (h_math_Float64frombits : GoodF Tryz.prog 100 (F_q90 S_q90)) : GoodF Tryz.prog 152 (F_m_Inf (G_m_Inf N_ S_q90)) := by
  refine good_fs (cx := ⟨Tryz.prog, ofList [(100, (F_q90 S_q90))], isref, N_⟩) (ofList_cons h_math_Float64frombits (ofList_nil _)) shF_m_Inf (sp_m_Inf (G_m_Inf N_ S_q90)) (an_m_Inf N_ S_q90) 0 0 (by kernel_rfl) (fun i_ hi_ => by omega) ?_
  intro a k h
  unfold sp_m_Inf at h
  split at h
  · exact ⟨[], rfl, rfl, (eq_m_Inf _ _ _ _).trans h⟩
  · cases h

def an_q179 (N_ : Nat) (S_q130 : TS_q130) (S_q138 : TS_q138) (S_q66 : TS_q66) (S_q99 : TS_q99) (S_q105 : TS_q105) (S_m_Inf : TS_m_Inf) (S_q90 : TS_q90) : Nat → Option Ann := fun b_ => none
def ls_q221 (ds_ : List V) (ms_ : List (Option Blk)) (frac : Fl) (exp : Int) (exp_1 : Int) (x : Int) (m : Fl) : St := ⟨[(dq ds_ 0), .int .i64 exp_1, (dq ds_ 1), (dq ds_ 2), (dq ds_ 3), (dq ds_ 4), .int .u64 x, .flt m, (dq ds_ 5), (dq ds_ 6), (dq ds_ 7), (dq ds_ 8), (dq ds_ 9), (dq ds_ 10), (dq ds_ 11), (dq ds_ 12), (dq ds_ 13), (dq ds_ 14), (dq ds_ 15), (dq ds_ 16), (dq ds_ 17), (dq ds_ 18), (dq ds_ 19), (dq ds_ 20), (dq ds_ 21), (dq ds_ 22), (dq ds_ 23), (dq ds_ 24), (dq ds_ 25), (dq ds_ 26), (dq ds_ 27), (dq ds_ 28), (dq ds_ 29), (dq ds_ 30), (dq ds_ 31), (dq ds_ 32), (dq ds_ 33), (dq ds_ 34), (dq ds_ 35), (dq ds_ 36), (dq ds_ 37), (dq ds_ 38), (dq ds_ 39), (dq ds_ 40), (dq ds_ 41), (dq ds_ 42), (dq ds_ 43), (dq ds_ 44), (dq ds_ 45), (dq ds_ 46), (dq ds_ 47), (dq ds_ 48), (dq ds_ 49), (dq ds_ 50), (dq ds_ 51), (dq ds_ 52), (dq ds_ 53), (dq ds_ 54), (dq ds_ 55), (dq ds_ 56), (dq ds_ 57), (dq ds_ 58), (dq ds_ 59)], []⟩
theorem jn_q221 (N_ : Nat) (S_q130 : TS_q130) (S_q138 : TS_q138) (S_q66 : TS_q66) (S_q99 : TS_q99) (S_q105 : TS_q105) (S_m_Inf : TS_m_Inf) (S_q90 : TS_q90) (ds_ : List V) (ms_ : List (Option Blk)) (frac : Fl) (exp : Int) (exp_1 : Int) (x : Int) (m : Fl) (cont_ : V → List Blk → Bool) : codesV ⟨Tryz.prog, ofList [(148, (F_q130 S_q130)), (149, (F_q138 S_q138)), (150, (F_q66 S_q66)), (88, (F_q99 S_q99)), (151, (F_q105 S_q105)), (152, (F_m_Inf S_m_Inf)), (100, (F_q90 S_q90))], isref, N_⟩ 0 (an_q179 N_ S_q130 S_q138 S_q66 S_q99 S_q105 S_m_Inf S_q90) ((cds Tryz.prog 121).drop 13) 0 (ls_q221 ds_ ms_ frac exp exp_1 x m) (finV Tryz.prog 121 0 cont_) = J_q221 N_ S_q130 S_q138 S_q66 S_q99 S_q105 S_m_Inf S_q90 frac exp exp_1 x m (fun r0 => cont_ (.flt r0) []) := by kernel_rfl
theorem hd_m_ldexp_w (N_ : Nat) (S_q130 : TS_q130) (S_q138 : TS_q138) (S_q66 : TS_q66) (S_q99 : TS_q99) (S_q105 : TS_q105) (S_m_Inf : TS_m_Inf) (S_q90 : TS_q90) (frac : Fl) (exp : Int) (cont_ : V → List Blk → Bool) (κn_ : St → Bool) : codesV ⟨Tryz.prog, ofList [(148, (F_q130 S_q130)), (149, (F_q138 S_q138)), (150, (F_q66 S_q66)), (88, (F_q99 S_q99)), (151, (F_q105 S_q105)), (152, (F_m_Inf S_m_Inf)), (100, (F_q90 S_q90))], isref, N_⟩ 0 (an_q179 N_ S_q130 S_q138 S_q66 S_q99 S_q105 S_m_Inf S_q90) (sg Tryz.prog 121 0 13) 0 (st0 Tryz.prog 121 (shF_q179.args [.fl frac, .int exp]) []) { (finV Tryz.prog 121 0 cont_) with nrm := κn_ } = (cond (feq frac (some 0)) (cont_ (.flt frac) []) (S_q130 frac 0 (fun (cr : Bool) => (cond (cr == false) (S_q138 frac (fun (cr_1 : Bool) => (cond cr_1 (cont_ (.flt frac) []) (S_q66 frac (fun (xr : Fl) (nr : Int) => ((fits .i64 (exp + nr)) && (S_q99 xr (fun (nr_1 : Int) => ((fits .i64 (Int.fdiv nr_1 (2 ^ 52))) && ((fits .i64 ((bitsN .and .i64 (Int.fdiv nr_1 (2 ^ 52)) 2047) - 1023)) && ((fits .i64 ((exp + nr) + ((bitsN .and .i64 (Int.fdiv nr_1 (2 ^ 52)) 2047) - 1023))) && (cond (decide (((exp + nr) + ((bitsN .and .i64 (Int.fdiv nr_1 (2 ^ 52)) 2047) - 1023)) < (-1075))) (S_q105 (some 0) xr (fun (xr_1 : Fl) => (cont_ (.flt xr_1) []))) (cond (decide (((exp + nr) + ((bitsN .and .i64 (Int.fdiv nr_1 (2 ^ 52)) 2047) - 1023)) > 1023)) (cond (flt xr (some 0)) (S_m_Inf (-1) (fun (xr_2 : Fl) => (cont_ (.flt xr_2) []))) (S_m_Inf 1 (fun (xr_3 : Fl) => (cont_ (.flt xr_3) [])))) (cond (decide (((exp + nr) + ((bitsN .and .i64 (Int.fdiv nr_1 (2 ^ 52)) 2047) - 1023)) < (-1022))) ((fits .i64 (((exp + nr) + ((bitsN .and .i64 (Int.fdiv nr_1 (2 ^ 52)) 2047) - 1023)) + 53)) && (κn_ (ls_q221 [.flt xr, .any, .any, .flt (some 0), .int .i64 nr, .bool false, .flt frac, .bool (feq frac (some 0)), .any, .bool false, .flt frac, .bool cr, .bool false, .flt frac, .bool cr_1, .bool cr_1, .any, .tup [.flt xr, .int .i64 nr], .flt frac, .tup [.flt xr, .int .i64 nr], .flt xr, .int .i64 nr, .int .i64 exp, .int .i64 nr, .int .i64 (exp + nr), .flt xr, .int .u64 nr_1, .int .i64 (exp + nr), .int .u64 nr_1, .int .u64 (Int.fdiv nr_1 (2 ^ 52)), .int .i64 (Int.fdiv nr_1 (2 ^ 52)), .int .i64 (bitsN .and .i64 (Int.fdiv nr_1 (2 ^ 52)) 2047), .int .i64 ((bitsN .and .i64 (Int.fdiv nr_1 (2 ^ 52)) 2047) - 1023), .int .i64 ((exp + nr) + ((bitsN .and .i64 (Int.fdiv nr_1 (2 ^ 52)) 2047) - 1023)), .int .i64 ((exp + nr) + ((bitsN .and .i64 (Int.fdiv nr_1 (2 ^ 52)) 2047) - 1023)), .bool false, .any, .any, .int .i64 ((exp + nr) + ((bitsN .and .i64 (Int.fdiv nr_1 (2 ^ 52)) 2047) - 1023)), .bool false, .any, .any, .any, .any, .int .i64 ((exp + nr) + ((bitsN .and .i64 (Int.fdiv nr_1 (2 ^ 52)) 2047) - 1023)), .bool true, .int .i64 ((exp + nr) + ((bitsN .and .i64 (Int.fdiv nr_1 (2 ^ 52)) 2047) - 1023)), .int .i64 (((exp + nr) + ((bitsN .and .i64 (Int.fdiv nr_1 (2 ^ 52)) 2047) - 1023)) + 53), .any, .any, .any, .any, .any, .any, .any, .any, .any, .any, .any, .any] [] frac exp (((exp + nr) + ((bitsN .and .i64 (Int.fdiv nr_1 (2 ^ 52)) 2047) - 1023)) + 53) nr_1 (some 4368491638549381120)))) (κn_ (ls_q221 [.flt xr, .any, .any, .flt (some 0), .int .i64 nr, .bool false, .flt frac, .bool (feq frac (some 0)), .any, .bool false, .flt frac, .bool cr, .bool false, .flt frac, .bool cr_1, .bool cr_1, .any, .tup [.flt xr, .int .i64 nr], .flt frac, .tup [.flt xr, .int .i64 nr], .flt xr, .int .i64 nr, .int .i64 exp, .int .i64 nr, .int .i64 (exp + nr), .flt xr, .int .u64 nr_1, .int .i64 (exp + nr), .int .u64 nr_1, .int .u64 (Int.fdiv nr_1 (2 ^ 52)), .int .i64 (Int.fdiv nr_1 (2 ^ 52)), .int .i64 (bitsN .and .i64 (Int.fdiv nr_1 (2 ^ 52)) 2047), .int .i64 ((bitsN .and .i64 (Int.fdiv nr_1 (2 ^ 52)) 2047) - 1023), .int .i64 ((exp + nr) + ((bitsN .and .i64 (Int.fdiv nr_1 (2 ^ 52)) 2047) - 1023)), .int .i64 ((exp + nr) + ((bitsN .and .i64 (Int.fdiv nr_1 (2 ^ 52)) 2047) - 1023)), .bool false, .any, .any, .int .i64 ((exp + nr) + ((bitsN .and .i64 (Int.fdiv nr_1 (2 ^ 52)) 2047) - 1023)), .bool false, .any, .any, .any, .any, .int .i64 ((exp + nr) + ((bitsN .and .i64 (Int.fdiv nr_1 (2 ^ 52)) 2047) - 1023)), .bool false, .any, .any, .any, .any, .any, .any, .any, .any, .any, .any, .any, .any, .any, .any] [] frac exp ((exp + nr) + ((bitsN .and .i64 (Int.fdiv nr_1 (2 ^ 52)) 2047) - 1023)) nr_1 (some 4607182418800017408))))))))))))))))) (cont_ (.flt frac) []))))) := by kernel_rfl
theorem jn_m_ldexp_w (N_ : Nat) (S_q130 : TS_q130) (S_q138 : TS_q138) (S_q66 : TS_q66) (S_q99 : TS_q99) (S_q105 : TS_q105) (S_m_Inf : TS_m_Inf) (S_q90 : TS_q90) (frac : Fl) (exp : Int) (cont_ : V → List Blk → Bool) : codesV ⟨Tryz.prog, ofList [(148, (F_q130 S_q130)), (149, (F_q138 S_q138)), (150, (F_q66 S_q66)), (88, (F_q99 S_q99)), (151, (F_q105 S_q105)), (152, (F_m_Inf S_m_Inf)), (100, (F_q90 S_q90))], isref, N_⟩ 0 (an_q179 N_ S_q130 S_q138 S_q66 S_q99 S_q105 S_m_Inf S_q90) ((cds Tryz.prog 121).drop 0) 0 (st0 Tryz.prog 121 (shF_q179.args [.fl frac, .int exp]) []) (finV Tryz.prog 121 0 cont_) = G_q179 N_ S_q130 S_q138 S_q66 S_q99 S_q105 S_m_Inf S_q90 frac exp (fun r0 => cont_ (.flt r0) []) := by
  rw [codesV_cut 0 13 13 rfl]
  refine (hd_m_ldexp_w N_ S_q130 S_q138 S_q66 S_q99 S_q105 S_m_Inf S_q90 frac exp cont_ _).trans ?_
  simp only [jn_q221]
  kernel_rfl
theorem eq_q179 (N_ : Nat) (S_q130 : TS_q130) (S_q138 : TS_q138) (S_q66 : TS_q66) (S_q99 : TS_q99) (S_q105 : TS_q105) (S_m_Inf : TS_m_Inf) (S_q90 : TS_q90) (frac : Fl) (exp : Int) (cont_ : V → List Blk → Bool) : bodyV ⟨Tryz.prog, ofList [(148, (F_q130 S_q130)), (149, (F_q138 S_q138)), (150, (F_q66 S_q66)), (88, (F_q99 S_q99)), (151, (F_q105 S_q105)), (152, (F_m_Inf S_m_Inf)), (100, (F_q90 S_q90))], isref, N_⟩ (an_q179 N_ S_q130 S_q138 S_q66 S_q99 S_q105 S_m_Inf S_q90) 121 (shF_q179.args [.fl frac, .int exp]) [] cont_ = G_q179 N_ S_q130 S_q138 S_q66 S_q99 S_q105 S_m_Inf S_q90 frac exp (fun r0 => cont_ (.flt r0) []) :=
  (bodyV_codes (by kernel_rfl)).trans (jn_m_ldexp_w N_ S_q130 S_q138 S_q66 S_q99 S_q105 S_m_Inf S_q90 frac exp cont_)
theorem good_q179 (N_ : Nat) (S_q130 : TS_q130) (S_q138 : TS_q138) (S_q66 : TS_q66) (S_q99 : TS_q99) (S_q105 : TS_q105) (S_m_Inf : TS_m_Inf) (S_q90 : TS_q90) (h_math_IsInf : GoodF Tryz.prog 148 (F_q130 S_q130)) (h_math_IsNaN : GoodF Tryz.prog 149 (F_q138 S_q138)) (h_math_normalize : GoodF Tryz.prog 150 (F_q66 S_q66)) (h_math_Float64bits : GoodF Tryz.prog 88 (F_q99 S_q99)) (h_math_Copysign : GoodF Tryz.prog 151 (F_q105 S_q105)) (h_math_Inf : GoodF Tryz.prog 152 (F_m_Inf S_m_Inf)) (h_math_Float64frombits : GoodF Tryz.prog 100 (F_q90 S_q90)) : GoodF Tryz.prog 121 (F_q179 (G_q179 N_ S_q130 S_q138 S_q66 S_q99 S_q105 S_m_Inf S_q90)) := by
  refine good_fs (cx := ⟨Tryz.prog, ofList [(148, (F_q130 S_q130)), (149, (F_q138 S_q138)), (150, (F_q66 S_q66)), (88, (F_q99 S_q99)), (151, (F_q105 S_q105)), (152, (F_m_Inf S_m_Inf)), (100, (F_q90 S_q90))], isref, N_⟩) (ofList_cons h_math_IsInf (ofList_cons h_math_IsNaN (ofList_cons h_math_normalize (ofList_cons h_math_Float64bits (ofList_cons h_math_Copysign (ofList_cons h_math_Inf (ofList_cons h_math_Float64frombits (ofList_nil _)))))))) shF_q179 (sp_q179 (G_q179 N_ S_q130 S_q138 S_q66 S_q99 S_q105 S_m_Inf S_q90)) (an_q179 N_ S_q130 S_q138 S_q66 S_q99 S_q105 S_m_Inf S_q90) 0 0 (by kernel_rfl) (fun i_ hi_ => by omega) ?_
  intro a k h
  unfold sp_q179 at h
  split at h
  · exact ⟨[], rfl, rfl, (eq_q179 _ _ _ _ _ _ _ _ _ _ _).trans h⟩
  · cases h

def an_q107 (N_ : Nat) (S_q179 : TS_q179) : Nat → Option Ann := fun b_ => none
theorem eq_q107 (N_ : Nat) (S_q179 : TS_q179) (frac : Fl) (exp : Int) (cont_ : V → List Blk → Bool) : bodyV ⟨Tryz.prog, ofList [(121, (F_q179 S_q179))], isref, N_⟩ (an_q107 N_ S_q179) 71 (shF_q107.args [.fl frac, .int exp]) [] cont_ = G_q107 N_ S_q179 frac exp (fun r0 => cont_ (.flt r0) []) := by kernel_rfl
theorem good_q107 (N_ : Nat) (S_q179 : TS_q179) (h_math_ldexp : GoodF Tryz.prog 121 (F_q179 S_q179)) : GoodF Tryz.prog 71 (F_q107 (G_q107 N_ S_q179)) := by
  refine good_fs (cx := ⟨Tryz.prog, ofList [(121, (F_q179 S_q179))], isref, N_⟩) (ofList_cons h_math_ldexp (ofList_nil _)) shF_q107 (sp_q107 (G_q107 N_ S_q179)) (an_q107 N_ S_q179) 0 0 (by kernel_rfl) (fun i_ hi_ => by omega) ?_
  intro a k h
  unfold sp_q107 at h
  split at h
  · exact ⟨[], rfl, rfl, (eq_q107 _ _ _ _ _).trans h⟩
  · cases h


def an_q112 (N_ : Nat) (S_q194 : TS_q194) : Nat → Option Ann := fun b_ => none
theorem eq_q112 (N_ : Nat) (S_q194 : TS_q194) (x : Fl) (cont_ : V → List Blk → Bool) : bodyV ⟨Tryz.prog, ofList [(122, (F_q194 S_q194))], isref, N_⟩ (an_q112 N_ S_q194) 72 (shF_q112.args [.fl x]) [] cont_ = G_q112 N_ S_q194 x (fun r0 => cont_ (.flt r0) []) := by kernel_rfl
theorem good_q112 (N_ : Nat) (S_q194 : TS_q194) (h_math_sqrt : GoodF Tryz.prog 122 (F_q194 S_q194)) : GoodF Tryz.prog 72 (F_q112 (G_q112 N_ S_q194)) := by
  refine good_fs (cx := ⟨Tryz.prog, ofList [(122, (F_q194 S_q194))], isref, N_⟩) (ofList_cons h_math_sqrt (ofList_nil _)) shF_q112 (sp_q112 (G_q112 N_ S_q194)) (an_q112 N_ S_q194) 0 0 (by kernel_rfl) (fun i_ hi_ => by omega) ?_
  intro a k h
  unfold sp_q112 at h
  split at h
  · exact ⟨[], rfl, rfl, (eq_q112 _ _ _ _).trans h⟩
  · cases h

def an_q119 (N_ : Nat) : Nat → Option Ann := fun b_ => none
theorem eq_q119 (N_ : Nat) (l_0 : Fl) (l_1 : Fl) (l_2 : Fl) (l_3 : Fl) (cont_ : V → List Blk → Bool) : bodyV ⟨Tryz.prog, ofList [], isref, N_⟩ (an_q119 N_) 73 (shF_q119.args [.fl l_0, .fl l_1, .fl l_2, .fl l_3]) [] cont_ = G_q119 N_ l_0 l_1 l_2 l_3 (cont_ (.agg [.flt l_0, .flt l_1, .flt l_2, .flt l_3]) []) := by kernel_rfl
theorem good_q119 (N_ : Nat) : GoodF Tryz.prog 73 (F_q119 (G_q119 N_)) := by
  refine good_fs (cx := ⟨Tryz.prog, ofList [], isref, N_⟩) (ofList_nil _) shF_q119 (sp_q119 (G_q119 N_)) (an_q119 N_) 0 0 (by kernel_rfl) (fun i_ hi_ => by omega) ?_
  intro a k h
  unfold sp_q119 at h
  split at h
  · exact ⟨[], rfl, rfl, (eq_q119 _ _ _ _ _ _).trans h⟩
  · cases h

def an_q108 (N_ : Nat) (S_q12 : TS_q12) (S_q44 : TS_q44) (S_m_Abs : TS_m_Abs) (S_q92 : TS_q92) (S_q107 : TS_q107) (S_q112 : TS_q112) (S_q119 : TS_q119) : Nat → Option Ann := fun b_ => none
theorem eq_q108 (N_ : Nat) (S_q12 : TS_q12) (S_q44 : TS_q44) (S_m_Abs : TS_m_Abs) (S_q92 : TS_q92) (S_q107 : TS_q107) (S_q112 : TS_q112) (S_q119 : TS_q119) (q_0 : Fl) (q_1 : Fl) (q_2 : Fl) (q_3 : Fl) (cont_ : V → List Blk → Bool) : bodyV ⟨Tryz.prog, ofList [(56, (F_q12 S_q12)), (68, (F_q44 S_q44)), (69, (F_m_Abs S_m_Abs)), (70, (F_q92 S_q92)), (71, (F_q107 S_q107)), (72, (F_q112 S_q112)), (73, (F_q119 S_q119))], isref, (N_ + 24)⟩ (an_q108 (N_ + 24) S_q12 S_q44 S_m_Abs S_q92 S_q107 S_q112 S_q119) 18 (shF_q108.args [.fl q_0, .fl q_1, .fl q_2, .fl q_3]) [] cont_ = G_q108 (N_ + 24) S_q12 S_q44 S_m_Abs S_q92 S_q107 S_q112 S_q119 q_0 q_1 q_2 q_3 (fun r0 r1 r2 r3 r4 => cont_ (.tup [.agg [.flt r0, .flt r1, .flt r2, .flt r3], .int .i64 r4]) []) := by kernel_rfl
theorem good_q108 (N_ : Nat) (S_q12 : TS_q12) (S_q44 : TS_q44) (S_m_Abs : TS_m_Abs) (S_q92 : TS_q92) (S_q107 : TS_q107) (S_q112 : TS_q112) (S_q119 : TS_q119) (h_quat_good_o1 : GoodF Tryz.prog 56 (F_q12 S_q12)) (h_quat_four : GoodF Tryz.prog 68 (F_q44 S_q44)) (h_math_Abs : GoodF Tryz.prog 69 (F_m_Abs S_m_Abs)) (h_math_Frexp : GoodF Tryz.prog 70 (F_q92 S_q92)) (h_math_Ldexp : GoodF Tryz.prog 71 (F_q107 S_q107)) (h_math_Sqrt : GoodF Tryz.prog 72 (F_q112 S_q112)) (h_quat_quat : GoodF Tryz.prog 73 (F_q119 S_q119)) : GoodF Tryz.prog 18 (F_q108 (G_q108 (N_ + 24) S_q12 S_q44 S_m_Abs S_q92 S_q107 S_q112 S_q119)) := by
  refine good_fs (cx := ⟨Tryz.prog, ofList [(56, (F_q12 S_q12)), (68, (F_q44 S_q44)), (69, (F_m_Abs S_m_Abs)), (70, (F_q92 S_q92)), (71, (F_q107 S_q107)), (72, (F_q112 S_q112)), (73, (F_q119 S_q119))], isref, (N_ + 24)⟩) (ofList_cons h_quat_good_o1 (ofList_cons h_quat_four (ofList_cons h_math_Abs (ofList_cons h_math_Frexp (ofList_cons h_math_Ldexp (ofList_cons h_math_Sqrt (ofList_cons h_quat_quat (ofList_nil _)))))))) shF_q108 (sp_q108 (G_q108 (N_ + 24) S_q12 S_q44 S_m_Abs S_q92 S_q107 S_q112 S_q119)) (an_q108 (N_ + 24) S_q12 S_q44 S_m_Abs S_q92 S_q107 S_q112 S_q119) 3 0 (by kernel_rfl) (fun i_ hi_ => by
    match i_, hi_ with
    | 0, _ => exact (fun hk e => by rw [show hookOf ((an_q108 (N_ + 24) S_q12 S_q44 S_m_Abs S_q92 S_q107 S_q112 S_q119) (lp Tryz.prog 18 0).1) = none from by kernel_rfl] at e; cases e)
    | 1, _ => exact (fun hk e => by rw [show hookOf ((an_q108 (N_ + 24) S_q12 S_q44 S_m_Abs S_q92 S_q107 S_q112 S_q119) (lp Tryz.prog 18 1).1) = none from by kernel_rfl] at e; cases e)
    | 2, _ => exact (fun hk e => by rw [show hookOf ((an_q108 (N_ + 24) S_q12 S_q44 S_m_Abs S_q92 S_q107 S_q112 S_q119) (lp Tryz.prog 18 2).1) = none from by kernel_rfl] at e; cases e)
    | (q + 3), h => omega) ?_
  intro a k h
  unfold sp_q108 at h
  split at h
  · exact ⟨[], rfl, rfl, (eq_q108 _ _ _ _ _ _ _ _ _ _ _ _ _).trans h⟩
  · cases h

def an_q137 (N_ : Nat) : Nat → Option Ann := fun b_ => none
theorem eq_q137 (N_ : Nat) (a_0 : Fl) (a_1 : Fl) (a_2 : Fl) (b_0 : Fl) (b_1 : Fl) (b_2 : Fl) (cont_ : V → List Blk → Bool) : bodyV ⟨Tryz.prog, ofList [], isref, N_⟩ (an_q137 N_) 104 (shF_q137.args [.fl a_0, .fl a_1, .fl a_2, .fl b_0, .fl b_1, .fl b_2]) [] cont_ = G_q137 N_ a_0 a_1 a_2 b_0 b_1 b_2 (fun r0 r1 r2 => cont_ (.agg [.flt r0, .flt r1, .flt r2]) []) := by kernel_rfl
theorem good_q137 (N_ : Nat) : GoodF Tryz.prog 104 (F_q137 (G_q137 N_)) := by
  refine good_fs (cx := ⟨Tryz.prog, ofList [], isref, N_⟩) (ofList_nil _) shF_q137 (sp_q137 (G_q137 N_)) (an_q137 N_) 0 0 (by kernel_rfl) (fun i_ hi_ => by omega) ?_
  intro a k h
  unfold sp_q137 at h
  split at h
  · exact ⟨[], rfl, rfl, (eq_q137 _ _ _ _ _ _ _ _).trans h⟩
  · cases h

def an_q174 (N_ : Nat) (S_q23 : TS_q23) : Nat → Option Ann := fun b_ => none
theorem eq_q174 (N_ : Nat) (S_q23 : TS_q23) (v_0 : Fl) (v_1 : Fl) (v_2 : Fl) (cont_ : V → List Blk → Bool) : bodyV ⟨Tryz.prog, ofList [(86, (F_q23 S_q23))], isref, N_⟩ (an_q174 N_ S_q23) 105 (shF_q174.args [.fl v_0, .fl v_1, .fl v_2]) [] cont_ = G_q174 N_ S_q23 v_0 v_1 v_2 (fun r0 r1 r2 r3 => cont_ (.tup [.agg [.flt r0, .flt r1, .flt r2], .int .i64 r3]) []) := by kernel_rfl
theorem good_q174 (N_ : Nat) (S_q23 : TS_q23) (h_quat_finite : GoodF Tryz.prog 86 (F_q23 S_q23)) : GoodF Tryz.prog 105 (F_q174 (G_q174 N_ S_q23)) := by
  refine good_fs (cx := ⟨Tryz.prog, ofList [(86, (F_q23 S_q23))], isref, N_⟩) (ofList_cons h_quat_finite (ofList_nil _)) shF_q174 (sp_q174 (G_q174 N_ S_q23)) (an_q174 N_ S_q23) 0 0 (by kernel_rfl) (fun i_ hi_ => by omega) ?_
  intro a k h
  unfold sp_q174 at h
  split at h
  · exact ⟨[], rfl, rfl, (eq_q174 _ _ _ _ _ _).trans h⟩
  · cases h

def an_q158 (N_ : Nat) (S_q12 : TS_q12) (S_q23 : TS_q23) (S_q137 : TS_q137) (S_q174 : TS_q174) : Nat → Option Ann := fun b_ => none
theorem eq_q158 (N_ : Nat) (S_q12 : TS_q12) (S_q23 : TS_q23) (S_q137 : TS_q137) (S_q174 : TS_q174) (q_0 : Fl) (q_1 : Fl) (q_2 : Fl) (q_3 : Fl) (v_0 : Fl) (v_1 : Fl) (v_2 : Fl) (cont_ : V → List Blk → Bool) : bodyV ⟨Tryz.prog, ofList [(56, (F_q12 S_q12)), (86, (F_q23 S_q23)), (104, (F_q137 S_q137)), (105, (F_q174 S_q174))], isref, (N_ + 24)⟩ (an_q158 (N_ + 24) S_q12 S_q23 S_q137 S_q174) 44 (shF_q158.args [.fl q_0, .fl q_1, .fl q_2, .fl q_3, .fl v_0, .fl v_1, .fl v_2]) [] cont_ = G_q158 (N_ + 24) S_q12 S_q23 S_q137 S_q174 q_0 q_1 q_2 q_3 v_0 v_1 v_2 (fun r0 r1 r2 r3 => cont_ (.tup [.agg [.flt r0, .flt r1, .flt r2], .int .i64 r3]) []) := by kernel_rfl
theorem good_q158 (N_ : Nat) (S_q12 : TS_q12) (S_q23 : TS_q23) (S_q137 : TS_q137) (S_q174 : TS_q174) (h_quat_good_o1 : GoodF Tryz.prog 56 (F_q12 S_q12)) (h_quat_finite : GoodF Tryz.prog 86 (F_q23 S_q23)) (h_quat_cross : GoodF Tryz.prog 104 (F_q137 S_q137)) (h_quat_vec : GoodF Tryz.prog 105 (F_q174 S_q174)) : GoodF Tryz.prog 44 (F_q158 (G_q158 (N_ + 24) S_q12 S_q23 S_q137 S_q174)) := by
  refine good_fs (cx := ⟨Tryz.prog, ofList [(56, (F_q12 S_q12)), (86, (F_q23 S_q23)), (104, (F_q137 S_q137)), (105, (F_q174 S_q174))], isref, (N_ + 24)⟩) (ofList_cons h_quat_good_o1 (ofList_cons h_quat_finite (ofList_cons h_quat_cross (ofList_cons h_quat_vec (ofList_nil _))))) shF_q158 (sp_q158 (G_q158 (N_ + 24) S_q12 S_q23 S_q137 S_q174)) (an_q158 (N_ + 24) S_q12 S_q23 S_q137 S_q174) 2 0 (by kernel_rfl) (fun i_ hi_ => by
    match i_, hi_ with
    | 0, _ => exact (fun hk e => by rw [show hookOf ((an_q158 (N_ + 24) S_q12 S_q23 S_q137 S_q174) (lp Tryz.prog 44 0).1) = none from by kernel_rfl] at e; cases e)
    | 1, _ => exact (fun hk e => by rw [show hookOf ((an_q158 (N_ + 24) S_q12 S_q23 S_q137 S_q174) (lp Tryz.prog 44 1).1) = none from by kernel_rfl] at e; cases e)
    | (q + 2), h => omega) ?_
  intro a k h
  unfold sp_q158 at h
  split at h
  · exact ⟨[], rfl, rfl, (eq_q158 _ _ _ _ _ _ _ _ _ _ _ _ _).trans h⟩
  · cases h

def an_q173 (N_ : Nat) : Nat → Option Ann := fun b_ => none
theorem eq_q173 (N_ : Nat) (a_0 : Fl) (a_1 : Fl) (a_2 : Fl) (a_3 : Fl) (b_0 : Fl) (b_1 : Fl) (b_2 : Fl) (b_3 : Fl) (cont_ : V → List Blk → Bool) : bodyV ⟨Tryz.prog, ofList [], isref, N_⟩ (an_q173 N_) 58 (shF_q173.args [.fl a_0, .fl a_1, .fl a_2, .fl a_3, .fl b_0, .fl b_1, .fl b_2, .fl b_3]) [] cont_ = G_q173 N_ a_0 a_1 a_2 a_3 b_0 b_1 b_2 b_3 (fun r0 r1 r2 r3 => cont_ (.agg [.flt r0, .flt r1, .flt r2, .flt r3]) []) := by kernel_rfl
theorem good_q173 (N_ : Nat) : GoodF Tryz.prog 58 (F_q173 (G_q173 N_)) := by
  refine good_fs (cx := ⟨Tryz.prog, ofList [], isref, N_⟩) (ofList_nil _) shF_q173 (sp_q173 (G_q173 N_)) (an_q173 N_) 0 0 (by kernel_rfl) (fun i_ hi_ => by omega) ?_
  intro a k h
  unfold sp_q173 at h
  split at h
  · exact ⟨[], rfl, rfl, (eq_q173 _ _ _ _ _ _ _ _ _ _).trans h⟩
  · cases h

def an_q122 (N_ : Nat) (S_q12 : TS_q12) : Nat → Option Ann := fun b_ => none
theorem eq_q122 (N_ : Nat) (S_q12 : TS_q12) (q_0 : Fl) (q_1 : Fl) (q_2 : Fl) (q_3 : Fl) (cont_ : V → List Blk → Bool) : bodyV ⟨Tryz.prog, ofList [(56, (F_q12 S_q12))], isref, N_⟩ (an_q122 N_ S_q12) 57 (shF_q122.args [.fl q_0, .fl q_1, .fl q_2, .fl q_3]) [] cont_ = G_q122 N_ S_q12 q_0 q_1 q_2 q_3 (fun r0 r1 r2 r3 r4 => cont_ (.tup [.agg [.flt r0, .flt r1, .flt r2, .flt r3], .int .i64 r4]) []) := by kernel_rfl
theorem good_q122 (N_ : Nat) (S_q12 : TS_q12) (h_quat_good_o1 : GoodF Tryz.prog 56 (F_q12 S_q12)) : GoodF Tryz.prog 57 (F_q122 (G_q122 N_ S_q12)) := by
  refine good_fs (cx := ⟨Tryz.prog, ofList [(56, (F_q12 S_q12))], isref, N_⟩) (ofList_cons h_quat_good_o1 (ofList_nil _)) shF_q122 (sp_q122 (G_q122 N_ S_q12)) (an_q122 N_ S_q12) 0 0 (by kernel_rfl) (fun i_ hi_ => by omega) ?_
  intro a k h
  unfold sp_q122 at h
  split at h
  · exact ⟨[], rfl, rfl, (eq_q122 _ _ _ _ _ _ _).trans h⟩
  · cases h

def an_q133 (N_ : Nat) (S_q45 : TS_q45) (S_q173 : TS_q173) (S_q122 : TS_q122) : Nat → Option Ann := fun b_ => none
theorem eq_q133 (N_ : Nat) (S_q45 : TS_q45) (S_q173 : TS_q173) (S_q122 : TS_q122) (a_0 : Fl) (a_1 : Fl) (a_2 : Fl) (a_3 : Fl) (b_0 : Fl) (b_1 : Fl) (b_2 : Fl) (b_3 : Fl) (cont_ : V → List Blk → Bool) : bodyV ⟨Tryz.prog, ofList [(56, (F_q45 S_q45)), (58, (F_q173 S_q173)), (57, (F_q122 S_q122))], isref, N_⟩ (an_q133 N_ S_q45 S_q173 S_q122) 10 (shF_q133.args [.fl a_0, .fl a_1, .fl a_2, .fl a_3, .fl b_0, .fl b_1, .fl b_2, .fl b_3]) [] cont_ = G_q133 N_ S_q45 S_q173 S_q122 a_0 a_1 a_2 a_3 b_0 b_1 b_2 b_3 (fun r0 r1 r2 r3 r4 => cont_ (.tup [.agg [.flt r0, .flt r1, .flt r2, .flt r3], .int .i64 r4]) []) := by kernel_rfl
theorem good_q133 (N_ : Nat) (S_q45 : TS_q45) (S_q173 : TS_q173) (S_q122 : TS_q122) (h_quat_good_o2 : GoodF Tryz.prog 56 (F_q45 S_q45)) (h_quat_mul : GoodF Tryz.prog 58 (F_q173 S_q173)) (h_quat_told : GoodF Tryz.prog 57 (F_q122 S_q122)) : GoodF Tryz.prog 10 (F_q133 (G_q133 N_ S_q45 S_q173 S_q122)) := by
  refine good_fs (cx := ⟨Tryz.prog, ofList [(56, (F_q45 S_q45)), (58, (F_q173 S_q173)), (57, (F_q122 S_q122))], isref, N_⟩) (ofList_cons h_quat_good_o2 (ofList_cons h_quat_mul (ofList_cons h_quat_told (ofList_nil _)))) shF_q133 (sp_q133 (G_q133 N_ S_q45 S_q173 S_q122)) (an_q133 N_ S_q45 S_q173 S_q122) 0 0 (by kernel_rfl) (fun i_ hi_ => by omega) ?_
  intro a k h
  unfold sp_q133 at h
  split at h
  · exact ⟨[], rfl, rfl, (eq_q133 _ _ _ _ _ _ _ _ _ _ _ _ _).trans h⟩
  · cases h


def sh_st_anatomy_Finite_0 : StSh := ⟨[.any, .any, .any, .any, .any, .any, .rof, .int .i64, .int .i64, .any, .any, .any, .any, .any, .any, .any, .any, .any, .any, .any, .any], []⟩
def sx0_st_anatomy_Finite_0 : StSh := ⟨[.any, .any, .bool, .any, .any, .any, .any, .any, .any, .any, .any, .any, .any, .any, .any, .any, .any, .any, .any, .any, .any], []⟩
def sx1_st_anatomy_Finite_0 : StSh := ⟨[.any, .any, .any, .any, .any, .any, .any, .any, .any, .any, .any, .any, .any, .any, .any, .any, .any, .any, .any, .any, .any], []⟩
def hk_st_anatomy_Finite_0 (N_ : Nat) (S_q150 : TS_q150) : List Atom → K → Bool := fun a_ κ => match a_ with
  | [.fls t6, .int t7, .int t8] => iterG N_ (st_an_Finite_0 N_ S_q150 t6 t7 (fun r0 => κ.ret (sx0_st_anatomy_Finite_0.build [.bool r0])) (κ.ext 0 (sx1_st_anatomy_Finite_0.build []))) t8
  | _ => false
def an_q88 (N_ : Nat) (S_q150 : TS_q150) : Nat → Option Ann := fun b_ => cond (b_ == 0) (some ⟨⟨[6, 7, 8], [], []⟩, [(0, ⟨[], [], []⟩)], some ⟨[2], [], []⟩, some (mkHooks [(sh_st_anatomy_Finite_0, hk_st_anatomy_Finite_0 N_ S_q150)])⟩) (none)
theorem eq_st_anatomy_Finite_0 (N_ : Nat) (S_q150 : TS_q150) (κ : K) (t6 : List Fl) (t7 : Int) (t8 : Int) : iter N_ (fun s k => codeV ⟨Tryz.prog, ofList [(157, (F_q150 S_q150))], isref, N_⟩ 0 (an_q88 N_ S_q150) (lp Tryz.prog 124 0).2 (lp Tryz.prog 124 0).1 s (roundK Tryz.prog 0 ((an_q88 N_ S_q150) (lp Tryz.prog 124 0).1) κ k)) (sh_st_anatomy_Finite_0.build [.fls t6, .int t7, .int t8]) = iterG N_ (st_an_Finite_0 N_ S_q150 t6 t7 (fun r0 => κ.ret (sx0_st_anatomy_Finite_0.build [.bool r0])) (κ.ext 0 (sx1_st_anatomy_Finite_0.build []))) t8 :=
  iter_tr (fun (v_ : Int) => sh_st_anatomy_Finite_0.build [.fls t6, .int t7, .int v_]) (fun v_ K_ => by kernel_rfl) N_ t8
theorem hk1_st_anatomy_Finite_0 (N_ : Nat) (S_q150 : TS_q150) : HookFor ⟨Tryz.prog, ofList [(157, (F_q150 S_q150))], isref, N_⟩ 0 (an_q88 N_ S_q150) (lp Tryz.prog 124 0) (sh_st_anatomy_Finite_0, hk_st_anatomy_Finite_0 N_ S_q150) := by
  intro a κ h
  simp only at h
  unfold hk_st_anatomy_Finite_0 at h
  split at h
  · exact (eq_st_anatomy_Finite_0 _ _ _ _ _ _).trans h
  · cases h
theorem ho_anatomy_Finite_0 (N_ : Nat) (S_q150 : TS_q150) : HookOk ⟨Tryz.prog, ofList [(157, (F_q150 S_q150))], isref, N_⟩ 0 (an_q88 N_ S_q150) (lp Tryz.prog 124 0) :=
  hooks_ok [(sh_st_anatomy_Finite_0, hk_st_anatomy_Finite_0 N_ S_q150)] (by kernel_rfl) ⟨hk1_st_anatomy_Finite_0 _ _, trivial⟩
theorem eq_q88 (N_ : Nat) (S_q150 : TS_q150) (l : List Fl) (cont_ : V → List Blk → Bool) : bodyV ⟨Tryz.prog, ofList [(157, (F_q150 S_q150))], isref, N_⟩ (an_q88 N_ S_q150) 124 (shF_q88.args [.fls l]) [] cont_ = G_q88 N_ S_q150 l (fun r0 => cont_ (.bool r0) []) := by kernel_rfl
theorem good_q88 (N_ : Nat) (S_q150 : TS_q150) (h_anatomy_Class : GoodF Tryz.prog 157 (F_q150 S_q150)) : GoodF Tryz.prog 124 (F_q88 (G_q88 N_ S_q150)) := by
  refine good_fs (cx := ⟨Tryz.prog, ofList [(157, (F_q150 S_q150))], isref, N_⟩) (ofList_cons h_anatomy_Class (ofList_nil _)) shF_q88 (sp_q88 (G_q88 N_ S_q150)) (an_q88 N_ S_q150) 1 0 (by kernel_rfl) (fun i_ hi_ => by
    match i_, hi_ with
    | 0, _ => exact ho_anatomy_Finite_0 _ _
    | (q + 1), h => omega) ?_
  intro a k h
  unfold sp_q88 at h
  split at h
  · exact ⟨[], rfl, rfl, (eq_q88 _ _ _ _).trans h⟩
  · cases h

def an_q8 (N_ : Nat) : Nat → Option Ann := fun b_ => none
theorem eq_q8 (N_ : Nat) (x : Int) (cont_ : V → List Blk → Bool) : bodyV ⟨Tryz.prog, ofList [], isref, N_⟩ (an_q8 N_) 218 (shF_q8.args [.int x]) [] cont_ = G_q8 N_ x (fun r0 => cont_ (.int .i64 r0) []) := by
  have key : ∀ L_ : Int, codesV ⟨Tryz.prog, ofList [], isref, N_⟩ 0 (an_q8 N_) (((cds Tryz.prog 218).drop 0).map (subC 285870213051353865 L_)) 0 (st0 Tryz.prog 218 (shF_q8.args [.int x]) []) (finV Tryz.prog 218 0 cont_) = (fun (k0 : Int → Bool) => (cond (x == 0) (k0 64) ((inR (Int.fdiv (IntKind.wrap .u64 ((bitsN .and .u64 x (IntKind.wrap .u64 (0 - x))) * L_)) (2 ^ 58)) 64) && ((fits .i64 (List.getD tab64 (Int.toNat (Int.fdiv (IntKind.wrap .u64 ((bitsN .and .u64 x (IntKind.wrap .u64 (0 - x))) * L_)) (2 ^ 58))) 0)) && (k0 (List.getD tab64 (Int.toNat (Int.fdiv (IntKind.wrap .u64 ((bitsN .and .u64 x (IntKind.wrap .u64 (0 - x))) * L_)) (2 ^ 58))) 0)))))) (fun r0 => cont_ (.int .i64 r0) []) := fun L_ => by kernel_rfl
  have hc : (cds Tryz.prog 218).drop 0 = ((cds Tryz.prog 218).drop 0).map (subC 285870213051353865 285870213051353865) := by kernel_rfl
  refine (bodyV_codes (by kernel_rfl)).trans ?_
  rw [hc]
  exact key 285870213051353865
theorem good_q8 (N_ : Nat) : GoodF Tryz.prog 218 (F_q8 (G_q8 N_)) := by
  refine good_fs (cx := ⟨Tryz.prog, ofList [], isref, N_⟩) (ofList_nil _) shF_q8 (sp_q8 (G_q8 N_)) (an_q8 N_) 0 0 (by kernel_rfl) (fun i_ hi_ => by omega) ?_
  intro a k h
  unfold sp_q8 at h
  split at h
  · exact ⟨[], rfl, rfl, (eq_q8 _ _ _).trans h⟩
  · cases h

end Go.Proofs.YtccocdgimamdhaaGreatDoor
