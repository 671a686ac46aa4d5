/-
  THE TIES: each printed meaning is what the program does (written by program).
  Conditions: none.
-/
import Derived.Test.YtccocdgimamdhaaGreatDoorGs
namespace Go.Proofs.YtccocdgimamdhaaGreatDoor
open Go Go.Mach Go.Proofs
set_option linter.unusedVariables false
set_option maxRecDepth 50000

def an_q71 (N_ : Nat) (S_q29 : TS_q29) (S_q28 : TS_q28) (S_q80 : TS_q80) (S_q8 : TS_q8) : Nat → Option Ann := fun b_ => none
def ls_q190 (ds_ : List V) (ms_ : List (Option Blk)) (b : Int) (f_0 : Int) (f_1 : Int) (f_2 : Int) (p : Bool) (p_1 : Int) (p_2 : Int) : St := ⟨(dqs ds_ 0 4 [.ptr 1 0, (dq ds_ 4), (dq ds_ 5), (dq ds_ 6), (dq ds_ 7), .ptr 2 0, (dq ds_ 8), (dq ds_ 9), (dq ds_ 10), (dq ds_ 11), (dq ds_ 12), (dq ds_ 13), (dq ds_ 14), (dq ds_ 15), (dq ds_ 16), (dq ds_ 17), (dq ds_ 18), (dq ds_ 19), (dq ds_ 20), (dq ds_ 21), (dq ds_ 22), (dq ds_ 23), (dq ds_ 24), (dq ds_ 25), (dq ds_ 26), (dq ds_ 27), (dq ds_ 28), (dq ds_ 29), (dq ds_ 30), (dq ds_ 31), (dq ds_ 32), (dq ds_ 33), (dq ds_ 34), (dq ds_ 35), (dq ds_ 36), (dq ds_ 37), (dq ds_ 38), (dq ds_ 39), (dq ds_ 40), (dq ds_ 41), (dq ds_ 42), (dq ds_ 43), (dq ds_ 44), (dq ds_ 45), (dq ds_ 46), (dq ds_ 47), (dq ds_ 48), (dq ds_ 49), (dq ds_ 50), (dq ds_ 51), (dq ds_ 52), (dq ds_ 53), (dq ds_ 54), (dq ds_ 55), (dq ds_ 56), (dq ds_ 57), (dq ds_ 58), (dq ds_ 59)]), [(ms_.getD 0 none), some ⟨108, 1, .cells [.bool false, .int .u64 0, .int .i64 0]⟩, some ⟨108, 1, .cells [.bool p, .int .u64 p_1, .int .i64 p_2]⟩]⟩
theorem jn_q190 (N_ : Nat) (S_q29 : TS_q29) (S_q28 : TS_q28) (S_q80 : TS_q80) (S_q8 : TS_q8) (ds_ : List V) (ms_ : List (Option Blk)) (b : Int) (f_0 : Int) (f_1 : Int) (f_2 : Int) (p : Bool) (p_1 : Int) (p_2 : Int) (cont_ : V → List Blk → Bool) : codesV ⟨Tryz.prog, ofList [(214, (F_q29 S_q29)), (189, (F_q28 S_q28)), (217, (F_q80 S_q80)), (218, (F_q8 S_q8))], isref, N_⟩ 0 (an_q71 N_ S_q29 S_q28 S_q80 S_q8) ((cds Tryz.prog 192).drop 5) 0 (ls_q190 ds_ ms_ b f_0 f_1 f_2 p p_1 p_2) (finV Tryz.prog 192 0 cont_) = J_q190 N_ S_q29 S_q28 S_q80 S_q8 b f_0 f_1 f_2 p p_1 p_2 (fun r0 r1 r2 r3 => cont_ (.tup [.agg [.bool r0, .int .u64 r1, .int .i64 r2], .int .i64 r3]) []) := by kernel_rfl
theorem hd_an_parts_uint64__w (N_ : Nat) (S_q29 : TS_q29) (S_q28 : TS_q28) (S_q80 : TS_q80) (S_q8 : TS_q8) (b : Int) (f_0 : Int) (f_1 : Int) (f_2 : Int) (cont_ : V → List Blk → Bool) (κn_ : St → Bool) : codesV ⟨Tryz.prog, ofList [(214, (F_q29 S_q29)), (189, (F_q28 S_q28)), (217, (F_q80 S_q80)), (218, (F_q8 S_q8))], isref, N_⟩ 0 (an_q71 N_ S_q29 S_q28 S_q80 S_q8) (sg Tryz.prog 192 0 5) 0 (st0 Tryz.prog 192 (shF_q71.args [.int b, .int f_0, .int f_1, .int f_2]) []) { (finV Tryz.prog 192 0 cont_) with nrm := κn_ } = (S_q29 b f_0 f_1 f_2 (fun (cr : Bool) (nr : Int) (nr_1 : Int) => ((fits .i64 (nr - f_2)) && (S_q28 b f_0 f_1 f_2 (fun (nr_2 : Int) => (cond (nr_2 == 1) (cont_ (.tup [.agg [.bool false, .int .u64 0, .int .i64 0], .int .i64 4]) []) (cond (nr_2 == 2) (cont_ (.tup [.agg [.bool false, .int .u64 0, .int .i64 0], .int .i64 4]) []) (cond (nr_2 == 3) (cont_ (.tup [.agg [.bool cr, .int .u64 0, .int .i64 0], .int .i64 0]) []) (cond (nr_2 == 4) ((fits .i64 ((nr - f_2) + 1)) && (κn_ (ls_q190 [.int .u64 b, .agg [.int .u64 f_0, .int .i64 f_1, .int .i64 f_2], .any, .ptr 0 0, .int .i64 0, .bool cr, .int .i64 nr, .int .u64 nr_1, .any, .tup [.bool cr, .int .i64 nr, .int .u64 nr_1], .int .u64 b, .agg [.int .u64 f_0, .int .i64 f_1, .int .i64 f_2], .tup [.bool cr, .int .i64 nr, .int .u64 nr_1], .bool cr, .int .i64 nr, .int .u64 nr_1, .bool cr, .int .u64 nr_1, .int .i64 nr, .ptr 0 2, .int .i64 f_2, .int .i64 (nr - f_2), .agg [.bool cr, .int .u64 nr_1, .int .i64 (nr - f_2)], .int .u64 b, .agg [.int .u64 f_0, .int .i64 f_1, .int .i64 f_2], .int .i64 nr_2, .any, .any, .any, .any, .any, .any, .bool false, .bool (nr_2 == 1), .bool (nr_2 == 2), .any, .bool false, .bool (nr_2 == 3), .any, .any, .bool true, .bool (nr_2 == 4), .ptr 2 2, .int .i64 (nr - f_2), .int .i64 ((nr - f_2) + 1), .ptr 2 2, .any, .any, .any, .any, .any, .any, .any, .any, .any, .any, .any, .any, .any, .any] [some ⟨217, 1, .cells [.int .u64 f_0, .int .i64 f_1, .int .i64 f_2]⟩] b f_0 f_1 f_2 cr nr_1 ((nr - f_2) + 1)))) (S_q80 f_0 f_1 f_2 (fun (nr_3 : Int) => (κn_ (ls_q190 [.int .u64 b, .agg [.int .u64 f_0, .int .i64 f_1, .int .i64 f_2], .any, .ptr 0 0, .int .i64 0, .bool cr, .int .i64 nr, .int .u64 nr_1, .any, .tup [.bool cr, .int .i64 nr, .int .u64 nr_1], .int .u64 b, .agg [.int .u64 f_0, .int .i64 f_1, .int .i64 f_2], .tup [.bool cr, .int .i64 nr, .int .u64 nr_1], .bool cr, .int .i64 nr, .int .u64 nr_1, .bool cr, .int .u64 nr_1, .int .i64 nr, .ptr 0 2, .int .i64 f_2, .int .i64 (nr - f_2), .agg [.bool cr, .int .u64 nr_1, .int .i64 (nr - f_2)], .int .u64 b, .agg [.int .u64 f_0, .int .i64 f_1, .int .i64 f_2], .int .i64 nr_2, .ptr 2 1, .int .u64 nr_1, .agg [.int .u64 f_0, .int .i64 f_1, .int .i64 f_2], .int .u64 nr_3, .int .u64 (bitsN .or .u64 nr_1 nr_3), .ptr 2 1, .bool false, .bool (nr_2 == 1), .bool (nr_2 == 2), .any, .bool false, .bool (nr_2 == 3), .any, .any, .bool false, .bool (nr_2 == 4), .any, .any, .any, .any, .any, .any, .any, .any, .any, .any, .any, .any, .any, .any, .any, .any, .any, .any] [some ⟨217, 1, .cells [.int .u64 f_0, .int .i64 f_1, .int .i64 f_2]⟩] b f_0 f_1 f_2 cr (bitsN .or .u64 nr_1 nr_3) (nr - f_2)))))))))))))) := by kernel_rfl
theorem jn_an_parts_uint64__w (N_ : Nat) (S_q29 : TS_q29) (S_q28 : TS_q28) (S_q80 : TS_q80) (S_q8 : TS_q8) (b : Int) (f_0 : Int) (f_1 : Int) (f_2 : Int) (cont_ : V → List Blk → Bool) : codesV ⟨Tryz.prog, ofList [(214, (F_q29 S_q29)), (189, (F_q28 S_q28)), (217, (F_q80 S_q80)), (218, (F_q8 S_q8))], isref, N_⟩ 0 (an_q71 N_ S_q29 S_q28 S_q80 S_q8) ((cds Tryz.prog 192).drop 0) 0 (st0 Tryz.prog 192 (shF_q71.args [.int b, .int f_0, .int f_1, .int f_2]) []) (finV Tryz.prog 192 0 cont_) = G_q71 N_ S_q29 S_q28 S_q80 S_q8 b f_0 f_1 f_2 (fun r0 r1 r2 r3 => cont_ (.tup [.agg [.bool r0, .int .u64 r1, .int .i64 r2], .int .i64 r3]) []) := by
  rw [codesV_cut 0 5 5 rfl]
  refine (hd_an_parts_uint64__w N_ S_q29 S_q28 S_q80 S_q8 b f_0 f_1 f_2 cont_ _).trans ?_
  simp only [jn_q190]
  kernel_rfl
theorem eq_q71 (N_ : Nat) (S_q29 : TS_q29) (S_q28 : TS_q28) (S_q80 : TS_q80) (S_q8 : TS_q8) (b : Int) (f_0 : Int) (f_1 : Int) (f_2 : Int) (cont_ : V → List Blk → Bool) : bodyV ⟨Tryz.prog, ofList [(214, (F_q29 S_q29)), (189, (F_q28 S_q28)), (217, (F_q80 S_q80)), (218, (F_q8 S_q8))], isref, N_⟩ (an_q71 N_ S_q29 S_q28 S_q80 S_q8) 192 (shF_q71.args [.int b, .int f_0, .int f_1, .int f_2]) [] cont_ = G_q71 N_ S_q29 S_q28 S_q80 S_q8 b f_0 f_1 f_2 (fun r0 r1 r2 r3 => cont_ (.tup [.agg [.bool r0, .int .u64 r1, .int .i64 r2], .int .i64 r3]) []) :=
  (bodyV_codes (by kernel_rfl)).trans (jn_an_parts_uint64__w N_ S_q29 S_q28 S_q80 S_q8 b f_0 f_1 f_2 cont_)
theorem good_q71 (N_ : Nat) (S_q29 : TS_q29) (S_q28 : TS_q28) (S_q80 : TS_q80) (S_q8 : TS_q8) (h_anatomy_split_uint64_ : GoodF Tryz.prog 214 (F_q29 S_q29)) (h_anatomy_class_uint64_ : GoodF Tryz.prog 189 (F_q28 S_q28)) (h_v_anatomy_format_hidden : GoodF Tryz.prog 217 (F_q80 S_q80)) (h_math_bits_TrailingZeros64 : GoodF Tryz.prog 218 (F_q8 S_q8)) : GoodF Tryz.prog 192 (F_q71 (G_q71 N_ S_q29 S_q28 S_q80 S_q8)) := by
  refine good_fs (cx := ⟨Tryz.prog, ofList [(214, (F_q29 S_q29)), (189, (F_q28 S_q28)), (217, (F_q80 S_q80)), (218, (F_q8 S_q8))], isref, N_⟩) (ofList_cons h_anatomy_split_uint64_ (ofList_cons h_anatomy_class_uint64_ (ofList_cons h_v_anatomy_format_hidden (ofList_cons h_math_bits_TrailingZeros64 (ofList_nil _))))) shF_q71 (sp_q71 (G_q71 N_ S_q29 S_q28 S_q80 S_q8)) (an_q71 N_ S_q29 S_q28 S_q80 S_q8) 0 0 (by kernel_rfl) (fun i_ hi_ => by omega) ?_
  intro a k h
  unfold sp_q71 at h
  split at h
  · exact ⟨[], rfl, rfl, (eq_q71 _ _ _ _ _ _ _ _ _ _).trans h⟩
  · cases h

def an_q177 (N_ : Nat) (S_q99 : TS_q99) (S_an_of : TS_an_of) (S_q71 : TS_q71) : Nat → Option Ann := fun b_ => none
theorem eq_q177 (N_ : Nat) (S_q99 : TS_q99) (S_an_of : TS_an_of) (S_q71 : TS_q71) (x : Fl) (cont_ : V → List Blk → Bool) : bodyV ⟨Tryz.prog, ofList [(88, (F_q99 S_q99)), (190, (F_an_of S_an_of)), (192, (F_q71 S_q71))], isref, N_⟩ (an_q177 N_ S_q99 S_an_of S_q71) 160 (shF_q177.args [.fl x]) [] cont_ = G_q177 N_ S_q99 S_an_of S_q71 x (fun r0 r1 r2 r3 => cont_ (.tup [.agg [.bool r0, .int .u64 r1, .int .i64 r2], .int .i64 r3]) []) := by kernel_rfl
theorem good_q177 (N_ : Nat) (S_q99 : TS_q99) (S_an_of : TS_an_of) (S_q71 : TS_q71) (h_math_Float64bits : GoodF Tryz.prog 88 (F_q99 S_q99)) (h_anatomy_of : GoodF Tryz.prog 190 (F_an_of S_an_of)) (h_anatomy_parts_uint64_ : GoodF Tryz.prog 192 (F_q71 S_q71)) : GoodF Tryz.prog 160 (F_q177 (G_q177 N_ S_q99 S_an_of S_q71)) := by
  refine good_fs (cx := ⟨Tryz.prog, ofList [(88, (F_q99 S_q99)), (190, (F_an_of S_an_of)), (192, (F_q71 S_q71))], isref, N_⟩) (ofList_cons h_math_Float64bits (ofList_cons h_anatomy_of (ofList_cons h_anatomy_parts_uint64_ (ofList_nil _)))) shF_q177 (sp_q177 (G_q177 N_ S_q99 S_an_of S_q71)) (an_q177 N_ S_q99 S_an_of S_q71) 0 0 (by kernel_rfl) (fun i_ hi_ => by omega) ?_
  intro a k h
  unfold sp_q177 at h
  split at h
  · exact ⟨[], rfl, rfl, (eq_q177 _ _ _ _ _ _).trans h⟩
  · cases h

def sh_st_big_norm_w_0 : StSh := ⟨[.slw 0, .any, .any, .int .i64, .any, .any, .any, .any, .any, .any, .any, .any, .any, .any, .any, .any, .any, .any, .any, .any, .any], [some (41, 1, .ints .u64)]⟩
def sx0_st_big_norm_w_0 : StSh := ⟨[.slw 0, .any, .any, .int .i64, .any, .any, .any, .any, .any, .any, .any, .any, .any, .any, .any, .any, .any, .any, .any, .any, .any], [some (41, 1, .ints .u64)]⟩
def hk_st_big_norm_w_0 (N_ : Nat) : List Atom → K → Bool := fun a_ κ => match a_ with
  | [.int n, .ints x] => iterG N_ (st_big_norm_w_0 N_ x (fun r0 => κ.ext 0 (sx0_st_big_norm_w_0.build [.int r0, .ints x]))) n
  | _ => false
def an_q0 (N_ : Nat) : Nat → Option Ann := fun b_ => cond (b_ == 0) (some ⟨⟨[0, 3], [], []⟩, [(0, ⟨[0, 3], [], []⟩)], some ⟨[2], [], []⟩, some (mkHooks [(sh_st_big_norm_w_0, hk_st_big_norm_w_0 N_)])⟩) (none)
theorem eq_st_big_norm_w_0 (N_ : Nat) (κ : K) (n : Int) (x : List Int) : iter N_ (fun s k => codeV ⟨Tryz.prog, ofList [], isref, N_⟩ 1 (an_q0 N_) (lp Tryz.prog 202 0).2 (lp Tryz.prog 202 0).1 s (roundK Tryz.prog 1 ((an_q0 N_) (lp Tryz.prog 202 0).1) κ k)) (sh_st_big_norm_w_0.build [.int n, .ints x]) = iterG N_ (st_big_norm_w_0 N_ x (fun r0 => κ.ext 0 (sx0_st_big_norm_w_0.build [.int r0, .ints x]))) n :=
  iter_tr (fun (v_ : Int) => sh_st_big_norm_w_0.build [.int v_, .ints x]) (fun v_ K_ => by kernel_rfl) N_ n
theorem hk1_st_big_norm_w_0 (N_ : Nat) : HookFor ⟨Tryz.prog, ofList [], isref, N_⟩ 1 (an_q0 N_) (lp Tryz.prog 202 0) (sh_st_big_norm_w_0, hk_st_big_norm_w_0 N_) := by
  intro a κ h
  simp only at h
  unfold hk_st_big_norm_w_0 at h
  split at h
  · exact (eq_st_big_norm_w_0 _ _ _ _).trans h
  · cases h
theorem ho_big_norm_w_0 (N_ : Nat) : HookOk ⟨Tryz.prog, ofList [], isref, N_⟩ 1 (an_q0 N_) (lp Tryz.prog 202 0) :=
  hooks_ok [(sh_st_big_norm_w_0, hk_st_big_norm_w_0 N_)] (by kernel_rfl) ⟨hk1_st_big_norm_w_0 _, trivial⟩
theorem eq_q0 (N_ : Nat) (b : List Int) (cont_ : V → List Blk → Bool) : bodyZ ⟨Tryz.prog, ofList [], isref, N_⟩ (an_q0 N_) 202 (shF_q0.args [.ints b]) [⟨41, 1, .ints .u64 b⟩] cont_ = G_q0 N_ b (fun r0 r1 => cont_ (.sl 0 r0 r1) [⟨41, 1, .ints .u64 b⟩]) := by kernel_rfl
theorem good_q0 (N_ : Nat) : GoodF Tryz.prog 202 (F_q0 (G_q0 N_)) := by
  refine good_fsZ (cx := ⟨Tryz.prog, ofList [], isref, N_⟩) (ofList_nil _) shF_q0 (sp_q0 (G_q0 N_)) (an_q0 N_) 1 1 (by kernel_rfl) (fun i_ hi_ => by
    match i_, hi_ with
    | 0, _ => exact ho_big_norm_w_0 _
    | (q + 1), h => omega) ?_
  intro a k h
  unfold sp_q0 at h
  split at h
  · exact ⟨[_], rfl, rfl, (eq_q0 _ _ _).trans h⟩
  · cases h

def an_q141 (N_ : Nat) (S_q0 : TS_q0) : Nat → Option Ann := fun b_ => none
theorem eq_q141 (N_ : Nat) (S_q0 : TS_q0) (n : Int) (cont_ : V → List Blk → Bool) : bodyZ ⟨Tryz.prog, ofList [(202, (F_q0 S_q0))], isref, N_⟩ (an_q141 N_ S_q0) 193 (shF_q141.args [.int n]) [] cont_ = G_q141 N_ S_q0 n (fun r0 => cont_ (.roi .u64 r0) []) := by kernel_rfl
theorem good_q141 (N_ : Nat) (S_q0 : TS_q0) (h_big_norm_w : GoodF Tryz.prog 202 (F_q0 S_q0)) : GoodF Tryz.prog 193 (F_q141 (G_q141 N_ S_q0)) := by
  refine good_fsZ (cx := ⟨Tryz.prog, ofList [(202, (F_q0 S_q0))], isref, N_⟩) (ofList_cons h_big_norm_w (ofList_nil _)) shF_q141 (sp_q141 (G_q141 N_ S_q0)) (an_q141 N_ S_q0) 0 0 (by kernel_rfl) (fun i_ hi_ => by omega) ?_
  intro a k h
  unfold sp_q141 at h
  split at h
  · exact ⟨[], rfl, rfl, (eq_q141 _ _ _ _).trans h⟩
  · cases h

def an_q1 (N_ : Nat) : Nat → Option Ann := fun b_ => none
theorem eq_q1 (N_ : Nat) (neg : Bool) (abs : List Int) (b : Bool) (cont_ : V → List Blk → Bool) : bodyZ ⟨Tryz.prog, ofList [], isref, N_⟩ (an_q1 N_) 170 (shF_q1.args [.bool neg, .ints abs, .bool b]) [⟨164, 1, .cells [.bool b, .nil]⟩] cont_ = G_q1 N_ neg abs b (fun r0 => cont_ (.ptr 0 0) [⟨164, 1, .cells [.bool r0, .roi .u64 abs]⟩]) := by kernel_rfl
theorem good_q1 (N_ : Nat) : GoodF Tryz.prog 170 (F_q1 (G_q1 N_)) := by
  refine good_fsZ (cx := ⟨Tryz.prog, ofList [], isref, N_⟩) (ofList_nil _) shF_q1 (sp_q1 (G_q1 N_)) (an_q1 N_) 0 1 (by kernel_rfl) (fun i_ hi_ => by omega) ?_
  intro a k h
  unfold sp_q1 at h
  split at h
  · exact ⟨[_], rfl, rfl, (eq_q1 _ _ _ _ _).trans h⟩
  · cases h

def an_q54 (N_ : Nat) (S_q141 : TS_q141) (S_q1 : TS_q1) : Nat → Option Ann := fun b_ => none
theorem eq_q54 (N_ : Nat) (S_q141 : TS_q141) (S_q1 : TS_q1) (n : Int) (b : Bool) (cont_ : V → List Blk → Bool) : bodyZ ⟨Tryz.prog, ofList [(193, (F_q141 S_q141)), (170, (F_q1 S_q1))], isref, N_⟩ (an_q54 N_ S_q141 S_q1) 161 (shF_q54.args [.int n, .bool b]) [⟨164, 1, .cells [.bool b, .nil]⟩] cont_ = G_q54 N_ S_q141 S_q1 n b (fun r0 r1 => cont_ (.ptr 0 0) [⟨164, 1, .cells [.bool r0, .roi .u64 r1]⟩]) := by kernel_rfl
theorem good_q54 (N_ : Nat) (S_q141 : TS_q141) (S_q1 : TS_q1) (h_big_word : GoodF Tryz.prog 193 (F_q141 S_q141)) (h_big_Int_made_p0n : GoodF Tryz.prog 170 (F_q1 S_q1)) : GoodF Tryz.prog 161 (F_q54 (G_q54 N_ S_q141 S_q1)) := by
  refine good_fsZ (cx := ⟨Tryz.prog, ofList [(193, (F_q141 S_q141)), (170, (F_q1 S_q1))], isref, N_⟩) (ofList_cons h_big_word (ofList_cons h_big_Int_made_p0n (ofList_nil _))) shF_q54 (sp_q54 (G_q54 N_ S_q141 S_q1)) (an_q54 N_ S_q141 S_q1) 0 1 (by kernel_rfl) (fun i_ hi_ => by omega) ?_
  intro a k h
  unfold sp_q54 at h
  split at h
  · exact ⟨[_], rfl, rfl, (eq_q54 _ _ _ _ _ _).trans h⟩
  · cases h

def an_q82 (N_ : Nat) : Nat → Option Ann := fun b_ => none
theorem eq_q82 (N_ : Nat) (x : List Int) (cont_ : V → List Blk → Bool) : bodyZ ⟨Tryz.prog, ofList [], isref, N_⟩ (an_q82 N_) 171 (shF_q82.args [.ints x]) [] cont_ = G_q82 N_ x (fun r0 => cont_ (.roi .u64 r0) []) := by kernel_rfl
theorem good_q82 (N_ : Nat) : GoodF Tryz.prog 171 (F_q82 (G_q82 N_)) := by
  refine good_fsZ (cx := ⟨Tryz.prog, ofList [], isref, N_⟩) (ofList_nil _) shF_q82 (sp_q82 (G_q82 N_)) (an_q82 N_) 0 0 (by kernel_rfl) (fun i_ hi_ => by omega) ?_
  intro a k h
  unfold sp_q82 at h
  split at h
  · exact ⟨[], rfl, rfl, (eq_q82 _ _ _).trans h⟩
  · cases h

def an_q30 (N_ : Nat) : Nat → Option Ann := fun b_ => none
theorem eq_q30 (N_ : Nat) (neg : Bool) (abs : List Int) (b : Bool) (b_1 : List Int) (cont_ : V → List Blk → Bool) : bodyZ ⟨Tryz.prog, ofList [], isref, N_⟩ (an_q30 N_) 170 (shF_q30.args [.bool neg, .ints abs, .bool b, .ints b_1]) [⟨164, 1, .cells [.bool b, .roi .u64 b_1]⟩] cont_ = G_q30 N_ neg abs b b_1 (fun r0 => cont_ (.ptr 0 0) [⟨164, 1, .cells [.bool r0, .roi .u64 abs]⟩]) := by kernel_rfl
theorem good_q30 (N_ : Nat) : GoodF Tryz.prog 170 (F_q30 (G_q30 N_)) := by
  refine good_fsZ (cx := ⟨Tryz.prog, ofList [], isref, N_⟩) (ofList_nil _) shF_q30 (sp_q30 (G_q30 N_)) (an_q30 N_) 0 1 (by kernel_rfl) (fun i_ hi_ => by omega) ?_
  intro a k h
  unfold sp_q30 at h
  split at h
  · exact ⟨[_], rfl, rfl, (eq_q30 _ _ _ _ _ _).trans h⟩
  · cases h

def an_q24 (N_ : Nat) (S_q82 : TS_q82) (S_q30 : TS_q30) : Nat → Option Ann := fun b_ => none
theorem eq_q24 (N_ : Nat) (S_q82 : TS_q82) (S_q30 : TS_q30) (b : Bool) (b_1 : List Int) (cont_ : V → List Blk → Bool) : bodyZ ⟨Tryz.prog, ofList [(171, (F_q82 S_q82)), (170, (F_q30 S_q30))], isref, N_⟩ (an_q24 N_ S_q82 S_q30) 131 (shF_q24.args [.bool b, .ints b_1]) [⟨164, 1, .cells [.bool b, .roi .u64 b_1]⟩] cont_ = G_q24 N_ S_q82 S_q30 b b_1 (fun r0 r1 => cont_ (.ptr 0 0) [⟨164, 1, .cells [.bool r0, .roi .u64 r1]⟩]) := by kernel_rfl
theorem good_q24 (N_ : Nat) (S_q82 : TS_q82) (S_q30 : TS_q30) (h_big_clone : GoodF Tryz.prog 171 (F_q82 S_q82)) (h_big_Int_made_p0r : GoodF Tryz.prog 170 (F_q30 S_q30)) : GoodF Tryz.prog 131 (F_q24 (G_q24 N_ S_q82 S_q30)) := by
  refine good_fsZ (cx := ⟨Tryz.prog, ofList [(171, (F_q82 S_q82)), (170, (F_q30 S_q30))], isref, N_⟩) (ofList_cons h_big_clone (ofList_cons h_big_Int_made_p0r (ofList_nil _))) shF_q24 (sp_q24 (G_q24 N_ S_q82 S_q30)) (an_q24 N_ S_q82 S_q30) 0 1 (by kernel_rfl) (fun i_ hi_ => by omega) ?_
  intro a k h
  unfold sp_q24 at h
  split at h
  · exact ⟨[_], rfl, rfl, (eq_q24 _ _ _ _ _ _).trans h⟩
  · cases h

def an_q163 (N_ : Nat) (S_q177 : TS_q177) (S_q54 : TS_q54) (S_q24 : TS_q24) : Nat → Option Ann := fun b_ => none
theorem eq_q163 (N_ : Nat) (S_q177 : TS_q177) (S_q54 : TS_q54) (S_q24 : TS_q24) (x : Fl) (cont_ : V → List Blk → Bool) : bodyV ⟨Tryz.prog, ofList [(160, (F_q177 S_q177)), (161, (F_q54 S_q54)), (131, (F_q24 S_q24))], isref, N_⟩ (an_q163 N_ S_q177 S_q54 S_q24) 126 (shF_q163.args [.fl x]) [] cont_ = G_q163 N_ S_q177 S_q54 S_q24 x (fun r0 r1 r2 => cont_ (.agg [.ptr 0 0, .int .i64 r0]) [⟨164, 1, .cells [.bool r1, .roi .u64 r2]⟩]) := by kernel_rfl
theorem good_q163 (N_ : Nat) (S_q177 : TS_q177) (S_q54 : TS_q54) (S_q24 : TS_q24) (h_anatomy_Parts : GoodF Tryz.prog 160 (F_q177 S_q177)) (h_big_Int_SetUint64_p0n : GoodF Tryz.prog 161 (F_q54 S_q54)) (h_big_Int_Neg_p0p0r : GoodF Tryz.prog 131 (F_q24 S_q24)) : GoodF Tryz.prog 126 (F_q163 (G_q163 N_ S_q177 S_q54 S_q24)) := by
  refine good_fs (cx := ⟨Tryz.prog, ofList [(160, (F_q177 S_q177)), (161, (F_q54 S_q54)), (131, (F_q24 S_q24))], isref, N_⟩) (ofList_cons h_anatomy_Parts (ofList_cons h_big_Int_SetUint64_p0n (ofList_cons h_big_Int_Neg_p0p0r (ofList_nil _)))) shF_q163 (sp_q163 (G_q163 N_ S_q177 S_q54 S_q24)) (an_q163 N_ S_q177 S_q54 S_q24) 0 0 (by kernel_rfl) (fun i_ hi_ => by omega) ?_
  intro a k h
  unfold sp_q163 at h
  split at h
  · exact ⟨[], rfl, rfl, (eq_q163 _ _ _ _ _ _).trans h⟩
  · cases h

def an_q121 (N_ : Nat) : Nat → Option Ann := fun b_ => none
theorem eq_q121 (N_ : Nat) (x : Int) (y : Int) (cont_ : V → List Blk → Bool) : bodyV ⟨Tryz.prog, ofList [], isref, N_⟩ (an_q121 N_) 231 (shF_q121.args [.int x, .int y]) [] cont_ = G_q121 N_ x y (fun r0 r1 => cont_ (.tup [.int .u64 r0, .int .u64 r1]) []) := by kernel_rfl
theorem good_q121 (N_ : Nat) : GoodF Tryz.prog 231 (F_q121 (G_q121 N_)) := by
  refine good_fs (cx := ⟨Tryz.prog, ofList [], isref, N_⟩) (ofList_nil _) shF_q121 (sp_q121 (G_q121 N_)) (an_q121 N_) 0 0 (by kernel_rfl) (fun i_ hi_ => by omega) ?_
  intro a k h
  unfold sp_q121 at h
  split at h
  · exact ⟨[], rfl, rfl, (eq_q121 _ _ _ _).trans h⟩
  · cases h


def an_q110 (N_ : Nat) (S_q121 : TS_q121) (S_q72 : TS_q72) : Nat → Option Ann := fun b_ => none
theorem eq_q110 (N_ : Nat) (S_q121 : TS_q121) (S_q72 : TS_q72) (a : Int) (b : Int) (c : Int) (d : Int) (cont_ : V → List Blk → Bool) : bodyZ ⟨Tryz.prog, ofList [(231, (F_q121 S_q121)), (221, (F_q72 S_q72))], isref, N_⟩ (an_q110 N_ S_q121 S_q72) 219 (shF_q110.args [.int a, .int b, .int c, .int d]) [] cont_ = G_q110 N_ S_q121 S_q72 a b c d (fun r0 r1 => cont_ (.tup [.int .u64 r0, .int .u64 r1]) []) := by kernel_rfl
theorem good_q110 (N_ : Nat) (S_q121 : TS_q121) (S_q72 : TS_q72) (h_math_bits_Mul64 : GoodF Tryz.prog 231 (F_q121 S_q121)) (h_math_bits_Add64 : GoodF Tryz.prog 221 (F_q72 S_q72)) : GoodF Tryz.prog 219 (F_q110 (G_q110 N_ S_q121 S_q72)) := by
  refine good_fsZ (cx := ⟨Tryz.prog, ofList [(231, (F_q121 S_q121)), (221, (F_q72 S_q72))], isref, N_⟩) (ofList_cons h_math_bits_Mul64 (ofList_cons h_math_bits_Add64 (ofList_nil _))) shF_q110 (sp_q110 (G_q110 N_ S_q121 S_q72)) (an_q110 N_ S_q121 S_q72) 0 0 (by kernel_rfl) (fun i_ hi_ => by omega) ?_
  intro a k h
  unfold sp_q110 at h
  split at h
  · exact ⟨[], rfl, rfl, (eq_q110 _ _ _ _ _ _ _ _).trans h⟩
  · cases h

def sh_st_big_times_2 : StSh := ⟨[.any, .roi .u64, .any, .any, .any, .slw 0, .int .i64, .int .u64, .int .u64, .any, .any, .any, .any, .any, .any, .any, .any, .any, .any, .any, .any, .any, .any, .any, .any, .roi .u64, .int .i64, .int .i64, .any, .any, .any, .any, .roi .u64, .int .i64, .int .i64, .any, .any, .any, .any, .any, .any, .any, .any, .any, .any, .any, .any, .any, .any, .any, .any, .any, .any, .any, .any, .any, .any, .any, .any, .any, .any, .any, .any, .any, .any, .any, .any, .any], [some (41, 1, .ints .u64)]⟩
def sx0_st_big_times_2 : StSh := ⟨[.any, .roi .u64, .any, .any, .any, .slw 0, .int .i64, .any, .int .u64, .any, .any, .any, .any, .any, .any, .any, .any, .any, .any, .any, .any, .any, .any, .any, .any, .roi .u64, .int .i64, .int .i64, .any, .any, .any, .any, .any, .any, .any, .any, .any, .any, .any, .any, .any, .any, .any, .any, .any, .any, .any, .any, .any, .any, .any, .any, .any, .any, .any, .any, .any, .any, .any, .any, .any, .any, .any, .any, .any, .any, .any, .any], [some (41, 1, .ints .u64)]⟩
def hk_st_big_times_2 (N_ : Nat) (S_q110 : TS_q110) (S_q0 : TS_q0) : List Atom → K → Bool := fun a_ κ => match a_ with
  | [.ints y_2, .int i, .int a, .int carry, .ints t25_1, .int t26_1, .int t27_1, .ints t32, .int t33, .int t34, .ints z_1] => iterG N_ (st_big_times_2 N_ S_q110 S_q0 y_2 i a t25_1 t26_1 t27_1 t32 t33 (fun r2 r6 => κ.ext 2 (sx0_st_big_times_2.build [.ints y_2, .int i, .int r2, .ints t25_1, .int t26_1, .int t27_1, .ints r6]))) (carry, t34, z_1)
  | _ => false
def sh_st_big_times_0 : StSh := ⟨[.any, .roi .u64, .any, .any, .any, .slw 0, .any, .any, .any, .any, .any, .any, .any, .any, .any, .any, .any, .any, .any, .any, .any, .any, .any, .any, .any, .roi .u64, .int .i64, .int .i64, .any, .any, .any, .any, .any, .any, .any, .any, .any, .any, .any, .any, .any, .any, .any, .any, .any, .any, .any, .any, .any, .any, .any, .any, .any, .any, .any, .any, .any, .any, .any, .any, .any, .any, .any, .any, .any, .any, .any, .any], [some (41, 1, .ints .u64)]⟩
def sx0_st_big_times_0 : StSh := ⟨[.any, .any, .any, .any, .any, .slw 0, .any, .any, .any, .any, .any, .any, .any, .any, .any, .any, .any, .any, .any, .any, .any, .any, .any, .any, .any, .any, .any, .any, .any, .any, .any, .any, .any, .any, .any, .any, .any, .any, .any, .any, .any, .any, .any, .any, .any, .any, .any, .any, .any, .any, .any, .any, .any, .any, .any, .any, .any, .any, .any, .any, .any, .any, .any, .any, .any, .any, .any, .any], [some (41, 1, .ints .u64)]⟩
def hk_st_big_times_0 (N_ : Nat) (S_q110 : TS_q110) (S_q0 : TS_q0) : List Atom → K → Bool := fun a_ κ => match a_ with
  | [.ints y_1, .ints t25, .int t26, .int t27, .ints z] => iterG N_ (st_big_times_0 N_ S_q110 S_q0 y_1 t25 t26 (fun r0 => κ.ext 0 (sx0_st_big_times_0.build [.ints r0]))) (t27, z)
  | _ => false
def an_q146 (N_ : Nat) (S_q110 : TS_q110) (S_q0 : TS_q0) : Nat → Option Ann := fun b_ => cond (b_ == 2) (some ⟨⟨[1, 5, 6, 7, 8, 25, 26, 27, 32, 33, 34], [], []⟩, [(2, ⟨[1, 5, 6, 8, 25, 26, 27], [], []⟩)], some ⟨[4], [], []⟩, some (mkHooks [(sh_st_big_times_2, hk_st_big_times_2 N_ S_q110 S_q0)])⟩) (cond (b_ == 0) (some ⟨⟨[1, 5, 25, 26, 27], [], []⟩, [(0, ⟨[5], [], []⟩)], some ⟨[4], [], []⟩, some (mkHooks [(sh_st_big_times_0, hk_st_big_times_0 N_ S_q110 S_q0)])⟩) (none))
theorem eq_st_big_times_2 (N_ : Nat) (S_q110 : TS_q110) (S_q0 : TS_q0) (κ : K) (y_2 : List Int) (i : Int) (a : Int) (carry : Int) (t25_1 : List Int) (t26_1 : Int) (t27_1 : Int) (t32 : List Int) (t33 : Int) (t34 : Int) (z_1 : List Int) : iter N_ (fun s k => codeV ⟨Tryz.prog, ofList [(219, (F_q110 S_q110)), (202, (F_q0 S_q0))], isref, N_⟩ 0 (an_q146 N_ S_q110 S_q0) (lp Tryz.prog 194 1).2 (lp Tryz.prog 194 1).1 s (roundK Tryz.prog 0 ((an_q146 N_ S_q110 S_q0) (lp Tryz.prog 194 1).1) κ k)) (sh_st_big_times_2.build [.ints y_2, .int i, .int a, .int carry, .ints t25_1, .int t26_1, .int t27_1, .ints t32, .int t33, .int t34, .ints z_1]) = iterG N_ (st_big_times_2 N_ S_q110 S_q0 y_2 i a t25_1 t26_1 t27_1 t32 t33 (fun r2 r6 => κ.ext 2 (sx0_st_big_times_2.build [.ints y_2, .int i, .int r2, .ints t25_1, .int t26_1, .int t27_1, .ints r6]))) (carry, t34, z_1) :=
  iter_tr (fun (v_ : Int × Int × List Int) => sh_st_big_times_2.build [.ints y_2, .int i, .int a, .int v_.1, .ints t25_1, .int t26_1, .int t27_1, .ints t32, .int t33, .int v_.2.1, .ints v_.2.2]) (fun v_ K_ => by obtain ⟨carry, t34, z_1⟩ := v_; kernel_rfl) N_ (carry, t34, z_1)
theorem hk1_st_big_times_2 (N_ : Nat) (S_q110 : TS_q110) (S_q0 : TS_q0) : HookFor ⟨Tryz.prog, ofList [(219, (F_q110 S_q110)), (202, (F_q0 S_q0))], isref, N_⟩ 0 (an_q146 N_ S_q110 S_q0) (lp Tryz.prog 194 1) (sh_st_big_times_2, hk_st_big_times_2 N_ S_q110 S_q0) := by
  intro a κ h
  simp only at h
  unfold hk_st_big_times_2 at h
  split at h
  · exact (eq_st_big_times_2 _ _ _ _ _ _ _ _ _ _ _ _ _ _ _).trans h
  · cases h
theorem eq_st_big_times_0 (N_ : Nat) (S_q110 : TS_q110) (S_q0 : TS_q0) (κ : K) (y_1 : List Int) (t25 : List Int) (t26 : Int) (t27 : Int) (z : List Int) : iter N_ (fun s k => codeV ⟨Tryz.prog, ofList [(219, (F_q110 S_q110)), (202, (F_q0 S_q0))], isref, N_⟩ 0 (an_q146 N_ S_q110 S_q0) (lp Tryz.prog 194 0).2 (lp Tryz.prog 194 0).1 s (roundK Tryz.prog 0 ((an_q146 N_ S_q110 S_q0) (lp Tryz.prog 194 0).1) κ k)) (sh_st_big_times_0.build [.ints y_1, .ints t25, .int t26, .int t27, .ints z]) = iterG N_ (st_big_times_0 N_ S_q110 S_q0 y_1 t25 t26 (fun r0 => κ.ext 0 (sx0_st_big_times_0.build [.ints r0]))) (t27, z) :=
  iter_tr (fun (v_ : Int × List Int) => sh_st_big_times_0.build [.ints y_1, .ints t25, .int t26, .int v_.1, .ints v_.2]) (fun v_ K_ => by obtain ⟨t27, z⟩ := v_; kernel_rfl) N_ (t27, z)
theorem hk1_st_big_times_0 (N_ : Nat) (S_q110 : TS_q110) (S_q0 : TS_q0) : HookFor ⟨Tryz.prog, ofList [(219, (F_q110 S_q110)), (202, (F_q0 S_q0))], isref, N_⟩ 0 (an_q146 N_ S_q110 S_q0) (lp Tryz.prog 194 0) (sh_st_big_times_0, hk_st_big_times_0 N_ S_q110 S_q0) := by
  intro a κ h
  simp only at h
  unfold hk_st_big_times_0 at h
  split at h
  · exact (eq_st_big_times_0 _ _ _ _ _ _ _ _ _).trans h
  · cases h
theorem ho_big_times_2 (N_ : Nat) (S_q110 : TS_q110) (S_q0 : TS_q0) : HookOk ⟨Tryz.prog, ofList [(219, (F_q110 S_q110)), (202, (F_q0 S_q0))], isref, N_⟩ 0 (an_q146 N_ S_q110 S_q0) (lp Tryz.prog 194 1) :=
  hooks_ok [(sh_st_big_times_2, hk_st_big_times_2 N_ S_q110 S_q0)] (by kernel_rfl) ⟨hk1_st_big_times_2 _ _ _, trivial⟩
theorem ho_big_times_0 (N_ : Nat) (S_q110 : TS_q110) (S_q0 : TS_q0) : HookOk ⟨Tryz.prog, ofList [(219, (F_q110 S_q110)), (202, (F_q0 S_q0))], isref, N_⟩ 0 (an_q146 N_ S_q110 S_q0) (lp Tryz.prog 194 0) :=
  hooks_ok [(sh_st_big_times_0, hk_st_big_times_0 N_ S_q110 S_q0)] (by kernel_rfl) ⟨hk1_st_big_times_0 _ _ _, trivial⟩
theorem eq_q146 (N_ : Nat) (S_q110 : TS_q110) (S_q0 : TS_q0) (x : List Int) (y : List Int) (cont_ : V → List Blk → Bool) : bodyZ ⟨Tryz.prog, ofList [(219, (F_q110 S_q110)), (202, (F_q0 S_q0))], isref, N_⟩ (an_q146 N_ S_q110 S_q0) 194 (shF_q146.args [.ints x, .ints y]) [] cont_ = G_q146 N_ S_q110 S_q0 x y (fun r0 => cont_ (.roi .u64 r0) []) := by kernel_rfl
theorem good_q146 (N_ : Nat) (S_q110 : TS_q110) (S_q0 : TS_q0) (h_big_fold : GoodF Tryz.prog 219 (F_q110 S_q110)) (h_big_norm_w : GoodF Tryz.prog 202 (F_q0 S_q0)) : GoodF Tryz.prog 194 (F_q146 (G_q146 N_ S_q110 S_q0)) := by
  refine good_fsZ (cx := ⟨Tryz.prog, ofList [(219, (F_q110 S_q110)), (202, (F_q0 S_q0))], isref, N_⟩) (ofList_cons h_big_fold (ofList_cons h_big_norm_w (ofList_nil _))) shF_q146 (sp_q146 (G_q146 N_ S_q110 S_q0)) (an_q146 N_ S_q110 S_q0) 2 0 (by kernel_rfl) (fun i_ hi_ => by
    match i_, hi_ with
    | 0, _ => exact ho_big_times_0 _ _ _
    | 1, _ => exact ho_big_times_2 _ _ _
    | (q + 2), h => omega) ?_
  intro a k h
  unfold sp_q146 at h
  split at h
  · exact ⟨[], rfl, rfl, (eq_q146 _ _ _ _ _ _).trans h⟩
  · cases h

def an_q53 (N_ : Nat) (S_q146 : TS_q146) (S_q1 : TS_q1) : Nat → Option Ann := fun b_ => none
theorem eq_q53 (N_ : Nat) (S_q146 : TS_q146) (S_q1 : TS_q1) (b : Bool) (b_1 : Bool) (b_2 : List Int) (b_3 : Bool) (b_4 : List Int) (cont_ : V → List Blk → Bool) : bodyZ ⟨Tryz.prog, ofList [(194, (F_q146 S_q146)), (170, (F_q1 S_q1))], isref, N_⟩ (an_q53 N_ S_q146 S_q1) 162 (shF_q53.args [.bool b, .bool b_1, .ints b_2, .bool b_3, .ints b_4]) [⟨164, 1, .cells [.bool b, .nil]⟩, ⟨164, 1, .cells [.bool b_1, .roi .u64 b_2]⟩, ⟨164, 1, .cells [.bool b_3, .roi .u64 b_4]⟩] cont_ = G_q53 N_ S_q146 S_q1 b b_1 b_2 b_3 b_4 (fun r0 r1 => cont_ (.ptr 0 0) [⟨164, 1, .cells [.bool r0, .roi .u64 r1]⟩, ⟨164, 1, .cells [.bool b_1, .roi .u64 b_2]⟩, ⟨164, 1, .cells [.bool b_3, .roi .u64 b_4]⟩]) := by kernel_rfl
theorem good_q53 (N_ : Nat) (S_q146 : TS_q146) (S_q1 : TS_q1) (h_big_times : GoodF Tryz.prog 194 (F_q146 S_q146)) (h_big_Int_made_p0n : GoodF Tryz.prog 170 (F_q1 S_q1)) : GoodF Tryz.prog 162 (F_q53 (G_q53 N_ S_q146 S_q1)) := by
  refine good_fsZ (cx := ⟨Tryz.prog, ofList [(194, (F_q146 S_q146)), (170, (F_q1 S_q1))], isref, N_⟩) (ofList_cons h_big_times (ofList_cons h_big_Int_made_p0n (ofList_nil _))) shF_q53 (sp_q53 (G_q53 N_ S_q146 S_q1)) (an_q53 N_ S_q146 S_q1) 0 3 (by kernel_rfl) (fun i_ hi_ => by omega) ?_
  intro a k h
  unfold sp_q53 at h
  split at h
  · exact ⟨[_, _, _], rfl, rfl, (eq_q53 _ _ _ _ _ _ _ _ _).trans h⟩
  · cases h

def an_q17 (N_ : Nat) (S_q53 : TS_q53) : Nat → Option Ann := fun b_ => none
theorem eq_q17 (N_ : Nat) (S_q53 : TS_q53) (x : Int) (y : Int) (b : Bool) (b_1 : List Int) (b_2 : Bool) (b_3 : List Int) (cont_ : V → List Blk → Bool) : bodyV ⟨Tryz.prog, ofList [(162, (F_q53 S_q53))], isref, N_⟩ (an_q17 N_ S_q53) 127 (shF_q17.args [.int x, .int y, .bool b, .ints b_1, .bool b_2, .ints b_3]) [⟨164, 1, .cells [.bool b, .roi .u64 b_1]⟩, ⟨164, 1, .cells [.bool b_2, .roi .u64 b_3]⟩] cont_ = G_q17 N_ S_q53 x y b b_1 b_2 b_3 (fun r0 r5 r6 => cont_ (.agg [.ptr 2 0, .int .i64 r0]) [⟨164, 1, .cells [.bool b, .roi .u64 b_1]⟩, ⟨164, 1, .cells [.bool b_2, .roi .u64 b_3]⟩, ⟨164, 1, .cells [.bool r5, .roi .u64 r6]⟩]) := by kernel_rfl
theorem good_q17 (N_ : Nat) (S_q53 : TS_q53) (h_big_Int_Mul_p0p1p2nrr : GoodF Tryz.prog 162 (F_q53 S_q53)) : GoodF Tryz.prog 127 (F_q17 (G_q17 N_ S_q53)) := by
  refine good_fs (cx := ⟨Tryz.prog, ofList [(162, (F_q53 S_q53))], isref, N_⟩) (ofList_cons h_big_Int_Mul_p0p1p2nrr (ofList_nil _)) shF_q17 (sp_q17 (G_q17 N_ S_q53)) (an_q17 N_ S_q53) 0 2 (by kernel_rfl) (fun i_ hi_ => by omega) ?_
  intro a k h
  unfold sp_q17 at h
  split at h
  · exact ⟨[_, _], rfl, rfl, (eq_q17 _ _ _ _ _ _ _ _ _).trans h⟩
  · cases h

def an_q79 (N_ : Nat) : Nat → Option Ann := fun b_ => none
theorem eq_q79 (N_ : Nat) (b : Bool) (cont_ : V → List Blk → Bool) : bodyZ ⟨Tryz.prog, ofList [], isref, N_⟩ (an_q79 N_) 134 (shF_q79.args [.bool b]) [⟨164, 1, .cells [.bool b, .nil]⟩] cont_ = G_q79 N_ b (fun r0 r2 => cont_ (.int .i64 r0) [⟨164, 1, .cells [.bool b, .roi .u64 r2]⟩]) := by kernel_rfl
theorem good_q79 (N_ : Nat) : GoodF Tryz.prog 134 (F_q79 (G_q79 N_)) := by
  refine good_fsZ (cx := ⟨Tryz.prog, ofList [], isref, N_⟩) (ofList_nil _) shF_q79 (sp_q79 (G_q79 N_)) (an_q79 N_) 0 1 (by kernel_rfl) (fun i_ hi_ => by omega) ?_
  intro a k h
  unfold sp_q79 at h
  split at h
  · exact ⟨[_], rfl, rfl, (eq_q79 _ _ _).trans h⟩
  · cases h

def an_q5 (N_ : Nat) : Nat → Option Ann := fun b_ => none
theorem eq_q5 (N_ : Nat) (b : Bool) (b_1 : List Int) (cont_ : V → List Blk → Bool) : bodyZ ⟨Tryz.prog, ofList [], isref, N_⟩ (an_q5 N_) 134 (shF_q5.args [.bool b, .ints b_1]) [⟨164, 1, .cells [.bool b, .roi .u64 b_1]⟩] cont_ = G_q5 N_ b b_1 (fun r0 => cont_ (.int .i64 r0) [⟨164, 1, .cells [.bool b, .roi .u64 b_1]⟩]) := by kernel_rfl
theorem good_q5 (N_ : Nat) : GoodF Tryz.prog 134 (F_q5 (G_q5 N_)) := by
  refine good_fsZ (cx := ⟨Tryz.prog, ofList [], isref, N_⟩) (ofList_nil _) shF_q5 (sp_q5 (G_q5 N_)) (an_q5 N_) 0 1 (by kernel_rfl) (fun i_ hi_ => by omega) ?_
  intro a k h
  unfold sp_q5 at h
  split at h
  · exact ⟨[_], rfl, rfl, (eq_q5 _ _ _ _).trans h⟩
  · cases h

def sh_st_big_left_0 : StSh := ⟨[.any, .any, .any, .any, .any, .int .i64, .int .u64, .slw 0, .any, .any, .any, .any, .any, .any, .any, .any, .any, .any, .any, .any, .any, .any, .any, .any, .roi .u64, .int .i64, .int .i64, .any, .any, .any, .any, .any, .any, .any, .any, .any, .any, .any, .any, .any, .any, .any, .any, .any, .any, .any, .any, .any, .any, .any, .any, .any, .any, .any, .any], [some (41, 1, .ints .u64)]⟩
def sx0_st_big_left_0 : StSh := ⟨[.any, .any, .any, .any, .any, .any, .any, .slw 0, .any, .any, .any, .any, .any, .any, .any, .any, .any, .any, .any, .any, .any, .any, .any, .any, .any, .any, .any, .any, .any, .any, .any, .any, .any, .any, .any, .any, .any, .any, .any, .any, .any, .any, .any, .any, .any, .any, .any, .any, .any, .any, .any, .any, .any, .any, .any], [some (41, 1, .ints .u64)]⟩
def hk_st_big_left_0 (N_ : Nat) (S_q0 : TS_q0) : List Atom → K → Bool := fun a_ κ => match a_ with
  | [.int words, .int rest, .ints t24, .int t25, .int t26, .ints z] => iterG N_ (st_big_left_0 N_ S_q0 words rest t24 t25 (fun r0 => κ.ext 0 (sx0_st_big_left_0.build [.ints r0]))) (t26, z)
  | _ => false
def an_q118 (N_ : Nat) (S_q0 : TS_q0) : Nat → Option Ann := fun b_ => cond (b_ == 0) (some ⟨⟨[5, 6, 7, 24, 25, 26], [], []⟩, [(0, ⟨[7], [], []⟩)], some ⟨[4], [], []⟩, some (mkHooks [(sh_st_big_left_0, hk_st_big_left_0 N_ S_q0)])⟩) (none)
theorem eq_st_big_left_0 (N_ : Nat) (S_q0 : TS_q0) (κ : K) (words : Int) (rest : Int) (t24 : List Int) (t25 : Int) (t26 : Int) (z : List Int) : iter N_ (fun s k => codeV ⟨Tryz.prog, ofList [(202, (F_q0 S_q0))], isref, N_⟩ 0 (an_q118 N_ S_q0) (lp Tryz.prog 204 0).2 (lp Tryz.prog 204 0).1 s (roundK Tryz.prog 0 ((an_q118 N_ S_q0) (lp Tryz.prog 204 0).1) κ k)) (sh_st_big_left_0.build [.int words, .int rest, .ints t24, .int t25, .int t26, .ints z]) = iterG N_ (st_big_left_0 N_ S_q0 words rest t24 t25 (fun r0 => κ.ext 0 (sx0_st_big_left_0.build [.ints r0]))) (t26, z) :=
  iter_tr (fun (v_ : Int × List Int) => sh_st_big_left_0.build [.int words, .int rest, .ints t24, .int t25, .int v_.1, .ints v_.2]) (fun v_ K_ => by obtain ⟨t26, z⟩ := v_; kernel_rfl) N_ (t26, z)
theorem hk1_st_big_left_0 (N_ : Nat) (S_q0 : TS_q0) : HookFor ⟨Tryz.prog, ofList [(202, (F_q0 S_q0))], isref, N_⟩ 0 (an_q118 N_ S_q0) (lp Tryz.prog 204 0) (sh_st_big_left_0, hk_st_big_left_0 N_ S_q0) := by
  intro a κ h
  simp only at h
  unfold hk_st_big_left_0 at h
  split at h
  · exact (eq_st_big_left_0 _ _ _ _ _ _ _ _ _).trans h
  · cases h
theorem ho_big_left_0 (N_ : Nat) (S_q0 : TS_q0) : HookOk ⟨Tryz.prog, ofList [(202, (F_q0 S_q0))], isref, N_⟩ 0 (an_q118 N_ S_q0) (lp Tryz.prog 204 0) :=
  hooks_ok [(sh_st_big_left_0, hk_st_big_left_0 N_ S_q0)] (by kernel_rfl) ⟨hk1_st_big_left_0 _ _, trivial⟩
theorem eq_q118 (N_ : Nat) (S_q0 : TS_q0) (x : List Int) (n : Int) (cont_ : V → List Blk → Bool) : bodyZ ⟨Tryz.prog, ofList [(202, (F_q0 S_q0))], isref, N_⟩ (an_q118 N_ S_q0) 204 (shF_q118.args [.ints x, .int n]) [] cont_ = G_q118 N_ S_q0 x n (fun r0 => cont_ (.roi .u64 r0) []) := by kernel_rfl
theorem good_q118 (N_ : Nat) (S_q0 : TS_q0) (h_big_norm_w : GoodF Tryz.prog 202 (F_q0 S_q0)) : GoodF Tryz.prog 204 (F_q118 (G_q118 N_ S_q0)) := by
  refine good_fsZ (cx := ⟨Tryz.prog, ofList [(202, (F_q0 S_q0))], isref, N_⟩) (ofList_cons h_big_norm_w (ofList_nil _)) shF_q118 (sp_q118 (G_q118 N_ S_q0)) (an_q118 N_ S_q0) 1 0 (by kernel_rfl) (fun i_ hi_ => by
    match i_, hi_ with
    | 0, _ => exact ho_big_left_0 _ _
    | (q + 1), h => omega) ?_
  intro a k h
  unfold sp_q118 at h
  split at h
  · exact ⟨[], rfl, rfl, (eq_q118 _ _ _ _ _).trans h⟩
  · cases h

def an_q68 (N_ : Nat) (S_q118 : TS_q118) (S_q1 : TS_q1) : Nat → Option Ann := fun b_ => none
theorem eq_q68 (N_ : Nat) (S_q118 : TS_q118) (S_q1 : TS_q1) (n : Int) (b : Bool) (b_1 : Bool) (b_2 : List Int) (cont_ : V → List Blk → Bool) : bodyZ ⟨Tryz.prog, ofList [(204, (F_q118 S_q118)), (170, (F_q1 S_q1))], isref, N_⟩ (an_q68 N_ S_q118 S_q1) 172 (shF_q68.args [.int n, .bool b, .bool b_1, .ints b_2]) [⟨164, 1, .cells [.bool b, .nil]⟩, ⟨164, 1, .cells [.bool b_1, .roi .u64 b_2]⟩] cont_ = G_q68 N_ S_q118 S_q1 n b b_1 b_2 (fun r0 r1 => cont_ (.ptr 0 0) [⟨164, 1, .cells [.bool r0, .roi .u64 r1]⟩, ⟨164, 1, .cells [.bool b_1, .roi .u64 b_2]⟩]) := by kernel_rfl
theorem good_q68 (N_ : Nat) (S_q118 : TS_q118) (S_q1 : TS_q1) (h_big_left : GoodF Tryz.prog 204 (F_q118 S_q118)) (h_big_Int_made_p0n : GoodF Tryz.prog 170 (F_q1 S_q1)) : GoodF Tryz.prog 172 (F_q68 (G_q68 N_ S_q118 S_q1)) := by
  refine good_fsZ (cx := ⟨Tryz.prog, ofList [(204, (F_q118 S_q118)), (170, (F_q1 S_q1))], isref, N_⟩) (ofList_cons h_big_left (ofList_cons h_big_Int_made_p0n (ofList_nil _))) shF_q68 (sp_q68 (G_q68 N_ S_q118 S_q1)) (an_q68 N_ S_q118 S_q1) 0 2 (by kernel_rfl) (fun i_ hi_ => by omega) ?_
  intro a k h
  unfold sp_q68 at h
  split at h
  · exact ⟨[_, _], rfl, rfl, (eq_q68 _ _ _ _ _ _ _ _).trans h⟩
  · cases h

def an_q32 (N_ : Nat) (S_q68 : TS_q68) : Nat → Option Ann := fun b_ => none
theorem eq_q32 (N_ : Nat) (S_q68 : TS_q68) (x : Int) (e : Int) (b : Bool) (b_1 : List Int) (cont_ : V → List Blk → Bool) : bodyV ⟨Tryz.prog, ofList [(172, (F_q68 S_q68))], isref, N_⟩ (an_q32 N_ S_q68) 159 (shF_q32.args [.int x, .int e, .bool b, .ints b_1]) [⟨164, 1, .cells [.bool b, .roi .u64 b_1]⟩] cont_ = G_q32 N_ S_q68 x e b b_1 (fun r2 r3 => cont_ (.ptr 1 0) [⟨164, 1, .cells [.bool b, .roi .u64 b_1]⟩, ⟨164, 1, .cells [.bool r2, .roi .u64 r3]⟩]) := by kernel_rfl
theorem good_q32 (N_ : Nat) (S_q68 : TS_q68) (h_big_Int_Lsh_p0p1nr : GoodF Tryz.prog 172 (F_q68 S_q68)) : GoodF Tryz.prog 159 (F_q32 (G_q32 N_ S_q68)) := by
  refine good_fs (cx := ⟨Tryz.prog, ofList [(172, (F_q68 S_q68))], isref, N_⟩) (ofList_cons h_big_Int_Lsh_p0p1nr (ofList_nil _)) shF_q32 (sp_q32 (G_q32 N_ S_q68)) (an_q32 N_ S_q68) 0 1 (by kernel_rfl) (fun i_ hi_ => by omega) ?_
  intro a k h
  unfold sp_q32 at h
  split at h
  · exact ⟨[_], rfl, rfl, (eq_q32 _ _ _ _ _ _ _).trans h⟩
  · cases h

def an_q18 (N_ : Nat) : Nat → Option Ann := fun b_ => none
theorem eq_q18 (N_ : Nat) (x : List Int) (i : Int) (cont_ : V → List Blk → Bool) : bodyZ ⟨Tryz.prog, ofList [], isref, N_⟩ (an_q18 N_) 205 (shF_q18.args [.ints x, .int i]) [] cont_ = G_q18 N_ x i (fun r0 => cont_ (.int .u64 r0) []) := by kernel_rfl
theorem good_q18 (N_ : Nat) : GoodF Tryz.prog 205 (F_q18 (G_q18 N_)) := by
  refine good_fsZ (cx := ⟨Tryz.prog, ofList [], isref, N_⟩) (ofList_nil _) shF_q18 (sp_q18 (G_q18 N_)) (an_q18 N_) 0 0 (by kernel_rfl) (fun i_ hi_ => by omega) ?_
  intro a k h
  unfold sp_q18 at h
  split at h
  · exact ⟨[], rfl, rfl, (eq_q18 _ _ _ _).trans h⟩
  · cases h

def sh_st_big_sum_0 : StSh := ⟨[.roi .u64, .roi .u64, .any, .any, .any, .int .i64, .slw 0, .int .u64, .any, .any, .any, .any, .any, .any, .any, .any, .any, .int .i64, .int .i64, .any, .any, .any, .any, .any, .any, .any, .any, .any, .any, .any, .any, .any, .any, .any, .any, .any, .any, .any, .any, .any, .any, .any], [some (41, 1, .ints .u64)]⟩
def sx0_st_big_sum_0 : StSh := ⟨[.any, .any, .any, .any, .any, .int .i64, .slw 0, .int .u64, .any, .any, .any, .any, .any, .any, .any, .any, .any, .any, .any, .any, .any, .any, .any, .any, .any, .any, .any, .any, .any, .any, .any, .any, .any, .any, .any, .any, .any, .any, .any, .any, .any, .any], [some (41, 1, .ints .u64)]⟩
def hk_st_big_sum_0 (N_ : Nat) (S_q18 : TS_q18) (S_q72 : TS_q72) (S_q0 : TS_q0) : List Atom → K → Bool := fun a_ κ => match a_ with
  | [.ints x_1, .ints y_1, .int n, .int carry, .int t17, .int t18, .ints z] => iterG N_ (st_big_sum_0 N_ S_q18 S_q72 S_q0 x_1 y_1 n t17 (fun r1 r2 => κ.ext 0 (sx0_st_big_sum_0.build [.int n, .int r1, .ints r2]))) (carry, t18, z)
  | _ => false
def an_q165 (N_ : Nat) (S_q18 : TS_q18) (S_q72 : TS_q72) (S_q0 : TS_q0) : Nat → Option Ann := fun b_ => cond (b_ == 0) (some ⟨⟨[0, 1, 5, 6, 7, 17, 18], [], []⟩, [(0, ⟨[5, 6, 7], [], []⟩)], some ⟨[4], [], []⟩, some (mkHooks [(sh_st_big_sum_0, hk_st_big_sum_0 N_ S_q18 S_q72 S_q0)])⟩) (none)
theorem eq_st_big_sum_0 (N_ : Nat) (S_q18 : TS_q18) (S_q72 : TS_q72) (S_q0 : TS_q0) (κ : K) (x_1 : List Int) (y_1 : List Int) (n : Int) (carry : Int) (t17 : Int) (t18 : Int) (z : List Int) : iter N_ (fun s k => codeV ⟨Tryz.prog, ofList [(205, (F_q18 S_q18)), (221, (F_q72 S_q72)), (202, (F_q0 S_q0))], isref, N_⟩ 0 (an_q165 N_ S_q18 S_q72 S_q0) (lp Tryz.prog 201 0).2 (lp Tryz.prog 201 0).1 s (roundK Tryz.prog 0 ((an_q165 N_ S_q18 S_q72 S_q0) (lp Tryz.prog 201 0).1) κ k)) (sh_st_big_sum_0.build [.ints x_1, .ints y_1, .int n, .int carry, .int t17, .int t18, .ints z]) = iterG N_ (st_big_sum_0 N_ S_q18 S_q72 S_q0 x_1 y_1 n t17 (fun r1 r2 => κ.ext 0 (sx0_st_big_sum_0.build [.int n, .int r1, .ints r2]))) (carry, t18, z) :=
  iter_tr (fun (v_ : Int × Int × List Int) => sh_st_big_sum_0.build [.ints x_1, .ints y_1, .int n, .int v_.1, .int t17, .int v_.2.1, .ints v_.2.2]) (fun v_ K_ => by obtain ⟨carry, t18, z⟩ := v_; kernel_rfl) N_ (carry, t18, z)
theorem hk1_st_big_sum_0 (N_ : Nat) (S_q18 : TS_q18) (S_q72 : TS_q72) (S_q0 : TS_q0) : HookFor ⟨Tryz.prog, ofList [(205, (F_q18 S_q18)), (221, (F_q72 S_q72)), (202, (F_q0 S_q0))], isref, N_⟩ 0 (an_q165 N_ S_q18 S_q72 S_q0) (lp Tryz.prog 201 0) (sh_st_big_sum_0, hk_st_big_sum_0 N_ S_q18 S_q72 S_q0) := by
  intro a κ h
  simp only at h
  unfold hk_st_big_sum_0 at h
  split at h
  · exact (eq_st_big_sum_0 _ _ _ _ _ _ _ _ _ _ _ _).trans h
  · cases h
theorem ho_big_sum_0 (N_ : Nat) (S_q18 : TS_q18) (S_q72 : TS_q72) (S_q0 : TS_q0) : HookOk ⟨Tryz.prog, ofList [(205, (F_q18 S_q18)), (221, (F_q72 S_q72)), (202, (F_q0 S_q0))], isref, N_⟩ 0 (an_q165 N_ S_q18 S_q72 S_q0) (lp Tryz.prog 201 0) :=
  hooks_ok [(sh_st_big_sum_0, hk_st_big_sum_0 N_ S_q18 S_q72 S_q0)] (by kernel_rfl) ⟨hk1_st_big_sum_0 _ _ _ _, trivial⟩
theorem eq_q165 (N_ : Nat) (S_q18 : TS_q18) (S_q72 : TS_q72) (S_q0 : TS_q0) (x : List Int) (y : List Int) (cont_ : V → List Blk → Bool) : bodyZ ⟨Tryz.prog, ofList [(205, (F_q18 S_q18)), (221, (F_q72 S_q72)), (202, (F_q0 S_q0))], isref, N_⟩ (an_q165 N_ S_q18 S_q72 S_q0) 201 (shF_q165.args [.ints x, .ints y]) [] cont_ = G_q165 N_ S_q18 S_q72 S_q0 x y (fun r0 => cont_ (.roi .u64 r0) []) := by kernel_rfl
theorem good_q165 (N_ : Nat) (S_q18 : TS_q18) (S_q72 : TS_q72) (S_q0 : TS_q0) (h_big_digit : GoodF Tryz.prog 205 (F_q18 S_q18)) (h_math_bits_Add64 : GoodF Tryz.prog 221 (F_q72 S_q72)) (h_big_norm_w : GoodF Tryz.prog 202 (F_q0 S_q0)) : GoodF Tryz.prog 201 (F_q165 (G_q165 N_ S_q18 S_q72 S_q0)) := by
  refine good_fsZ (cx := ⟨Tryz.prog, ofList [(205, (F_q18 S_q18)), (221, (F_q72 S_q72)), (202, (F_q0 S_q0))], isref, N_⟩) (ofList_cons h_big_digit (ofList_cons h_math_bits_Add64 (ofList_cons h_big_norm_w (ofList_nil _)))) shF_q165 (sp_q165 (G_q165 N_ S_q18 S_q72 S_q0)) (an_q165 N_ S_q18 S_q72 S_q0) 1 0 (by kernel_rfl) (fun i_ hi_ => by
    match i_, hi_ with
    | 0, _ => exact ho_big_sum_0 _ _ _ _
    | (q + 1), h => omega) ?_
  intro a k h
  unfold sp_q165 at h
  split at h
  · exact ⟨[], rfl, rfl, (eq_q165 _ _ _ _ _ _ _).trans h⟩
  · cases h

def sh_st_big_compare_0 : StSh := ⟨[.roi .u64, .roi .u64, .any, .any, .any, .int .i64, .any, .any, .any, .any, .any, .any, .any, .any, .any, .any, .any, .any, .any, .any, .any, .any, .any, .any, .any, .any, .any, .any, .any, .any, .any, .any, .any, .any, .any, .any, .any, .any, .any, .any, .any], []⟩
def sx0_st_big_compare_0 : StSh := ⟨[.any, .any, .any, .any, .int .i64, .any, .any, .any, .any, .any, .any, .any, .any, .any, .any, .any, .any, .any, .any, .any, .any, .any, .any, .any, .any, .any, .any, .any, .any, .any, .any, .any, .any, .any, .any, .any, .any, .any, .any, .any, .any], []⟩
def sx1_st_big_compare_0 : StSh := ⟨[.any, .any, .any, .any, .any, .any, .any, .any, .any, .any, .any, .any, .any, .any, .any, .any, .any, .any, .any, .any, .any, .any, .any, .any, .any, .any, .any, .any, .any, .any, .any, .any, .any, .any, .any, .any, .any, .any, .any, .any, .any], []⟩
def hk_st_big_compare_0 (N_ : Nat) : List Atom → K → Bool := fun a_ κ => match a_ with
  | [.ints x_1, .ints y_1, .int i] => iterG N_ (st_big_compare_0 N_ x_1 y_1 (fun r0 => κ.ret (sx0_st_big_compare_0.build [.int r0])) (κ.ext 0 (sx1_st_big_compare_0.build []))) i
  | _ => false
def an_q125 (N_ : Nat) : Nat → Option Ann := fun b_ => cond (b_ == 0) (some ⟨⟨[0, 1, 5], [], []⟩, [(0, ⟨[], [], []⟩)], some ⟨[4], [], []⟩, some (mkHooks [(sh_st_big_compare_0, hk_st_big_compare_0 N_)])⟩) (none)
theorem eq_st_big_compare_0 (N_ : Nat) (κ : K) (x_1 : List Int) (y_1 : List Int) (i : Int) : iter N_ (fun s k => codeV ⟨Tryz.prog, ofList [], isref, N_⟩ 0 (an_q125 N_) (lp Tryz.prog 215 0).2 (lp Tryz.prog 215 0).1 s (roundK Tryz.prog 0 ((an_q125 N_) (lp Tryz.prog 215 0).1) κ k)) (sh_st_big_compare_0.build [.ints x_1, .ints y_1, .int i]) = iterG N_ (st_big_compare_0 N_ x_1 y_1 (fun r0 => κ.ret (sx0_st_big_compare_0.build [.int r0])) (κ.ext 0 (sx1_st_big_compare_0.build []))) i :=
  iter_tr (fun (v_ : Int) => sh_st_big_compare_0.build [.ints x_1, .ints y_1, .int v_]) (fun v_ K_ => by kernel_rfl) N_ i
theorem hk1_st_big_compare_0 (N_ : Nat) : HookFor ⟨Tryz.prog, ofList [], isref, N_⟩ 0 (an_q125 N_) (lp Tryz.prog 215 0) (sh_st_big_compare_0, hk_st_big_compare_0 N_) := by
  intro a κ h
  simp only at h
  unfold hk_st_big_compare_0 at h
  split at h
  · exact (eq_st_big_compare_0 _ _ _ _ _).trans h
  · cases h
theorem ho_big_compare_0 (N_ : Nat) : HookOk ⟨Tryz.prog, ofList [], isref, N_⟩ 0 (an_q125 N_) (lp Tryz.prog 215 0) :=
  hooks_ok [(sh_st_big_compare_0, hk_st_big_compare_0 N_)] (by kernel_rfl) ⟨hk1_st_big_compare_0 _, trivial⟩
theorem eq_q125 (N_ : Nat) (x : List Int) (y : List Int) (cont_ : V → List Blk → Bool) : bodyZ ⟨Tryz.prog, ofList [], isref, N_⟩ (an_q125 N_) 215 (shF_q125.args [.ints x, .ints y]) [] cont_ = G_q125 N_ x y (fun r0 => cont_ (.int .i64 r0) []) := by kernel_rfl
theorem good_q125 (N_ : Nat) : GoodF Tryz.prog 215 (F_q125 (G_q125 N_)) := by
  refine good_fsZ (cx := ⟨Tryz.prog, ofList [], isref, N_⟩) (ofList_nil _) shF_q125 (sp_q125 (G_q125 N_)) (an_q125 N_) 1 0 (by kernel_rfl) (fun i_ hi_ => by
    match i_, hi_ with
    | 0, _ => exact ho_big_compare_0 _
    | (q + 1), h => omega) ?_
  intro a k h
  unfold sp_q125 at h
  split at h
  · exact ⟨[], rfl, rfl, (eq_q125 _ _ _ _).trans h⟩
  · cases h


def sh_st_big_less_0 : StSh := ⟨[.roi .u64, .roi .u64, .any, .any, .any, .slw 0, .int .u64, .any, .any, .any, .any, .any, .int .i64, .int .i64, .any, .any, .any, .any, .any, .any, .any, .any, .any, .any, .any, .any, .any, .any, .any, .any, .any, .any, .any, .any], [some (41, 1, .ints .u64)]⟩
def sx0_st_big_less_0 : StSh := ⟨[.any, .any, .any, .any, .any, .slw 0, .any, .any, .any, .any, .any, .any, .any, .any, .any, .any, .any, .any, .any, .any, .any, .any, .any, .any, .any, .any, .any, .any, .any, .any, .any, .any, .any, .any], [some (41, 1, .ints .u64)]⟩
def hk_st_big_less_0 (N_ : Nat) (S_q18 : TS_q18) (S_q102 : TS_q102) (S_q0 : TS_q0) : List Atom → K → Bool := fun a_ κ => match a_ with
  | [.ints x_1, .ints y_1, .int borrow, .int t12, .int t13, .ints z] => iterG N_ (st_big_less_0 N_ S_q18 S_q102 S_q0 x_1 y_1 t12 (fun r0 => κ.ext 0 (sx0_st_big_less_0.build [.ints r0]))) (borrow, t13, z)
  | _ => false
def an_q169 (N_ : Nat) (S_q18 : TS_q18) (S_q102 : TS_q102) (S_q0 : TS_q0) : Nat → Option Ann := fun b_ => cond (b_ == 0) (some ⟨⟨[0, 1, 5, 6, 12, 13], [], []⟩, [(0, ⟨[5], [], []⟩)], some ⟨[4], [], []⟩, some (mkHooks [(sh_st_big_less_0, hk_st_big_less_0 N_ S_q18 S_q102 S_q0)])⟩) (none)
theorem eq_st_big_less_0 (N_ : Nat) (S_q18 : TS_q18) (S_q102 : TS_q102) (S_q0 : TS_q0) (κ : K) (x_1 : List Int) (y_1 : List Int) (borrow : Int) (t12 : Int) (t13 : Int) (z : List Int) : iter N_ (fun s k => codeV ⟨Tryz.prog, ofList [(205, (F_q18 S_q18)), (230, (F_q102 S_q102)), (202, (F_q0 S_q0))], isref, N_⟩ 0 (an_q169 N_ S_q18 S_q102 S_q0) (lp Tryz.prog 216 0).2 (lp Tryz.prog 216 0).1 s (roundK Tryz.prog 0 ((an_q169 N_ S_q18 S_q102 S_q0) (lp Tryz.prog 216 0).1) κ k)) (sh_st_big_less_0.build [.ints x_1, .ints y_1, .int borrow, .int t12, .int t13, .ints z]) = iterG N_ (st_big_less_0 N_ S_q18 S_q102 S_q0 x_1 y_1 t12 (fun r0 => κ.ext 0 (sx0_st_big_less_0.build [.ints r0]))) (borrow, t13, z) :=
  iter_tr (fun (v_ : Int × Int × List Int) => sh_st_big_less_0.build [.ints x_1, .ints y_1, .int v_.1, .int t12, .int v_.2.1, .ints v_.2.2]) (fun v_ K_ => by obtain ⟨borrow, t13, z⟩ := v_; kernel_rfl) N_ (borrow, t13, z)
theorem hk1_st_big_less_0 (N_ : Nat) (S_q18 : TS_q18) (S_q102 : TS_q102) (S_q0 : TS_q0) : HookFor ⟨Tryz.prog, ofList [(205, (F_q18 S_q18)), (230, (F_q102 S_q102)), (202, (F_q0 S_q0))], isref, N_⟩ 0 (an_q169 N_ S_q18 S_q102 S_q0) (lp Tryz.prog 216 0) (sh_st_big_less_0, hk_st_big_less_0 N_ S_q18 S_q102 S_q0) := by
  intro a κ h
  simp only at h
  unfold hk_st_big_less_0 at h
  split at h
  · exact (eq_st_big_less_0 _ _ _ _ _ _ _ _ _ _ _).trans h
  · cases h
theorem ho_big_less_0 (N_ : Nat) (S_q18 : TS_q18) (S_q102 : TS_q102) (S_q0 : TS_q0) : HookOk ⟨Tryz.prog, ofList [(205, (F_q18 S_q18)), (230, (F_q102 S_q102)), (202, (F_q0 S_q0))], isref, N_⟩ 0 (an_q169 N_ S_q18 S_q102 S_q0) (lp Tryz.prog 216 0) :=
  hooks_ok [(sh_st_big_less_0, hk_st_big_less_0 N_ S_q18 S_q102 S_q0)] (by kernel_rfl) ⟨hk1_st_big_less_0 _ _ _ _, trivial⟩
theorem eq_q169 (N_ : Nat) (S_q18 : TS_q18) (S_q102 : TS_q102) (S_q0 : TS_q0) (x : List Int) (y : List Int) (cont_ : V → List Blk → Bool) : bodyZ ⟨Tryz.prog, ofList [(205, (F_q18 S_q18)), (230, (F_q102 S_q102)), (202, (F_q0 S_q0))], isref, N_⟩ (an_q169 N_ S_q18 S_q102 S_q0) 216 (shF_q169.args [.ints x, .ints y]) [] cont_ = G_q169 N_ S_q18 S_q102 S_q0 x y (fun r0 => cont_ (.roi .u64 r0) []) := by kernel_rfl
theorem good_q169 (N_ : Nat) (S_q18 : TS_q18) (S_q102 : TS_q102) (S_q0 : TS_q0) (h_big_digit : GoodF Tryz.prog 205 (F_q18 S_q18)) (h_math_bits_Sub64 : GoodF Tryz.prog 230 (F_q102 S_q102)) (h_big_norm_w : GoodF Tryz.prog 202 (F_q0 S_q0)) : GoodF Tryz.prog 216 (F_q169 (G_q169 N_ S_q18 S_q102 S_q0)) := by
  refine good_fsZ (cx := ⟨Tryz.prog, ofList [(205, (F_q18 S_q18)), (230, (F_q102 S_q102)), (202, (F_q0 S_q0))], isref, N_⟩) (ofList_cons h_big_digit (ofList_cons h_math_bits_Sub64 (ofList_cons h_big_norm_w (ofList_nil _)))) shF_q169 (sp_q169 (G_q169 N_ S_q18 S_q102 S_q0)) (an_q169 N_ S_q18 S_q102 S_q0) 1 0 (by kernel_rfl) (fun i_ hi_ => by
    match i_, hi_ with
    | 0, _ => exact ho_big_less_0 _ _ _ _
    | (q + 1), h => omega) ?_
  intro a k h
  unfold sp_q169 at h
  split at h
  · exact ⟨[], rfl, rfl, (eq_q169 _ _ _ _ _ _ _).trans h⟩
  · cases h

def an_q63 (N_ : Nat) (S_q165 : TS_q165) (S_q1 : TS_q1) (S_q125 : TS_q125) (S_q169 : TS_q169) : Nat → Option Ann := fun b_ => none
theorem eq_q63 (N_ : Nat) (S_q165 : TS_q165) (S_q1 : TS_q1) (S_q125 : TS_q125) (S_q169 : TS_q169) (neg : Bool) (y : List Int) (b : Bool) (b_1 : Bool) (b_2 : List Int) (cont_ : V → List Blk → Bool) : bodyZ ⟨Tryz.prog, ofList [(201, (F_q165 S_q165)), (170, (F_q1 S_q1)), (215, (F_q125 S_q125)), (216, (F_q169 S_q169))], isref, N_⟩ (an_q63 N_ S_q165 S_q1 S_q125 S_q169) 191 (shF_q63.args [.bool neg, .ints y, .bool b, .bool b_1, .ints b_2]) [⟨164, 1, .cells [.bool b, .nil]⟩, ⟨164, 1, .cells [.bool b_1, .roi .u64 b_2]⟩] cont_ = G_q63 N_ S_q165 S_q1 S_q125 S_q169 neg y b b_1 b_2 (fun r0 r1 => cont_ (.ptr 0 0) [⟨164, 1, .cells [.bool r0, .roi .u64 r1]⟩, ⟨164, 1, .cells [.bool b_1, .roi .u64 b_2]⟩]) := by kernel_rfl
theorem good_q63 (N_ : Nat) (S_q165 : TS_q165) (S_q1 : TS_q1) (S_q125 : TS_q125) (S_q169 : TS_q169) (h_big_sum : GoodF Tryz.prog 201 (F_q165 S_q165)) (h_big_Int_made_p0n : GoodF Tryz.prog 170 (F_q1 S_q1)) (h_big_compare : GoodF Tryz.prog 215 (F_q125 S_q125)) (h_big_less : GoodF Tryz.prog 216 (F_q169 S_q169)) : GoodF Tryz.prog 191 (F_q63 (G_q63 N_ S_q165 S_q1 S_q125 S_q169)) := by
  refine good_fsZ (cx := ⟨Tryz.prog, ofList [(201, (F_q165 S_q165)), (170, (F_q1 S_q1)), (215, (F_q125 S_q125)), (216, (F_q169 S_q169))], isref, N_⟩) (ofList_cons h_big_sum (ofList_cons h_big_Int_made_p0n (ofList_cons h_big_compare (ofList_cons h_big_less (ofList_nil _))))) shF_q63 (sp_q63 (G_q63 N_ S_q165 S_q1 S_q125 S_q169)) (an_q63 N_ S_q165 S_q1 S_q125 S_q169) 0 2 (by kernel_rfl) (fun i_ hi_ => by omega) ?_
  intro a k h
  unfold sp_q63 at h
  split at h
  · exact ⟨[_, _], rfl, rfl, (eq_q63 _ _ _ _ _ _ _ _ _ _ _).trans h⟩
  · cases h

def an_q26 (N_ : Nat) (S_q63 : TS_q63) : Nat → Option Ann := fun b_ => none
theorem eq_q26 (N_ : Nat) (S_q63 : TS_q63) (b : Bool) (b_1 : Bool) (b_2 : List Int) (b_3 : Bool) (b_4 : List Int) (cont_ : V → List Blk → Bool) : bodyZ ⟨Tryz.prog, ofList [(191, (F_q63 S_q63))], isref, N_⟩ (an_q26 N_ S_q63) 158 (shF_q26.args [.bool b, .bool b_1, .ints b_2, .bool b_3, .ints b_4]) [⟨164, 1, .cells [.bool b, .nil]⟩, ⟨164, 1, .cells [.bool b_1, .roi .u64 b_2]⟩, ⟨164, 1, .cells [.bool b_3, .roi .u64 b_4]⟩] cont_ = G_q26 N_ S_q63 b b_1 b_2 b_3 b_4 (fun r0 r1 => cont_ (.ptr 0 0) [⟨164, 1, .cells [.bool r0, .roi .u64 r1]⟩, ⟨164, 1, .cells [.bool b_1, .roi .u64 b_2]⟩, ⟨164, 1, .cells [.bool b_3, .roi .u64 b_4]⟩]) := by kernel_rfl
theorem good_q26 (N_ : Nat) (S_q63 : TS_q63) (h_big_Int_plus_p0p1nr : GoodF Tryz.prog 191 (F_q63 S_q63)) : GoodF Tryz.prog 158 (F_q26 (G_q26 N_ S_q63)) := by
  refine good_fsZ (cx := ⟨Tryz.prog, ofList [(191, (F_q63 S_q63))], isref, N_⟩) (ofList_cons h_big_Int_plus_p0p1nr (ofList_nil _)) shF_q26 (sp_q26 (G_q26 N_ S_q63)) (an_q26 N_ S_q63) 0 3 (by kernel_rfl) (fun i_ hi_ => by omega) ?_
  intro a k h
  unfold sp_q26 at h
  split at h
  · exact ⟨[_, _, _], rfl, rfl, (eq_q26 _ _ _ _ _ _ _ _).trans h⟩
  · cases h

def an_q16 (N_ : Nat) (S_q79 : TS_q79) (S_q5 : TS_q5) (S_q32 : TS_q32) (S_q26 : TS_q26) : Nat → Option Ann := fun b_ => none
theorem eq_q16 (N_ : Nat) (S_q79 : TS_q79) (S_q5 : TS_q5) (S_q32 : TS_q32) (S_q26 : TS_q26) (x : Int) (y : Int) (b : Bool) (b_1 : Bool) (b_2 : List Int) (cont_ : V → List Blk → Bool) : bodyV ⟨Tryz.prog, ofList [(134, (orFs (F_q79 S_q79) (F_q5 S_q5) shF_q79)), (159, (F_q32 S_q32)), (158, (F_q26 S_q26))], isref, N_⟩ (an_q16 N_ S_q79 S_q5 S_q32 S_q26) 125 (shF_q16.args [.int x, .int y, .bool b, .bool b_1, .ints b_2]) [⟨164, 1, .cells [.bool b, .nil]⟩, ⟨164, 1, .cells [.bool b_1, .roi .u64 b_2]⟩] cont_ = G_q16 N_ S_q79 S_q5 S_q32 S_q26 x y b b_1 b_2 (fun r2 => cont_ (.agg [.ptr 1 0, .int .i64 y]) [⟨164, 1, .cells [.bool b, .roi .u64 r2]⟩, ⟨164, 1, .cells [.bool b_1, .roi .u64 b_2]⟩]) (fun r2 => cont_ (.agg [.ptr 0 0, .int .i64 x]) [⟨164, 1, .cells [.bool b, .roi .u64 r2]⟩, ⟨164, 1, .cells [.bool b_1, .roi .u64 b_2]⟩]) (fun r0 r2 r5 r6 => cont_ (.agg [.ptr 2 0, .int .i64 r0]) [⟨164, 1, .cells [.bool b, .roi .u64 r2]⟩, ⟨164, 1, .cells [.bool b_1, .roi .u64 b_2]⟩, ⟨164, 1, .cells [.bool r5, .roi .u64 r6]⟩]) := by kernel_rfl
theorem good_q16 (N_ : Nat) (S_q79 : TS_q79) (S_q5 : TS_q5) (S_q32 : TS_q32) (S_q26 : TS_q26) (h_big_Int_Sign_p0n : GoodF Tryz.prog 134 (F_q79 S_q79)) (h_big_Int_Sign_p0r : GoodF Tryz.prog 134 (F_q5 S_q5)) (h_v_dyad_exact_at_p0r : GoodF Tryz.prog 159 (F_q32 S_q32)) (h_big_Int_Add_p0p1p2nrr : GoodF Tryz.prog 158 (F_q26 S_q26)) : GoodF Tryz.prog 125 (F_q16 (G_q16 N_ S_q79 S_q5 S_q32 S_q26)) := by
  refine good_fs (cx := ⟨Tryz.prog, ofList [(134, (orFs (F_q79 S_q79) (F_q5 S_q5) shF_q79)), (159, (F_q32 S_q32)), (158, (F_q26 S_q26))], isref, N_⟩) (ofList_cons (good_or h_big_Int_Sign_p0n h_big_Int_Sign_p0r) (ofList_cons h_v_dyad_exact_at_p0r (ofList_cons h_big_Int_Add_p0p1p2nrr (ofList_nil _)))) shF_q16 (sp_q16 (G_q16 N_ S_q79 S_q5 S_q32 S_q26)) (an_q16 N_ S_q79 S_q5 S_q32 S_q26) 0 2 (by kernel_rfl) (fun i_ hi_ => by omega) ?_
  intro a k h
  unfold sp_q16 at h
  split at h
  · exact ⟨[_, _], rfl, rfl, (eq_q16 _ _ _ _ _ _ _ _ _ _ _).trans h⟩
  · cases h

def an_q3 (N_ : Nat) (S_q5 : TS_q5) (S_q32 : TS_q32) (S_q26 : TS_q26) : Nat → Option Ann := fun b_ => none
theorem eq_q3 (N_ : Nat) (S_q5 : TS_q5) (S_q32 : TS_q32) (S_q26 : TS_q26) (x : Int) (y : Int) (b : Bool) (b_1 : List Int) (b_2 : Bool) (b_3 : List Int) (cont_ : V → List Blk → Bool) : bodyV ⟨Tryz.prog, ofList [(134, (F_q5 S_q5)), (159, (F_q32 S_q32)), (158, (F_q26 S_q26))], isref, N_⟩ (an_q3 N_ S_q5 S_q32 S_q26) 125 (shF_q3.args [.int x, .int y, .bool b, .ints b_1, .bool b_2, .ints b_3]) [⟨164, 1, .cells [.bool b, .roi .u64 b_1]⟩, ⟨164, 1, .cells [.bool b_2, .roi .u64 b_3]⟩] cont_ = G_q3 N_ S_q5 S_q32 S_q26 x y b b_1 b_2 b_3 (cont_ (.agg [.ptr 1 0, .int .i64 y]) [⟨164, 1, .cells [.bool b, .roi .u64 b_1]⟩, ⟨164, 1, .cells [.bool b_2, .roi .u64 b_3]⟩]) (cont_ (.agg [.ptr 0 0, .int .i64 x]) [⟨164, 1, .cells [.bool b, .roi .u64 b_1]⟩, ⟨164, 1, .cells [.bool b_2, .roi .u64 b_3]⟩]) (fun r0 r5 r6 => cont_ (.agg [.ptr 2 0, .int .i64 r0]) [⟨164, 1, .cells [.bool b, .roi .u64 b_1]⟩, ⟨164, 1, .cells [.bool b_2, .roi .u64 b_3]⟩, ⟨164, 1, .cells [.bool r5, .roi .u64 r6]⟩]) := by kernel_rfl
theorem good_q3 (N_ : Nat) (S_q5 : TS_q5) (S_q32 : TS_q32) (S_q26 : TS_q26) (h_big_Int_Sign_p0r : GoodF Tryz.prog 134 (F_q5 S_q5)) (h_v_dyad_exact_at_p0r : GoodF Tryz.prog 159 (F_q32 S_q32)) (h_big_Int_Add_p0p1p2nrr : GoodF Tryz.prog 158 (F_q26 S_q26)) : GoodF Tryz.prog 125 (F_q3 (G_q3 N_ S_q5 S_q32 S_q26)) := by
  refine good_fs (cx := ⟨Tryz.prog, ofList [(134, (F_q5 S_q5)), (159, (F_q32 S_q32)), (158, (F_q26 S_q26))], isref, N_⟩) (ofList_cons h_big_Int_Sign_p0r (ofList_cons h_v_dyad_exact_at_p0r (ofList_cons h_big_Int_Add_p0p1p2nrr (ofList_nil _)))) shF_q3 (sp_q3 (G_q3 N_ S_q5 S_q32 S_q26)) (an_q3 N_ S_q5 S_q32 S_q26) 0 2 (by kernel_rfl) (fun i_ hi_ => by omega) ?_
  intro a k h
  unfold sp_q3 at h
  split at h
  · exact ⟨[_, _], rfl, rfl, (eq_q3 _ _ _ _ _ _ _ _ _ _ _).trans h⟩
  · cases h

def an_q36 (N_ : Nat) (S_q82 : TS_q82) (S_q1 : TS_q1) : Nat → Option Ann := fun b_ => none
theorem eq_q36 (N_ : Nat) (S_q82 : TS_q82) (S_q1 : TS_q1) (b : Bool) (b_1 : Bool) (b_2 : List Int) (cont_ : V → List Blk → Bool) : bodyZ ⟨Tryz.prog, ofList [(171, (F_q82 S_q82)), (170, (F_q1 S_q1))], isref, N_⟩ (an_q36 N_ S_q82 S_q1) 195 (shF_q36.args [.bool b, .bool b_1, .ints b_2]) [⟨164, 1, .cells [.bool b, .nil]⟩, ⟨164, 1, .cells [.bool b_1, .roi .u64 b_2]⟩] cont_ = G_q36 N_ S_q82 S_q1 b b_1 b_2 (fun r0 r1 => cont_ (.ptr 0 0) [⟨164, 1, .cells [.bool r0, .roi .u64 r1]⟩, ⟨164, 1, .cells [.bool b_1, .roi .u64 b_2]⟩]) := by kernel_rfl
theorem good_q36 (N_ : Nat) (S_q82 : TS_q82) (S_q1 : TS_q1) (h_big_clone : GoodF Tryz.prog 171 (F_q82 S_q82)) (h_big_Int_made_p0n : GoodF Tryz.prog 170 (F_q1 S_q1)) : GoodF Tryz.prog 195 (F_q36 (G_q36 N_ S_q82 S_q1)) := by
  refine good_fsZ (cx := ⟨Tryz.prog, ofList [(171, (F_q82 S_q82)), (170, (F_q1 S_q1))], isref, N_⟩) (ofList_cons h_big_clone (ofList_cons h_big_Int_made_p0n (ofList_nil _))) shF_q36 (sp_q36 (G_q36 N_ S_q82 S_q1)) (an_q36 N_ S_q82 S_q1) 0 2 (by kernel_rfl) (fun i_ hi_ => by omega) ?_
  intro a k h
  unfold sp_q36 at h
  split at h
  · exact ⟨[_, _], rfl, rfl, (eq_q36 _ _ _ _ _ _ _).trans h⟩
  · cases h

def an_q57 (N_ : Nat) (S_q18 : TS_q18) : Nat → Option Ann := fun b_ => none
theorem eq_q57 (N_ : Nat) (S_q18 : TS_q18) (i : Int) (b : Bool) (b_1 : List Int) (cont_ : V → List Blk → Bool) : bodyZ ⟨Tryz.prog, ofList [(205, (F_q18 S_q18))], isref, N_⟩ (an_q57 N_ S_q18) 196 (shF_q57.args [.int i, .bool b, .ints b_1]) [⟨164, 1, .cells [.bool b, .roi .u64 b_1]⟩] cont_ = G_q57 N_ S_q18 i b b_1 (fun r0 => cont_ (.int .u64 r0) [⟨164, 1, .cells [.bool b, .roi .u64 b_1]⟩]) := by kernel_rfl
theorem good_q57 (N_ : Nat) (S_q18 : TS_q18) (h_big_digit : GoodF Tryz.prog 205 (F_q18 S_q18)) : GoodF Tryz.prog 196 (F_q57 (G_q57 N_ S_q18)) := by
  refine good_fsZ (cx := ⟨Tryz.prog, ofList [(205, (F_q18 S_q18))], isref, N_⟩) (ofList_cons h_big_digit (ofList_nil _)) shF_q57 (sp_q57 (G_q57 N_ S_q18)) (an_q57 N_ S_q18) 0 1 (by kernel_rfl) (fun i_ hi_ => by omega) ?_
  intro a k h
  unfold sp_q57 at h
  split at h
  · exact ⟨[_], rfl, rfl, (eq_q57 _ _ _ _ _ _).trans h⟩
  · cases h

def sh_st_big_Int_TrailingZeroBits_p0r_0 : StSh := ⟨[.any, .any, .any, .any, .any, .any, .any, .any, .roi .u64, .int .i64, .int .i64, .any, .any, .any, .any, .any, .any, .any, .any, .any, .any, .any, .any, .any], [some (164, 1, .cells [.bool, .roi .u64])]⟩
def sx0_st_big_Int_TrailingZeroBits_p0r_0 : StSh := ⟨[.any, .any, .int .u64, .any, .any, .any, .any, .any, .any, .any, .any, .any, .any, .any, .any, .any, .any, .any, .any, .any, .any, .any, .any, .any], [some (164, 1, .cells [.bool, .roi .u64])]⟩
def sx1_st_big_Int_TrailingZeroBits_p0r_0 : StSh := ⟨[.any, .any, .any, .any, .any, .any, .any, .any, .any, .any, .any, .any, .any, .any, .any, .any, .any, .any, .any, .any, .any, .any, .any, .any], [some (164, 1, .cells [.bool, .roi .u64])]⟩
def hk_st_big_Int_TrailingZeroBits_p0r_0 (N_ : Nat) (S_q8 : TS_q8) : List Atom → K → Bool := fun a_ κ => match a_ with
  | [.ints t8, .int t9, .int t10, .bool b0, .ints b0_1] => iterG N_ (st_q199 N_ S_q8 t8 t9 b0 b0_1 (fun r0 => κ.ret (sx0_st_big_Int_TrailingZeroBits_p0r_0.build [.int r0, .bool b0, .ints b0_1])) (κ.ext 0 (sx1_st_big_Int_TrailingZeroBits_p0r_0.build [.bool b0, .ints b0_1]))) t10
  | _ => false
def an_q11 (N_ : Nat) (S_q8 : TS_q8) : Nat → Option Ann := fun b_ => cond (b_ == 0) (some ⟨⟨[8, 9, 10], [], []⟩, [(0, ⟨[], [], []⟩)], some ⟨[2], [], []⟩, some (mkHooks [(sh_st_big_Int_TrailingZeroBits_p0r_0, hk_st_big_Int_TrailingZeroBits_p0r_0 N_ S_q8)])⟩) (none)
theorem eq_st_big_Int_TrailingZeroBits_p0r_0 (N_ : Nat) (S_q8 : TS_q8) (κ : K) (t8 : List Int) (t9 : Int) (t10 : Int) (b0 : Bool) (b0_1 : List Int) : iter N_ (fun s k => codeV ⟨Tryz.prog, ofList [(218, (F_q8 S_q8))], isref, N_⟩ 1 (an_q11 N_ S_q8) (lp Tryz.prog 197 0).2 (lp Tryz.prog 197 0).1 s (roundK Tryz.prog 1 ((an_q11 N_ S_q8) (lp Tryz.prog 197 0).1) κ k)) (sh_st_big_Int_TrailingZeroBits_p0r_0.build [.ints t8, .int t9, .int t10, .bool b0, .ints b0_1]) = iterG N_ (st_q199 N_ S_q8 t8 t9 b0 b0_1 (fun r0 => κ.ret (sx0_st_big_Int_TrailingZeroBits_p0r_0.build [.int r0, .bool b0, .ints b0_1])) (κ.ext 0 (sx1_st_big_Int_TrailingZeroBits_p0r_0.build [.bool b0, .ints b0_1]))) t10 :=
  iter_tr (fun (v_ : Int) => sh_st_big_Int_TrailingZeroBits_p0r_0.build [.ints t8, .int t9, .int v_, .bool b0, .ints b0_1]) (fun v_ K_ => by kernel_rfl) N_ t10
theorem hk1_st_big_Int_TrailingZeroBits_p0r_0 (N_ : Nat) (S_q8 : TS_q8) : HookFor ⟨Tryz.prog, ofList [(218, (F_q8 S_q8))], isref, N_⟩ 1 (an_q11 N_ S_q8) (lp Tryz.prog 197 0) (sh_st_big_Int_TrailingZeroBits_p0r_0, hk_st_big_Int_TrailingZeroBits_p0r_0 N_ S_q8) := by
  intro a κ h
  simp only at h
  unfold hk_st_big_Int_TrailingZeroBits_p0r_0 at h
  split at h
  · exact (eq_st_big_Int_TrailingZeroBits_p0r_0 _ _ _ _ _ _ _ _).trans h
  · cases h
theorem ho_big_Int_TrailingZeroBits_p0r_0 (N_ : Nat) (S_q8 : TS_q8) : HookOk ⟨Tryz.prog, ofList [(218, (F_q8 S_q8))], isref, N_⟩ 1 (an_q11 N_ S_q8) (lp Tryz.prog 197 0) :=
  hooks_ok [(sh_st_big_Int_TrailingZeroBits_p0r_0, hk_st_big_Int_TrailingZeroBits_p0r_0 N_ S_q8)] (by kernel_rfl) ⟨hk1_st_big_Int_TrailingZeroBits_p0r_0 _ _, trivial⟩
theorem eq_q11 (N_ : Nat) (S_q8 : TS_q8) (b : Bool) (b_1 : List Int) (cont_ : V → List Blk → Bool) : bodyZ ⟨Tryz.prog, ofList [(218, (F_q8 S_q8))], isref, N_⟩ (an_q11 N_ S_q8) 197 (shF_q11.args [.bool b, .ints b_1]) [⟨164, 1, .cells [.bool b, .roi .u64 b_1]⟩] cont_ = G_q11 N_ S_q8 b b_1 (fun r0 => cont_ (.int .u64 r0) [⟨164, 1, .cells [.bool b, .roi .u64 b_1]⟩]) := by kernel_rfl
theorem good_q11 (N_ : Nat) (S_q8 : TS_q8) (h_math_bits_TrailingZeros64 : GoodF Tryz.prog 218 (F_q8 S_q8)) : GoodF Tryz.prog 197 (F_q11 (G_q11 N_ S_q8)) := by
  refine good_fsZ (cx := ⟨Tryz.prog, ofList [(218, (F_q8 S_q8))], isref, N_⟩) (ofList_cons h_math_bits_TrailingZeros64 (ofList_nil _)) shF_q11 (sp_q11 (G_q11 N_ S_q8)) (an_q11 N_ S_q8) 1 1 (by kernel_rfl) (fun i_ hi_ => by
    match i_, hi_ with
    | 0, _ => exact ho_big_Int_TrailingZeroBits_p0r_0 _ _
    | (q + 1), h => omega) ?_
  intro a k h
  unfold sp_q11 at h
  split at h
  · exact ⟨[_], rfl, rfl, (eq_q11 _ _ _ _ _).trans h⟩
  · cases h

def sh_st_big_right_0 : StSh := ⟨[.roi .u64, .any, .any, .any, .any, .any, .int .i64, .int .u64, .int .u64, .any, .any, .any, .any, .any, .any, .any, .any, .any, .any, .any, .any, .any, .any, .any, .any, .any, .any, .any, .any, .any, .any, .any, .any, .any, .any, .any, .any, .roi .u64, .int .i64, .int .i64, .any, .any, .any, .any, .any, .any, .any, .any, .any, .any, .any, .any, .any, .any, .any, .any, .any, .any, .any, .any, .any, .any, .any, .any, .any, .any, .any, .any, .any, .any, .any, .any, .any, .any, .any, .any, .any, .any, .any, .any, .any, .any], []⟩
def sx0_st_big_right_0 : StSh := ⟨[.roi .u64, .any, .any, .any, .any, .any, .int .i64, .int .u64, .int .u64, .any, .any, .any, .any, .any, .any, .any, .any, .any, .any, .any, .any, .any, .any, .any, .any, .any, .any, .any, .any, .any, .any, .any, .any, .any, .any, .any, .any, .any, .any, .any, .any, .any, .any, .any, .any, .any, .any, .any, .any, .any, .any, .any, .any, .any, .any, .any, .any, .any, .any, .any, .any, .any, .any, .any, .any, .any, .any, .any, .any, .any, .any, .any, .any, .any, .any, .any, .any, .any, .any, .any, .any, .any], []⟩
def hk_st_big_right_0 (N_ : Nat) (S_q18 : TS_q18) (S_q0 : TS_q0) : List Atom → K → Bool := fun a_ κ => match a_ with
  | [.ints x_1, .int words, .int rest, .int lost, .ints t37, .int t38, .int t39] => iterG N_ (st_big_right_0 N_ S_q18 S_q0 x_1 words rest t37 t38 (fun r3 => κ.ext 0 (sx0_st_big_right_0.build [.ints x_1, .int words, .int rest, .int r3]))) (lost, t39)
  | _ => false
def sh_st_big_right_2 : StSh := ⟨[.roi .u64, .any, .any, .any, .any, .any, .int .i64, .int .u64, .int .u64, .any, .any, .slw 0, .any, .any, .any, .any, .any, .any, .any, .any, .any, .any, .any, .any, .any, .any, .any, .any, .any, .any, .any, .any, .any, .any, .any, .any, .any, .any, .any, .any, .any, .any, .any, .any, .any, .any, .any, .any, .any, .any, .any, .any, .any, .int .i64, .int .i64, .any, .any, .any, .any, .any, .any, .any, .any, .any, .any, .any, .any, .any, .any, .any, .any, .any, .any, .any, .any, .any, .any, .any, .any, .any, .any, .any], [some (41, 1, .ints .u64)]⟩
def sx0_st_big_right_2 : StSh := ⟨[.any, .any, .any, .any, .any, .any, .any, .any, .int .u64, .any, .any, .slw 0, .any, .any, .any, .any, .any, .any, .any, .any, .any, .any, .any, .any, .any, .any, .any, .any, .any, .any, .any, .any, .any, .any, .any, .any, .any, .any, .any, .any, .any, .any, .any, .any, .any, .any, .any, .any, .any, .any, .any, .any, .any, .any, .any, .any, .any, .any, .any, .any, .any, .any, .any, .any, .any, .any, .any, .any, .any, .any, .any, .any, .any, .any, .any, .any, .any, .any, .any, .any, .any, .any], [some (41, 1, .ints .u64)]⟩
def hk_st_big_right_2 (N_ : Nat) (S_q18 : TS_q18) (S_q0 : TS_q0) : List Atom → K → Bool := fun a_ κ => match a_ with
  | [.ints x_2, .int words_1, .int rest_1, .int lost_2, .int t53, .int t54, .ints z] => iterG N_ (st_big_right_2 N_ S_q18 S_q0 x_2 words_1 rest_1 lost_2 t53 (fun r1 => κ.ext 2 (sx0_st_big_right_2.build [.int lost_2, .ints r1]))) (t54, z)
  | _ => false
def an_q145 (N_ : Nat) (S_q18 : TS_q18) (S_q0 : TS_q0) : Nat → Option Ann := fun b_ => cond (b_ == 0) (some ⟨⟨[0, 6, 7, 8, 37, 38, 39], [], []⟩, [(0, ⟨[0, 6, 7, 8], [], []⟩)], some ⟨[4, 5], [], []⟩, some (mkHooks [(sh_st_big_right_0, hk_st_big_right_0 N_ S_q18 S_q0)])⟩) (cond (b_ == 2) (some ⟨⟨[0, 6, 7, 8, 11, 53, 54], [], []⟩, [(2, ⟨[8, 11], [], []⟩)], some ⟨[4, 5], [], []⟩, some (mkHooks [(sh_st_big_right_2, hk_st_big_right_2 N_ S_q18 S_q0)])⟩) (none))
theorem eq_st_big_right_0 (N_ : Nat) (S_q18 : TS_q18) (S_q0 : TS_q0) (κ : K) (x_1 : List Int) (words : Int) (rest : Int) (lost : Int) (t37 : List Int) (t38 : Int) (t39 : Int) : iter N_ (fun s k => codeV ⟨Tryz.prog, ofList [(205, (F_q18 S_q18)), (202, (F_q0 S_q0))], isref, N_⟩ 0 (an_q145 N_ S_q18 S_q0) (lp Tryz.prog 200 0).2 (lp Tryz.prog 200 0).1 s (roundK Tryz.prog 0 ((an_q145 N_ S_q18 S_q0) (lp Tryz.prog 200 0).1) κ k)) (sh_st_big_right_0.build [.ints x_1, .int words, .int rest, .int lost, .ints t37, .int t38, .int t39]) = iterG N_ (st_big_right_0 N_ S_q18 S_q0 x_1 words rest t37 t38 (fun r3 => κ.ext 0 (sx0_st_big_right_0.build [.ints x_1, .int words, .int rest, .int r3]))) (lost, t39) :=
  iter_tr (fun (v_ : Int × Int) => sh_st_big_right_0.build [.ints x_1, .int words, .int rest, .int v_.1, .ints t37, .int t38, .int v_.2]) (fun v_ K_ => by obtain ⟨lost, t39⟩ := v_; kernel_rfl) N_ (lost, t39)
theorem hk1_st_big_right_0 (N_ : Nat) (S_q18 : TS_q18) (S_q0 : TS_q0) : HookFor ⟨Tryz.prog, ofList [(205, (F_q18 S_q18)), (202, (F_q0 S_q0))], isref, N_⟩ 0 (an_q145 N_ S_q18 S_q0) (lp Tryz.prog 200 0) (sh_st_big_right_0, hk_st_big_right_0 N_ S_q18 S_q0) := by
  intro a κ h
  simp only at h
  unfold hk_st_big_right_0 at h
  split at h
  · exact (eq_st_big_right_0 _ _ _ _ _ _ _ _ _ _ _).trans h
  · cases h
theorem eq_st_big_right_2 (N_ : Nat) (S_q18 : TS_q18) (S_q0 : TS_q0) (κ : K) (x_2 : List Int) (words_1 : Int) (rest_1 : Int) (lost_2 : Int) (t53 : Int) (t54 : Int) (z : List Int) : iter N_ (fun s k => codeV ⟨Tryz.prog, ofList [(205, (F_q18 S_q18)), (202, (F_q0 S_q0))], isref, N_⟩ 0 (an_q145 N_ S_q18 S_q0) (lp Tryz.prog 200 1).2 (lp Tryz.prog 200 1).1 s (roundK Tryz.prog 0 ((an_q145 N_ S_q18 S_q0) (lp Tryz.prog 200 1).1) κ k)) (sh_st_big_right_2.build [.ints x_2, .int words_1, .int rest_1, .int lost_2, .int t53, .int t54, .ints z]) = iterG N_ (st_big_right_2 N_ S_q18 S_q0 x_2 words_1 rest_1 lost_2 t53 (fun r1 => κ.ext 2 (sx0_st_big_right_2.build [.int lost_2, .ints r1]))) (t54, z) :=
  iter_tr (fun (v_ : Int × List Int) => sh_st_big_right_2.build [.ints x_2, .int words_1, .int rest_1, .int lost_2, .int t53, .int v_.1, .ints v_.2]) (fun v_ K_ => by obtain ⟨t54, z⟩ := v_; kernel_rfl) N_ (t54, z)
theorem hk1_st_big_right_2 (N_ : Nat) (S_q18 : TS_q18) (S_q0 : TS_q0) : HookFor ⟨Tryz.prog, ofList [(205, (F_q18 S_q18)), (202, (F_q0 S_q0))], isref, N_⟩ 0 (an_q145 N_ S_q18 S_q0) (lp Tryz.prog 200 1) (sh_st_big_right_2, hk_st_big_right_2 N_ S_q18 S_q0) := by
  intro a κ h
  simp only at h
  unfold hk_st_big_right_2 at h
  split at h
  · exact (eq_st_big_right_2 _ _ _ _ _ _ _ _ _ _ _).trans h
  · cases h
theorem ho_big_right_0 (N_ : Nat) (S_q18 : TS_q18) (S_q0 : TS_q0) : HookOk ⟨Tryz.prog, ofList [(205, (F_q18 S_q18)), (202, (F_q0 S_q0))], isref, N_⟩ 0 (an_q145 N_ S_q18 S_q0) (lp Tryz.prog 200 0) :=
  hooks_ok [(sh_st_big_right_0, hk_st_big_right_0 N_ S_q18 S_q0)] (by kernel_rfl) ⟨hk1_st_big_right_0 _ _ _, trivial⟩
theorem ho_big_right_2 (N_ : Nat) (S_q18 : TS_q18) (S_q0 : TS_q0) : HookOk ⟨Tryz.prog, ofList [(205, (F_q18 S_q18)), (202, (F_q0 S_q0))], isref, N_⟩ 0 (an_q145 N_ S_q18 S_q0) (lp Tryz.prog 200 1) :=
  hooks_ok [(sh_st_big_right_2, hk_st_big_right_2 N_ S_q18 S_q0)] (by kernel_rfl) ⟨hk1_st_big_right_2 _ _ _, trivial⟩
theorem eq_q145 (N_ : Nat) (S_q18 : TS_q18) (S_q0 : TS_q0) (x : List Int) (n : Int) (cont_ : V → List Blk → Bool) : bodyZ ⟨Tryz.prog, ofList [(205, (F_q18 S_q18)), (202, (F_q0 S_q0))], isref, N_⟩ (an_q145 N_ S_q18 S_q0) 200 (shF_q145.args [.ints x, .int n]) [] cont_ = G_q145 N_ S_q18 S_q0 x n (fun r0 r1 => cont_ (.tup [.roi .u64 r0, .bool r1]) []) := by kernel_rfl
theorem good_q145 (N_ : Nat) (S_q18 : TS_q18) (S_q0 : TS_q0) (h_big_digit : GoodF Tryz.prog 205 (F_q18 S_q18)) (h_big_norm_w : GoodF Tryz.prog 202 (F_q0 S_q0)) : GoodF Tryz.prog 200 (F_q145 (G_q145 N_ S_q18 S_q0)) := by
  refine good_fsZ (cx := ⟨Tryz.prog, ofList [(205, (F_q18 S_q18)), (202, (F_q0 S_q0))], isref, N_⟩) (ofList_cons h_big_digit (ofList_cons h_big_norm_w (ofList_nil _))) shF_q145 (sp_q145 (G_q145 N_ S_q18 S_q0)) (an_q145 N_ S_q18 S_q0) 2 0 (by kernel_rfl) (fun i_ hi_ => by
    match i_, hi_ with
    | 0, _ => exact ho_big_right_0 _ _ _
    | 1, _ => exact ho_big_right_2 _ _ _
    | (q + 2), h => omega) ?_
  intro a k h
  unfold sp_q145 at h
  split at h
  · exact ⟨[], rfl, rfl, (eq_q145 _ _ _ _ _ _).trans h⟩
  · cases h

def an_q15 (N_ : Nat) (S_q145 : TS_q145) (S_q165 : TS_q165) (S_q30 : TS_q30) : Nat → Option Ann := fun b_ => none
theorem eq_q15 (N_ : Nat) (S_q145 : TS_q145) (S_q165 : TS_q165) (S_q30 : TS_q30) (n : Int) (b : Bool) (b_1 : List Int) (cont_ : V → List Blk → Bool) : bodyZ ⟨Tryz.prog, ofList [(200, (F_q145 S_q145)), (201, (F_q165 S_q165)), (170, (F_q30 S_q30))], isref, N_⟩ (an_q15 N_ S_q145 S_q165 S_q30) 167 (shF_q15.args [.int n, .bool b, .ints b_1]) [⟨164, 1, .cells [.bool b, .roi .u64 b_1]⟩] cont_ = G_q15 N_ S_q145 S_q165 S_q30 n b b_1 (fun r0 r1 => cont_ (.ptr 0 0) [⟨164, 1, .cells [.bool r0, .roi .u64 r1]⟩]) := by kernel_rfl
theorem good_q15 (N_ : Nat) (S_q145 : TS_q145) (S_q165 : TS_q165) (S_q30 : TS_q30) (h_big_right : GoodF Tryz.prog 200 (F_q145 S_q145)) (h_big_sum : GoodF Tryz.prog 201 (F_q165 S_q165)) (h_big_Int_made_p0r : GoodF Tryz.prog 170 (F_q30 S_q30)) : GoodF Tryz.prog 167 (F_q15 (G_q15 N_ S_q145 S_q165 S_q30)) := by
  refine good_fsZ (cx := ⟨Tryz.prog, ofList [(200, (F_q145 S_q145)), (201, (F_q165 S_q165)), (170, (F_q30 S_q30))], isref, N_⟩) (ofList_cons h_big_right (ofList_cons h_big_sum (ofList_cons h_big_Int_made_p0r (ofList_nil _)))) shF_q15 (sp_q15 (G_q15 N_ S_q145 S_q165 S_q30)) (an_q15 N_ S_q145 S_q165 S_q30) 0 1 (by kernel_rfl) (fun i_ hi_ => by omega) ?_
  intro a k h
  unfold sp_q15 at h
  split at h
  · exact ⟨[_], rfl, rfl, (eq_q15 _ _ _ _ _ _ _ _).trans h⟩
  · cases h

end Go.Proofs.YtccocdgimamdhaaGreatDoor
