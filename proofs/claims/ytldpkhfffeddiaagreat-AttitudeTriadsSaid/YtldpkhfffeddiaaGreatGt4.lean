/-
  THE TIES: each printed meaning is what the program does (written by program).
  Conditions: none.
-/
import Derived.Test.YtldpkhfffeddiaaGreatGs
namespace Go.Proofs.YtldpkhfffeddiaaGreat
open Go Go.Mach Go.Proofs
set_option linter.unusedVariables false
set_option maxRecDepth 50000

def an_q53 (N_ : Nat) (S_q104 : TS_q104) (S_q47 : TS_q47) (S_q94 : TS_q94) (S_q99 : TS_q99) (S_q82 : TS_q82) : Nat → Option Ann := fun b_ => none
theorem eq_q53 (N_ : Nat) (S_q104 : TS_q104) (S_q47 : TS_q47) (S_q94 : TS_q94) (S_q99 : TS_q99) (S_q82 : TS_q82) (n_0 : Int) (n_1 : Bool) (n_2 : Int) (b : Bool) (b_1 : List Int) (cont_ : V → List Blk → Bool) : bodyV ⟨Tryz.prog, ofList [(205, (F_q104 S_q104)), (206, (F_q47 S_q47)), (207, (F_q94 S_q94)), (208, (F_q99 S_q99)), (209, (F_q82 S_q82))], isref, N_⟩ (an_q53 N_ S_q104 S_q47 S_q94 S_q99 S_q82) 197 (shF_q53.args [.int n_0, .bool n_1, .int n_2, .bool b, .ints b_1]) [⟨243, 1, .cells [.bool b, .roi .u32 b_1]⟩] cont_ = G_q53 N_ S_q104 S_q47 S_q94 S_q99 S_q82 n_0 n_1 n_2 b b_1 (fun r0 r1 => cont_ (.tup [.int .u64 r0, .int .i64 r1]) [⟨243, 1, .cells [.bool b, .roi .u32 b_1]⟩]) := by kernel_rfl
theorem good_q53 (N_ : Nat) (S_q104 : TS_q104) (S_q47 : TS_q47) (S_q94 : TS_q94) (S_q99 : TS_q99) (S_q82 : TS_q82) (h_v_binnacleref02_Fmt_None : GoodF Tryz.prog 205 (F_q104 S_q104)) (h_v_binnacleref02_Fmt_Infinity : GoodF Tryz.prog 206 (F_q47 S_q47)) (h_v_binnacleref02_Num_IsZero : GoodF Tryz.prog 207 (F_q94 S_q94)) (h_v_binnacleref02_Fmt_Nought : GoodF Tryz.prog 208 (F_q99 S_q99)) (h_v_binnacleref02_Fmt_Round : GoodF Tryz.prog 209 (F_q82 S_q82)) : GoodF Tryz.prog 197 (F_q53 (G_q53 N_ S_q104 S_q47 S_q94 S_q99 S_q82)) := by
  refine good_fs (cx := ⟨Tryz.prog, ofList [(205, (F_q104 S_q104)), (206, (F_q47 S_q47)), (207, (F_q94 S_q94)), (208, (F_q99 S_q99)), (209, (F_q82 S_q82))], isref, N_⟩) (ofList_cons h_v_binnacleref02_Fmt_None (ofList_cons h_v_binnacleref02_Fmt_Infinity (ofList_cons h_v_binnacleref02_Num_IsZero (ofList_cons h_v_binnacleref02_Fmt_Nought (ofList_cons h_v_binnacleref02_Fmt_Round (ofList_nil _)))))) shF_q53 (sp_q53 (G_q53 N_ S_q104 S_q47 S_q94 S_q99 S_q82)) (an_q53 N_ S_q104 S_q47 S_q94 S_q99 S_q82) 0 1 (by kernel_rfl) (fun i_ hi_ => by omega) ?_
  intro a k h
  unfold sp_q53 at h
  split at h
  · exact ⟨[_], rfl, rfl, (eq_q53 _ _ _ _ _ _ _ _ _ _ _ _).trans h⟩
  · cases h

def an_q83 (N_ : Nat) (S_q60 : TS_q60) (S_q40 : TS_q40) (S_q86 : TS_q86) (S_q90 : TS_q90) (S_q53 : TS_q53) : Nat → Option Ann := fun b_ => none
def ls_q124 (ds_ : List V) (ms_ : List (Option Blk)) (x : Int) (k_ : Int) (b0_1 : Bool) (b0_2 : List Int) (n : Int) (n_1 : Bool) (n_2 : Int) : St := ⟨[(dq ds_ 0), (dq ds_ 1), .int .i64 0, (dq ds_ 2), (dq ds_ 3), (dq ds_ 4), (dq ds_ 5), (dq ds_ 6), (dq ds_ 7), .ptr 1 0, (dq ds_ 8), (dq ds_ 9), (dq ds_ 10), (dq ds_ 11), (dq ds_ 12), (dq ds_ 13), (dq ds_ 14), (dq ds_ 15), (dq ds_ 16), (dq ds_ 17), (dq ds_ 18), (dq ds_ 19), (dq ds_ 20), (dq ds_ 21), (dq ds_ 22), (dq ds_ 23), (dq ds_ 24), (dq ds_ 25), (dq ds_ 26), (dq ds_ 27), (dq ds_ 28), (dq ds_ 29), (dq ds_ 30), (dq ds_ 31), (dq ds_ 32), (dq ds_ 33), (dq ds_ 34)], [some ⟨243, 1, .cells [.bool b0_1, .roi .u32 b0_2]⟩, some ⟨231, 1, .cells [.int .i64 n, .bool n_1, .ptr 0 0, .int .i64 n_2]⟩]⟩
def ls_q146 (ds_ : List V) (ms_ : List (Option Blk)) (x : Int) (k_ : Int) (b0 : Bool) : St := ⟨[(dq ds_ 0), (dq ds_ 1), .int .i64 0, (dq ds_ 2), (dq ds_ 3), (dq ds_ 4), (dq ds_ 5), (dq ds_ 6), (dq ds_ 7), .ptr 1 0, (dq ds_ 8), (dq ds_ 9), (dq ds_ 10), (dq ds_ 11), (dq ds_ 12), (dq ds_ 13), (dq ds_ 14), (dq ds_ 15), (dq ds_ 16), (dq ds_ 17), (dq ds_ 18), (dq ds_ 19), (dq ds_ 20), (dq ds_ 21), (dq ds_ 22), (dq ds_ 23), (dq ds_ 24), (dq ds_ 25), (dq ds_ 26), (dq ds_ 27), (dq ds_ 28), (dq ds_ 29), (dq ds_ 30), (dq ds_ 31), (dq ds_ 32), (dq ds_ 33), (dq ds_ 34)], [some ⟨243, 1, .cells [.bool b0, .nil]⟩, some ⟨231, 1, .cells [.int .i64 2, .bool false, .ptr 0 0, .int .i64 0]⟩]⟩
theorem jn_q124 (N_ : Nat) (S_q60 : TS_q60) (S_q40 : TS_q40) (S_q86 : TS_q86) (S_q90 : TS_q90) (S_q53 : TS_q53) (ds_ : List V) (ms_ : List (Option Blk)) (x : Int) (k_ : Int) (b0_1 : Bool) (b0_2 : List Int) (n : Int) (n_1 : Bool) (n_2 : Int) (cont_ : V → List Blk → Bool) : codesV ⟨Tryz.prog, ofList [(194, (F_q60 S_q60)), (195, (F_q40 S_q40)), (196, (F_q86 S_q86)), (197, (orFs (F_q53 S_q53) (F_q90 S_q90) shF_q53))], isref, N_⟩ 0 (an_q83 N_ S_q60 S_q40 S_q86 S_q90 S_q53) ((cds Tryz.prog 171).drop 6) 0 (ls_q124 ds_ ms_ x k_ b0_1 b0_2 n n_1 n_2) (finV Tryz.prog 171 0 cont_) = J_q124 N_ S_q60 S_q40 S_q86 S_q90 S_q53 x k_ b0_1 b0_2 n n_1 n_2 (fun r0 r1 r2 => cont_ (.tup [.int .u64 r0, .int .i64 r1, .int .i64 r2]) []) := by kernel_rfl
theorem jn_q146 (N_ : Nat) (S_q60 : TS_q60) (S_q40 : TS_q40) (S_q86 : TS_q86) (S_q90 : TS_q90) (S_q53 : TS_q53) (ds_ : List V) (ms_ : List (Option Blk)) (x : Int) (k_ : Int) (b0 : Bool) (cont_ : V → List Blk → Bool) : codesV ⟨Tryz.prog, ofList [(194, (F_q60 S_q60)), (195, (F_q40 S_q40)), (196, (F_q86 S_q86)), (197, (orFs (F_q53 S_q53) (F_q90 S_q90) shF_q53))], isref, N_⟩ 0 (an_q83 N_ S_q60 S_q40 S_q86 S_q90 S_q53) ((cds Tryz.prog 171).drop 6) 0 (ls_q146 ds_ ms_ x k_ b0) (finV Tryz.prog 171 0 cont_) = J_q146 N_ S_q60 S_q40 S_q86 S_q90 S_q53 x k_ b0 (fun r0 r1 r2 => cont_ (.tup [.int .u64 r0, .int .i64 r1, .int .i64 r2]) []) := by kernel_rfl
theorem hd_z02_Scale_w (N_ : Nat) (S_q60 : TS_q60) (S_q40 : TS_q40) (S_q86 : TS_q86) (S_q90 : TS_q90) (S_q53 : TS_q53) (x : Int) (k_ : Int) (cont_ : V → List Blk → Bool) (κn_ : St → Bool) : codesV ⟨Tryz.prog, ofList [(194, (F_q60 S_q60)), (195, (F_q40 S_q40)), (196, (F_q86 S_q86)), (197, (orFs (F_q53 S_q53) (F_q90 S_q90) shF_q53))], isref, N_⟩ 0 (an_q83 N_ S_q60 S_q40 S_q86 S_q90 S_q53) (sg Tryz.prog 171 0 6) 0 (st0 Tryz.prog 171 (shF_q83.args [.int x, .int k_]) []) { (finV Tryz.prog 171 0 cont_) with nrm := κn_ } = (S_q60 (S_q40 (S_q86 x (fun (cr : Bool) => (κn_ (ls_q146 [.int .u64 x, .int .i64 k_, .any, .any, .any, .int .u64 0, .int .i64 0, .int .i64 0, .any, .any, .int .i64 0, .bool true, .bool false, .agg [.int .i64 53, .int .i64 (-1022), .int .i64 1023, .int .i64 11], .int .u64 x, .agg [.int .i64 2, .bool false, .ptr 0 0, .int .i64 0], .ptr 1 0, .int .i64 2, .bool false, .any, .any, .any, .any, .any, .any, .any, .any, .any, .any, .any, .any, .any, .any, .any, .any] [] x k_ cr))) (fun (cr_1 : Bool) (cr_2 : Bool) (nsr : List Int) => (κn_ (ls_q124 [.int .u64 x, .int .i64 k_, .any, .any, .any, .int .u64 0, .int .i64 0, .int .i64 0, .any, .any, .int .i64 0, .bool true, .bool false, .agg [.int .i64 53, .int .i64 (-1022), .int .i64 1023, .int .i64 11], .int .u64 x, .agg [.int .i64 1, .bool cr_1, .ptr 0 0, .int .i64 (-1074)], .ptr 1 0, .int .i64 1, .bool false, .any, .any, .any, .any, .any, .any, .any, .any, .any, .any, .any, .any, .any, .any, .any, .any] [] x k_ cr_2 nsr 1 cr_1 (-1074)))) (fun (cr_3 : Bool) (nr : Int) (cr_4 : Bool) (nsr_1 : List Int) => ((fits .i64 (nr + (imm true (-5000) (imm false k_ 5000)))) && (κn_ (ls_q124 [.int .u64 x, .int .i64 k_, .any, .any, .any, .int .u64 0, .int .i64 0, .int .i64 0, .any, .any, .int .i64 0, .bool true, .bool false, .agg [.int .i64 53, .int .i64 (-1022), .int .i64 1023, .int .i64 11], .int .u64 x, .agg [.int .i64 0, .bool cr_3, .ptr 0 0, .int .i64 nr], .ptr 1 0, .int .i64 0, .bool true, .ptr 1 3, .int .i64 nr, .int .i64 k_, .int .i64 (imm false k_ 5000), .int .i64 (imm true (-5000) (imm false k_ 5000)), .int .i64 (nr + (imm true (-5000) (imm false k_ 5000))), .ptr 1 3, .any, .any, .any, .any, .any, .any, .any, .any, .any] [] x k_ cr_4 nsr_1 0 cr_3 (nr + (imm true (-5000) (imm false k_ 5000))))))) (fun (cr_5 : Bool) (cr_6 : Bool) (nsr_2 : List Int) => ((fits .i64 ((-1074) + (imm true (-5000) (imm false k_ 5000)))) && (κn_ (ls_q124 [.int .u64 x, .int .i64 k_, .any, .any, .any, .int .u64 0, .int .i64 0, .int .i64 0, .any, .any, .int .i64 0, .bool true, .bool false, .agg [.int .i64 53, .int .i64 (-1022), .int .i64 1023, .int .i64 11], .int .u64 x, .agg [.int .i64 0, .bool cr_5, .ptr 0 0, .int .i64 (-1074)], .ptr 1 0, .int .i64 0, .bool true, .ptr 1 3, .int .i64 (-1074), .int .i64 k_, .int .i64 (imm false k_ 5000), .int .i64 (imm true (-5000) (imm false k_ 5000)), .int .i64 ((-1074) + (imm true (-5000) (imm false k_ 5000))), .ptr 1 3, .any, .any, .any, .any, .any, .any, .any, .any, .any] [] x k_ cr_6 nsr_2 0 cr_5 ((-1074) + (imm true (-5000) (imm false k_ 5000)))))))))) := by kernel_rfl
theorem jn_z02_Scale_w (N_ : Nat) (S_q60 : TS_q60) (S_q40 : TS_q40) (S_q86 : TS_q86) (S_q90 : TS_q90) (S_q53 : TS_q53) (x : Int) (k_ : Int) (cont_ : V → List Blk → Bool) : codesV ⟨Tryz.prog, ofList [(194, (F_q60 S_q60)), (195, (F_q40 S_q40)), (196, (F_q86 S_q86)), (197, (orFs (F_q53 S_q53) (F_q90 S_q90) shF_q53))], isref, N_⟩ 0 (an_q83 N_ S_q60 S_q40 S_q86 S_q90 S_q53) ((cds Tryz.prog 171).drop 0) 0 (st0 Tryz.prog 171 (shF_q83.args [.int x, .int k_]) []) (finV Tryz.prog 171 0 cont_) = G_q83 N_ S_q60 S_q40 S_q86 S_q90 S_q53 x k_ (fun r0 r1 r2 => cont_ (.tup [.int .u64 r0, .int .i64 r1, .int .i64 r2]) []) := by
  rw [codesV_cut 0 6 6 rfl]
  refine (hd_z02_Scale_w N_ S_q60 S_q40 S_q86 S_q90 S_q53 x k_ cont_ _).trans ?_
  simp only [jn_q146, jn_q124]
  kernel_rfl
theorem eq_q83 (N_ : Nat) (S_q60 : TS_q60) (S_q40 : TS_q40) (S_q86 : TS_q86) (S_q90 : TS_q90) (S_q53 : TS_q53) (x : Int) (k_ : Int) (cont_ : V → List Blk → Bool) : bodyV ⟨Tryz.prog, ofList [(194, (F_q60 S_q60)), (195, (F_q40 S_q40)), (196, (F_q86 S_q86)), (197, (orFs (F_q53 S_q53) (F_q90 S_q90) shF_q53))], isref, N_⟩ (an_q83 N_ S_q60 S_q40 S_q86 S_q90 S_q53) 171 (shF_q83.args [.int x, .int k_]) [] cont_ = G_q83 N_ S_q60 S_q40 S_q86 S_q90 S_q53 x k_ (fun r0 r1 r2 => cont_ (.tup [.int .u64 r0, .int .i64 r1, .int .i64 r2]) []) :=
  (bodyV_codes (by kernel_rfl)).trans (jn_z02_Scale_w N_ S_q60 S_q40 S_q86 S_q90 S_q53 x k_ cont_)
theorem good_q83 (N_ : Nat) (S_q60 : TS_q60) (S_q40 : TS_q40) (S_q86 : TS_q86) (S_q90 : TS_q90) (S_q53 : TS_q53) (h_binnacleref02_Known : GoodF Tryz.prog 194 (F_q60 S_q60)) (h_binnacleref02_Double : GoodF Tryz.prog 195 (F_q40 S_q40)) (h_v_binnacleref02_Fmt_Take : GoodF Tryz.prog 196 (F_q86 S_q86)) (h_v_binnacleref02_Fmt_same : GoodF Tryz.prog 197 (F_q90 S_q90)) (h_v_binnacleref02_Fmt_same_2 : GoodF Tryz.prog 197 (F_q53 S_q53)) : GoodF Tryz.prog 171 (F_q83 (G_q83 N_ S_q60 S_q40 S_q86 S_q90 S_q53)) := by
  refine good_fs (cx := ⟨Tryz.prog, ofList [(194, (F_q60 S_q60)), (195, (F_q40 S_q40)), (196, (F_q86 S_q86)), (197, (orFs (F_q53 S_q53) (F_q90 S_q90) shF_q53))], isref, N_⟩) (ofList_cons h_binnacleref02_Known (ofList_cons h_binnacleref02_Double (ofList_cons h_v_binnacleref02_Fmt_Take (ofList_cons (good_or h_v_binnacleref02_Fmt_same_2 h_v_binnacleref02_Fmt_same) (ofList_nil _))))) shF_q83 (sp_q83 (G_q83 N_ S_q60 S_q40 S_q86 S_q90 S_q53)) (an_q83 N_ S_q60 S_q40 S_q86 S_q90 S_q53) 0 0 (by kernel_rfl) (fun i_ hi_ => by omega) ?_
  intro a k h
  unfold sp_q83 at h
  split at h
  · exact ⟨[], rfl, rfl, (eq_q83 _ _ _ _ _ _ _ _ _).trans h⟩
  · cases h

def an_q24 (N_ : Nat) (S_q48 : TS_q48) (S_q83 : TS_q83) (S_q39 : TS_q39) : Nat → Option Ann := fun b_ => none
theorem eq_q24 (N_ : Nat) (S_q48 : TS_q48) (S_q83 : TS_q83) (S_q39 : TS_q39) (x : Fl) (k_ : Int) (cont_ : V → List Blk → Bool) : bodyV ⟨Tryz.prog, ofList [(74, (F_q48 S_q48)), (171, (F_q83 S_q83)), (67, (F_q39 S_q39))], isref, N_⟩ (an_q24 N_ S_q48 S_q83 S_q39) 134 (shF_q24.args [.fl x, .int k_]) [] cont_ = G_q24 N_ S_q48 S_q83 S_q39 x k_ (fun r0 => cont_ (.flt r0) []) := by kernel_rfl
theorem good_q24 (N_ : Nat) (S_q48 : TS_q48) (S_q83 : TS_q83) (S_q39 : TS_q39) (h_math_Float64bits : GoodF Tryz.prog 74 (F_q48 S_q48)) (h_binnacleref02_Scale : GoodF Tryz.prog 171 (F_q83 S_q83)) (h_math_Float64frombits : GoodF Tryz.prog 67 (F_q39 S_q39)) : GoodF Tryz.prog 134 (F_q24 (G_q24 N_ S_q48 S_q83 S_q39)) := by
  refine good_fs (cx := ⟨Tryz.prog, ofList [(74, (F_q48 S_q48)), (171, (F_q83 S_q83)), (67, (F_q39 S_q39))], isref, N_⟩) (ofList_cons h_math_Float64bits (ofList_cons h_binnacleref02_Scale (ofList_cons h_math_Float64frombits (ofList_nil _)))) shF_q24 (sp_q24 (G_q24 N_ S_q48 S_q83 S_q39)) (an_q24 N_ S_q48 S_q83 S_q39) 0 0 (by kernel_rfl) (fun i_ hi_ => by omega) ?_
  intro a k h
  unfold sp_q24 at h
  split at h
  · exact ⟨[], rfl, rfl, (eq_q24 _ _ _ _ _ _ _).trans h⟩
  · cases h

def sh_st_binnacleref08_Dot_0 : StSh := ⟨[.rof, .rof, .any, .any, .any, .flt, .int .i64, .any, .any, .any, .any, .any, .any, .any, .any, .any, .any, .any, .any, .any, .any, .any, .any, .any, .any], []⟩
def sx0_st_binnacleref08_Dot_0 : StSh := ⟨[.any, .any, .any, .any, .any, .flt, .any, .any, .any, .any, .any, .any, .any, .any, .any, .any, .any, .any, .any, .any, .any, .any, .any, .any, .any], []⟩
def hk_st_binnacleref08_Dot_0 (N_ : Nat) : List Atom → K → Bool := fun a_ κ => match a_ with
  | [.fls x_1, .fls y_1, .fl s, .int i] => iterG N_ (st_z08_Dot_0 N_ x_1 y_1 (fun r0 => κ.ext 0 (sx0_st_binnacleref08_Dot_0.build [.fl r0]))) (s, i)
  | _ => false
def an_q91 (N_ : Nat) : Nat → Option Ann := fun b_ => cond (b_ == 0) (some ⟨⟨[0, 1, 5, 6], []⟩, [(0, ⟨[5], []⟩)], some ⟨[4], []⟩, some (mkHooks [(sh_st_binnacleref08_Dot_0, hk_st_binnacleref08_Dot_0 N_)])⟩) (none)
theorem eq_st_binnacleref08_Dot_0 (N_ : Nat) (κ : K) (x_1 : List Fl) (y_1 : List Fl) (s : Fl) (i : Int) : iter N_ (fun s k => codeV ⟨Tryz.prog, ofList [], isref, N_⟩ 0 (an_q91 N_) (lp Tryz.prog 92 0).2 (lp Tryz.prog 92 0).1 s (roundK Tryz.prog 0 ((an_q91 N_) (lp Tryz.prog 92 0).1) κ k)) (sh_st_binnacleref08_Dot_0.build [.fls x_1, .fls y_1, .fl s, .int i]) = iterG N_ (st_z08_Dot_0 N_ x_1 y_1 (fun r0 => κ.ext 0 (sx0_st_binnacleref08_Dot_0.build [.fl r0]))) (s, i) :=
  iter_tr (fun (v_ : Fl × Int) => sh_st_binnacleref08_Dot_0.build [.fls x_1, .fls y_1, .fl v_.1, .int v_.2]) (fun v_ K_ => by obtain ⟨s, i⟩ := v_; kernel_rfl) N_ (s, i)
theorem hk1_st_binnacleref08_Dot_0 (N_ : Nat) : HookFor ⟨Tryz.prog, ofList [], isref, N_⟩ 0 (an_q91 N_) (lp Tryz.prog 92 0) (sh_st_binnacleref08_Dot_0, hk_st_binnacleref08_Dot_0 N_) := by
  intro a κ h
  simp only at h
  unfold hk_st_binnacleref08_Dot_0 at h
  split at h
  · exact (eq_st_binnacleref08_Dot_0 _ _ _ _ _ _).trans h
  · cases h
theorem ho_binnacleref08_Dot_0 (N_ : Nat) : HookOk ⟨Tryz.prog, ofList [], isref, N_⟩ 0 (an_q91 N_) (lp Tryz.prog 92 0) :=
  hooks_ok [(sh_st_binnacleref08_Dot_0, hk_st_binnacleref08_Dot_0 N_)] (by kernel_rfl) ⟨hk1_st_binnacleref08_Dot_0 _, trivial⟩
theorem eq_q91 (N_ : Nat) (x : List Fl) (y : List Fl) (cont_ : V → List Blk → Bool) : bodyV ⟨Tryz.prog, ofList [], isref, N_⟩ (an_q91 N_) 92 (shF_q91.args [.fls x, .fls y]) [] cont_ = G_q91 N_ x y (fun r0 => cont_ (.flt r0) []) := by kernel_rfl
theorem good_q91 (N_ : Nat) : GoodF Tryz.prog 92 (F_q91 (G_q91 N_)) := by
  refine good_fs (cx := ⟨Tryz.prog, ofList [], isref, N_⟩) (ofList_nil _) shF_q91 (sp_q91 (G_q91 N_)) (an_q91 N_) 1 0 (by kernel_rfl) (fun i_ hi_ => by
    match i_, hi_ with
    | 0, _ => exact ho_binnacleref08_Dot_0 _
    | (q + 1), h => omega) ?_
  intro a k h
  unfold sp_q91 at h
  split at h
  · exact ⟨[], rfl, rfl, (eq_q91 _ _ _ _).trans h⟩
  · cases h

def sh_st_binnacleref10_scaled_0 : StSh := ⟨[.rof, .int .i64, .any, .any, .any, .any, .slw 0, .int .i64, .any, .any, .any, .any, .any, .any, .any, .any, .any, .any, .any, .any, .any, .any, .any, .any, .any, .any, .any, .any, .any], [some (24, 1, .flts)]⟩
def sx0_st_binnacleref10_scaled_0 : StSh := ⟨[.any, .any, .any, .any, .any, .any, .slw 0, .any, .any, .any, .any, .any, .any, .any, .any, .any, .any, .any, .any, .any, .any, .any, .any, .any, .any, .any, .any, .any, .any], [some (24, 1, .flts)]⟩
def hk_st_binnacleref10_scaled_0 (N_ : Nat) (S_q24 : TS_q24) (S_q91 : TS_q91) (S_q61 : TS_q61) : List Atom → K → Bool := fun a_ κ => match a_ with
  | [.fls x_2, .int k__2, .int i_1, .fls y] => iterG N_ (st_z10_scaled_0 N_ S_q24 S_q91 S_q61 x_2 k__2 (fun r0 => κ.ext 0 (sx0_st_binnacleref10_scaled_0.build [.fls r0]))) (i_1, y)
  | _ => false
def an_q75 (N_ : Nat) (S_q24 : TS_q24) (S_q91 : TS_q91) (S_q61 : TS_q61) : Nat → Option Ann := fun b_ => cond (b_ == 0) (some ⟨⟨[0, 1, 6, 7], [(6, none, 24)]⟩, [(0, ⟨[6], []⟩)], some ⟨[4, 5], []⟩, some (mkHooks [(sh_st_binnacleref10_scaled_0, hk_st_binnacleref10_scaled_0 N_ S_q24 S_q91 S_q61)])⟩) (none)
theorem eq_st_binnacleref10_scaled_0 (N_ : Nat) (S_q24 : TS_q24) (S_q91 : TS_q91) (S_q61 : TS_q61) (κ : K) (x_2 : List Fl) (k__2 : Int) (i_1 : Int) (y : List Fl) : iter N_ (fun s k => codeV ⟨Tryz.prog, ofList [(134, (F_q24 S_q24)), (92, (F_q91 S_q91)), (116, (F_q61 S_q61))], isref, N_⟩ 0 (an_q75 N_ S_q24 S_q91 S_q61) (lp Tryz.prog 148 0).2 (lp Tryz.prog 148 0).1 s (roundK Tryz.prog 0 ((an_q75 N_ S_q24 S_q91 S_q61) (lp Tryz.prog 148 0).1) κ k)) (sh_st_binnacleref10_scaled_0.build [.fls x_2, .int k__2, .int i_1, .fls y]) = iterG N_ (st_z10_scaled_0 N_ S_q24 S_q91 S_q61 x_2 k__2 (fun r0 => κ.ext 0 (sx0_st_binnacleref10_scaled_0.build [.fls r0]))) (i_1, y) :=
  iter_tr (fun (v_ : Int × List Fl) => sh_st_binnacleref10_scaled_0.build [.fls x_2, .int k__2, .int v_.1, .fls v_.2]) (fun v_ K_ => by obtain ⟨i_1, y⟩ := v_; kernel_rfl) N_ (i_1, y)
theorem hk1_st_binnacleref10_scaled_0 (N_ : Nat) (S_q24 : TS_q24) (S_q91 : TS_q91) (S_q61 : TS_q61) : HookFor ⟨Tryz.prog, ofList [(134, (F_q24 S_q24)), (92, (F_q91 S_q91)), (116, (F_q61 S_q61))], isref, N_⟩ 0 (an_q75 N_ S_q24 S_q91 S_q61) (lp Tryz.prog 148 0) (sh_st_binnacleref10_scaled_0, hk_st_binnacleref10_scaled_0 N_ S_q24 S_q91 S_q61) := by
  intro a κ h
  simp only at h
  unfold hk_st_binnacleref10_scaled_0 at h
  split at h
  · exact (eq_st_binnacleref10_scaled_0 _ _ _ _ _ _ _ _ _).trans h
  · cases h
theorem ho_binnacleref10_scaled_0 (N_ : Nat) (S_q24 : TS_q24) (S_q91 : TS_q91) (S_q61 : TS_q61) : HookOk ⟨Tryz.prog, ofList [(134, (F_q24 S_q24)), (92, (F_q91 S_q91)), (116, (F_q61 S_q61))], isref, N_⟩ 0 (an_q75 N_ S_q24 S_q91 S_q61) (lp Tryz.prog 148 0) :=
  hooks_ok [(sh_st_binnacleref10_scaled_0, hk_st_binnacleref10_scaled_0 N_ S_q24 S_q91 S_q61)] (by kernel_rfl) ⟨hk1_st_binnacleref10_scaled_0 _ _ _ _, trivial⟩
theorem eq_q75 (N_ : Nat) (S_q24 : TS_q24) (S_q91 : TS_q91) (S_q61 : TS_q61) (x : List Fl) (k_ : Int) (cont_ : V → List Blk → Bool) : bodyV ⟨Tryz.prog, ofList [(134, (F_q24 S_q24)), (92, (F_q91 S_q91)), (116, (F_q61 S_q61))], isref, N_⟩ (an_q75 N_ S_q24 S_q91 S_q61) 148 (shF_q75.args [.fls x, .int k_]) [] cont_ = G_q75 N_ S_q24 S_q91 S_q61 x k_ (fun r0 r1 => cont_ (.tup [.slw 0, .flt r0]) [⟨24, 1, .flts r1⟩]) := by kernel_rfl
theorem good_q75 (N_ : Nat) (S_q24 : TS_q24) (S_q91 : TS_q91) (S_q61 : TS_q61) (h_binnacleref10_Times : GoodF Tryz.prog 134 (F_q24 S_q24)) (h_binnacleref08_Dot : GoodF Tryz.prog 92 (F_q91 S_q91)) (h_math_Sqrt : GoodF Tryz.prog 116 (F_q61 S_q61)) : GoodF Tryz.prog 148 (F_q75 (G_q75 N_ S_q24 S_q91 S_q61)) := by
  refine good_fs (cx := ⟨Tryz.prog, ofList [(134, (F_q24 S_q24)), (92, (F_q91 S_q91)), (116, (F_q61 S_q61))], isref, N_⟩) (ofList_cons h_binnacleref10_Times (ofList_cons h_binnacleref08_Dot (ofList_cons h_math_Sqrt (ofList_nil _)))) shF_q75 (sp_q75 (G_q75 N_ S_q24 S_q91 S_q61)) (an_q75 N_ S_q24 S_q91 S_q61) 1 0 (by kernel_rfl) (fun i_ hi_ => by
    match i_, hi_ with
    | 0, _ => exact ho_binnacleref10_scaled_0 _ _ _ _
    | (q + 1), h => omega) ?_
  intro a k h
  unfold sp_q75 at h
  split at h
  · exact ⟨[], rfl, rfl, (eq_q75 _ _ _ _ _ _ _).trans h⟩
  · cases h

def an_q77 (N_ : Nat) (S_q107 : TS_q107) (S_q65 : TS_q65) (S_q75 : TS_q75) (S_q24 : TS_q24) (S_q9 : TS_q9) : Nat → Option Ann := fun b_ => none
theorem eq_q77 (N_ : Nat) (S_q107 : TS_q107) (S_q65 : TS_q65) (S_q75 : TS_q75) (S_q24 : TS_q24) (S_q9 : TS_q9) (x : List Fl) (cont_ : V → List Blk → Bool) : bodyV ⟨Tryz.prog, ofList [(168, (F_q107 S_q107)), (133, (F_q65 S_q65)), (148, (F_q75 S_q75)), (134, (F_q24 S_q24)), (71, (F_q9 S_q9))], isref, N_⟩ (an_q77 N_ S_q107 S_q65 S_q75 S_q24 S_q9) 128 (shF_q77.args [.fls x]) [] cont_ = G_q77 N_ S_q107 S_q65 S_q75 S_q24 S_q9 x (fun r0 r1 => cont_ (.tup [.flt r0, .int .i64 r1]) []) := by kernel_rfl
theorem good_q77 (N_ : Nat) (S_q107 : TS_q107) (S_q65 : TS_q65) (S_q75 : TS_q75) (S_q24 : TS_q24) (S_q9 : TS_q9) (h_binnacleref10_List : GoodF Tryz.prog 168 (F_q107 S_q107)) (h_binnacleref10_Power : GoodF Tryz.prog 133 (F_q65 S_q65)) (h_binnacleref10_scaled : GoodF Tryz.prog 148 (F_q75 S_q75)) (h_binnacleref10_Times : GoodF Tryz.prog 134 (F_q24 S_q24)) (h_binnacleref01_Finite : GoodF Tryz.prog 71 (F_q9 S_q9)) : GoodF Tryz.prog 128 (F_q77 (G_q77 N_ S_q107 S_q65 S_q75 S_q24 S_q9)) := by
  refine good_fs (cx := ⟨Tryz.prog, ofList [(168, (F_q107 S_q107)), (133, (F_q65 S_q65)), (148, (F_q75 S_q75)), (134, (F_q24 S_q24)), (71, (F_q9 S_q9))], isref, N_⟩) (ofList_cons h_binnacleref10_List (ofList_cons h_binnacleref10_Power (ofList_cons h_binnacleref10_scaled (ofList_cons h_binnacleref10_Times (ofList_cons h_binnacleref01_Finite (ofList_nil _)))))) shF_q77 (sp_q77 (G_q77 N_ S_q107 S_q65 S_q75 S_q24 S_q9)) (an_q77 N_ S_q107 S_q65 S_q75 S_q24 S_q9) 0 0 (by kernel_rfl) (fun i_ hi_ => by omega) ?_
  intro a k h
  unfold sp_q77 at h
  split at h
  · exact ⟨[], rfl, rfl, (eq_q77 _ _ _ _ _ _ _ _).trans h⟩
  · cases h

def an_q76 (N_ : Nat) (S_q77 : TS_q77) : Nat → Option Ann := fun b_ => none
theorem eq_q76 (N_ : Nat) (S_q77 : TS_q77) (v_0 : Fl) (v_1 : Fl) (v_2 : Fl) (cont_ : V → List Blk → Bool) : bodyV ⟨Tryz.prog, ofList [(128, (F_q77 S_q77))], isref, N_⟩ (an_q76 N_ S_q77) 69 (shF_q76.args [.fl v_0, .fl v_1, .fl v_2]) [] cont_ = G_q76 N_ S_q77 v_0 v_1 v_2 (fun r0 r1 r2 r3 => cont_ (.tup [.agg [.flt r0, .flt r1, .flt r2], .int .i64 r3]) []) := by kernel_rfl
theorem good_q76 (N_ : Nat) (S_q77 : TS_q77) (h_binnacleref10_Length : GoodF Tryz.prog 128 (F_q77 S_q77)) : GoodF Tryz.prog 69 (F_q76 (G_q76 N_ S_q77)) := by
  refine good_fs (cx := ⟨Tryz.prog, ofList [(128, (F_q77 S_q77))], isref, N_⟩) (ofList_cons h_binnacleref10_Length (ofList_nil _)) shF_q76 (sp_q76 (G_q76 N_ S_q77)) (an_q76 N_ S_q77) 0 0 (by kernel_rfl) (fun i_ hi_ => by omega) ?_
  intro a k h
  unfold sp_q76 at h
  split at h
  · exact ⟨[], rfl, rfl, (eq_q76 _ _ _ _ _ _).trans h⟩
  · cases h

def an_q43 (N_ : Nat) : Nat → Option Ann := fun b_ => none
theorem eq_q43 (N_ : Nat) (ok_0 : Bool) (ok_1 : Bool) (cont_ : V → List Blk → Bool) : bodyV ⟨Tryz.prog, ofList [], isref, (N_ + 24)⟩ (an_q43 (N_ + 24)) 129 (shF_q43.args [.bool ok_0, .bool ok_1]) [] cont_ = G_q43 (N_ + 24) ok_0 ok_1 (fun r0 => cont_ (.int .i64 r0) []) := by kernel_rfl
theorem good_q43 (N_ : Nat) : GoodF Tryz.prog 129 (F_q43 (G_q43 (N_ + 24))) := by
  refine good_fs (cx := ⟨Tryz.prog, ofList [], isref, (N_ + 24)⟩) (ofList_nil _) shF_q43 (sp_q43 (G_q43 (N_ + 24))) (an_q43 (N_ + 24)) 1 0 (by kernel_rfl) (fun i_ hi_ => by
    match i_, hi_ with
    | 0, _ => exact (fun hk e => by rw [show hookOf ((an_q43 (N_ + 24)) (lp Tryz.prog 129 0).1) = none from by kernel_rfl] at e; cases e)
    | (q + 1), h => omega) ?_
  intro a k h
  unfold sp_q43 at h
  split at h
  · exact ⟨[], rfl, rfl, (eq_q43 _ _ _ _).trans h⟩
  · cases h

def an_q95 (N_ : Nat) : Nat → Option Ann := fun b_ => none
theorem eq_q95 (N_ : Nat) (a_0 : Fl) (a_1 : Fl) (a_2 : Fl) (b_0 : Fl) (b_1 : Fl) (b_2 : Fl) (cont_ : V → List Blk → Bool) : bodyV ⟨Tryz.prog, ofList [], isref, N_⟩ (an_q95 N_) 131 (shF_q95.args [.fl a_0, .fl a_1, .fl a_2, .fl b_0, .fl b_1, .fl b_2]) [] cont_ = G_q95 N_ a_0 a_1 a_2 b_0 b_1 b_2 (fun r0 r1 r2 => cont_ (.agg [.flt r0, .flt r1, .flt r2]) []) := by kernel_rfl
theorem good_q95 (N_ : Nat) : GoodF Tryz.prog 131 (F_q95 (G_q95 N_)) := by
  refine good_fs (cx := ⟨Tryz.prog, ofList [], isref, N_⟩) (ofList_nil _) shF_q95 (sp_q95 (G_q95 N_)) (an_q95 N_) 0 0 (by kernel_rfl) (fun i_ hi_ => by omega) ?_
  intro a k h
  unfold sp_q95 at h
  split at h
  · exact ⟨[], rfl, rfl, (eq_q95 _ _ _ _ _ _ _ _).trans h⟩
  · cases h

def an_q73 (N_ : Nat) (S_q15 : TS_q15) : Nat → Option Ann := fun b_ => none
theorem eq_q73 (N_ : Nat) (S_q15 : TS_q15) (v_0 : Fl) (v_1 : Fl) (v_2 : Fl) (cont_ : V → List Blk → Bool) : bodyV ⟨Tryz.prog, ofList [(68, (F_q15 S_q15))], isref, N_⟩ (an_q73 N_ S_q15) 130 (shF_q73.args [.fl v_0, .fl v_1, .fl v_2]) [] cont_ = G_q73 N_ S_q15 v_0 v_1 v_2 (fun r0 r1 r2 r3 => cont_ (.tup [.agg [.flt r0, .flt r1, .flt r2], .int .i64 r3]) []) := by kernel_rfl
theorem good_q73 (N_ : Nat) (S_q15 : TS_q15) (h_binnacleref12_FiniteVec : GoodF Tryz.prog 68 (F_q15 S_q15)) : GoodF Tryz.prog 130 (F_q73 (G_q73 N_ S_q15)) := by
  refine good_fs (cx := ⟨Tryz.prog, ofList [(68, (F_q15 S_q15))], isref, N_⟩) (ofList_cons h_binnacleref12_FiniteVec (ofList_nil _)) shF_q73 (sp_q73 (G_q73 N_ S_q15)) (an_q73 N_ S_q15) 0 0 (by kernel_rfl) (fun i_ hi_ => by omega) ?_
  intro a k h
  unfold sp_q73 at h
  split at h
  · exact ⟨[], rfl, rfl, (eq_q73 _ _ _ _ _ _).trans h⟩
  · cases h

def an_q87 (N_ : Nat) (S_q15 : TS_q15) (S_q43 : TS_q43) (S_q95 : TS_q95) (S_q73 : TS_q73) : Nat → Option Ann := fun b_ => none
theorem eq_q87 (N_ : Nat) (S_q15 : TS_q15) (S_q43 : TS_q43) (S_q95 : TS_q95) (S_q73 : TS_q73) (a_0 : Fl) (a_1 : Fl) (a_2 : Fl) (b_0 : Fl) (b_1 : Fl) (b_2 : Fl) (cont_ : V → List Blk → Bool) : bodyV ⟨Tryz.prog, ofList [(68, (F_q15 S_q15)), (129, (F_q43 S_q43)), (131, (F_q95 S_q95)), (130, (F_q73 S_q73))], isref, N_⟩ (an_q87 N_ S_q15 S_q43 S_q95 S_q73) 70 (shF_q87.args [.fl a_0, .fl a_1, .fl a_2, .fl b_0, .fl b_1, .fl b_2]) [] cont_ = G_q87 N_ S_q15 S_q43 S_q95 S_q73 a_0 a_1 a_2 b_0 b_1 b_2 (fun r0 r1 r2 r3 => cont_ (.tup [.agg [.flt r0, .flt r1, .flt r2], .int .i64 r3]) []) := by kernel_rfl
theorem good_q87 (N_ : Nat) (S_q15 : TS_q15) (S_q43 : TS_q43) (S_q95 : TS_q95) (S_q73 : TS_q73) (h_binnacleref12_FiniteVec : GoodF Tryz.prog 68 (F_q15 S_q15)) (h_binnacleref12_numbers_o2 : GoodF Tryz.prog 129 (F_q43 S_q43)) (h_binnacleref12_cross : GoodF Tryz.prog 131 (F_q95 S_q95)) (h_binnacleref12_overVec : GoodF Tryz.prog 130 (F_q73 S_q73)) : GoodF Tryz.prog 70 (F_q87 (G_q87 N_ S_q15 S_q43 S_q95 S_q73)) := by
  refine good_fs (cx := ⟨Tryz.prog, ofList [(68, (F_q15 S_q15)), (129, (F_q43 S_q43)), (131, (F_q95 S_q95)), (130, (F_q73 S_q73))], isref, N_⟩) (ofList_cons h_binnacleref12_FiniteVec (ofList_cons h_binnacleref12_numbers_o2 (ofList_cons h_binnacleref12_cross (ofList_cons h_binnacleref12_overVec (ofList_nil _))))) shF_q87 (sp_q87 (G_q87 N_ S_q15 S_q43 S_q95 S_q73)) (an_q87 N_ S_q15 S_q43 S_q95 S_q73) 0 0 (by kernel_rfl) (fun i_ hi_ => by omega) ?_
  intro a k h
  unfold sp_q87 at h
  split at h
  · exact ⟨[], rfl, rfl, (eq_q87 _ _ _ _ _ _ _ _ _ _ _ _).trans h⟩
  · cases h

def an_q102 (N_ : Nat) (S_q76 : TS_q76) (S_q87 : TS_q87) (S_q21 : TS_q21) : Nat → Option Ann := fun b_ => none
theorem eq_q102 (N_ : Nat) (S_q76 : TS_q76) (S_q87 : TS_q87) (S_q21 : TS_q21) (a_0 : Fl) (a_1 : Fl) (a_2 : Fl) (b_0 : Fl) (b_1 : Fl) (b_2 : Fl) (cont_ : V → List Blk → Bool) : bodyV ⟨Tryz.prog, ofList [(69, (F_q76 S_q76)), (70, (F_q87 S_q87)), (25, (F_q21 S_q21))], isref, N_⟩ (an_q102 N_ S_q76 S_q87 S_q21) 26 (shF_q102.args [.fl a_0, .fl a_1, .fl a_2, .fl b_0, .fl b_1, .fl b_2]) [] cont_ = G_q102 N_ S_q76 S_q87 S_q21 a_0 a_1 a_2 b_0 b_1 b_2 (fun r0 r1 r2 r3 r4 r5 r6 r7 r8 r9 => cont_ (.tup [.agg [.flt r0, .flt r1, .flt r2, .flt r3, .flt r4, .flt r5, .flt r6, .flt r7, .flt r8], .int .i64 r9]) []) := by kernel_rfl
theorem good_q102 (N_ : Nat) (S_q76 : TS_q76) (S_q87 : TS_q87) (S_q21 : TS_q21) (h_binnacleref25_shrink : GoodF Tryz.prog 69 (F_q76 S_q76)) (h_binnacleref12_Cross : GoodF Tryz.prog 70 (F_q87 S_q87)) (h_binnacleref25_direction : GoodF Tryz.prog 25 (F_q21 S_q21)) : GoodF Tryz.prog 26 (F_q102 (G_q102 N_ S_q76 S_q87 S_q21)) := by
  refine good_fs (cx := ⟨Tryz.prog, ofList [(69, (F_q76 S_q76)), (70, (F_q87 S_q87)), (25, (F_q21 S_q21))], isref, N_⟩) (ofList_cons h_binnacleref25_shrink (ofList_cons h_binnacleref12_Cross (ofList_cons h_binnacleref25_direction (ofList_nil _)))) shF_q102 (sp_q102 (G_q102 N_ S_q76 S_q87 S_q21)) (an_q102 N_ S_q76 S_q87 S_q21) 0 0 (by kernel_rfl) (fun i_ hi_ => by omega) ?_
  intro a k h
  unfold sp_q102 at h
  split at h
  · exact ⟨[], rfl, rfl, (eq_q102 _ _ _ _ _ _ _ _ _ _ _).trans h⟩
  · cases h

def an_q105 (N_ : Nat) : Nat → Option Ann := fun b_ => none
theorem eq_q105 (N_ : Nat) (rows : Int) (cols : Int) (cont_ : V → List Blk → Bool) : bodyV ⟨Tryz.prog, ofList [], isref, N_⟩ (an_q105 N_) 27 (shF_q105.args [.int rows, .int cols]) [] cont_ = G_q105 N_ rows cols (fun r2 => cont_ (.agg [.int .i64 rows, .int .i64 cols, .slw 0]) [⟨24, 1, .flts r2⟩]) := by kernel_rfl
theorem good_q105 (N_ : Nat) : GoodF Tryz.prog 27 (F_q105 (G_q105 N_)) := by
  refine good_fs (cx := ⟨Tryz.prog, ofList [], isref, N_⟩) (ofList_nil _) shF_q105 (sp_q105 (G_q105 N_)) (an_q105 N_) 0 0 (by kernel_rfl) (fun i_ hi_ => by omega) ?_
  intro a k h
  unfold sp_q105 at h
  split at h
  · exact ⟨[], rfl, rfl, (eq_q105 _ _ _ _).trans h⟩
  · cases h

def an_q51 (N_ : Nat) (S_q9 : TS_q9) : Nat → Option Ann := fun b_ => none
theorem eq_q51 (N_ : Nat) (S_q9 : TS_q9) (x : Fl) (b : Bool) (cont_ : V → List Blk → Bool) : bodyV ⟨Tryz.prog, ofList [(71, (F_q9 S_q9))], isref, N_⟩ (an_q51 N_ S_q9) 28 (shF_q51.args [.fl x, .bool b]) [⟨76, 1, .cells [.bool b]⟩] cont_ = G_q51 N_ S_q9 x b (fun r1 => cont_ (.flt x) [⟨76, 1, .cells [.bool r1]⟩]) := by kernel_rfl
theorem good_q51 (N_ : Nat) (S_q9 : TS_q9) (h_binnacleref01_Finite : GoodF Tryz.prog 71 (F_q9 S_q9)) : GoodF Tryz.prog 28 (F_q51 (G_q51 N_ S_q9)) := by
  refine good_fs (cx := ⟨Tryz.prog, ofList [(71, (F_q9 S_q9))], isref, N_⟩) (ofList_cons h_binnacleref01_Finite (ofList_nil _)) shF_q51 (sp_q51 (G_q51 N_ S_q9)) (an_q51 N_ S_q9) 0 1 (by kernel_rfl) (fun i_ hi_ => by omega) ?_
  intro a k h
  unfold sp_q51 at h
  split at h
  · exact ⟨[_], rfl, rfl, (eq_q51 _ _ _ _ _).trans h⟩
  · cases h

def an_q72 (N_ : Nat) : Nat → Option Ann := fun b_ => none
theorem eq_q72 (N_ : Nat) (m_0 : Int) (m_1 : Int) (i : Int) (j : Int) (x : Fl) (b : List Fl) (cont_ : V → List Blk → Bool) : bodyV ⟨Tryz.prog, ofList [], isref, N_⟩ (an_q72 N_) 29 (shF_q72.args [.int m_0, .int m_1, .int i, .int j, .fl x, .fls b]) [⟨24, 1, .flts b⟩] cont_ = G_q72 N_ m_0 m_1 i j x b (fun r0 => cont_ (.tup []) [⟨24, 1, .flts r0⟩]) := by kernel_rfl
theorem good_q72 (N_ : Nat) : GoodF Tryz.prog 29 (F_q72 (G_q72 N_)) := by
  refine good_fs (cx := ⟨Tryz.prog, ofList [], isref, N_⟩) (ofList_nil _) shF_q72 (sp_q72 (G_q72 N_)) (an_q72 N_) 0 1 (by kernel_rfl) (fun i_ hi_ => by omega) ?_
  intro a k h
  unfold sp_q72 at h
  split at h
  · exact ⟨[_], rfl, rfl, (eq_q72 _ _ _ _ _ _ _ _).trans h⟩
  · cases h

def an_q37 (N_ : Nat) (S_q11 : TS_q11) : Nat → Option Ann := fun b_ => none
theorem eq_q37 (N_ : Nat) (S_q11 : TS_q11) (m_0 : Int) (m_1 : Int) (m_2 : List Fl) (cont_ : V → List Blk → Bool) : bodyV ⟨Tryz.prog, ofList [(49, (F_q11 S_q11))], isref, N_⟩ (an_q37 N_ S_q11) 45 (shF_q37.args [.int m_0, .int m_1, .fls m_2]) [] cont_ = G_q37 N_ S_q11 m_0 m_1 m_2 (fun r0 => cont_ (.int .i64 r0) []) := by kernel_rfl
theorem good_q37 (N_ : Nat) (S_q11 : TS_q11) (h_binnacleref01_AllFinite : GoodF Tryz.prog 49 (F_q11 S_q11)) : GoodF Tryz.prog 45 (F_q37 (G_q37 N_ S_q11)) := by
  refine good_fs (cx := ⟨Tryz.prog, ofList [(49, (F_q11 S_q11))], isref, N_⟩) (ofList_cons h_binnacleref01_AllFinite (ofList_nil _)) shF_q37 (sp_q37 (G_q37 N_ S_q11)) (an_q37 N_ S_q11) 0 0 (by kernel_rfl) (fun i_ hi_ => by omega) ?_
  intro a k h
  unfold sp_q37 at h
  split at h
  · exact ⟨[], rfl, rfl, (eq_q37 _ _ _ _ _ _).trans h⟩
  · cases h

def an_q96 (N_ : Nat) : Nat → Option Ann := fun b_ => none
theorem eq_q96 (N_ : Nat) (is : Bool) (e : Int) (cont_ : V → List Blk → Bool) : bodyV ⟨Tryz.prog, ofList [], isref, N_⟩ (an_q96 N_) 46 (shF_q96.args [.bool is, .int e]) [] cont_ = G_q96 N_ is e (fun r0 => cont_ (.int .i64 r0) []) := by kernel_rfl
theorem good_q96 (N_ : Nat) : GoodF Tryz.prog 46 (F_q96 (G_q96 N_)) := by
  refine good_fs (cx := ⟨Tryz.prog, ofList [], isref, N_⟩) (ofList_nil _) shF_q96 (sp_q96 (G_q96 N_)) (an_q96 N_) 0 0 (by kernel_rfl) (fun i_ hi_ => by omega) ?_
  intro a k h
  unfold sp_q96 at h
  split at h
  · exact ⟨[], rfl, rfl, (eq_q96 _ _ _ _).trans h⟩
  · cases h

def sh_st_binnacleref08_First_0 : StSh := ⟨[.roi .i64, .any, .any, .int .i64, .any, .any, .any, .any, .any, .any, .any, .any, .any, .any, .any, .any, .any, .any, .any], []⟩
def sx0_st_binnacleref08_First_0 : StSh := ⟨[.any, .any, .int .i64, .any, .any, .any, .any, .any, .any, .any, .any, .any, .any, .any, .any, .any, .any, .any, .any], []⟩
def sx1_st_binnacleref08_First_0 : StSh := ⟨[.any, .any, .any, .any, .any, .any, .any, .any, .any, .any, .any, .any, .any, .any, .any, .any, .any, .any, .any], []⟩
def hk_st_binnacleref08_First_0 (N_ : Nat) : List Atom → K → Bool := fun a_ κ => match a_ with
  | [.ints l_1, .int i] => iterG N_ (st_z08_First_0 N_ l_1 (fun r0 => κ.ret (sx0_st_binnacleref08_First_0.build [.int r0])) (κ.ext 0 (sx1_st_binnacleref08_First_0.build []))) i
  | _ => false
def an_q32 (N_ : Nat) : Nat → Option Ann := fun b_ => cond (b_ == 0) (some ⟨⟨[0, 3], []⟩, [(0, ⟨[], []⟩)], some ⟨[2], []⟩, some (mkHooks [(sh_st_binnacleref08_First_0, hk_st_binnacleref08_First_0 N_)])⟩) (none)
theorem eq_st_binnacleref08_First_0 (N_ : Nat) (κ : K) (l_1 : List Int) (i : Int) : iter N_ (fun s k => codeV ⟨Tryz.prog, ofList [], isref, N_⟩ 0 (an_q32 N_) (lp Tryz.prog 42 0).2 (lp Tryz.prog 42 0).1 s (roundK Tryz.prog 0 ((an_q32 N_) (lp Tryz.prog 42 0).1) κ k)) (sh_st_binnacleref08_First_0.build [.ints l_1, .int i]) = iterG N_ (st_z08_First_0 N_ l_1 (fun r0 => κ.ret (sx0_st_binnacleref08_First_0.build [.int r0])) (κ.ext 0 (sx1_st_binnacleref08_First_0.build []))) i :=
  iter_tr (fun (v_ : Int) => sh_st_binnacleref08_First_0.build [.ints l_1, .int v_]) (fun v_ K_ => by kernel_rfl) N_ i
theorem hk1_st_binnacleref08_First_0 (N_ : Nat) : HookFor ⟨Tryz.prog, ofList [], isref, N_⟩ 0 (an_q32 N_) (lp Tryz.prog 42 0) (sh_st_binnacleref08_First_0, hk_st_binnacleref08_First_0 N_) := by
  intro a κ h
  simp only at h
  unfold hk_st_binnacleref08_First_0 at h
  split at h
  · exact (eq_st_binnacleref08_First_0 _ _ _ _).trans h
  · cases h
theorem ho_binnacleref08_First_0 (N_ : Nat) : HookOk ⟨Tryz.prog, ofList [], isref, N_⟩ 0 (an_q32 N_) (lp Tryz.prog 42 0) :=
  hooks_ok [(sh_st_binnacleref08_First_0, hk_st_binnacleref08_First_0 N_)] (by kernel_rfl) ⟨hk1_st_binnacleref08_First_0 _, trivial⟩
theorem eq_q32 (N_ : Nat) (l : List Int) (cont_ : V → List Blk → Bool) : bodyV ⟨Tryz.prog, ofList [], isref, N_⟩ (an_q32 N_) 42 (shF_q32.args [.ints l]) [] cont_ = G_q32 N_ l (fun r0 => cont_ (.int .i64 r0) []) := by kernel_rfl
theorem good_q32 (N_ : Nat) : GoodF Tryz.prog 42 (F_q32 (G_q32 N_)) := by
  refine good_fs (cx := ⟨Tryz.prog, ofList [], isref, N_⟩) (ofList_nil _) shF_q32 (sp_q32 (G_q32 N_)) (an_q32 N_) 1 0 (by kernel_rfl) (fun i_ hi_ => by
    match i_, hi_ with
    | 0, _ => exact ho_binnacleref08_First_0 _
    | (q + 1), h => omega) ?_
  intro a k h
  unfold sp_q32 at h
  split at h
  · exact ⟨[], rfl, rfl, (eq_q32 _ _ _).trans h⟩
  · cases h

def an_q62 (N_ : Nat) : Nat → Option Ann := fun b_ => none
theorem eq_q62 (N_ : Nat) (q_0 : Fl) (q_1 : Fl) (q_2 : Fl) (q_3 : Fl) (cont_ : V → List Blk → Bool) : bodyV ⟨Tryz.prog, ofList [], isref, N_⟩ (an_q62 N_) 32 (shF_q62.args [.fl q_0, .fl q_1, .fl q_2, .fl q_3]) [] cont_ = G_q62 N_ q_0 q_1 q_2 q_3 (fun r0 => cont_ (.slw 0) [⟨24, 1, .flts r0⟩]) := by kernel_rfl
theorem good_q62 (N_ : Nat) : GoodF Tryz.prog 32 (F_q62 (G_q62 N_)) := by
  refine good_fs (cx := ⟨Tryz.prog, ofList [], isref, N_⟩) (ofList_nil _) shF_q62 (sp_q62 (G_q62 N_)) (an_q62 N_) 0 0 (by kernel_rfl) (fun i_ hi_ => by omega) ?_
  intro a k h
  unfold sp_q62 at h
  split at h
  · exact ⟨[], rfl, rfl, (eq_q62 _ _ _ _ _ _).trans h⟩
  · cases h

def an_q18 (N_ : Nat) (S_q62 : TS_q62) (S_q11 : TS_q11) : Nat → Option Ann := fun b_ => none
theorem eq_q18 (N_ : Nat) (S_q62 : TS_q62) (S_q11 : TS_q11) (q_0 : Fl) (q_1 : Fl) (q_2 : Fl) (q_3 : Fl) (cont_ : V → List Blk → Bool) : bodyV ⟨Tryz.prog, ofList [(32, (F_q62 S_q62)), (49, (F_q11 S_q11))], isref, N_⟩ (an_q18 N_ S_q62 S_q11) 72 (shF_q18.args [.fl q_0, .fl q_1, .fl q_2, .fl q_3]) [] cont_ = G_q18 N_ S_q62 S_q11 q_0 q_1 q_2 q_3 (fun r0 => cont_ (.bool r0) []) := by kernel_rfl
theorem good_q18 (N_ : Nat) (S_q62 : TS_q62) (S_q11 : TS_q11) (h_binnacleref12_List : GoodF Tryz.prog 32 (F_q62 S_q62)) (h_binnacleref01_AllFinite : GoodF Tryz.prog 49 (F_q11 S_q11)) : GoodF Tryz.prog 72 (F_q18 (G_q18 N_ S_q62 S_q11)) := by
  refine good_fs (cx := ⟨Tryz.prog, ofList [(32, (F_q62 S_q62)), (49, (F_q11 S_q11))], isref, N_⟩) (ofList_cons h_binnacleref12_List (ofList_cons h_binnacleref01_AllFinite (ofList_nil _))) shF_q18 (sp_q18 (G_q18 N_ S_q62 S_q11)) (an_q18 N_ S_q62 S_q11) 0 0 (by kernel_rfl) (fun i_ hi_ => by omega) ?_
  intro a k h
  unfold sp_q18 at h
  split at h
  · exact ⟨[], rfl, rfl, (eq_q18 _ _ _ _ _ _ _ _).trans h⟩
  · cases h

def an_q35 (N_ : Nat) : Nat → Option Ann := fun b_ => none
theorem eq_q35 (N_ : Nat) (ok : Bool) (cont_ : V → List Blk → Bool) : bodyV ⟨Tryz.prog, ofList [], isref, (N_ + 24)⟩ (an_q35 (N_ + 24)) 129 (shF_q35.args [.bool ok]) [] cont_ = G_q35 (N_ + 24) ok (fun r0 => cont_ (.int .i64 r0) []) := by kernel_rfl
theorem good_q35 (N_ : Nat) : GoodF Tryz.prog 129 (F_q35 (G_q35 (N_ + 24))) := by
  refine good_fs (cx := ⟨Tryz.prog, ofList [], isref, (N_ + 24)⟩) (ofList_nil _) shF_q35 (sp_q35 (G_q35 (N_ + 24))) (an_q35 (N_ + 24)) 1 0 (by kernel_rfl) (fun i_ hi_ => by
    match i_, hi_ with
    | 0, _ => exact (fun hk e => by rw [show hookOf ((an_q35 (N_ + 24)) (lp Tryz.prog 129 0).1) = none from by kernel_rfl] at e; cases e)
    | (q + 1), h => omega) ?_
  intro a k h
  unfold sp_q35 at h
  split at h
  · exact ⟨[], rfl, rfl, (eq_q35 _ _ _).trans h⟩
  · cases h

def an_q119 (N_ : Nat) : Nat → Option Ann := fun b_ => none
theorem eq_q119 (N_ : Nat) (l : List Fl) (cont_ : V → List Blk → Bool) : bodyV ⟨Tryz.prog, ofList [], isref, N_⟩ (an_q119 N_) 135 (shF_q119.args [.fls l]) [] cont_ = G_q119 N_ l (fun r0 r1 r2 r3 => cont_ (.agg [.flt r0, .flt r1, .flt r2, .flt r3]) []) := by kernel_rfl
theorem good_q119 (N_ : Nat) : GoodF Tryz.prog 135 (F_q119 (G_q119 N_)) := by
  refine good_fs (cx := ⟨Tryz.prog, ofList [], isref, N_⟩) (ofList_nil _) shF_q119 (sp_q119 (G_q119 N_)) (an_q119 N_) 0 0 (by kernel_rfl) (fun i_ hi_ => by omega) ?_
  intro a k h
  unfold sp_q119 at h
  split at h
  · exact ⟨[], rfl, rfl, (eq_q119 _ _ _).trans h⟩
  · cases h

def an_q50 (N_ : Nat) (S_q18 : TS_q18) (S_q35 : TS_q35) (S_q62 : TS_q62) (S_q65 : TS_q65) (S_q24 : TS_q24) (S_q61 : TS_q61) (S_q119 : TS_q119) : Nat → Option Ann := fun b_ => none
theorem eq_q50 (N_ : Nat) (S_q18 : TS_q18) (S_q35 : TS_q35) (S_q62 : TS_q62) (S_q65 : TS_q65) (S_q24 : TS_q24) (S_q61 : TS_q61) (S_q119 : TS_q119) (q_0 : Fl) (q_1 : Fl) (q_2 : Fl) (q_3 : Fl) (cont_ : V → List Blk → Bool) : bodyV ⟨Tryz.prog, ofList [(72, (F_q18 S_q18)), (129, (F_q35 S_q35)), (32, (F_q62 S_q62)), (133, (F_q65 S_q65)), (134, (F_q24 S_q24)), (116, (F_q61 S_q61)), (135, (F_q119 S_q119))], isref, (N_ + 24)⟩ (an_q50 (N_ + 24) S_q18 S_q35 S_q62 S_q65 S_q24 S_q61 S_q119) 73 (shF_q50.args [.fl q_0, .fl q_1, .fl q_2, .fl q_3]) [] cont_ = G_q50 (N_ + 24) S_q18 S_q35 S_q62 S_q65 S_q24 S_q61 S_q119 q_0 q_1 q_2 q_3 (fun r0 r1 r2 r3 r4 => cont_ (.tup [.agg [.flt r0, .flt r1, .flt r2, .flt r3], .int .i64 r4]) []) := by kernel_rfl
theorem good_q50 (N_ : Nat) (S_q18 : TS_q18) (S_q35 : TS_q35) (S_q62 : TS_q62) (S_q65 : TS_q65) (S_q24 : TS_q24) (S_q61 : TS_q61) (S_q119 : TS_q119) (h_binnacleref12_Finite : GoodF Tryz.prog 72 (F_q18 S_q18)) (h_binnacleref12_numbers_o1 : GoodF Tryz.prog 129 (F_q35 S_q35)) (h_binnacleref12_List : GoodF Tryz.prog 32 (F_q62 S_q62)) (h_binnacleref10_Power : GoodF Tryz.prog 133 (F_q65 S_q65)) (h_binnacleref10_Times : GoodF Tryz.prog 134 (F_q24 S_q24)) (h_math_Sqrt : GoodF Tryz.prog 116 (F_q61 S_q61)) (h_binnacleref12_Of : GoodF Tryz.prog 135 (F_q119 S_q119)) : GoodF Tryz.prog 73 (F_q50 (G_q50 (N_ + 24) S_q18 S_q35 S_q62 S_q65 S_q24 S_q61 S_q119)) := by
  refine good_fs (cx := ⟨Tryz.prog, ofList [(72, (F_q18 S_q18)), (129, (F_q35 S_q35)), (32, (F_q62 S_q62)), (133, (F_q65 S_q65)), (134, (F_q24 S_q24)), (116, (F_q61 S_q61)), (135, (F_q119 S_q119))], isref, (N_ + 24)⟩) (ofList_cons h_binnacleref12_Finite (ofList_cons h_binnacleref12_numbers_o1 (ofList_cons h_binnacleref12_List (ofList_cons h_binnacleref10_Power (ofList_cons h_binnacleref10_Times (ofList_cons h_math_Sqrt (ofList_cons h_binnacleref12_Of (ofList_nil _)))))))) shF_q50 (sp_q50 (G_q50 (N_ + 24) S_q18 S_q35 S_q62 S_q65 S_q24 S_q61 S_q119)) (an_q50 (N_ + 24) S_q18 S_q35 S_q62 S_q65 S_q24 S_q61 S_q119) 2 0 (by kernel_rfl) (fun i_ hi_ => by
    match i_, hi_ with
    | 0, _ => exact (fun hk e => by rw [show hookOf ((an_q50 (N_ + 24) S_q18 S_q35 S_q62 S_q65 S_q24 S_q61 S_q119) (lp Tryz.prog 73 0).1) = none from by kernel_rfl] at e; cases e)
    | 1, _ => exact (fun hk e => by rw [show hookOf ((an_q50 (N_ + 24) S_q18 S_q35 S_q62 S_q65 S_q24 S_q61 S_q119) (lp Tryz.prog 73 1).1) = none from by kernel_rfl] at e; cases e)
    | (q + 2), h => omega) ?_
  intro a k h
  unfold sp_q50 at h
  split at h
  · exact ⟨[], rfl, rfl, (eq_q50 _ _ _ _ _ _ _ _ _ _ _ _ _).trans h⟩
  · cases h

end Go.Proofs.YtldpkhfffeddiaaGreat
