/-
  THE TIES: each printed meaning is what the program does (written by program).
  Conditions: none.
-/
import Derived.Test.YtldpkhfffeddiaaGreatGs
namespace Go.Proofs.YtldpkhfffeddiaaGreat
open Go Go.Mach Go.Proofs
set_option linter.unusedVariables false
set_option maxRecDepth 50000

def an_q69 (N_ : Nat) (S_q21 : TS_q21) (S_q102 : TS_q102) (S_q105 : TS_q105) (S_q51 : TS_q51) (S_q72 : TS_q72) (S_q89 : TS_q89) : Nat → Option Ann := fun b_ => none
theorem eq_q69 (N_ : Nat) (S_q21 : TS_q21) (S_q102 : TS_q102) (S_q105 : TS_q105) (S_q51 : TS_q51) (S_q72 : TS_q72) (S_q89 : TS_q89) (a_0 : Fl) (a_1 : Fl) (a_2 : Fl) (b_0 : Fl) (b_1 : Fl) (b_2 : Fl) (seenA_0 : Fl) (seenA_1 : Fl) (seenA_2 : Fl) (seenB_0 : Fl) (seenB_1 : Fl) (seenB_2 : Fl) (cont_ : V → List Blk → Bool) : bodyV ⟨Tryz.prog, ofList [(25, (F_q21 S_q21)), (26, (F_q102 S_q102)), (27, (F_q105 S_q105)), (28, (F_q51 S_q51)), (29, (F_q72 S_q72)), (30, (F_q89 S_q89))], isref, (N_ + 24)⟩ (an_q69 (N_ + 24) S_q21 S_q102 S_q105 S_q51 S_q72 S_q89) 7 (shF_q69.args [.fl a_0, .fl a_1, .fl a_2, .fl b_0, .fl b_1, .fl b_2, .fl seenA_0, .fl seenA_1, .fl seenA_2, .fl seenB_0, .fl seenB_1, .fl seenB_2]) [] cont_ = G_q69 (N_ + 24) S_q21 S_q102 S_q105 S_q51 S_q72 S_q89 a_0 a_1 a_2 b_0 b_1 b_2 seenA_0 seenA_1 seenA_2 seenB_0 seenB_1 seenB_2 (fun r0 r1 r2 r3 r4 => cont_ (.tup [.agg [.flt r0, .flt r1, .flt r2, .flt r3], .int .i64 r4]) []) := by kernel_rfl
theorem good_q69 (N_ : Nat) (S_q21 : TS_q21) (S_q102 : TS_q102) (S_q105 : TS_q105) (S_q51 : TS_q51) (S_q72 : TS_q72) (S_q89 : TS_q89) (h_binnacleref25_direction : GoodF Tryz.prog 25 (F_q21 S_q21)) (h_binnacleref25_axes : GoodF Tryz.prog 26 (F_q102 S_q102)) (h_binnacleref09_Zero : GoodF Tryz.prog 27 (F_q105 S_q105)) (h_binnacleref09_Steps_S_p0 : GoodF Tryz.prog 28 (F_q51 S_q51)) (h_binnacleref09_Put_w : GoodF Tryz.prog 29 (F_q72 S_q72)) (h_binnacleref12_From : GoodF Tryz.prog 30 (F_q89 S_q89)) : GoodF Tryz.prog 7 (F_q69 (G_q69 (N_ + 24) S_q21 S_q102 S_q105 S_q51 S_q72 S_q89)) := by
  refine good_fs (cx := ⟨Tryz.prog, ofList [(25, (F_q21 S_q21)), (26, (F_q102 S_q102)), (27, (F_q105 S_q105)), (28, (F_q51 S_q51)), (29, (F_q72 S_q72)), (30, (F_q89 S_q89))], isref, (N_ + 24)⟩) (ofList_cons h_binnacleref25_direction (ofList_cons h_binnacleref25_axes (ofList_cons h_binnacleref09_Zero (ofList_cons h_binnacleref09_Steps_S_p0 (ofList_cons h_binnacleref09_Put_w (ofList_cons h_binnacleref12_From (ofList_nil _))))))) shF_q69 (sp_q69 (G_q69 (N_ + 24) S_q21 S_q102 S_q105 S_q51 S_q72 S_q89)) (an_q69 (N_ + 24) S_q21 S_q102 S_q105 S_q51 S_q72 S_q89) 3 0 (by kernel_rfl) (fun i_ hi_ => by
    match i_, hi_ with
    | 0, _ => exact (fun hk e => by rw [show hookOf ((an_q69 (N_ + 24) S_q21 S_q102 S_q105 S_q51 S_q72 S_q89) (lp Tryz.prog 7 0).1) = none from by kernel_rfl] at e; cases e)
    | 1, _ => exact (fun hk e => by rw [show hookOf ((an_q69 (N_ + 24) S_q21 S_q102 S_q105 S_q51 S_q72 S_q89) (lp Tryz.prog 7 1).1) = none from by kernel_rfl] at e; cases e)
    | 2, _ => exact (fun hk e => by rw [show hookOf ((an_q69 (N_ + 24) S_q21 S_q102 S_q105 S_q51 S_q72 S_q89) (lp Tryz.prog 7 2).1) = none from by kernel_rfl] at e; cases e)
    | (q + 3), h => omega) ?_
  intro a k h
  unfold sp_q69 at h
  split at h
  · exact ⟨[], rfl, rfl, (eq_q69 _ _ _ _ _ _ _ _ _ _ _ _ _ _ _ _ _ _ _ _).trans h⟩
  · cases h

def sh_st_binnaclelaw25_bits_0 : StSh := ⟨[.rof, .rof, .any, .any, .any, .any, .any, .any, .any, .any, .any, .any, .int .i64, .int .i64, .any, .any, .any, .any, .any, .any, .any, .any, .any, .any, .any, .any, .any, .any], []⟩
def sx0_st_binnaclelaw25_bits_0 : StSh := ⟨[.any, .any, .any, .any, .bool, .any, .any, .any, .any, .any, .any, .any, .any, .any, .any, .any, .any, .any, .any, .any, .any, .any, .any, .any, .any, .any, .any, .any], []⟩
def sx1_st_binnaclelaw25_bits_0 : StSh := ⟨[.any, .any, .any, .any, .any, .any, .any, .any, .any, .any, .any, .any, .any, .any, .any, .any, .any, .any, .any, .any, .any, .any, .any, .any, .any, .any, .any, .any], []⟩
def hk_st_binnaclelaw25_bits_0 (N_ : Nat) (S_q48 : TS_q48) : List Atom → K → Bool := fun a_ κ => match a_ with
  | [.fls a_1, .fls b_1, .int t12, .int t13] => iterG N_ (st_zl_bits_0 N_ S_q48 a_1 b_1 t12 (fun r0 => κ.ret (sx0_st_binnaclelaw25_bits_0.build [.bool r0])) (κ.ext 0 (sx1_st_binnaclelaw25_bits_0.build []))) t13
  | _ => false
def an_q97 (N_ : Nat) (S_q48 : TS_q48) : Nat → Option Ann := fun b_ => cond (b_ == 0) (some ⟨⟨[0, 1, 12, 13], []⟩, [(0, ⟨[], []⟩)], some ⟨[4], []⟩, some (mkHooks [(sh_st_binnaclelaw25_bits_0, hk_st_binnaclelaw25_bits_0 N_ S_q48)])⟩) (none)
theorem eq_st_binnaclelaw25_bits_0 (N_ : Nat) (S_q48 : TS_q48) (κ : K) (a_1 : List Fl) (b_1 : List Fl) (t12 : Int) (t13 : Int) : iter N_ (fun s k => codeV ⟨Tryz.prog, ofList [(74, (F_q48 S_q48))], isref, N_⟩ 0 (an_q97 N_ S_q48) (lp Tryz.prog 31 0).2 (lp Tryz.prog 31 0).1 s (roundK Tryz.prog 0 ((an_q97 N_ S_q48) (lp Tryz.prog 31 0).1) κ k)) (sh_st_binnaclelaw25_bits_0.build [.fls a_1, .fls b_1, .int t12, .int t13]) = iterG N_ (st_zl_bits_0 N_ S_q48 a_1 b_1 t12 (fun r0 => κ.ret (sx0_st_binnaclelaw25_bits_0.build [.bool r0])) (κ.ext 0 (sx1_st_binnaclelaw25_bits_0.build []))) t13 :=
  iter_tr (fun (v_ : Int) => sh_st_binnaclelaw25_bits_0.build [.fls a_1, .fls b_1, .int t12, .int v_]) (fun v_ K_ => by kernel_rfl) N_ t13
theorem hk1_st_binnaclelaw25_bits_0 (N_ : Nat) (S_q48 : TS_q48) : HookFor ⟨Tryz.prog, ofList [(74, (F_q48 S_q48))], isref, N_⟩ 0 (an_q97 N_ S_q48) (lp Tryz.prog 31 0) (sh_st_binnaclelaw25_bits_0, hk_st_binnaclelaw25_bits_0 N_ S_q48) := by
  intro a κ h
  simp only at h
  unfold hk_st_binnaclelaw25_bits_0 at h
  split at h
  · exact (eq_st_binnaclelaw25_bits_0 _ _ _ _ _ _ _).trans h
  · cases h
theorem ho_binnaclelaw25_bits_0 (N_ : Nat) (S_q48 : TS_q48) : HookOk ⟨Tryz.prog, ofList [(74, (F_q48 S_q48))], isref, N_⟩ 0 (an_q97 N_ S_q48) (lp Tryz.prog 31 0) :=
  hooks_ok [(sh_st_binnaclelaw25_bits_0, hk_st_binnaclelaw25_bits_0 N_ S_q48)] (by kernel_rfl) ⟨hk1_st_binnaclelaw25_bits_0 _ _, trivial⟩
theorem eq_q97 (N_ : Nat) (S_q48 : TS_q48) (a : List Fl) (b : List Fl) (cont_ : V → List Blk → Bool) : bodyV ⟨Tryz.prog, ofList [(74, (F_q48 S_q48))], isref, N_⟩ (an_q97 N_ S_q48) 31 (shF_q97.args [.fls a, .fls b]) [] cont_ = G_q97 N_ S_q48 a b (fun r0 => cont_ (.bool r0) []) := by kernel_rfl
theorem good_q97 (N_ : Nat) (S_q48 : TS_q48) (h_math_Float64bits : GoodF Tryz.prog 74 (F_q48 S_q48)) : GoodF Tryz.prog 31 (F_q97 (G_q97 N_ S_q48)) := by
  refine good_fs (cx := ⟨Tryz.prog, ofList [(74, (F_q48 S_q48))], isref, N_⟩) (ofList_cons h_math_Float64bits (ofList_nil _)) shF_q97 (sp_q97 (G_q97 N_ S_q48)) (an_q97 N_ S_q48) 1 0 (by kernel_rfl) (fun i_ hi_ => by
    match i_, hi_ with
    | 0, _ => exact ho_binnaclelaw25_bits_0 _ _
    | (q + 1), h => omega) ?_
  intro a k h
  unfold sp_q97 at h
  split at h
  · exact ⟨[], rfl, rfl, (eq_q97 _ _ _ _ _).trans h⟩
  · cases h

def an_q74 (N_ : Nat) (S_q62 : TS_q62) (S_q97 : TS_q97) : Nat → Option Ann := fun b_ => none
theorem eq_q74 (N_ : Nat) (S_q62 : TS_q62) (S_q97 : TS_q97) (a_0 : Fl) (a_1 : Fl) (a_2 : Fl) (a_3 : Fl) (b_0 : Fl) (b_1 : Fl) (b_2 : Fl) (b_3 : Fl) (cont_ : V → List Blk → Bool) : bodyV ⟨Tryz.prog, ofList [(32, (F_q62 S_q62)), (31, (F_q97 S_q97))], isref, N_⟩ (an_q74 N_ S_q62 S_q97) 8 (shF_q74.args [.fl a_0, .fl a_1, .fl a_2, .fl a_3, .fl b_0, .fl b_1, .fl b_2, .fl b_3]) [] cont_ = G_q74 N_ S_q62 S_q97 a_0 a_1 a_2 a_3 b_0 b_1 b_2 b_3 (fun r0 => cont_ (.bool r0) []) := by kernel_rfl
theorem good_q74 (N_ : Nat) (S_q62 : TS_q62) (S_q97 : TS_q97) (h_binnacleref12_List : GoodF Tryz.prog 32 (F_q62 S_q62)) (h_binnaclelaw25_bits : GoodF Tryz.prog 31 (F_q97 S_q97)) : GoodF Tryz.prog 8 (F_q74 (G_q74 N_ S_q62 S_q97)) := by
  refine good_fs (cx := ⟨Tryz.prog, ofList [(32, (F_q62 S_q62)), (31, (F_q97 S_q97))], isref, N_⟩) (ofList_cons h_binnacleref12_List (ofList_cons h_binnaclelaw25_bits (ofList_nil _))) shF_q74 (sp_q74 (G_q74 N_ S_q62 S_q97)) (an_q74 N_ S_q62 S_q97) 0 0 (by kernel_rfl) (fun i_ hi_ => by omega) ?_
  intro a k h
  unfold sp_q74 at h
  split at h
  · exact ⟨[], rfl, rfl, (eq_q74 _ _ _ _ _ _ _ _ _ _ _ _).trans h⟩
  · cases h

def an_matrix_list (N_ : Nat) (S_q14 : TS_q14) : Nat → Option Ann := fun b_ => none
theorem eq_matrix_list (N_ : Nat) (S_q14 : TS_q14) (x : List Fl) (cont_ : V → List Blk → Bool) : bodyV ⟨Tryz.prog, ofList [(59, (F_q14 S_q14))], isref, N_⟩ (an_matrix_list N_ S_q14) 79 (shF_matrix_list.args [.fls x]) [] cont_ = G_matrix_list N_ S_q14 x (fun r0 => cont_ (.int .i64 r0) []) := by kernel_rfl
theorem good_matrix_list (N_ : Nat) (S_q14 : TS_q14) (h_anatomy_Finite : GoodF Tryz.prog 59 (F_q14 S_q14)) : GoodF Tryz.prog 79 (F_matrix_list (G_matrix_list N_ S_q14)) := by
  refine good_fs (cx := ⟨Tryz.prog, ofList [(59, (F_q14 S_q14))], isref, N_⟩) (ofList_cons h_anatomy_Finite (ofList_nil _)) shF_matrix_list (sp_matrix_list (G_matrix_list N_ S_q14)) (an_matrix_list N_ S_q14) 0 0 (by kernel_rfl) (fun i_ hi_ => by omega) ?_
  intro a k h
  unfold sp_matrix_list at h
  split at h
  · exact ⟨[], rfl, rfl, (eq_matrix_list _ _ _ _).trans h⟩
  · cases h

def an_matrix_Diag_1_p0r (N_ : Nat) : Nat → Option Ann := fun b_ => none
theorem eq_matrix_Diag_1_p0r (N_ : Nat) (i : Int) (j : Int) (b : List Fl) (cont_ : V → List Blk → Bool) : bodyV ⟨Tryz.prog, ofList [], isref, N_⟩ (an_matrix_Diag_1_p0r N_) 172 (shF_matrix_Diag_1_p0r.args [.int i, .int j, .fls b]) [⟨44, 1, .cells [.rof b]⟩] cont_ = G_matrix_Diag_1_p0r N_ i j b (fun r0 => cont_ (.flt r0) [⟨44, 1, .cells [.rof b]⟩]) := by kernel_rfl
theorem good_matrix_Diag_1_p0r (N_ : Nat) : GoodF Tryz.prog 172 (F_matrix_Diag_1_p0r (G_matrix_Diag_1_p0r N_)) := by
  refine good_fs (cx := ⟨Tryz.prog, ofList [], isref, N_⟩) (ofList_nil _) shF_matrix_Diag_1_p0r (sp_matrix_Diag_1_p0r (G_matrix_Diag_1_p0r N_)) (an_matrix_Diag_1_p0r N_) 0 1 (by kernel_rfl) (fun i_ hi_ => by omega) ?_
  intro a k h
  unfold sp_matrix_Diag_1_p0r at h
  split at h
  · exact ⟨[_], rfl, rfl, (eq_matrix_Diag_1_p0r _ _ _ _ _).trans h⟩
  · cases h

def sh_st_matrix_fill_fr_2 : StSh := ⟨[.any, .int .i64, .fn 172 [.ptr 0 0], .any, .any, .any, .ptr 1 0, .ptr 2 0, .int .i64, .any, .any, .any, .any, .any, .any, .any, .any, .int .i64, .int .i64, .any, .any, .int .i64, .int .i64, .any, .any, .any, .any, .any, .any, .any, .any, .any, .any, .any, .any, .any, .any], [some (44, 1, .cells [.rof]), some (46, 1, .cells [.int .i64, .int .i64, .nil]), some (46, 1, .cells [.int .i64, .int .i64, .slw 3]), some (24, 1, .flts)]⟩
def sx0_st_matrix_fill_fr_2 : StSh := ⟨[.any, .int .i64, .fn 172 [.ptr 0 0], .any, .any, .any, .ptr 1 0, .ptr 2 0, .any, .any, .any, .any, .any, .any, .any, .any, .any, .int .i64, .int .i64, .any, .any, .any, .any, .any, .any, .any, .any, .any, .any, .any, .any, .any, .any, .any, .any, .any, .any], [some (44, 1, .cells [.rof]), some (46, 1, .cells [.int .i64, .int .i64, .nil]), some (46, 1, .cells [.int .i64, .int .i64, .slw 3]), some (24, 1, .flts)]⟩
def hk_st_matrix_fill_fr_2 (N_ : Nat) (S_matrix_Diag_1_p0r : TS_matrix_Diag_1_p0r) : List Atom → K → Bool := fun a_ κ => match a_ with
  | [.int cols_2, .int i, .int t17_1, .int t18_1, .int t21, .int t22, .fls at__1, .int t6_2, .int t6_3, .int m_2, .int m_3, .fls b3_1] => iterG N_ (st_matrix_fill_fr_2 N_ S_matrix_Diag_1_p0r cols_2 i t17_1 t18_1 t21 at__1 t6_2 t6_3 m_2 m_3 (fun r8 => κ.ext 2 (sx0_st_matrix_fill_fr_2.build [.int cols_2, .int t17_1, .int t18_1, .fls at__1, .int t6_2, .int t6_3, .int m_2, .int m_3, .fls r8]))) (t22, b3_1)
  | _ => false
def sh_st_matrix_fill_fr_0 : StSh := ⟨[.any, .int .i64, .fn 172 [.ptr 0 0], .any, .any, .any, .ptr 1 0, .ptr 2 0, .any, .any, .any, .any, .any, .any, .any, .any, .any, .int .i64, .int .i64, .any, .any, .any, .any, .any, .any, .any, .any, .any, .any, .any, .any, .any, .any, .any, .any, .any, .any], [some (44, 1, .cells [.rof]), some (46, 1, .cells [.int .i64, .int .i64, .nil]), some (46, 1, .cells [.int .i64, .int .i64, .slw 3]), some (24, 1, .flts)]⟩
def sx0_st_matrix_fill_fr_0 : StSh := ⟨[.any, .any, .any, .any, .any, .any, .ptr 1 0, .ptr 2 0, .any, .any, .any, .any, .any, .any, .any, .any, .any, .any, .any, .any, .any, .any, .any, .any, .any, .any, .any, .any, .any, .any, .any, .any, .any, .any, .any, .any, .any], [some (44, 1, .cells [.rof]), some (46, 1, .cells [.int .i64, .int .i64, .nil]), some (46, 1, .cells [.int .i64, .int .i64, .slw 3]), some (24, 1, .flts)]⟩
def hk_st_matrix_fill_fr_0 (N_ : Nat) (S_matrix_Diag_1_p0r : TS_matrix_Diag_1_p0r) : List Atom → K → Bool := fun a_ κ => match a_ with
  | [.int cols_1, .int t17, .int t18, .fls at_, .int t6, .int t6_1, .int m, .int m_1, .fls b3] => iterG N_ (st_matrix_fill_fr_0 N_ S_matrix_Diag_1_p0r cols_1 t17 at_ t6 t6_1 m m_1 (fun r5 => κ.ext 0 (sx0_st_matrix_fill_fr_0.build [.fls at_, .int t6, .int t6_1, .int m, .int m_1, .fls r5]))) (t18, b3)
  | _ => false
def an_matrix_fill_fr (N_ : Nat) (S_matrix_Diag_1_p0r : TS_matrix_Diag_1_p0r) : Nat → Option Ann := fun b_ => cond (b_ == 2) (some ⟨⟨[1, 2, 6, 7, 8, 17, 18, 21, 22], []⟩, [(2, ⟨[1, 2, 6, 7, 17, 18], []⟩)], some ⟨[6], []⟩, some (mkHooks [(sh_st_matrix_fill_fr_2, hk_st_matrix_fill_fr_2 N_ S_matrix_Diag_1_p0r)])⟩) (cond (b_ == 0) (some ⟨⟨[1, 2, 6, 7, 17, 18], []⟩, [(0, ⟨[6, 7], []⟩)], some ⟨[6], []⟩, some (mkHooks [(sh_st_matrix_fill_fr_0, hk_st_matrix_fill_fr_0 N_ S_matrix_Diag_1_p0r)])⟩) (none))
theorem eq_st_matrix_fill_fr_2 (N_ : Nat) (S_matrix_Diag_1_p0r : TS_matrix_Diag_1_p0r) (κ : K) (cols_2 : Int) (i : Int) (t17_1 : Int) (t18_1 : Int) (t21 : Int) (t22 : Int) (at__1 : List Fl) (t6_2 : Int) (t6_3 : Int) (m_2 : Int) (m_3 : Int) (b3_1 : List Fl) : iter N_ (fun s k => codeV ⟨Tryz.prog, ofList [(172, (F_matrix_Diag_1_p0r S_matrix_Diag_1_p0r))], isref, N_⟩ 1 (an_matrix_fill_fr N_ S_matrix_Diag_1_p0r) (lp Tryz.prog 140 1).2 (lp Tryz.prog 140 1).1 s (roundK Tryz.prog 1 ((an_matrix_fill_fr N_ S_matrix_Diag_1_p0r) (lp Tryz.prog 140 1).1) κ k)) (sh_st_matrix_fill_fr_2.build [.int cols_2, .int i, .int t17_1, .int t18_1, .int t21, .int t22, .fls at__1, .int t6_2, .int t6_3, .int m_2, .int m_3, .fls b3_1]) = iterG N_ (st_matrix_fill_fr_2 N_ S_matrix_Diag_1_p0r cols_2 i t17_1 t18_1 t21 at__1 t6_2 t6_3 m_2 m_3 (fun r8 => κ.ext 2 (sx0_st_matrix_fill_fr_2.build [.int cols_2, .int t17_1, .int t18_1, .fls at__1, .int t6_2, .int t6_3, .int m_2, .int m_3, .fls r8]))) (t22, b3_1) :=
  iter_tr (fun (v_ : Int × List Fl) => sh_st_matrix_fill_fr_2.build [.int cols_2, .int i, .int t17_1, .int t18_1, .int t21, .int v_.1, .fls at__1, .int t6_2, .int t6_3, .int m_2, .int m_3, .fls v_.2]) (fun v_ K_ => by obtain ⟨t22, b3_1⟩ := v_; kernel_rfl) N_ (t22, b3_1)
theorem hk1_st_matrix_fill_fr_2 (N_ : Nat) (S_matrix_Diag_1_p0r : TS_matrix_Diag_1_p0r) : HookFor ⟨Tryz.prog, ofList [(172, (F_matrix_Diag_1_p0r S_matrix_Diag_1_p0r))], isref, N_⟩ 1 (an_matrix_fill_fr N_ S_matrix_Diag_1_p0r) (lp Tryz.prog 140 1) (sh_st_matrix_fill_fr_2, hk_st_matrix_fill_fr_2 N_ S_matrix_Diag_1_p0r) := by
  intro a κ h
  simp only at h
  unfold hk_st_matrix_fill_fr_2 at h
  split at h
  · exact (eq_st_matrix_fill_fr_2 _ _ _ _ _ _ _ _ _ _ _ _ _ _ _).trans h
  · cases h
theorem eq_st_matrix_fill_fr_0 (N_ : Nat) (S_matrix_Diag_1_p0r : TS_matrix_Diag_1_p0r) (κ : K) (cols_1 : Int) (t17 : Int) (t18 : Int) (at_ : List Fl) (t6 : Int) (t6_1 : Int) (m : Int) (m_1 : Int) (b3 : List Fl) : iter N_ (fun s k => codeV ⟨Tryz.prog, ofList [(172, (F_matrix_Diag_1_p0r S_matrix_Diag_1_p0r))], isref, N_⟩ 1 (an_matrix_fill_fr N_ S_matrix_Diag_1_p0r) (lp Tryz.prog 140 0).2 (lp Tryz.prog 140 0).1 s (roundK Tryz.prog 1 ((an_matrix_fill_fr N_ S_matrix_Diag_1_p0r) (lp Tryz.prog 140 0).1) κ k)) (sh_st_matrix_fill_fr_0.build [.int cols_1, .int t17, .int t18, .fls at_, .int t6, .int t6_1, .int m, .int m_1, .fls b3]) = iterG N_ (st_matrix_fill_fr_0 N_ S_matrix_Diag_1_p0r cols_1 t17 at_ t6 t6_1 m m_1 (fun r5 => κ.ext 0 (sx0_st_matrix_fill_fr_0.build [.fls at_, .int t6, .int t6_1, .int m, .int m_1, .fls r5]))) (t18, b3) :=
  iter_tr (fun (v_ : Int × List Fl) => sh_st_matrix_fill_fr_0.build [.int cols_1, .int t17, .int v_.1, .fls at_, .int t6, .int t6_1, .int m, .int m_1, .fls v_.2]) (fun v_ K_ => by obtain ⟨t18, b3⟩ := v_; kernel_rfl) N_ (t18, b3)
theorem hk1_st_matrix_fill_fr_0 (N_ : Nat) (S_matrix_Diag_1_p0r : TS_matrix_Diag_1_p0r) : HookFor ⟨Tryz.prog, ofList [(172, (F_matrix_Diag_1_p0r S_matrix_Diag_1_p0r))], isref, N_⟩ 1 (an_matrix_fill_fr N_ S_matrix_Diag_1_p0r) (lp Tryz.prog 140 0) (sh_st_matrix_fill_fr_0, hk_st_matrix_fill_fr_0 N_ S_matrix_Diag_1_p0r) := by
  intro a κ h
  simp only at h
  unfold hk_st_matrix_fill_fr_0 at h
  split at h
  · exact (eq_st_matrix_fill_fr_0 _ _ _ _ _ _ _ _ _ _ _ _).trans h
  · cases h
theorem ho_matrix_fill_fr_2 (N_ : Nat) (S_matrix_Diag_1_p0r : TS_matrix_Diag_1_p0r) : HookOk ⟨Tryz.prog, ofList [(172, (F_matrix_Diag_1_p0r S_matrix_Diag_1_p0r))], isref, N_⟩ 1 (an_matrix_fill_fr N_ S_matrix_Diag_1_p0r) (lp Tryz.prog 140 1) :=
  hooks_ok [(sh_st_matrix_fill_fr_2, hk_st_matrix_fill_fr_2 N_ S_matrix_Diag_1_p0r)] (by kernel_rfl) ⟨hk1_st_matrix_fill_fr_2 _ _, trivial⟩
theorem ho_matrix_fill_fr_0 (N_ : Nat) (S_matrix_Diag_1_p0r : TS_matrix_Diag_1_p0r) : HookOk ⟨Tryz.prog, ofList [(172, (F_matrix_Diag_1_p0r S_matrix_Diag_1_p0r))], isref, N_⟩ 1 (an_matrix_fill_fr N_ S_matrix_Diag_1_p0r) (lp Tryz.prog 140 0) :=
  hooks_ok [(sh_st_matrix_fill_fr_0, hk_st_matrix_fill_fr_0 N_ S_matrix_Diag_1_p0r)] (by kernel_rfl) ⟨hk1_st_matrix_fill_fr_0 _ _, trivial⟩
theorem eq_matrix_fill_fr (N_ : Nat) (S_matrix_Diag_1_p0r : TS_matrix_Diag_1_p0r) (rows : Int) (cols : Int) (b : List Fl) (cont_ : V → List Blk → Bool) : bodyV ⟨Tryz.prog, ofList [(172, (F_matrix_Diag_1_p0r S_matrix_Diag_1_p0r))], isref, N_⟩ (an_matrix_fill_fr N_ S_matrix_Diag_1_p0r) 140 (shF_matrix_fill_fr.args [.int rows, .int cols, .fls b]) [⟨44, 1, .cells [.rof b]⟩] cont_ = G_matrix_fill_fr N_ S_matrix_Diag_1_p0r rows cols b (fun r3 => cont_ (.agg [.int .i64 rows, .int .i64 cols, .slw 1]) [⟨44, 1, .cells [.rof b]⟩, ⟨24, 1, .flts r3⟩]) := by kernel_rfl
theorem good_matrix_fill_fr (N_ : Nat) (S_matrix_Diag_1_p0r : TS_matrix_Diag_1_p0r) (h_matrix_Diag_1_p0r : GoodF Tryz.prog 172 (F_matrix_Diag_1_p0r S_matrix_Diag_1_p0r)) : GoodF Tryz.prog 140 (F_matrix_fill_fr (G_matrix_fill_fr N_ S_matrix_Diag_1_p0r)) := by
  refine good_fs (cx := ⟨Tryz.prog, ofList [(172, (F_matrix_Diag_1_p0r S_matrix_Diag_1_p0r))], isref, N_⟩) (ofList_cons h_matrix_Diag_1_p0r (ofList_nil _)) shF_matrix_fill_fr (sp_matrix_fill_fr (G_matrix_fill_fr N_ S_matrix_Diag_1_p0r)) (an_matrix_fill_fr N_ S_matrix_Diag_1_p0r) 2 1 (by kernel_rfl) (fun i_ hi_ => by
    match i_, hi_ with
    | 0, _ => exact ho_matrix_fill_fr_0 _ _
    | 1, _ => exact ho_matrix_fill_fr_2 _ _
    | (q + 2), h => omega) ?_
  intro a k h
  unfold sp_matrix_fill_fr at h
  split at h
  · exact ⟨[_], rfl, rfl, (eq_matrix_fill_fr _ _ _ _ _ _).trans h⟩
  · cases h

def an_matrix_Diag (N_ : Nat) (S_matrix_list : TS_matrix_list) (S_matrix_fill_fr : TS_matrix_fill_fr) : Nat → Option Ann := fun b_ => none
theorem eq_matrix_Diag (N_ : Nat) (S_matrix_list : TS_matrix_list) (S_matrix_fill_fr : TS_matrix_fill_fr) (d : List Fl) (cont_ : V → List Blk → Bool) : bodyV ⟨Tryz.prog, ofList [(79, (F_matrix_list S_matrix_list)), (140, (F_matrix_fill_fr S_matrix_fill_fr))], isref, N_⟩ (an_matrix_Diag N_ S_matrix_list S_matrix_fill_fr) 136 (shF_matrix_Diag.args [.fls d]) [] cont_ = G_matrix_Diag N_ S_matrix_list S_matrix_fill_fr d (fun r0 r1 r2 => cont_ (.tup [.agg [.int .i64 r0, .int .i64 r1, .nil], .int .i64 r2]) []) (fun r0 r1 r2 r3 => cont_ (.tup [.agg [.int .i64 r0, .int .i64 r1, .slw 0], .int .i64 r2]) [⟨24, 1, .flts r3⟩]) := by kernel_rfl
theorem good_matrix_Diag (N_ : Nat) (S_matrix_list : TS_matrix_list) (S_matrix_fill_fr : TS_matrix_fill_fr) (h_matrix_list : GoodF Tryz.prog 79 (F_matrix_list S_matrix_list)) (h_matrix_fill_fr : GoodF Tryz.prog 140 (F_matrix_fill_fr S_matrix_fill_fr)) : GoodF Tryz.prog 136 (F_matrix_Diag (G_matrix_Diag N_ S_matrix_list S_matrix_fill_fr)) := by
  refine good_fs (cx := ⟨Tryz.prog, ofList [(79, (F_matrix_list S_matrix_list)), (140, (F_matrix_fill_fr S_matrix_fill_fr))], isref, N_⟩) (ofList_cons h_matrix_list (ofList_cons h_matrix_fill_fr (ofList_nil _))) shF_matrix_Diag (sp_matrix_Diag (G_matrix_Diag N_ S_matrix_list S_matrix_fill_fr)) (an_matrix_Diag N_ S_matrix_list S_matrix_fill_fr) 0 0 (by kernel_rfl) (fun i_ hi_ => by omega) ?_
  intro a k h
  unfold sp_matrix_Diag at h
  split at h
  · exact ⟨[], rfl, rfl, (eq_matrix_Diag _ _ _ _ _).trans h⟩
  · cases h

def an_q98 (N_ : Nat) (S_matrix_Diag : TS_matrix_Diag) : Nat → Option Ann := fun b_ => none
theorem eq_q98 (N_ : Nat) (S_matrix_Diag : TS_matrix_Diag) (a : Fl) (b : Fl) (cont_ : V → List Blk → Bool) : bodyV ⟨Tryz.prog, ofList [(136, (F_matrix_Diag S_matrix_Diag))], isref, N_⟩ (an_q98 N_ S_matrix_Diag) 75 (shF_q98.args [.fl a, .fl b]) [] cont_ = G_q98 N_ S_matrix_Diag a b (fun r0 r1 r2 => cont_ (.tup [.agg [.int .i64 r0, .int .i64 r1, .nil], .int .i64 r2]) []) (fun r0 r1 r2 r3 => cont_ (.tup [.agg [.int .i64 r0, .int .i64 r1, .slw 0], .int .i64 r2]) [⟨24, 1, .flts r3⟩]) := by kernel_rfl
theorem good_q98 (N_ : Nat) (S_matrix_Diag : TS_matrix_Diag) (h_matrix_Diag : GoodF Tryz.prog 136 (F_matrix_Diag S_matrix_Diag)) : GoodF Tryz.prog 75 (F_q98 (G_q98 N_ S_matrix_Diag)) := by
  refine good_fs (cx := ⟨Tryz.prog, ofList [(136, (F_matrix_Diag S_matrix_Diag))], isref, N_⟩) (ofList_cons h_matrix_Diag (ofList_nil _)) shF_q98 (sp_q98 (G_q98 N_ S_matrix_Diag)) (an_q98 N_ S_matrix_Diag) 0 0 (by kernel_rfl) (fun i_ hi_ => by omega) ?_
  intro a k h
  unfold sp_q98 at h
  split at h
  · exact ⟨[], rfl, rfl, (eq_q98 _ _ _ _ _).trans h⟩
  · cases h

def an_q109 (N_ : Nat) (S_quat_Unit : TS_quat_Unit) (S_q14 : TS_q14) (S_q98 : TS_q98) : Nat → Option Ann := fun b_ => none
theorem eq_q109 (N_ : Nat) (S_quat_Unit : TS_quat_Unit) (S_q14 : TS_q14) (S_q98 : TS_q98) (q_0 : Fl) (q_1 : Fl) (q_2 : Fl) (q_3 : Fl) (turn : Fl) (bias : Fl) (cont_ : V → List Blk → Bool) : bodyV ⟨Tryz.prog, ofList [(66, (F_quat_Unit S_quat_Unit)), (59, (F_q14 S_q14)), (75, (F_q98 S_q98))], isref, (N_ + 24)⟩ (an_q109 (N_ + 24) S_quat_Unit S_q14 S_q98) 33 (shF_q109.args [.fl q_0, .fl q_1, .fl q_2, .fl q_3, .fl turn, .fl bias]) [] cont_ = G_q109 (N_ + 24) S_quat_Unit S_q14 S_q98 q_0 q_1 q_2 q_3 turn bias (fun r0 r1 r2 r3 r4 r5 r6 r7 r8 r9 => cont_ (.tup [.agg [.flt r0, .flt r1, .flt r2, .flt r3, .flt r4, .flt r5, .flt r6, .int .i64 r7, .int .i64 r8, .nil], .int .i64 r9]) []) (fun r0 r1 r2 r3 r4 r5 r6 r7 r8 r9 r10 => cont_ (.tup [.agg [.flt r0, .flt r1, .flt r2, .flt r3, .flt r4, .flt r5, .flt r6, .int .i64 r7, .int .i64 r8, .slw 0], .int .i64 r9]) [⟨24, 1, .flts r10⟩]) := by kernel_rfl
theorem good_q109 (N_ : Nat) (S_quat_Unit : TS_quat_Unit) (S_q14 : TS_q14) (S_q98 : TS_q98) (h_quat_Unit : GoodF Tryz.prog 66 (F_quat_Unit S_quat_Unit)) (h_anatomy_Finite : GoodF Tryz.prog 59 (F_q14 S_q14)) (h_attitude_thrice : GoodF Tryz.prog 75 (F_q98 S_q98)) : GoodF Tryz.prog 33 (F_q109 (G_q109 (N_ + 24) S_quat_Unit S_q14 S_q98)) := by
  refine good_fs (cx := ⟨Tryz.prog, ofList [(66, (F_quat_Unit S_quat_Unit)), (59, (F_q14 S_q14)), (75, (F_q98 S_q98))], isref, (N_ + 24)⟩) (ofList_cons h_quat_Unit (ofList_cons h_anatomy_Finite (ofList_cons h_attitude_thrice (ofList_nil _)))) shF_q109 (sp_q109 (G_q109 (N_ + 24) S_quat_Unit S_q14 S_q98)) (an_q109 (N_ + 24) S_quat_Unit S_q14 S_q98) 1 0 (by kernel_rfl) (fun i_ hi_ => by
    match i_, hi_ with
    | 0, _ => exact (fun hk e => by rw [show hookOf ((an_q109 (N_ + 24) S_quat_Unit S_q14 S_q98) (lp Tryz.prog 33 0).1) = none from by kernel_rfl] at e; cases e)
    | (q + 1), h => omega) ?_
  intro a k h
  unfold sp_q109 at h
  split at h
  · exact ⟨[], rfl, rfl, (eq_q109 _ _ _ _ _ _ _ _ _ _ _).trans h⟩
  · cases h

def an_q116 (N_ : Nat) (S_q14 : TS_q14) : Nat → Option Ann := fun b_ => none
theorem eq_q116 (N_ : Nat) (S_q14 : TS_q14) (v_0 : Fl) (v_1 : Fl) (v_2 : Fl) (cont_ : V → List Blk → Bool) : bodyV ⟨Tryz.prog, ofList [(59, (F_q14 S_q14))], isref, N_⟩ (an_q116 N_ S_q14) 34 (shF_q116.args [.fl v_0, .fl v_1, .fl v_2]) [] cont_ = G_q116 N_ S_q14 v_0 v_1 v_2 (fun r0 r1 r2 => cont_ (.tup [.agg [.int .i64 r0, .int .i64 r1, .nil], .int .i64 r2]) []) (fun r0 r1 r2 r3 => cont_ (.tup [.agg [.int .i64 r0, .int .i64 r1, .slw 0], .int .i64 r2]) [⟨24, 1, .flts r3⟩]) := by kernel_rfl
theorem good_q116 (N_ : Nat) (S_q14 : TS_q14) (h_anatomy_Finite : GoodF Tryz.prog 59 (F_q14 S_q14)) : GoodF Tryz.prog 34 (F_q116 (G_q116 N_ S_q14)) := by
  refine good_fs (cx := ⟨Tryz.prog, ofList [(59, (F_q14 S_q14))], isref, N_⟩) (ofList_cons h_anatomy_Finite (ofList_nil _)) shF_q116 (sp_q116 (G_q116 N_ S_q14)) (an_q116 N_ S_q14) 0 0 (by kernel_rfl) (fun i_ hi_ => by omega) ?_
  intro a k h
  unfold sp_q116 at h
  split at h
  · exact ⟨[], rfl, rfl, (eq_q116 _ _ _ _ _ _).trans h⟩
  · cases h

def an_q101 (N_ : Nat) (S_q109 : TS_q109) (S_q116 : TS_q116) (S_q74 : TS_q74) (S_q97 : TS_q97) : Nat → Option Ann := fun b_ => none
theorem eq_q101 (N_ : Nat) (S_q109 : TS_q109) (S_q116 : TS_q116) (S_q74 : TS_q74) (S_q97 : TS_q97) (cont_ : V → List Blk → Bool) : bodyV ⟨Tryz.prog, ofList [(33, (F_q109 S_q109)), (34, (F_q116 S_q116)), (8, (F_q74 S_q74)), (31, (F_q97 S_q97))], isref, N_⟩ (an_q101 N_ S_q109 S_q116 S_q74 S_q97) 9 (shF_q101.args []) [] cont_ = G_q101 N_ S_q109 S_q116 S_q74 S_q97 (fun r0 => cont_ (.bool r0) []) := by kernel_rfl
theorem good_q101 (N_ : Nat) (S_q109 : TS_q109) (S_q116 : TS_q116) (S_q74 : TS_q74) (S_q97 : TS_q97) (h_attitude_Start : GoodF Tryz.prog 33 (F_q109 S_q109)) (h_attitude_Skew : GoodF Tryz.prog 34 (F_q116 S_q116)) (h_binnaclelaw25_quats : GoodF Tryz.prog 8 (F_q74 S_q74)) (h_binnaclelaw25_bits : GoodF Tryz.prog 31 (F_q97 S_q97)) : GoodF Tryz.prog 9 (F_q101 (G_q101 N_ S_q109 S_q116 S_q74 S_q97)) := by
  refine good_fs (cx := ⟨Tryz.prog, ofList [(33, (F_q109 S_q109)), (34, (F_q116 S_q116)), (8, (F_q74 S_q74)), (31, (F_q97 S_q97))], isref, N_⟩) (ofList_cons h_attitude_Start (ofList_cons h_attitude_Skew (ofList_cons h_binnaclelaw25_quats (ofList_cons h_binnaclelaw25_bits (ofList_nil _))))) shF_q101 (sp_q101 (G_q101 N_ S_q109 S_q116 S_q74 S_q97)) (an_q101 N_ S_q109 S_q116 S_q74 S_q97) 0 0 (by kernel_rfl) (fun i_ hi_ => by omega) ?_
  intro a k h
  unfold sp_q101 at h
  split at h
  · exact ⟨[], rfl, rfl, (eq_q101 _ _ _ _ _ _).trans h⟩
  · cases h

def an_q38 (N_ : Nat) (S_q117 : TS_q117) (S_q80 : TS_q80) (S_q69 : TS_q69) (S_q74 : TS_q74) (S_q101 : TS_q101) : Nat → Option Ann := fun b_ => none
theorem eq_q38 (N_ : Nat) (S_q117 : TS_q117) (S_q80 : TS_q80) (S_q69 : TS_q69) (S_q74 : TS_q74) (S_q101 : TS_q101) (a_0 : Int) (a_1 : Int) (a_2 : Int) (b_0 : Int) (b_1 : Int) (b_2 : Int) (c_0 : Int) (c_1 : Int) (c_2 : Int) (d_0 : Int) (d_1 : Int) (d_2 : Int) (cont_ : V → List Blk → Bool) : bodyV ⟨Tryz.prog, ofList [(6, (F_q117 S_q117)), (5, (F_q80 S_q80)), (7, (F_q69 S_q69)), (8, (F_q74 S_q74)), (9, (F_q101 S_q101))], isref, N_⟩ (an_q38 N_ S_q117 S_q80 S_q69 S_q74 S_q101) 3 (shF_q38.args [.int a_0, .int a_1, .int a_2, .int b_0, .int b_1, .int b_2, .int c_0, .int c_1, .int c_2, .int d_0, .int d_1, .int d_2]) [] cont_ = G_q38 N_ S_q117 S_q80 S_q69 S_q74 S_q101 a_0 a_1 a_2 b_0 b_1 b_2 c_0 c_1 c_2 d_0 d_1 d_2 (fun r0 => cont_ (.bool r0) []) := by kernel_rfl
theorem good_q38 (N_ : Nat) (S_q117 : TS_q117) (S_q80 : TS_q80) (S_q69 : TS_q69) (S_q74 : TS_q74) (S_q101 : TS_q101) (h_binnaclelaw25_Vec : GoodF Tryz.prog 6 (F_q117 S_q117)) (h_attitude_Triad : GoodF Tryz.prog 5 (F_q80 S_q80)) (h_binnacleref25_Triad : GoodF Tryz.prog 7 (F_q69 S_q69)) (h_binnaclelaw25_quats : GoodF Tryz.prog 8 (F_q74 S_q74)) (h_binnaclelaw25_awake : GoodF Tryz.prog 9 (F_q101 S_q101)) : GoodF Tryz.prog 3 (F_q38 (G_q38 N_ S_q117 S_q80 S_q69 S_q74 S_q101)) := by
  refine good_fs (cx := ⟨Tryz.prog, ofList [(6, (F_q117 S_q117)), (5, (F_q80 S_q80)), (7, (F_q69 S_q69)), (8, (F_q74 S_q74)), (9, (F_q101 S_q101))], isref, N_⟩) (ofList_cons h_binnaclelaw25_Vec (ofList_cons h_attitude_Triad (ofList_cons h_binnacleref25_Triad (ofList_cons h_binnaclelaw25_quats (ofList_cons h_binnaclelaw25_awake (ofList_nil _)))))) shF_q38 (sp_q38 (G_q38 N_ S_q117 S_q80 S_q69 S_q74 S_q101)) (an_q38 N_ S_q117 S_q80 S_q69 S_q74 S_q101) 0 0 (by kernel_rfl) (fun i_ hi_ => by omega) ?_
  intro a k h
  unfold sp_q38 at h
  split at h
  · exact ⟨[], rfl, rfl, (eq_q38 _ _ _ _ _ _ _ _ _ _ _ _ _ _ _ _ _ _ _).trans h⟩
  · cases h

theorem top_q38 (N_ : Nat) (S_q117 : TS_q117) (S_q80 : TS_q80) (S_q69 : TS_q69) (S_q74 : TS_q74) (S_q101 : TS_q101) (h_binnaclelaw25_Vec : GoodF Tryz.prog 6 (F_q117 S_q117)) (h_attitude_Triad : GoodF Tryz.prog 5 (F_q80 S_q80)) (h_binnacleref25_Triad : GoodF Tryz.prog 7 (F_q69 S_q69)) (h_binnaclelaw25_quats : GoodF Tryz.prog 8 (F_q74 S_q74)) (h_binnaclelaw25_awake : GoodF Tryz.prog 9 (F_q101 S_q101)) (a_0 : Int) (a_1 : Int) (a_2 : Int) (b_0 : Int) (b_1 : Int) (b_2 : Int) (c_0 : Int) (c_1 : Int) (c_2 : Int) (d_0 : Int) (d_1 : Int) (d_2 : Int) (hG : G_q38 N_ S_q117 S_q80 S_q69 S_q74 S_q101 a_0 a_1 a_2 b_0 b_1 b_2 c_0 c_1 c_2 d_0 d_1 d_2 (fun b => b) = true) : OkC Tryz.prog 3 (shF_q38.args [.int a_0, .int a_1, .int a_2, .int b_0, .int b_1, .int b_2, .int c_0, .int c_1, .int c_2, .int d_0, .int d_1, .int d_2]) [] (.bool true) [] :=
  top_fs (cx := ⟨Tryz.prog, ofList [(6, (F_q117 S_q117)), (5, (F_q80 S_q80)), (7, (F_q69 S_q69)), (8, (F_q74 S_q74)), (9, (F_q101 S_q101))], isref, N_⟩) (ofList_cons h_binnaclelaw25_Vec (ofList_cons h_attitude_Triad (ofList_cons h_binnacleref25_Triad (ofList_cons h_binnaclelaw25_quats (ofList_cons h_binnaclelaw25_awake (ofList_nil _)))))) (an_q38 N_ S_q117 S_q80 S_q69 S_q74 S_q101) 0 (by kernel_rfl) (fun i_ hi_ => by omega) ((eq_q38 N_ S_q117 S_q80 S_q69 S_q74 S_q101 a_0 a_1 a_2 b_0 b_1 b_2 c_0 c_1 c_2 d_0 d_1 d_2 (fun r H => match r, H with | .bool b, [] => b | _, _ => false)).trans hG)

end Go.Proofs.YtldpkhfffeddiaaGreat
