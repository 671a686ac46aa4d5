/-
  THE TIES: each printed meaning is what the program does (written by program).
  Conditions: none.
-/
import Derived.Test.YtccocdgimamdhaaGreatDoorGs
namespace Go.Proofs.YtccocdgimamdhaaGreatDoor
open Go Go.Mach Go.Proofs
set_option linter.unusedVariables false
set_option maxRecDepth 50000

def an_q100 (N_ : Nat) (S_q168 : TS_q168) (S_q97 : TS_q97) (S_q159 : TS_q159) (S_q160 : TS_q160) (S_q134 : TS_q134) : Nat → Option Ann := fun b_ => none
theorem eq_q100 (N_ : Nat) (S_q168 : TS_q168) (S_q97 : TS_q97) (S_q159 : TS_q159) (S_q160 : TS_q160) (S_q134 : TS_q134) (n_0 : Int) (n_1 : Bool) (n_2 : Int) (b : Bool) (b_1 : List Int) (cont_ : V → List Blk → Bool) : bodyV ⟨Tryz.prog, ofList [(184, (F_q168 S_q168)), (185, (F_q97 S_q97)), (186, (F_q159 S_q159)), (187, (F_q160 S_q160)), (188, (F_q134 S_q134))], isref, N_⟩ (an_q100 N_ S_q168 S_q97 S_q159 S_q160 S_q134) 156 (shF_q100.args [.int n_0, .bool n_1, .int n_2, .bool b, .ints b_1]) [⟨105, 1, .cells [.bool b, .roi .u32 b_1]⟩] cont_ = G_q100 N_ S_q168 S_q97 S_q159 S_q160 S_q134 n_0 n_1 n_2 b b_1 (fun r0 r1 => cont_ (.tup [.int .u64 r0, .int .i64 r1]) [⟨105, 1, .cells [.bool b, .roi .u32 b_1]⟩]) := by kernel_rfl
theorem good_q100 (N_ : Nat) (S_q168 : TS_q168) (S_q97 : TS_q97) (S_q159 : TS_q159) (S_q160 : TS_q160) (S_q134 : TS_q134) (h_v_binnacleref02_Fmt_None : GoodF Tryz.prog 184 (F_q168 S_q168)) (h_v_binnacleref02_Fmt_Infinity : GoodF Tryz.prog 185 (F_q97 S_q97)) (h_v_binnacleref02_Num_IsZero : GoodF Tryz.prog 186 (F_q159 S_q159)) (h_v_binnacleref02_Fmt_Nought : GoodF Tryz.prog 187 (F_q160 S_q160)) (h_v_binnacleref02_Fmt_Round : GoodF Tryz.prog 188 (F_q134 S_q134)) : GoodF Tryz.prog 156 (F_q100 (G_q100 N_ S_q168 S_q97 S_q159 S_q160 S_q134)) := by
  refine good_fs (cx := ⟨Tryz.prog, ofList [(184, (F_q168 S_q168)), (185, (F_q97 S_q97)), (186, (F_q159 S_q159)), (187, (F_q160 S_q160)), (188, (F_q134 S_q134))], isref, N_⟩) (ofList_cons h_v_binnacleref02_Fmt_None (ofList_cons h_v_binnacleref02_Fmt_Infinity (ofList_cons h_v_binnacleref02_Num_IsZero (ofList_cons h_v_binnacleref02_Fmt_Nought (ofList_cons h_v_binnacleref02_Fmt_Round (ofList_nil _)))))) shF_q100 (sp_q100 (G_q100 N_ S_q168 S_q97 S_q159 S_q160 S_q134)) (an_q100 N_ S_q168 S_q97 S_q159 S_q160 S_q134) 0 1 (by kernel_rfl) (fun i_ hi_ => by omega) ?_
  intro a k h
  unfold sp_q100 at h
  split at h
  · exact ⟨[_], rfl, rfl, (eq_q100 _ _ _ _ _ _ _ _ _ _ _ _).trans h⟩
  · cases h

def an_q136 (N_ : Nat) (S_q109 : TS_q109) (S_q91 : TS_q91) (S_q148 : TS_q148) (S_q152 : TS_q152) (S_q100 : TS_q100) : Nat → Option Ann := fun b_ => none
def ls_q195 (ds_ : List V) (ms_ : List (Option Blk)) (x : Int) (k_ : Int) (b0_1 : Bool) (b0_2 : List Int) (n : Int) (n_1 : Bool) (n_2 : Int) : St := ⟨[(dq ds_ 0), (dq ds_ 1), .int .i64 0, (dq ds_ 2), (dq ds_ 3), (dq ds_ 4), (dq ds_ 5), (dq ds_ 6), (dq ds_ 7), .ptr 1 0, (dq ds_ 8), (dq ds_ 9), (dq ds_ 10), (dq ds_ 11), (dq ds_ 12), (dq ds_ 13), (dq ds_ 14), (dq ds_ 15), (dq ds_ 16), (dq ds_ 17), (dq ds_ 18), (dq ds_ 19), (dq ds_ 20), (dq ds_ 21), (dq ds_ 22), (dq ds_ 23), (dq ds_ 24), (dq ds_ 25), (dq ds_ 26), (dq ds_ 27), (dq ds_ 28), (dq ds_ 29), (dq ds_ 30), (dq ds_ 31), (dq ds_ 32), (dq ds_ 33), (dq ds_ 34)], [some ⟨105, 1, .cells [.bool b0_1, .roi .u32 b0_2]⟩, some ⟨190, 1, .cells [.int .i64 n, .bool n_1, .ptr 0 0, .int .i64 n_2]⟩]⟩
def ls_q228 (ds_ : List V) (ms_ : List (Option Blk)) (x : Int) (k_ : Int) (b0 : Bool) : St := ⟨[(dq ds_ 0), (dq ds_ 1), .int .i64 0, (dq ds_ 2), (dq ds_ 3), (dq ds_ 4), (dq ds_ 5), (dq ds_ 6), (dq ds_ 7), .ptr 1 0, (dq ds_ 8), (dq ds_ 9), (dq ds_ 10), (dq ds_ 11), (dq ds_ 12), (dq ds_ 13), (dq ds_ 14), (dq ds_ 15), (dq ds_ 16), (dq ds_ 17), (dq ds_ 18), (dq ds_ 19), (dq ds_ 20), (dq ds_ 21), (dq ds_ 22), (dq ds_ 23), (dq ds_ 24), (dq ds_ 25), (dq ds_ 26), (dq ds_ 27), (dq ds_ 28), (dq ds_ 29), (dq ds_ 30), (dq ds_ 31), (dq ds_ 32), (dq ds_ 33), (dq ds_ 34)], [some ⟨105, 1, .cells [.bool b0, .nil]⟩, some ⟨190, 1, .cells [.int .i64 2, .bool false, .ptr 0 0, .int .i64 0]⟩]⟩
theorem jn_q195 (N_ : Nat) (S_q109 : TS_q109) (S_q91 : TS_q91) (S_q148 : TS_q148) (S_q152 : TS_q152) (S_q100 : TS_q100) (ds_ : List V) (ms_ : List (Option Blk)) (x : Int) (k_ : Int) (b0_1 : Bool) (b0_2 : List Int) (n : Int) (n_1 : Bool) (n_2 : Int) (cont_ : V → List Blk → Bool) : codesV ⟨Tryz.prog, ofList [(153, (F_q109 S_q109)), (154, (F_q91 S_q91)), (155, (F_q148 S_q148)), (156, (orFs (F_q100 S_q100) (F_q152 S_q152) shF_q100))], isref, N_⟩ 0 (an_q136 N_ S_q109 S_q91 S_q148 S_q152 S_q100) ((cds Tryz.prog 123).drop 6) 0 (ls_q195 ds_ ms_ x k_ b0_1 b0_2 n n_1 n_2) (finV Tryz.prog 123 0 cont_) = J_q195 N_ S_q109 S_q91 S_q148 S_q152 S_q100 x k_ b0_1 b0_2 n n_1 n_2 (fun r0 r1 r2 => cont_ (.tup [.int .u64 r0, .int .i64 r1, .int .i64 r2]) []) := by kernel_rfl
theorem jn_q228 (N_ : Nat) (S_q109 : TS_q109) (S_q91 : TS_q91) (S_q148 : TS_q148) (S_q152 : TS_q152) (S_q100 : TS_q100) (ds_ : List V) (ms_ : List (Option Blk)) (x : Int) (k_ : Int) (b0 : Bool) (cont_ : V → List Blk → Bool) : codesV ⟨Tryz.prog, ofList [(153, (F_q109 S_q109)), (154, (F_q91 S_q91)), (155, (F_q148 S_q148)), (156, (orFs (F_q100 S_q100) (F_q152 S_q152) shF_q100))], isref, N_⟩ 0 (an_q136 N_ S_q109 S_q91 S_q148 S_q152 S_q100) ((cds Tryz.prog 123).drop 6) 0 (ls_q228 ds_ ms_ x k_ b0) (finV Tryz.prog 123 0 cont_) = J_q228 N_ S_q109 S_q91 S_q148 S_q152 S_q100 x k_ b0 (fun r0 r1 r2 => cont_ (.tup [.int .u64 r0, .int .i64 r1, .int .i64 r2]) []) := by kernel_rfl
theorem hd_z02_Scale_w (N_ : Nat) (S_q109 : TS_q109) (S_q91 : TS_q91) (S_q148 : TS_q148) (S_q152 : TS_q152) (S_q100 : TS_q100) (x : Int) (k_ : Int) (cont_ : V → List Blk → Bool) (κn_ : St → Bool) : codesV ⟨Tryz.prog, ofList [(153, (F_q109 S_q109)), (154, (F_q91 S_q91)), (155, (F_q148 S_q148)), (156, (orFs (F_q100 S_q100) (F_q152 S_q152) shF_q100))], isref, N_⟩ 0 (an_q136 N_ S_q109 S_q91 S_q148 S_q152 S_q100) (sg Tryz.prog 123 0 6) 0 (st0 Tryz.prog 123 (shF_q136.args [.int x, .int k_]) []) { (finV Tryz.prog 123 0 cont_) with nrm := κn_ } = (S_q109 (S_q91 (S_q148 x (fun (cr : Bool) => (κn_ (ls_q228 [.int .u64 x, .int .i64 k_, .any, .any, .any, .int .u64 0, .int .i64 0, .int .i64 0, .any, .any, .int .i64 0, .bool true, .bool false, .agg [.int .i64 53, .int .i64 (-1022), .int .i64 1023, .int .i64 11], .int .u64 x, .agg [.int .i64 2, .bool false, .ptr 0 0, .int .i64 0], .ptr 1 0, .int .i64 2, .bool false, .any, .any, .any, .any, .any, .any, .any, .any, .any, .any, .any, .any, .any, .any, .any, .any] [] x k_ cr))) (fun (cr_1 : Bool) (cr_2 : Bool) (nsr : List Int) => (κn_ (ls_q195 [.int .u64 x, .int .i64 k_, .any, .any, .any, .int .u64 0, .int .i64 0, .int .i64 0, .any, .any, .int .i64 0, .bool true, .bool false, .agg [.int .i64 53, .int .i64 (-1022), .int .i64 1023, .int .i64 11], .int .u64 x, .agg [.int .i64 1, .bool cr_1, .ptr 0 0, .int .i64 (-1074)], .ptr 1 0, .int .i64 1, .bool false, .any, .any, .any, .any, .any, .any, .any, .any, .any, .any, .any, .any, .any, .any, .any, .any] [] x k_ cr_2 nsr 1 cr_1 (-1074)))) (fun (cr_3 : Bool) (nr : Int) (cr_4 : Bool) (nsr_1 : List Int) => ((fits .i64 (nr + (imm true (-5000) (imm false k_ 5000)))) && (κn_ (ls_q195 [.int .u64 x, .int .i64 k_, .any, .any, .any, .int .u64 0, .int .i64 0, .int .i64 0, .any, .any, .int .i64 0, .bool true, .bool false, .agg [.int .i64 53, .int .i64 (-1022), .int .i64 1023, .int .i64 11], .int .u64 x, .agg [.int .i64 0, .bool cr_3, .ptr 0 0, .int .i64 nr], .ptr 1 0, .int .i64 0, .bool true, .ptr 1 3, .int .i64 nr, .int .i64 k_, .int .i64 (imm false k_ 5000), .int .i64 (imm true (-5000) (imm false k_ 5000)), .int .i64 (nr + (imm true (-5000) (imm false k_ 5000))), .ptr 1 3, .any, .any, .any, .any, .any, .any, .any, .any, .any] [] x k_ cr_4 nsr_1 0 cr_3 (nr + (imm true (-5000) (imm false k_ 5000))))))) (fun (cr_5 : Bool) (cr_6 : Bool) (nsr_2 : List Int) => ((fits .i64 ((-1074) + (imm true (-5000) (imm false k_ 5000)))) && (κn_ (ls_q195 [.int .u64 x, .int .i64 k_, .any, .any, .any, .int .u64 0, .int .i64 0, .int .i64 0, .any, .any, .int .i64 0, .bool true, .bool false, .agg [.int .i64 53, .int .i64 (-1022), .int .i64 1023, .int .i64 11], .int .u64 x, .agg [.int .i64 0, .bool cr_5, .ptr 0 0, .int .i64 (-1074)], .ptr 1 0, .int .i64 0, .bool true, .ptr 1 3, .int .i64 (-1074), .int .i64 k_, .int .i64 (imm false k_ 5000), .int .i64 (imm true (-5000) (imm false k_ 5000)), .int .i64 ((-1074) + (imm true (-5000) (imm false k_ 5000))), .ptr 1 3, .any, .any, .any, .any, .any, .any, .any, .any, .any] [] x k_ cr_6 nsr_2 0 cr_5 ((-1074) + (imm true (-5000) (imm false k_ 5000)))))))))) := by kernel_rfl
theorem jn_z02_Scale_w (N_ : Nat) (S_q109 : TS_q109) (S_q91 : TS_q91) (S_q148 : TS_q148) (S_q152 : TS_q152) (S_q100 : TS_q100) (x : Int) (k_ : Int) (cont_ : V → List Blk → Bool) : codesV ⟨Tryz.prog, ofList [(153, (F_q109 S_q109)), (154, (F_q91 S_q91)), (155, (F_q148 S_q148)), (156, (orFs (F_q100 S_q100) (F_q152 S_q152) shF_q100))], isref, N_⟩ 0 (an_q136 N_ S_q109 S_q91 S_q148 S_q152 S_q100) ((cds Tryz.prog 123).drop 0) 0 (st0 Tryz.prog 123 (shF_q136.args [.int x, .int k_]) []) (finV Tryz.prog 123 0 cont_) = G_q136 N_ S_q109 S_q91 S_q148 S_q152 S_q100 x k_ (fun r0 r1 r2 => cont_ (.tup [.int .u64 r0, .int .i64 r1, .int .i64 r2]) []) := by
  rw [codesV_cut 0 6 6 rfl]
  refine (hd_z02_Scale_w N_ S_q109 S_q91 S_q148 S_q152 S_q100 x k_ cont_ _).trans ?_
  simp only [jn_q228, jn_q195]
  kernel_rfl
theorem eq_q136 (N_ : Nat) (S_q109 : TS_q109) (S_q91 : TS_q91) (S_q148 : TS_q148) (S_q152 : TS_q152) (S_q100 : TS_q100) (x : Int) (k_ : Int) (cont_ : V → List Blk → Bool) : bodyV ⟨Tryz.prog, ofList [(153, (F_q109 S_q109)), (154, (F_q91 S_q91)), (155, (F_q148 S_q148)), (156, (orFs (F_q100 S_q100) (F_q152 S_q152) shF_q100))], isref, N_⟩ (an_q136 N_ S_q109 S_q91 S_q148 S_q152 S_q100) 123 (shF_q136.args [.int x, .int k_]) [] cont_ = G_q136 N_ S_q109 S_q91 S_q148 S_q152 S_q100 x k_ (fun r0 r1 r2 => cont_ (.tup [.int .u64 r0, .int .i64 r1, .int .i64 r2]) []) :=
  (bodyV_codes (by kernel_rfl)).trans (jn_z02_Scale_w N_ S_q109 S_q91 S_q148 S_q152 S_q100 x k_ cont_)
theorem good_q136 (N_ : Nat) (S_q109 : TS_q109) (S_q91 : TS_q91) (S_q148 : TS_q148) (S_q152 : TS_q152) (S_q100 : TS_q100) (h_binnacleref02_Known : GoodF Tryz.prog 153 (F_q109 S_q109)) (h_binnacleref02_Double : GoodF Tryz.prog 154 (F_q91 S_q91)) (h_v_binnacleref02_Fmt_Take : GoodF Tryz.prog 155 (F_q148 S_q148)) (h_v_binnacleref02_Fmt_same : GoodF Tryz.prog 156 (F_q152 S_q152)) (h_v_binnacleref02_Fmt_same_2 : GoodF Tryz.prog 156 (F_q100 S_q100)) : GoodF Tryz.prog 123 (F_q136 (G_q136 N_ S_q109 S_q91 S_q148 S_q152 S_q100)) := by
  refine good_fs (cx := ⟨Tryz.prog, ofList [(153, (F_q109 S_q109)), (154, (F_q91 S_q91)), (155, (F_q148 S_q148)), (156, (orFs (F_q100 S_q100) (F_q152 S_q152) shF_q100))], isref, N_⟩) (ofList_cons h_binnacleref02_Known (ofList_cons h_binnacleref02_Double (ofList_cons h_v_binnacleref02_Fmt_Take (ofList_cons (good_or h_v_binnacleref02_Fmt_same_2 h_v_binnacleref02_Fmt_same) (ofList_nil _))))) shF_q136 (sp_q136 (G_q136 N_ S_q109 S_q91 S_q148 S_q152 S_q100)) (an_q136 N_ S_q109 S_q91 S_q148 S_q152 S_q100) 0 0 (by kernel_rfl) (fun i_ hi_ => by omega) ?_
  intro a k h
  unfold sp_q136 at h
  split at h
  · exact ⟨[], rfl, rfl, (eq_q136 _ _ _ _ _ _ _ _ _).trans h⟩
  · cases h

def an_q69 (N_ : Nat) (S_q99 : TS_q99) (S_q136 : TS_q136) (S_q90 : TS_q90) : Nat → Option Ann := fun b_ => none
theorem eq_q69 (N_ : Nat) (S_q99 : TS_q99) (S_q136 : TS_q136) (S_q90 : TS_q90) (x : Fl) (k_ : Int) (cont_ : V → List Blk → Bool) : bodyV ⟨Tryz.prog, ofList [(88, (F_q99 S_q99)), (123, (F_q136 S_q136)), (100, (F_q90 S_q90))], isref, N_⟩ (an_q69 N_ S_q99 S_q136 S_q90) 77 (shF_q69.args [.fl x, .int k_]) [] cont_ = G_q69 N_ S_q99 S_q136 S_q90 x k_ (fun r0 => cont_ (.flt r0) []) := by kernel_rfl
theorem good_q69 (N_ : Nat) (S_q99 : TS_q99) (S_q136 : TS_q136) (S_q90 : TS_q90) (h_math_Float64bits : GoodF Tryz.prog 88 (F_q99 S_q99)) (h_binnacleref02_Scale : GoodF Tryz.prog 123 (F_q136 S_q136)) (h_math_Float64frombits : GoodF Tryz.prog 100 (F_q90 S_q90)) : GoodF Tryz.prog 77 (F_q69 (G_q69 N_ S_q99 S_q136 S_q90)) := by
  refine good_fs (cx := ⟨Tryz.prog, ofList [(88, (F_q99 S_q99)), (123, (F_q136 S_q136)), (100, (F_q90 S_q90))], isref, N_⟩) (ofList_cons h_math_Float64bits (ofList_cons h_binnacleref02_Scale (ofList_cons h_math_Float64frombits (ofList_nil _)))) shF_q69 (sp_q69 (G_q69 N_ S_q99 S_q136 S_q90)) (an_q69 N_ S_q99 S_q136 S_q90) 0 0 (by kernel_rfl) (fun i_ hi_ => by omega) ?_
  intro a k h
  unfold sp_q69 at h
  split at h
  · exact ⟨[], rfl, rfl, (eq_q69 _ _ _ _ _ _ _).trans h⟩
  · cases h

def an_q162 (N_ : Nat) (S_q40 : TS_q40) (S_q59 : TS_q59) (S_q111 : TS_q111) (S_q114 : TS_q114) (S_q69 : TS_q69) (S_q112 : TS_q112) (S_q180 : TS_q180) : Nat → Option Ann := fun b_ => none
theorem eq_q162 (N_ : Nat) (S_q40 : TS_q40) (S_q59 : TS_q59) (S_q111 : TS_q111) (S_q114 : TS_q114) (S_q69 : TS_q69) (S_q112 : TS_q112) (S_q180 : TS_q180) (q_0 : Fl) (q_1 : Fl) (q_2 : Fl) (q_3 : Fl) (cont_ : V → List Blk → Bool) : bodyV ⟨Tryz.prog, ofList [(75, (F_q40 S_q40)), (74, (F_q59 S_q59)), (60, (F_q111 S_q111)), (76, (F_q114 S_q114)), (77, (F_q69 S_q69)), (72, (F_q112 S_q112)), (78, (F_q180 S_q180))], isref, (N_ + 24)⟩ (an_q162 (N_ + 24) S_q40 S_q59 S_q111 S_q114 S_q69 S_q112 S_q180) 19 (shF_q162.args [.fl q_0, .fl q_1, .fl q_2, .fl q_3]) [] cont_ = G_q162 (N_ + 24) S_q40 S_q59 S_q111 S_q114 S_q69 S_q112 S_q180 q_0 q_1 q_2 q_3 (fun r0 r1 r2 r3 r4 => cont_ (.tup [.agg [.flt r0, .flt r1, .flt r2, .flt r3], .int .i64 r4]) []) := by kernel_rfl
theorem good_q162 (N_ : Nat) (S_q40 : TS_q40) (S_q59 : TS_q59) (S_q111 : TS_q111) (S_q114 : TS_q114) (S_q69 : TS_q69) (S_q112 : TS_q112) (S_q180 : TS_q180) (h_binnacleref12_Finite : GoodF Tryz.prog 75 (F_q40 S_q40)) (h_binnacleref12_numbers_o1 : GoodF Tryz.prog 74 (F_q59 S_q59)) (h_binnacleref12_List : GoodF Tryz.prog 60 (F_q111 S_q111)) (h_binnacleref10_Power : GoodF Tryz.prog 76 (F_q114 S_q114)) (h_binnacleref10_Times : GoodF Tryz.prog 77 (F_q69 S_q69)) (h_math_Sqrt : GoodF Tryz.prog 72 (F_q112 S_q112)) (h_binnacleref12_Of : GoodF Tryz.prog 78 (F_q180 S_q180)) : GoodF Tryz.prog 19 (F_q162 (G_q162 (N_ + 24) S_q40 S_q59 S_q111 S_q114 S_q69 S_q112 S_q180)) := by
  refine good_fs (cx := ⟨Tryz.prog, ofList [(75, (F_q40 S_q40)), (74, (F_q59 S_q59)), (60, (F_q111 S_q111)), (76, (F_q114 S_q114)), (77, (F_q69 S_q69)), (72, (F_q112 S_q112)), (78, (F_q180 S_q180))], isref, (N_ + 24)⟩) (ofList_cons h_binnacleref12_Finite (ofList_cons h_binnacleref12_numbers_o1 (ofList_cons h_binnacleref12_List (ofList_cons h_binnacleref10_Power (ofList_cons h_binnacleref10_Times (ofList_cons h_math_Sqrt (ofList_cons h_binnacleref12_Of (ofList_nil _)))))))) shF_q162 (sp_q162 (G_q162 (N_ + 24) S_q40 S_q59 S_q111 S_q114 S_q69 S_q112 S_q180)) (an_q162 (N_ + 24) S_q40 S_q59 S_q111 S_q114 S_q69 S_q112 S_q180) 2 0 (by kernel_rfl) (fun i_ hi_ => by
    match i_, hi_ with
    | 0, _ => exact (fun hk e => by rw [show hookOf ((an_q162 (N_ + 24) S_q40 S_q59 S_q111 S_q114 S_q69 S_q112 S_q180) (lp Tryz.prog 19 0).1) = none from by kernel_rfl] at e; cases e)
    | 1, _ => exact (fun hk e => by rw [show hookOf ((an_q162 (N_ + 24) S_q40 S_q59 S_q111 S_q114 S_q69 S_q112 S_q180) (lp Tryz.prog 19 1).1) = none from by kernel_rfl] at e; cases e)
    | (q + 2), h => omega) ?_
  intro a k h
  unfold sp_q162 at h
  split at h
  · exact ⟨[], rfl, rfl, (eq_q162 _ _ _ _ _ _ _ _ _ _ _ _ _).trans h⟩
  · cases h

def an_q178 (N_ : Nat) (S_q40 : TS_q40) (S_q50 : TS_q50) (S_q89 : TS_q89) (S_q81 : TS_q81) (S_q111 : TS_q111) (S_z12_p : TS_z12_p) (S_q49 : TS_q49) (S_q180 : TS_q180) (S_q162 : TS_q162) : Nat → Option Ann := fun b_ => none
theorem eq_q178 (N_ : Nat) (S_q40 : TS_q40) (S_q50 : TS_q50) (S_q89 : TS_q89) (S_q81 : TS_q81) (S_q111 : TS_q111) (S_z12_p : TS_z12_p) (S_q49 : TS_q49) (S_q180 : TS_q180) (S_q162 : TS_q162) (a_0 : Fl) (a_1 : Fl) (a_2 : Fl) (a_3 : Fl) (b_0 : Fl) (b_1 : Fl) (b_2 : Fl) (b_3 : Fl) (t : Fl) (cont_ : V → List Blk → Bool) : bodyV ⟨Tryz.prog, ofList [(75, (F_q40 S_q40)), (87, (F_q50 S_q50)), (74, (F_q89 S_q89)), (37, (F_q81 S_q81)), (60, (F_q111 S_q111)), (92, (F_z12_p S_z12_p)), (101, (F_q49 S_q49)), (78, (F_q180 S_q180)), (19, (F_q162 S_q162))], isref, (N_ + 24)⟩ (an_q178 (N_ + 24) S_q40 S_q50 S_q89 S_q81 S_q111 S_z12_p S_q49 S_q180 S_q162) 40 (shF_q178.args [.fl a_0, .fl a_1, .fl a_2, .fl a_3, .fl b_0, .fl b_1, .fl b_2, .fl b_3, .fl t]) [] cont_ = G_q178 (N_ + 24) S_q40 S_q50 S_q89 S_q81 S_q111 S_z12_p S_q49 S_q180 S_q162 a_0 a_1 a_2 a_3 b_0 b_1 b_2 b_3 t (fun r0 r1 r2 r3 r4 => cont_ (.tup [.agg [.flt r0, .flt r1, .flt r2, .flt r3], .int .i64 r4]) []) := by kernel_rfl
theorem good_q178 (N_ : Nat) (S_q40 : TS_q40) (S_q50 : TS_q50) (S_q89 : TS_q89) (S_q81 : TS_q81) (S_q111 : TS_q111) (S_z12_p : TS_z12_p) (S_q49 : TS_q49) (S_q180 : TS_q180) (S_q162 : TS_q162) (h_binnacleref12_Finite : GoodF Tryz.prog 75 (F_q40 S_q40)) (h_binnacleref01_Finite : GoodF Tryz.prog 87 (F_q50 S_q50)) (h_binnacleref12_numbers_o3 : GoodF Tryz.prog 74 (F_q89 S_q89)) (h_binnacleref12_Nearest : GoodF Tryz.prog 37 (F_q81 S_q81)) (h_binnacleref12_List : GoodF Tryz.prog 60 (F_q111 S_q111)) (h_binnacleref12_p : GoodF Tryz.prog 92 (F_z12_p S_z12_p)) (h_binnacleref01_AllFinite : GoodF Tryz.prog 101 (F_q49 S_q49)) (h_binnacleref12_Of : GoodF Tryz.prog 78 (F_q180 S_q180)) (h_binnacleref12_Unit : GoodF Tryz.prog 19 (F_q162 S_q162)) : GoodF Tryz.prog 40 (F_q178 (G_q178 (N_ + 24) S_q40 S_q50 S_q89 S_q81 S_q111 S_z12_p S_q49 S_q180 S_q162)) := by
  refine good_fs (cx := ⟨Tryz.prog, ofList [(75, (F_q40 S_q40)), (87, (F_q50 S_q50)), (74, (F_q89 S_q89)), (37, (F_q81 S_q81)), (60, (F_q111 S_q111)), (92, (F_z12_p S_z12_p)), (101, (F_q49 S_q49)), (78, (F_q180 S_q180)), (19, (F_q162 S_q162))], isref, (N_ + 24)⟩) (ofList_cons h_binnacleref12_Finite (ofList_cons h_binnacleref01_Finite (ofList_cons h_binnacleref12_numbers_o3 (ofList_cons h_binnacleref12_Nearest (ofList_cons h_binnacleref12_List (ofList_cons h_binnacleref12_p (ofList_cons h_binnacleref01_AllFinite (ofList_cons h_binnacleref12_Of (ofList_cons h_binnacleref12_Unit (ofList_nil _)))))))))) shF_q178 (sp_q178 (G_q178 (N_ + 24) S_q40 S_q50 S_q89 S_q81 S_q111 S_z12_p S_q49 S_q180 S_q162)) (an_q178 (N_ + 24) S_q40 S_q50 S_q89 S_q81 S_q111 S_z12_p S_q49 S_q180 S_q162) 1 0 (by kernel_rfl) (fun i_ hi_ => by
    match i_, hi_ with
    | 0, _ => exact (fun hk e => by rw [show hookOf ((an_q178 (N_ + 24) S_q40 S_q50 S_q89 S_q81 S_q111 S_z12_p S_q49 S_q180 S_q162) (lp Tryz.prog 40 0).1) = none from by kernel_rfl] at e; cases e)
    | (q + 1), h => omega) ?_
  intro a k h
  unfold sp_q178 at h
  split at h
  · exact ⟨[], rfl, rfl, (eq_q178 _ _ _ _ _ _ _ _ _ _ _ _ _ _ _ _ _ _ _ _).trans h⟩
  · cases h

def an_q157 (N_ : Nat) (S_q12 : TS_q12) : Nat → Option Ann := fun b_ => none
theorem eq_q157 (N_ : Nat) (S_q12 : TS_q12) (q_0 : Fl) (q_1 : Fl) (q_2 : Fl) (q_3 : Fl) (cont_ : V → List Blk → Bool) : bodyV ⟨Tryz.prog, ofList [(56, (F_q12 S_q12))], isref, N_⟩ (an_q157 N_ S_q12) 14 (shF_q157.args [.fl q_0, .fl q_1, .fl q_2, .fl q_3]) [] cont_ = G_q157 N_ S_q12 q_0 q_1 q_2 q_3 (fun r0 r1 r2 r3 r4 => cont_ (.tup [.agg [.flt r0, .flt r1, .flt r2, .flt r3], .int .i64 r4]) []) := by kernel_rfl
theorem good_q157 (N_ : Nat) (S_q12 : TS_q12) (h_quat_good_o1 : GoodF Tryz.prog 56 (F_q12 S_q12)) : GoodF Tryz.prog 14 (F_q157 (G_q157 N_ S_q12)) := by
  refine good_fs (cx := ⟨Tryz.prog, ofList [(56, (F_q12 S_q12))], isref, N_⟩) (ofList_cons h_quat_good_o1 (ofList_nil _)) shF_q157 (sp_q157 (G_q157 N_ S_q12)) (an_q157 N_ S_q12) 0 0 (by kernel_rfl) (fun i_ hi_ => by omega) ?_
  intro a k h
  unfold sp_q157 at h
  split at h
  · exact ⟨[], rfl, rfl, (eq_q157 _ _ _ _ _ _ _).trans h⟩
  · cases h

def an_q181 (N_ : Nat) (S_q88 : TS_q88) : Nat → Option Ann := fun b_ => none
theorem eq_q181 (N_ : Nat) (S_q88 : TS_q88) (x : List Fl) (cont_ : V → List Blk → Bool) : bodyV ⟨Tryz.prog, ofList [(124, (F_q88 S_q88))], isref, N_⟩ (an_q181 N_ S_q88) 140 (shF_q181.args [.fls x]) [] cont_ = G_q181 N_ S_q88 x (fun r0 => cont_ (.int .i64 r0) []) := by kernel_rfl
theorem good_q181 (N_ : Nat) (S_q88 : TS_q88) (h_anatomy_Finite : GoodF Tryz.prog 124 (F_q88 S_q88)) : GoodF Tryz.prog 140 (F_q181 (G_q181 N_ S_q88)) := by
  refine good_fs (cx := ⟨Tryz.prog, ofList [(124, (F_q88 S_q88))], isref, N_⟩) (ofList_cons h_anatomy_Finite (ofList_nil _)) shF_q181 (sp_q181 (G_q181 N_ S_q88)) (an_q181 N_ S_q88) 0 0 (by kernel_rfl) (fun i_ hi_ => by omega) ?_
  intro a k h
  unfold sp_q181 at h
  split at h
  · exact ⟨[], rfl, rfl, (eq_q181 _ _ _ _).trans h⟩
  · cases h

def sh_st_qr_power_0 : StSh := ⟨[.rof, .any, .any, .any, .flt, .any, .any, .any, .any, .int .i64, .int .i64, .any, .any, .any, .any, .any, .any, .any, .any, .any, .any, .any, .any, .any, .any, .any, .any, .any, .any, .any], []⟩
def sx0_st_qr_power_0 : StSh := ⟨[.any, .any, .any, .any, .flt, .any, .any, .any, .any, .any, .any, .any, .any, .any, .any, .any, .any, .any, .any, .any, .any, .any, .any, .any, .any, .any, .any, .any, .any, .any], []⟩
def hk_st_qr_power_0 (N_ : Nat) (S_m_Abs : TS_m_Abs) (S_q92 : TS_q92) : List Atom → K → Bool := fun a_ κ => match a_ with
  | [.fls x_1, .fl most, .int t9, .int t10] => iterG N_ (st_qr_power_0 N_ S_m_Abs S_q92 x_1 t9 (fun r0 => κ.ext 0 (sx0_st_qr_power_0.build [.fl r0]))) (most, t10)
  | _ => false
def an_q164 (N_ : Nat) (S_m_Abs : TS_m_Abs) (S_q92 : TS_q92) : Nat → Option Ann := fun b_ => cond (b_ == 0) (some ⟨⟨[0, 4, 9, 10], [], []⟩, [(0, ⟨[4], [], []⟩)], some ⟨[2, 3], [], []⟩, some (mkHooks [(sh_st_qr_power_0, hk_st_qr_power_0 N_ S_m_Abs S_q92)])⟩) (none)
theorem eq_st_qr_power_0 (N_ : Nat) (S_m_Abs : TS_m_Abs) (S_q92 : TS_q92) (κ : K) (x_1 : List Fl) (most : Fl) (t9 : Int) (t10 : Int) : iter N_ (fun s k => codeV ⟨Tryz.prog, ofList [(69, (F_m_Abs S_m_Abs)), (70, (F_q92 S_q92))], isref, N_⟩ 0 (an_q164 N_ S_m_Abs S_q92) (lp Tryz.prog 177 0).2 (lp Tryz.prog 177 0).1 s (roundK Tryz.prog 0 ((an_q164 N_ S_m_Abs S_q92) (lp Tryz.prog 177 0).1) κ k)) (sh_st_qr_power_0.build [.fls x_1, .fl most, .int t9, .int t10]) = iterG N_ (st_qr_power_0 N_ S_m_Abs S_q92 x_1 t9 (fun r0 => κ.ext 0 (sx0_st_qr_power_0.build [.fl r0]))) (most, t10) :=
  iter_tr (fun (v_ : Fl × Int) => sh_st_qr_power_0.build [.fls x_1, .fl v_.1, .int t9, .int v_.2]) (fun v_ K_ => by obtain ⟨most, t10⟩ := v_; kernel_rfl) N_ (most, t10)
theorem hk1_st_qr_power_0 (N_ : Nat) (S_m_Abs : TS_m_Abs) (S_q92 : TS_q92) : HookFor ⟨Tryz.prog, ofList [(69, (F_m_Abs S_m_Abs)), (70, (F_q92 S_q92))], isref, N_⟩ 0 (an_q164 N_ S_m_Abs S_q92) (lp Tryz.prog 177 0) (sh_st_qr_power_0, hk_st_qr_power_0 N_ S_m_Abs S_q92) := by
  intro a κ h
  simp only at h
  unfold hk_st_qr_power_0 at h
  split at h
  · exact (eq_st_qr_power_0 _ _ _ _ _ _ _ _).trans h
  · cases h
theorem ho_qr_power_0 (N_ : Nat) (S_m_Abs : TS_m_Abs) (S_q92 : TS_q92) : HookOk ⟨Tryz.prog, ofList [(69, (F_m_Abs S_m_Abs)), (70, (F_q92 S_q92))], isref, N_⟩ 0 (an_q164 N_ S_m_Abs S_q92) (lp Tryz.prog 177 0) :=
  hooks_ok [(sh_st_qr_power_0, hk_st_qr_power_0 N_ S_m_Abs S_q92)] (by kernel_rfl) ⟨hk1_st_qr_power_0 _ _ _, trivial⟩
theorem eq_q164 (N_ : Nat) (S_m_Abs : TS_m_Abs) (S_q92 : TS_q92) (x : List Fl) (cont_ : V → List Blk → Bool) : bodyV ⟨Tryz.prog, ofList [(69, (F_m_Abs S_m_Abs)), (70, (F_q92 S_q92))], isref, N_⟩ (an_q164 N_ S_m_Abs S_q92) 177 (shF_q164.args [.fls x]) [] cont_ = G_q164 N_ S_m_Abs S_q92 x (fun r0 r1 => cont_ (.tup [.int .i64 r0, .bool r1]) []) := by kernel_rfl
theorem good_q164 (N_ : Nat) (S_m_Abs : TS_m_Abs) (S_q92 : TS_q92) (h_math_Abs : GoodF Tryz.prog 69 (F_m_Abs S_m_Abs)) (h_math_Frexp : GoodF Tryz.prog 70 (F_q92 S_q92)) : GoodF Tryz.prog 177 (F_q164 (G_q164 N_ S_m_Abs S_q92)) := by
  refine good_fs (cx := ⟨Tryz.prog, ofList [(69, (F_m_Abs S_m_Abs)), (70, (F_q92 S_q92))], isref, N_⟩) (ofList_cons h_math_Abs (ofList_cons h_math_Frexp (ofList_nil _))) shF_q164 (sp_q164 (G_q164 N_ S_m_Abs S_q92)) (an_q164 N_ S_m_Abs S_q92) 1 0 (by kernel_rfl) (fun i_ hi_ => by
    match i_, hi_ with
    | 0, _ => exact ho_qr_power_0 _ _ _
    | (q + 1), h => omega) ?_
  intro a k h
  unfold sp_q164 at h
  split at h
  · exact ⟨[], rfl, rfl, (eq_q164 _ _ _ _ _).trans h⟩
  · cases h

def sh_st_qr_scaled_0 : StSh := ⟨[.rof, .int .i64, .any, .any, .any, .any, .slw 0, .flt, .any, .any, .any, .any, .any, .int .i64, .int .i64, .any, .any, .any, .any, .any, .any, .any, .any, .any, .any, .any, .any, .any, .any, .any, .any, .any, .any, .any, .any, .any, .any, .any, .any, .any, .any, .any], [some (24, 1, .flts)]⟩
def sx0_st_qr_scaled_0 : StSh := ⟨[.any, .any, .any, .any, .any, .any, .slw 0, .flt, .any, .any, .any, .any, .any, .any, .any, .any, .any, .any, .any, .any, .any, .any, .any, .any, .any, .any, .any, .any, .any, .any, .any, .any, .any, .any, .any, .any, .any, .any, .any, .any, .any, .any], [some (24, 1, .flts)]⟩
def hk_st_qr_scaled_0 (N_ : Nat) (S_q107 : TS_q107) (S_q112 : TS_q112) : List Atom → K → Bool := fun a_ κ => match a_ with
  | [.fls x_1, .int k__1, .fl s, .int t13, .int t14, .fls y] => iterG N_ (st_qr_scaled_0 N_ S_q107 S_q112 x_1 k__1 t13 (fun r0 r1 => κ.ext 0 (sx0_st_qr_scaled_0.build [.fl r0, .fls r1]))) (s, t14, y)
  | _ => false
def an_q144 (N_ : Nat) (S_q107 : TS_q107) (S_q112 : TS_q112) : Nat → Option Ann := fun b_ => cond (b_ == 0) (some ⟨⟨[0, 1, 6, 7, 13, 14], [], []⟩, [(0, ⟨[6, 7], [], []⟩)], some ⟨[4, 5], [], []⟩, some (mkHooks [(sh_st_qr_scaled_0, hk_st_qr_scaled_0 N_ S_q107 S_q112)])⟩) (none)
theorem eq_st_qr_scaled_0 (N_ : Nat) (S_q107 : TS_q107) (S_q112 : TS_q112) (κ : K) (x_1 : List Fl) (k__1 : Int) (s : Fl) (t13 : Int) (t14 : Int) (y : List Fl) : iter N_ (fun s k => codeV ⟨Tryz.prog, ofList [(71, (F_q107 S_q107)), (72, (F_q112 S_q112))], isref, N_⟩ 0 (an_q144 N_ S_q107 S_q112) (lp Tryz.prog 178 0).2 (lp Tryz.prog 178 0).1 s (roundK Tryz.prog 0 ((an_q144 N_ S_q107 S_q112) (lp Tryz.prog 178 0).1) κ k)) (sh_st_qr_scaled_0.build [.fls x_1, .int k__1, .fl s, .int t13, .int t14, .fls y]) = iterG N_ (st_qr_scaled_0 N_ S_q107 S_q112 x_1 k__1 t13 (fun r0 r1 => κ.ext 0 (sx0_st_qr_scaled_0.build [.fl r0, .fls r1]))) (s, t14, y) :=
  iter_tr (fun (v_ : Fl × Int × List Fl) => sh_st_qr_scaled_0.build [.fls x_1, .int k__1, .fl v_.1, .int t13, .int v_.2.1, .fls v_.2.2]) (fun v_ K_ => by obtain ⟨s, t14, y⟩ := v_; kernel_rfl) N_ (s, t14, y)
theorem hk1_st_qr_scaled_0 (N_ : Nat) (S_q107 : TS_q107) (S_q112 : TS_q112) : HookFor ⟨Tryz.prog, ofList [(71, (F_q107 S_q107)), (72, (F_q112 S_q112))], isref, N_⟩ 0 (an_q144 N_ S_q107 S_q112) (lp Tryz.prog 178 0) (sh_st_qr_scaled_0, hk_st_qr_scaled_0 N_ S_q107 S_q112) := by
  intro a κ h
  simp only at h
  unfold hk_st_qr_scaled_0 at h
  split at h
  · exact (eq_st_qr_scaled_0 _ _ _ _ _ _ _ _ _ _).trans h
  · cases h
theorem ho_qr_scaled_0 (N_ : Nat) (S_q107 : TS_q107) (S_q112 : TS_q112) : HookOk ⟨Tryz.prog, ofList [(71, (F_q107 S_q107)), (72, (F_q112 S_q112))], isref, N_⟩ 0 (an_q144 N_ S_q107 S_q112) (lp Tryz.prog 178 0) :=
  hooks_ok [(sh_st_qr_scaled_0, hk_st_qr_scaled_0 N_ S_q107 S_q112)] (by kernel_rfl) ⟨hk1_st_qr_scaled_0 _ _ _, trivial⟩
theorem eq_q144 (N_ : Nat) (S_q107 : TS_q107) (S_q112 : TS_q112) (x : List Fl) (k_ : Int) (cont_ : V → List Blk → Bool) : bodyV ⟨Tryz.prog, ofList [(71, (F_q107 S_q107)), (72, (F_q112 S_q112))], isref, N_⟩ (an_q144 N_ S_q107 S_q112) 178 (shF_q144.args [.fls x, .int k_]) [] cont_ = G_q144 N_ S_q107 S_q112 x k_ (fun r0 r1 => cont_ (.tup [.slw 0, .flt r0]) [⟨24, 1, .flts r1⟩]) := by kernel_rfl
theorem good_q144 (N_ : Nat) (S_q107 : TS_q107) (S_q112 : TS_q112) (h_math_Ldexp : GoodF Tryz.prog 71 (F_q107 S_q107)) (h_math_Sqrt : GoodF Tryz.prog 72 (F_q112 S_q112)) : GoodF Tryz.prog 178 (F_q144 (G_q144 N_ S_q107 S_q112)) := by
  refine good_fs (cx := ⟨Tryz.prog, ofList [(71, (F_q107 S_q107)), (72, (F_q112 S_q112))], isref, N_⟩) (ofList_cons h_math_Ldexp (ofList_cons h_math_Sqrt (ofList_nil _))) shF_q144 (sp_q144 (G_q144 N_ S_q107 S_q112)) (an_q144 N_ S_q107 S_q112) 1 0 (by kernel_rfl) (fun i_ hi_ => by
    match i_, hi_ with
    | 0, _ => exact ho_qr_scaled_0 _ _ _
    | (q + 1), h => omega) ?_
  intro a k h
  unfold sp_q144 at h
  split at h
  · exact ⟨[], rfl, rfl, (eq_q144 _ _ _ _ _ _).trans h⟩
  · cases h

def an_q149 (N_ : Nat) (S_q164 : TS_q164) (S_q144 : TS_q144) (S_q107 : TS_q107) : Nat → Option Ann := fun b_ => none
theorem eq_q149 (N_ : Nat) (S_q164 : TS_q164) (S_q144 : TS_q144) (S_q107 : TS_q107) (x : List Fl) (cont_ : V → List Blk → Bool) : bodyV ⟨Tryz.prog, ofList [(177, (F_q164 S_q164)), (178, (F_q144 S_q144)), (71, (F_q107 S_q107))], isref, N_⟩ (an_q149 N_ S_q164 S_q144 S_q107) 141 (shF_q149.args [.fls x]) [] cont_ = G_q149 N_ S_q164 S_q144 S_q107 x (fun r0 => cont_ (.flt r0) []) := by kernel_rfl
theorem good_q149 (N_ : Nat) (S_q164 : TS_q164) (S_q144 : TS_q144) (S_q107 : TS_q107) (h_qr_power : GoodF Tryz.prog 177 (F_q164 S_q164)) (h_qr_scaled : GoodF Tryz.prog 178 (F_q144 S_q144)) (h_math_Ldexp : GoodF Tryz.prog 71 (F_q107 S_q107)) : GoodF Tryz.prog 141 (F_q149 (G_q149 N_ S_q164 S_q144 S_q107)) := by
  refine good_fs (cx := ⟨Tryz.prog, ofList [(177, (F_q164 S_q164)), (178, (F_q144 S_q144)), (71, (F_q107 S_q107))], isref, N_⟩) (ofList_cons h_qr_power (ofList_cons h_qr_scaled (ofList_cons h_math_Ldexp (ofList_nil _)))) shF_q149 (sp_q149 (G_q149 N_ S_q164 S_q144 S_q107)) (an_q149 N_ S_q164 S_q144 S_q107) 0 0 (by kernel_rfl) (fun i_ hi_ => by omega) ?_
  intro a k h
  unfold sp_q149 at h
  split at h
  · exact ⟨[], rfl, rfl, (eq_q149 _ _ _ _ _ _).trans h⟩
  · cases h

def an_q156 (N_ : Nat) : Nat → Option Ann := fun b_ => none
theorem eq_q156 (N_ : Nat) (x : Fl) (cont_ : V → List Blk → Bool) : bodyV ⟨Tryz.prog, ofList [], isref, N_⟩ (an_q156 N_) 142 (shF_q156.args [.fl x]) [] cont_ = G_q156 N_ x (fun r0 => cont_ (.bool r0) []) := by kernel_rfl
theorem good_q156 (N_ : Nat) : GoodF Tryz.prog 142 (F_q156 (G_q156 N_)) := by
  refine good_fs (cx := ⟨Tryz.prog, ofList [], isref, N_⟩) (ofList_nil _) shF_q156 (sp_q156 (G_q156 N_)) (an_q156 N_) 0 0 (by kernel_rfl) (fun i_ hi_ => by omega) ?_
  intro a k h
  unfold sp_q156 at h
  split at h
  · exact ⟨[], rfl, rfl, (eq_q156 _ _ _).trans h⟩
  · cases h

def an_q147 (N_ : Nat) (S_q181 : TS_q181) (S_q149 : TS_q149) (S_q156 : TS_q156) : Nat → Option Ann := fun b_ => none
theorem eq_q147 (N_ : Nat) (S_q181 : TS_q181) (S_q149 : TS_q149) (S_q156 : TS_q156) (x : List Fl) (cont_ : V → List Blk → Bool) : bodyV ⟨Tryz.prog, ofList [(140, (F_q181 S_q181)), (141, (F_q149 S_q149)), (142, (F_q156 S_q156))], isref, N_⟩ (an_q147 N_ S_q181 S_q149 S_q156) 102 (shF_q147.args [.fls x]) [] cont_ = G_q147 N_ S_q181 S_q149 S_q156 x (fun r0 r1 => cont_ (.tup [.flt r0, .int .i64 r1]) []) := by kernel_rfl
theorem good_q147 (N_ : Nat) (S_q181 : TS_q181) (S_q149 : TS_q149) (S_q156 : TS_q156) (h_qr_list : GoodF Tryz.prog 140 (F_q181 S_q181)) (h_qr_length : GoodF Tryz.prog 141 (F_q149 S_q149)) (h_qr_finite : GoodF Tryz.prog 142 (F_q156 S_q156)) : GoodF Tryz.prog 102 (F_q147 (G_q147 N_ S_q181 S_q149 S_q156)) := by
  refine good_fs (cx := ⟨Tryz.prog, ofList [(140, (F_q181 S_q181)), (141, (F_q149 S_q149)), (142, (F_q156 S_q156))], isref, N_⟩) (ofList_cons h_qr_list (ofList_cons h_qr_length (ofList_cons h_qr_finite (ofList_nil _)))) shF_q147 (sp_q147 (G_q147 N_ S_q181 S_q149 S_q156)) (an_q147 N_ S_q181 S_q149 S_q156) 0 0 (by kernel_rfl) (fun i_ hi_ => by omega) ?_
  intro a k h
  unfold sp_q147 at h
  split at h
  · exact ⟨[], rfl, rfl, (eq_q147 _ _ _ _ _ _).trans h⟩
  · cases h

def an_q123 (N_ : Nat) (S_q45 : TS_q45) (S_q157 : TS_q157) (S_q133 : TS_q133) (S_q147 : TS_q147) : Nat → Option Ann := fun b_ => none
theorem eq_q123 (N_ : Nat) (S_q45 : TS_q45) (S_q157 : TS_q157) (S_q133 : TS_q133) (S_q147 : TS_q147) (a_0 : Fl) (a_1 : Fl) (a_2 : Fl) (a_3 : Fl) (b_0 : Fl) (b_1 : Fl) (b_2 : Fl) (b_3 : Fl) (cont_ : V → List Blk → Bool) : bodyV ⟨Tryz.prog, ofList [(56, (F_q45 S_q45)), (14, (F_q157 S_q157)), (10, (F_q133 S_q133)), (102, (F_q147 S_q147))], isref, N_⟩ (an_q123 N_ S_q45 S_q157 S_q133 S_q147) 41 (shF_q123.args [.fl a_0, .fl a_1, .fl a_2, .fl a_3, .fl b_0, .fl b_1, .fl b_2, .fl b_3]) [] cont_ = G_q123 N_ S_q45 S_q157 S_q133 S_q147 a_0 a_1 a_2 a_3 b_0 b_1 b_2 b_3 (fun r0 r1 => cont_ (.tup [.flt r0, .int .i64 r1]) []) := by kernel_rfl
theorem good_q123 (N_ : Nat) (S_q45 : TS_q45) (S_q157 : TS_q157) (S_q133 : TS_q133) (S_q147 : TS_q147) (h_quat_good_o2 : GoodF Tryz.prog 56 (F_q45 S_q45)) (h_quat_Conj : GoodF Tryz.prog 14 (F_q157 S_q157)) (h_quat_Mul : GoodF Tryz.prog 10 (F_q133 S_q133)) (h_qr_Length : GoodF Tryz.prog 102 (F_q147 S_q147)) : GoodF Tryz.prog 41 (F_q123 (G_q123 N_ S_q45 S_q157 S_q133 S_q147)) := by
  refine good_fs (cx := ⟨Tryz.prog, ofList [(56, (F_q45 S_q45)), (14, (F_q157 S_q157)), (10, (F_q133 S_q133)), (102, (F_q147 S_q147))], isref, N_⟩) (ofList_cons h_quat_good_o2 (ofList_cons h_quat_Conj (ofList_cons h_quat_Mul (ofList_cons h_qr_Length (ofList_nil _))))) shF_q123 (sp_q123 (G_q123 N_ S_q45 S_q157 S_q133 S_q147)) (an_q123 N_ S_q45 S_q157 S_q133 S_q147) 0 0 (by kernel_rfl) (fun i_ hi_ => by omega) ?_
  intro a k h
  unfold sp_q123 at h
  split at h
  · exact ⟨[], rfl, rfl, (eq_q123 _ _ _ _ _ _ _ _ _ _ _ _ _ _).trans h⟩
  · cases h

def an_q175 (N_ : Nat) (S_q40 : TS_q40) (S_q59 : TS_q59) : Nat → Option Ann := fun b_ => none
theorem eq_q175 (N_ : Nat) (S_q40 : TS_q40) (S_q59 : TS_q59) (q_0 : Fl) (q_1 : Fl) (q_2 : Fl) (q_3 : Fl) (cont_ : V → List Blk → Bool) : bodyV ⟨Tryz.prog, ofList [(75, (F_q40 S_q40)), (74, (F_q59 S_q59))], isref, N_⟩ (an_q175 N_ S_q40 S_q59) 23 (shF_q175.args [.fl q_0, .fl q_1, .fl q_2, .fl q_3]) [] cont_ = G_q175 N_ S_q40 S_q59 q_0 q_1 q_2 q_3 (fun r0 r1 r2 r3 r4 => cont_ (.tup [.agg [.flt r0, .flt r1, .flt r2, .flt r3], .int .i64 r4]) []) := by kernel_rfl
theorem good_q175 (N_ : Nat) (S_q40 : TS_q40) (S_q59 : TS_q59) (h_binnacleref12_Finite : GoodF Tryz.prog 75 (F_q40 S_q40)) (h_binnacleref12_numbers_o1 : GoodF Tryz.prog 74 (F_q59 S_q59)) : GoodF Tryz.prog 23 (F_q175 (G_q175 N_ S_q40 S_q59)) := by
  refine good_fs (cx := ⟨Tryz.prog, ofList [(75, (F_q40 S_q40)), (74, (F_q59 S_q59))], isref, N_⟩) (ofList_cons h_binnacleref12_Finite (ofList_cons h_binnacleref12_numbers_o1 (ofList_nil _))) shF_q175 (sp_q175 (G_q175 N_ S_q40 S_q59)) (an_q175 N_ S_q40 S_q59) 0 0 (by kernel_rfl) (fun i_ hi_ => by omega) ?_
  intro a k h
  unfold sp_q175 at h
  split at h
  · exact ⟨[], rfl, rfl, (eq_q175 _ _ _ _ _ _ _ _).trans h⟩
  · cases h

def an_q126 (N_ : Nat) : Nat → Option Ann := fun b_ => none
theorem eq_q126 (N_ : Nat) (a_0 : Fl) (a_1 : Fl) (a_2 : Fl) (a_3 : Fl) (b_0 : Fl) (b_1 : Fl) (b_2 : Fl) (b_3 : Fl) (cont_ : V → List Blk → Bool) : bodyV ⟨Tryz.prog, ofList [], isref, N_⟩ (an_q126 N_) 85 (shF_q126.args [.fl a_0, .fl a_1, .fl a_2, .fl a_3, .fl b_0, .fl b_1, .fl b_2, .fl b_3]) [] cont_ = G_q126 N_ a_0 a_1 a_2 a_3 b_0 b_1 b_2 b_3 (fun r0 r1 r2 r3 => cont_ (.agg [.flt r0, .flt r1, .flt r2, .flt r3]) []) := by kernel_rfl
theorem good_q126 (N_ : Nat) : GoodF Tryz.prog 85 (F_q126 (G_q126 N_)) := by
  refine good_fs (cx := ⟨Tryz.prog, ofList [], isref, N_⟩) (ofList_nil _) shF_q126 (sp_q126 (G_q126 N_)) (an_q126 N_) 0 0 (by kernel_rfl) (fun i_ hi_ => by omega) ?_
  intro a k h
  unfold sp_q126 at h
  split at h
  · exact ⟨[], rfl, rfl, (eq_q126 _ _ _ _ _ _ _ _ _ _).trans h⟩
  · cases h

def an_q176 (N_ : Nat) (S_q40 : TS_q40) : Nat → Option Ann := fun b_ => none
theorem eq_q176 (N_ : Nat) (S_q40 : TS_q40) (q_0 : Fl) (q_1 : Fl) (q_2 : Fl) (q_3 : Fl) (cont_ : V → List Blk → Bool) : bodyV ⟨Tryz.prog, ofList [(75, (F_q40 S_q40))], isref, N_⟩ (an_q176 N_ S_q40) 84 (shF_q176.args [.fl q_0, .fl q_1, .fl q_2, .fl q_3]) [] cont_ = G_q176 N_ S_q40 q_0 q_1 q_2 q_3 (fun r0 r1 r2 r3 r4 => cont_ (.tup [.agg [.flt r0, .flt r1, .flt r2, .flt r3], .int .i64 r4]) []) := by kernel_rfl
theorem good_q176 (N_ : Nat) (S_q40 : TS_q40) (h_binnacleref12_Finite : GoodF Tryz.prog 75 (F_q40 S_q40)) : GoodF Tryz.prog 84 (F_q176 (G_q176 N_ S_q40)) := by
  refine good_fs (cx := ⟨Tryz.prog, ofList [(75, (F_q40 S_q40))], isref, N_⟩) (ofList_cons h_binnacleref12_Finite (ofList_nil _)) shF_q176 (sp_q176 (G_q176 N_ S_q40)) (an_q176 N_ S_q40) 0 0 (by kernel_rfl) (fun i_ hi_ => by omega) ?_
  intro a k h
  unfold sp_q176 at h
  split at h
  · exact ⟨[], rfl, rfl, (eq_q176 _ _ _ _ _ _ _).trans h⟩
  · cases h

def an_q183 (N_ : Nat) (S_q40 : TS_q40) (S_q61 : TS_q61) (S_q126 : TS_q126) (S_q176 : TS_q176) : Nat → Option Ann := fun b_ => none
theorem eq_q183 (N_ : Nat) (S_q40 : TS_q40) (S_q61 : TS_q61) (S_q126 : TS_q126) (S_q176 : TS_q176) (a_0 : Fl) (a_1 : Fl) (a_2 : Fl) (a_3 : Fl) (b_0 : Fl) (b_1 : Fl) (b_2 : Fl) (b_3 : Fl) (cont_ : V → List Blk → Bool) : bodyV ⟨Tryz.prog, ofList [(75, (F_q40 S_q40)), (74, (F_q61 S_q61)), (85, (F_q126 S_q126)), (84, (F_q176 S_q176))], isref, N_⟩ (an_q183 N_ S_q40 S_q61 S_q126 S_q176) 24 (shF_q183.args [.fl a_0, .fl a_1, .fl a_2, .fl a_3, .fl b_0, .fl b_1, .fl b_2, .fl b_3]) [] cont_ = G_q183 N_ S_q40 S_q61 S_q126 S_q176 a_0 a_1 a_2 a_3 b_0 b_1 b_2 b_3 (fun r0 r1 r2 r3 r4 => cont_ (.tup [.agg [.flt r0, .flt r1, .flt r2, .flt r3], .int .i64 r4]) []) := by kernel_rfl
theorem good_q183 (N_ : Nat) (S_q40 : TS_q40) (S_q61 : TS_q61) (S_q126 : TS_q126) (S_q176 : TS_q176) (h_binnacleref12_Finite : GoodF Tryz.prog 75 (F_q40 S_q40)) (h_binnacleref12_numbers_o2 : GoodF Tryz.prog 74 (F_q61 S_q61)) (h_binnacleref12_product : GoodF Tryz.prog 85 (F_q126 S_q126)) (h_binnacleref12_over : GoodF Tryz.prog 84 (F_q176 S_q176)) : GoodF Tryz.prog 24 (F_q183 (G_q183 N_ S_q40 S_q61 S_q126 S_q176)) := by
  refine good_fs (cx := ⟨Tryz.prog, ofList [(75, (F_q40 S_q40)), (74, (F_q61 S_q61)), (85, (F_q126 S_q126)), (84, (F_q176 S_q176))], isref, N_⟩) (ofList_cons h_binnacleref12_Finite (ofList_cons h_binnacleref12_numbers_o2 (ofList_cons h_binnacleref12_product (ofList_cons h_binnacleref12_over (ofList_nil _))))) shF_q183 (sp_q183 (G_q183 N_ S_q40 S_q61 S_q126 S_q176)) (an_q183 N_ S_q40 S_q61 S_q126 S_q176) 0 0 (by kernel_rfl) (fun i_ hi_ => by omega) ?_
  intro a k h
  unfold sp_q183 at h
  split at h
  · exact ⟨[], rfl, rfl, (eq_q183 _ _ _ _ _ _ _ _ _ _ _ _ _ _).trans h⟩
  · cases h

def an_q172 (N_ : Nat) (S_q49 : TS_q49) : Nat → Option Ann := fun b_ => none
theorem eq_q172 (N_ : Nat) (S_q49 : TS_q49) (x : List Fl) (cont_ : V → List Blk → Bool) : bodyV ⟨Tryz.prog, ofList [(101, (F_q49 S_q49))], isref, N_⟩ (an_q172 N_ S_q49) 143 (shF_q172.args [.fls x]) [] cont_ = G_q172 N_ S_q49 x (fun r0 => cont_ (.int .i64 r0) []) := by kernel_rfl
theorem good_q172 (N_ : Nat) (S_q49 : TS_q49) (h_binnacleref01_AllFinite : GoodF Tryz.prog 101 (F_q49 S_q49)) : GoodF Tryz.prog 143 (F_q172 (G_q172 N_ S_q49)) := by
  refine good_fs (cx := ⟨Tryz.prog, ofList [(101, (F_q49 S_q49))], isref, N_⟩) (ofList_cons h_binnacleref01_AllFinite (ofList_nil _)) shF_q172 (sp_q172 (G_q172 N_ S_q49)) (an_q172 N_ S_q49) 0 0 (by kernel_rfl) (fun i_ hi_ => by omega) ?_
  intro a k h
  unfold sp_q172 at h
  split at h
  · exact ⟨[], rfl, rfl, (eq_q172 _ _ _ _).trans h⟩
  · cases h

def sh_st_binnacleref08_Dot_0 : StSh := ⟨[.rof, .rof, .any, .any, .any, .flt, .int .i64, .any, .any, .any, .any, .any, .any, .any, .any, .any, .any, .any, .any, .any, .any, .any, .any, .any, .any], []⟩
def sx0_st_binnacleref08_Dot_0 : StSh := ⟨[.any, .any, .any, .any, .any, .flt, .any, .any, .any, .any, .any, .any, .any, .any, .any, .any, .any, .any, .any, .any, .any, .any, .any, .any, .any], []⟩
def hk_st_binnacleref08_Dot_0 (N_ : Nat) : List Atom → K → Bool := fun a_ κ => match a_ with
  | [.fls x_1, .fls y_1, .fl s, .int i] => iterG N_ (st_z08_Dot_0 N_ x_1 y_1 (fun r0 => κ.ext 0 (sx0_st_binnacleref08_Dot_0.build [.fl r0]))) (s, i)
  | _ => false
def an_q153 (N_ : Nat) : Nat → Option Ann := fun b_ => cond (b_ == 0) (some ⟨⟨[0, 1, 5, 6], [], []⟩, [(0, ⟨[5], [], []⟩)], some ⟨[4], [], []⟩, some (mkHooks [(sh_st_binnacleref08_Dot_0, hk_st_binnacleref08_Dot_0 N_)])⟩) (none)
theorem eq_st_binnacleref08_Dot_0 (N_ : Nat) (κ : K) (x_1 : List Fl) (y_1 : List Fl) (s : Fl) (i : Int) : iter N_ (fun s k => codeV ⟨Tryz.prog, ofList [], isref, N_⟩ 0 (an_q153 N_) (lp Tryz.prog 179 0).2 (lp Tryz.prog 179 0).1 s (roundK Tryz.prog 0 ((an_q153 N_) (lp Tryz.prog 179 0).1) κ k)) (sh_st_binnacleref08_Dot_0.build [.fls x_1, .fls y_1, .fl s, .int i]) = iterG N_ (st_z08_Dot_0 N_ x_1 y_1 (fun r0 => κ.ext 0 (sx0_st_binnacleref08_Dot_0.build [.fl r0]))) (s, i) :=
  iter_tr (fun (v_ : Fl × Int) => sh_st_binnacleref08_Dot_0.build [.fls x_1, .fls y_1, .fl v_.1, .int v_.2]) (fun v_ K_ => by obtain ⟨s, i⟩ := v_; kernel_rfl) N_ (s, i)
theorem hk1_st_binnacleref08_Dot_0 (N_ : Nat) : HookFor ⟨Tryz.prog, ofList [], isref, N_⟩ 0 (an_q153 N_) (lp Tryz.prog 179 0) (sh_st_binnacleref08_Dot_0, hk_st_binnacleref08_Dot_0 N_) := by
  intro a κ h
  simp only at h
  unfold hk_st_binnacleref08_Dot_0 at h
  split at h
  · exact (eq_st_binnacleref08_Dot_0 _ _ _ _ _ _).trans h
  · cases h
theorem ho_binnacleref08_Dot_0 (N_ : Nat) : HookOk ⟨Tryz.prog, ofList [], isref, N_⟩ 0 (an_q153 N_) (lp Tryz.prog 179 0) :=
  hooks_ok [(sh_st_binnacleref08_Dot_0, hk_st_binnacleref08_Dot_0 N_)] (by kernel_rfl) ⟨hk1_st_binnacleref08_Dot_0 _, trivial⟩
theorem eq_q153 (N_ : Nat) (x : List Fl) (y : List Fl) (cont_ : V → List Blk → Bool) : bodyV ⟨Tryz.prog, ofList [], isref, N_⟩ (an_q153 N_) 179 (shF_q153.args [.fls x, .fls y]) [] cont_ = G_q153 N_ x y (fun r0 => cont_ (.flt r0) []) := by kernel_rfl
theorem good_q153 (N_ : Nat) : GoodF Tryz.prog 179 (F_q153 (G_q153 N_)) := by
  refine good_fs (cx := ⟨Tryz.prog, ofList [], isref, N_⟩) (ofList_nil _) shF_q153 (sp_q153 (G_q153 N_)) (an_q153 N_) 1 0 (by kernel_rfl) (fun i_ hi_ => by
    match i_, hi_ with
    | 0, _ => exact ho_binnacleref08_Dot_0 _
    | (q + 1), h => omega) ?_
  intro a k h
  unfold sp_q153 at h
  split at h
  · exact ⟨[], rfl, rfl, (eq_q153 _ _ _ _).trans h⟩
  · cases h

def sh_st_binnacleref10_scaled_0 : StSh := ⟨[.rof, .int .i64, .any, .any, .any, .any, .slw 0, .int .i64, .any, .any, .any, .any, .any, .any, .any, .any, .any, .any, .any, .any, .any, .any, .any, .any, .any, .any, .any, .any, .any], [some (24, 1, .flts)]⟩
def sx0_st_binnacleref10_scaled_0 : StSh := ⟨[.any, .any, .any, .any, .any, .any, .slw 0, .any, .any, .any, .any, .any, .any, .any, .any, .any, .any, .any, .any, .any, .any, .any, .any, .any, .any, .any, .any, .any, .any], [some (24, 1, .flts)]⟩
def hk_st_binnacleref10_scaled_0 (N_ : Nat) (S_q69 : TS_q69) (S_q153 : TS_q153) (S_q112 : TS_q112) : List Atom → K → Bool := fun a_ κ => match a_ with
  | [.fls x_2, .int k__2, .int i_1, .fls y] => iterG N_ (st_z10_scaled_0 N_ S_q69 S_q153 S_q112 x_2 k__2 (fun r0 => κ.ext 0 (sx0_st_binnacleref10_scaled_0.build [.fls r0]))) (i_1, y)
  | _ => false
def an_q129 (N_ : Nat) (S_q69 : TS_q69) (S_q153 : TS_q153) (S_q112 : TS_q112) : Nat → Option Ann := fun b_ => cond (b_ == 0) (some ⟨⟨[0, 1, 6, 7], [(6, none, 24)], []⟩, [(0, ⟨[6], [], []⟩)], some ⟨[4, 5], [], []⟩, some (mkHooks [(sh_st_binnacleref10_scaled_0, hk_st_binnacleref10_scaled_0 N_ S_q69 S_q153 S_q112)])⟩) (none)
theorem eq_st_binnacleref10_scaled_0 (N_ : Nat) (S_q69 : TS_q69) (S_q153 : TS_q153) (S_q112 : TS_q112) (κ : K) (x_2 : List Fl) (k__2 : Int) (i_1 : Int) (y : List Fl) : iter N_ (fun s k => codeV ⟨Tryz.prog, ofList [(77, (F_q69 S_q69)), (179, (F_q153 S_q153)), (72, (F_q112 S_q112))], isref, N_⟩ 0 (an_q129 N_ S_q69 S_q153 S_q112) (lp Tryz.prog 144 0).2 (lp Tryz.prog 144 0).1 s (roundK Tryz.prog 0 ((an_q129 N_ S_q69 S_q153 S_q112) (lp Tryz.prog 144 0).1) κ k)) (sh_st_binnacleref10_scaled_0.build [.fls x_2, .int k__2, .int i_1, .fls y]) = iterG N_ (st_z10_scaled_0 N_ S_q69 S_q153 S_q112 x_2 k__2 (fun r0 => κ.ext 0 (sx0_st_binnacleref10_scaled_0.build [.fls r0]))) (i_1, y) :=
  iter_tr (fun (v_ : Int × List Fl) => sh_st_binnacleref10_scaled_0.build [.fls x_2, .int k__2, .int v_.1, .fls v_.2]) (fun v_ K_ => by obtain ⟨i_1, y⟩ := v_; kernel_rfl) N_ (i_1, y)
theorem hk1_st_binnacleref10_scaled_0 (N_ : Nat) (S_q69 : TS_q69) (S_q153 : TS_q153) (S_q112 : TS_q112) : HookFor ⟨Tryz.prog, ofList [(77, (F_q69 S_q69)), (179, (F_q153 S_q153)), (72, (F_q112 S_q112))], isref, N_⟩ 0 (an_q129 N_ S_q69 S_q153 S_q112) (lp Tryz.prog 144 0) (sh_st_binnacleref10_scaled_0, hk_st_binnacleref10_scaled_0 N_ S_q69 S_q153 S_q112) := by
  intro a κ h
  simp only at h
  unfold hk_st_binnacleref10_scaled_0 at h
  split at h
  · exact (eq_st_binnacleref10_scaled_0 _ _ _ _ _ _ _ _ _).trans h
  · cases h
theorem ho_binnacleref10_scaled_0 (N_ : Nat) (S_q69 : TS_q69) (S_q153 : TS_q153) (S_q112 : TS_q112) : HookOk ⟨Tryz.prog, ofList [(77, (F_q69 S_q69)), (179, (F_q153 S_q153)), (72, (F_q112 S_q112))], isref, N_⟩ 0 (an_q129 N_ S_q69 S_q153 S_q112) (lp Tryz.prog 144 0) :=
  hooks_ok [(sh_st_binnacleref10_scaled_0, hk_st_binnacleref10_scaled_0 N_ S_q69 S_q153 S_q112)] (by kernel_rfl) ⟨hk1_st_binnacleref10_scaled_0 _ _ _ _, trivial⟩
theorem eq_q129 (N_ : Nat) (S_q69 : TS_q69) (S_q153 : TS_q153) (S_q112 : TS_q112) (x : List Fl) (k_ : Int) (cont_ : V → List Blk → Bool) : bodyV ⟨Tryz.prog, ofList [(77, (F_q69 S_q69)), (179, (F_q153 S_q153)), (72, (F_q112 S_q112))], isref, N_⟩ (an_q129 N_ S_q69 S_q153 S_q112) 144 (shF_q129.args [.fls x, .int k_]) [] cont_ = G_q129 N_ S_q69 S_q153 S_q112 x k_ (fun r0 r1 => cont_ (.tup [.slw 0, .flt r0]) [⟨24, 1, .flts r1⟩]) := by kernel_rfl
theorem good_q129 (N_ : Nat) (S_q69 : TS_q69) (S_q153 : TS_q153) (S_q112 : TS_q112) (h_binnacleref10_Times : GoodF Tryz.prog 77 (F_q69 S_q69)) (h_binnacleref08_Dot : GoodF Tryz.prog 179 (F_q153 S_q153)) (h_math_Sqrt : GoodF Tryz.prog 72 (F_q112 S_q112)) : GoodF Tryz.prog 144 (F_q129 (G_q129 N_ S_q69 S_q153 S_q112)) := by
  refine good_fs (cx := ⟨Tryz.prog, ofList [(77, (F_q69 S_q69)), (179, (F_q153 S_q153)), (72, (F_q112 S_q112))], isref, N_⟩) (ofList_cons h_binnacleref10_Times (ofList_cons h_binnacleref08_Dot (ofList_cons h_math_Sqrt (ofList_nil _)))) shF_q129 (sp_q129 (G_q129 N_ S_q69 S_q153 S_q112)) (an_q129 N_ S_q69 S_q153 S_q112) 1 0 (by kernel_rfl) (fun i_ hi_ => by
    match i_, hi_ with
    | 0, _ => exact ho_binnacleref10_scaled_0 _ _ _ _
    | (q + 1), h => omega) ?_
  intro a k h
  unfold sp_q129 at h
  split at h
  · exact ⟨[], rfl, rfl, (eq_q129 _ _ _ _ _ _ _).trans h⟩
  · cases h

def an_q128 (N_ : Nat) (S_q172 : TS_q172) (S_q114 : TS_q114) (S_q129 : TS_q129) (S_q69 : TS_q69) (S_q50 : TS_q50) : Nat → Option Ann := fun b_ => none
theorem eq_q128 (N_ : Nat) (S_q172 : TS_q172) (S_q114 : TS_q114) (S_q129 : TS_q129) (S_q69 : TS_q69) (S_q50 : TS_q50) (x : List Fl) (cont_ : V → List Blk → Bool) : bodyV ⟨Tryz.prog, ofList [(143, (F_q172 S_q172)), (76, (F_q114 S_q114)), (144, (F_q129 S_q129)), (77, (F_q69 S_q69)), (87, (F_q50 S_q50))], isref, N_⟩ (an_q128 N_ S_q172 S_q114 S_q129 S_q69 S_q50) 103 (shF_q128.args [.fls x]) [] cont_ = G_q128 N_ S_q172 S_q114 S_q129 S_q69 S_q50 x (fun r0 r1 => cont_ (.tup [.flt r0, .int .i64 r1]) []) := by kernel_rfl
theorem good_q128 (N_ : Nat) (S_q172 : TS_q172) (S_q114 : TS_q114) (S_q129 : TS_q129) (S_q69 : TS_q69) (S_q50 : TS_q50) (h_binnacleref10_List : GoodF Tryz.prog 143 (F_q172 S_q172)) (h_binnacleref10_Power : GoodF Tryz.prog 76 (F_q114 S_q114)) (h_binnacleref10_scaled : GoodF Tryz.prog 144 (F_q129 S_q129)) (h_binnacleref10_Times : GoodF Tryz.prog 77 (F_q69 S_q69)) (h_binnacleref01_Finite : GoodF Tryz.prog 87 (F_q50 S_q50)) : GoodF Tryz.prog 103 (F_q128 (G_q128 N_ S_q172 S_q114 S_q129 S_q69 S_q50)) := by
  refine good_fs (cx := ⟨Tryz.prog, ofList [(143, (F_q172 S_q172)), (76, (F_q114 S_q114)), (144, (F_q129 S_q129)), (77, (F_q69 S_q69)), (87, (F_q50 S_q50))], isref, N_⟩) (ofList_cons h_binnacleref10_List (ofList_cons h_binnacleref10_Power (ofList_cons h_binnacleref10_scaled (ofList_cons h_binnacleref10_Times (ofList_cons h_binnacleref01_Finite (ofList_nil _)))))) shF_q128 (sp_q128 (G_q128 N_ S_q172 S_q114 S_q129 S_q69 S_q50)) (an_q128 N_ S_q172 S_q114 S_q129 S_q69 S_q50) 0 0 (by kernel_rfl) (fun i_ hi_ => by omega) ?_
  intro a k h
  unfold sp_q128 at h
  split at h
  · exact ⟨[], rfl, rfl, (eq_q128 _ _ _ _ _ _ _ _).trans h⟩
  · cases h

def an_q135 (N_ : Nat) (S_q175 : TS_q175) (S_q183 : TS_q183) (S_q128 : TS_q128) : Nat → Option Ann := fun b_ => none
theorem eq_q135 (N_ : Nat) (S_q175 : TS_q175) (S_q183 : TS_q183) (S_q128 : TS_q128) (a_0 : Fl) (a_1 : Fl) (a_2 : Fl) (a_3 : Fl) (b_0 : Fl) (b_1 : Fl) (b_2 : Fl) (b_3 : Fl) (cont_ : V → List Blk → Bool) : bodyV ⟨Tryz.prog, ofList [(23, (F_q175 S_q175)), (24, (F_q183 S_q183)), (103, (F_q128 S_q128))], isref, N_⟩ (an_q135 N_ S_q175 S_q183 S_q128) 42 (shF_q135.args [.fl a_0, .fl a_1, .fl a_2, .fl a_3, .fl b_0, .fl b_1, .fl b_2, .fl b_3]) [] cont_ = G_q135 N_ S_q175 S_q183 S_q128 a_0 a_1 a_2 a_3 b_0 b_1 b_2 b_3 (fun r0 r1 => cont_ (.tup [.flt r0, .int .i64 r1]) []) := by kernel_rfl
theorem good_q135 (N_ : Nat) (S_q175 : TS_q175) (S_q183 : TS_q183) (S_q128 : TS_q128) (h_binnacleref12_Conj : GoodF Tryz.prog 23 (F_q175 S_q175)) (h_binnacleref12_Mul : GoodF Tryz.prog 24 (F_q183 S_q183)) (h_binnacleref10_Length : GoodF Tryz.prog 103 (F_q128 S_q128)) : GoodF Tryz.prog 42 (F_q135 (G_q135 N_ S_q175 S_q183 S_q128)) := by
  refine good_fs (cx := ⟨Tryz.prog, ofList [(23, (F_q175 S_q175)), (24, (F_q183 S_q183)), (103, (F_q128 S_q128))], isref, N_⟩) (ofList_cons h_binnacleref12_Conj (ofList_cons h_binnacleref12_Mul (ofList_cons h_binnacleref10_Length (ofList_nil _)))) shF_q135 (sp_q135 (G_q135 N_ S_q175 S_q183 S_q128)) (an_q135 N_ S_q175 S_q183 S_q128) 0 0 (by kernel_rfl) (fun i_ hi_ => by omega) ?_
  intro a k h
  unfold sp_q135 at h
  split at h
  · exact ⟨[], rfl, rfl, (eq_q135 _ _ _ _ _ _ _ _ _ _ _ _ _).trans h⟩
  · cases h

def an_q58 (N_ : Nat) (S_q43 : TS_q43) (S_q70 : TS_q70) (S_q81 : TS_q81) (S_q47 : TS_q47) (S_q51 : TS_q51) (S_q48 : TS_q48) (S_q151 : TS_q151) (S_q178 : TS_q178) (S_q123 : TS_q123) (S_q135 : TS_q135) (S_q25 : TS_q25) : Nat → Option Ann := fun b_ => none
theorem eq_q58 (N_ : Nat) (S_q43 : TS_q43) (S_q70 : TS_q70) (S_q81 : TS_q81) (S_q47 : TS_q47) (S_q51 : TS_q51) (S_q48 : TS_q48) (S_q151 : TS_q151) (S_q178 : TS_q178) (S_q123 : TS_q123) (S_q135 : TS_q135) (S_q25 : TS_q25) (x_0 : Int) (x_1 : Int) (x_2 : Int) (x_3 : Int) (y_0 : Int) (y_1 : Int) (y_2 : Int) (y_3 : Int) (t : Int) (cont_ : V → List Blk → Bool) : bodyV ⟨Tryz.prog, ofList [(17, (F_q43 S_q43)), (36, (F_q70 S_q70)), (37, (F_q81 S_q81)), (20, (F_q47 S_q47)), (8, (F_q51 S_q51)), (39, (F_q48 S_q48)), (38, (F_q151 S_q151)), (40, (F_q178 S_q178)), (41, (F_q123 S_q123)), (42, (F_q135 S_q135)), (29, (F_q25 S_q25))], isref, N_⟩ (an_q58 N_ S_q43 S_q70 S_q81 S_q47 S_q51 S_q48 S_q151 S_q178 S_q123 S_q135 S_q25) 6 (shF_q58.args [.int x_0, .int x_1, .int x_2, .int x_3, .int y_0, .int y_1, .int y_2, .int y_3, .int t]) [] cont_ = G_q58 N_ S_q43 S_q70 S_q81 S_q47 S_q51 S_q48 S_q151 S_q178 S_q123 S_q135 S_q25 x_0 x_1 x_2 x_3 y_0 y_1 y_2 y_3 t (fun r0 => cont_ (.bool r0) []) := by kernel_rfl
theorem good_q58 (N_ : Nat) (S_q43 : TS_q43) (S_q70 : TS_q70) (S_q81 : TS_q81) (S_q47 : TS_q47) (S_q51 : TS_q51) (S_q48 : TS_q48) (S_q151 : TS_q151) (S_q178 : TS_q178) (S_q123 : TS_q123) (S_q135 : TS_q135) (S_q25 : TS_q25) (h_binnaclelaw12_quatOf : GoodF Tryz.prog 17 (F_q43 S_q43)) (h_quat_Nearest : GoodF Tryz.prog 36 (F_q70 S_q70)) (h_binnacleref12_Nearest : GoodF Tryz.prog 37 (F_q81 S_q81)) (h_binnaclelaw12_quats : GoodF Tryz.prog 20 (F_q47 S_q47)) (h_binnaclelaw12_awake : GoodF Tryz.prog 8 (F_q51 S_q51)) (h_binnaclelaw12_f : GoodF Tryz.prog 39 (F_q48 S_q48)) (h_quat_Mix : GoodF Tryz.prog 38 (F_q151 S_q151)) (h_binnacleref12_Mix : GoodF Tryz.prog 40 (F_q178 S_q178)) (h_quat_Apart : GoodF Tryz.prog 41 (F_q123 S_q123)) (h_binnacleref12_Apart : GoodF Tryz.prog 42 (F_q135 S_q135)) (h_binnaclelaw12_same : GoodF Tryz.prog 29 (F_q25 S_q25)) : GoodF Tryz.prog 6 (F_q58 (G_q58 N_ S_q43 S_q70 S_q81 S_q47 S_q51 S_q48 S_q151 S_q178 S_q123 S_q135 S_q25)) := by
  refine good_fs (cx := ⟨Tryz.prog, ofList [(17, (F_q43 S_q43)), (36, (F_q70 S_q70)), (37, (F_q81 S_q81)), (20, (F_q47 S_q47)), (8, (F_q51 S_q51)), (39, (F_q48 S_q48)), (38, (F_q151 S_q151)), (40, (F_q178 S_q178)), (41, (F_q123 S_q123)), (42, (F_q135 S_q135)), (29, (F_q25 S_q25))], isref, N_⟩) (ofList_cons h_binnaclelaw12_quatOf (ofList_cons h_quat_Nearest (ofList_cons h_binnacleref12_Nearest (ofList_cons h_binnaclelaw12_quats (ofList_cons h_binnaclelaw12_awake (ofList_cons h_binnaclelaw12_f (ofList_cons h_quat_Mix (ofList_cons h_binnacleref12_Mix (ofList_cons h_quat_Apart (ofList_cons h_binnacleref12_Apart (ofList_cons h_binnaclelaw12_same (ofList_nil _)))))))))))) shF_q58 (sp_q58 (G_q58 N_ S_q43 S_q70 S_q81 S_q47 S_q51 S_q48 S_q151 S_q178 S_q123 S_q135 S_q25)) (an_q58 N_ S_q43 S_q70 S_q81 S_q47 S_q51 S_q48 S_q151 S_q178 S_q123 S_q135 S_q25) 0 0 (by kernel_rfl) (fun i_ hi_ => by omega) ?_
  intro a k h
  unfold sp_q58 at h
  split at h
  · exact ⟨[], rfl, rfl, (eq_q58 _ _ _ _ _ _ _ _ _ _ _ _ _ _ _ _ _ _ _ _ _ _).trans h⟩
  · cases h

theorem top_q58 (N_ : Nat) (S_q43 : TS_q43) (S_q70 : TS_q70) (S_q81 : TS_q81) (S_q47 : TS_q47) (S_q51 : TS_q51) (S_q48 : TS_q48) (S_q151 : TS_q151) (S_q178 : TS_q178) (S_q123 : TS_q123) (S_q135 : TS_q135) (S_q25 : TS_q25) (h_binnaclelaw12_quatOf : GoodF Tryz.prog 17 (F_q43 S_q43)) (h_quat_Nearest : GoodF Tryz.prog 36 (F_q70 S_q70)) (h_binnacleref12_Nearest : GoodF Tryz.prog 37 (F_q81 S_q81)) (h_binnaclelaw12_quats : GoodF Tryz.prog 20 (F_q47 S_q47)) (h_binnaclelaw12_awake : GoodF Tryz.prog 8 (F_q51 S_q51)) (h_binnaclelaw12_f : GoodF Tryz.prog 39 (F_q48 S_q48)) (h_quat_Mix : GoodF Tryz.prog 38 (F_q151 S_q151)) (h_binnacleref12_Mix : GoodF Tryz.prog 40 (F_q178 S_q178)) (h_quat_Apart : GoodF Tryz.prog 41 (F_q123 S_q123)) (h_binnacleref12_Apart : GoodF Tryz.prog 42 (F_q135 S_q135)) (h_binnaclelaw12_same : GoodF Tryz.prog 29 (F_q25 S_q25)) (x_0 : Int) (x_1 : Int) (x_2 : Int) (x_3 : Int) (y_0 : Int) (y_1 : Int) (y_2 : Int) (y_3 : Int) (t : Int) (hG : G_q58 N_ S_q43 S_q70 S_q81 S_q47 S_q51 S_q48 S_q151 S_q178 S_q123 S_q135 S_q25 x_0 x_1 x_2 x_3 y_0 y_1 y_2 y_3 t (fun b => b) = true) : OkC Tryz.prog 6 (shF_q58.args [.int x_0, .int x_1, .int x_2, .int x_3, .int y_0, .int y_1, .int y_2, .int y_3, .int t]) [] (.bool true) [] :=
  top_fs (cx := ⟨Tryz.prog, ofList [(17, (F_q43 S_q43)), (36, (F_q70 S_q70)), (37, (F_q81 S_q81)), (20, (F_q47 S_q47)), (8, (F_q51 S_q51)), (39, (F_q48 S_q48)), (38, (F_q151 S_q151)), (40, (F_q178 S_q178)), (41, (F_q123 S_q123)), (42, (F_q135 S_q135)), (29, (F_q25 S_q25))], isref, N_⟩) (ofList_cons h_binnaclelaw12_quatOf (ofList_cons h_quat_Nearest (ofList_cons h_binnacleref12_Nearest (ofList_cons h_binnaclelaw12_quats (ofList_cons h_binnaclelaw12_awake (ofList_cons h_binnaclelaw12_f (ofList_cons h_quat_Mix (ofList_cons h_binnacleref12_Mix (ofList_cons h_quat_Apart (ofList_cons h_binnacleref12_Apart (ofList_cons h_binnaclelaw12_same (ofList_nil _)))))))))))) (an_q58 N_ S_q43 S_q70 S_q81 S_q47 S_q51 S_q48 S_q151 S_q178 S_q123 S_q135 S_q25) 0 (by kernel_rfl) (fun i_ hi_ => by omega) ((eq_q58 N_ S_q43 S_q70 S_q81 S_q47 S_q51 S_q48 S_q151 S_q178 S_q123 S_q135 S_q25 x_0 x_1 x_2 x_3 y_0 y_1 y_2 y_3 t (fun r H => match r, H with | .bool b, [] => b | _, _ => false)).trans hG)

end Go.Proofs.YtccocdgimamdhaaGreatDoor
