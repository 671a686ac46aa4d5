/-
  THE TIES: each printed meaning is what the program does (written by program).
  Conditions: none.
-/
import Derived.Test.YtccocdgimamdhaaGreatDoorGs
namespace Go.Proofs.YtccocdgimamdhaaGreatDoor
open Go Go.Mach Go.Proofs
set_option linter.unusedVariables false
set_option maxRecDepth 50000

def an_q108 (N_ : Nat) (S_q161 : TS_q161) (S_q101 : TS_q101) (S_q154 : TS_q154) (S_q156 : TS_q156) (S_q135 : TS_q135) : Nat -> Option Ann := fun b_ => none
theorem eq_q108 (N_ : Nat) (S_q161 : TS_q161) (S_q101 : TS_q101) (S_q154 : TS_q154) (S_q156 : TS_q156) (S_q135 : TS_q135) (n_0 : Int) (n_1 : Bool) (n_2 : Int) (b : Bool) (b_1 : List Int) (c_ : V -> List Blk -> Bool) : bodyV ⟨Pg, ofList [(184, (F_q161 S_q161)), (185, (F_q101 S_q101)), (186, (F_q154 S_q154)), (187, (F_q156 S_q156)), (188, (F_q135 S_q135))], isref, N_⟩ (an_q108 N_ S_q161 S_q101 S_q154 S_q156 S_q135) 156 (shF_q108.args [.int n_0, .bool n_1, .int n_2, .bool b, .ints b_1]) [⟨105, 1, .cells [.bool b, .roi .u32 b_1]⟩] c_ = G_q108 N_ S_q161 S_q101 S_q154 S_q156 S_q135 n_0 n_1 n_2 b b_1 (fun r0 r1 => c_ (.tup [.int .u64 r0, .int .i64 r1]) [⟨105, 1, .cells [.bool b, .roi .u32 b_1]⟩]) := by kernel_rfl
theorem good_q108 (N_ : Nat) (S_q161 : TS_q161) (S_q101 : TS_q101) (S_q154 : TS_q154) (S_q156 : TS_q156) (S_q135 : TS_q135) (h_q161 : GoodF Pg 184 (F_q161 S_q161)) (h_q101 : GoodF Pg 185 (F_q101 S_q101)) (h_q154 : GoodF Pg 186 (F_q154 S_q154)) (h_q156 : GoodF Pg 187 (F_q156 S_q156)) (h_q135 : GoodF Pg 188 (F_q135 S_q135)) : GoodF Pg 156 (F_q108 (G_q108 N_ S_q161 S_q101 S_q154 S_q156 S_q135)) := by
  refine good_fs (cx := ⟨Pg, ofList [(184, (F_q161 S_q161)), (185, (F_q101 S_q101)), (186, (F_q154 S_q154)), (187, (F_q156 S_q156)), (188, (F_q135 S_q135))], isref, N_⟩) (ofList_cons h_q161 (ofList_cons h_q101 (ofList_cons h_q154 (ofList_cons h_q156 (ofList_cons h_q135 (ofList_nil _)))))) shF_q108 (sp_q108 (G_q108 N_ S_q161 S_q101 S_q154 S_q156 S_q135)) (an_q108 N_ S_q161 S_q101 S_q154 S_q156 S_q135) 0 1 (by kernel_rfl) (fun i_ hi_ => by omega) ?_
  intro a k h
  unfold sp_q108 at h
  split at h
  · exact ⟨[_], rfl, rfl, (eq_q108 _ _ _ _ _ _ _ _ _ _ _ _).trans h⟩
  · cases h

def an_q138 (N_ : Nat) (S_q113 : TS_q113) (S_q97 : TS_q97) (S_q146 : TS_q146) (S_q152 : TS_q152) (S_q108 : TS_q108) : Nat -> Option Ann := fun b_ => none
def ls_q190 (d_ : List V) (u_ : List (Option Blk)) (x : Int) (k_ : Int) (b0_1 : Bool) (b0_2 : List Int) (n : Int) (n_1 : Bool) (n_2 : Int) : St := ⟨[(dq d_ 0), (dq d_ 1), .int .i64 0, (dq d_ 2), (dq d_ 3), (dq d_ 4), (dq d_ 5), (dq d_ 6), (dq d_ 7), .ptr 1 0, (dq d_ 8), (dq d_ 9), (dq d_ 10), (dq d_ 11), (dq d_ 12), (dq d_ 13), (dq d_ 14), (dq d_ 15), (dq d_ 16), (dq d_ 17), (dq d_ 18), (dq d_ 19), (dq d_ 20), (dq d_ 21), (dq d_ 22), (dq d_ 23), (dq d_ 24), (dq d_ 25), (dq d_ 26), (dq d_ 27), (dq d_ 28), (dq d_ 29), (dq d_ 30), (dq d_ 31), (dq d_ 32), (dq d_ 33), (dq d_ 34)], [some ⟨105, 1, .cells [.bool b0_1, .roi .u32 b0_2]⟩, some ⟨190, 1, .cells [.int .i64 n, .bool n_1, .ptr 0 0, .int .i64 n_2]⟩]⟩
def ls_q226 (d_ : List V) (u_ : List (Option Blk)) (x : Int) (k_ : Int) (b0 : Bool) : St := ⟨[(dq d_ 0), (dq d_ 1), .int .i64 0, (dq d_ 2), (dq d_ 3), (dq d_ 4), (dq d_ 5), (dq d_ 6), (dq d_ 7), .ptr 1 0, (dq d_ 8), (dq d_ 9), (dq d_ 10), (dq d_ 11), (dq d_ 12), (dq d_ 13), (dq d_ 14), (dq d_ 15), (dq d_ 16), (dq d_ 17), (dq d_ 18), (dq d_ 19), (dq d_ 20), (dq d_ 21), (dq d_ 22), (dq d_ 23), (dq d_ 24), (dq d_ 25), (dq d_ 26), (dq d_ 27), (dq d_ 28), (dq d_ 29), (dq d_ 30), (dq d_ 31), (dq d_ 32), (dq d_ 33), (dq d_ 34)], [some ⟨105, 1, .cells [.bool b0, .nil]⟩, some ⟨190, 1, .cells [.int .i64 2, .bool false, .ptr 0 0, .int .i64 0]⟩]⟩
theorem jn_q190 (N_ : Nat) (S_q113 : TS_q113) (S_q97 : TS_q97) (S_q146 : TS_q146) (S_q152 : TS_q152) (S_q108 : TS_q108) (d_ : List V) (u_ : List (Option Blk)) (x : Int) (k_ : Int) (b0_1 : Bool) (b0_2 : List Int) (n : Int) (n_1 : Bool) (n_2 : Int) (c_ : V -> List Blk -> Bool) : codesV ⟨Pg, ofList [(153, (F_q113 S_q113)), (154, (F_q97 S_q97)), (155, (F_q146 S_q146)), (156, (orFs (F_q108 S_q108) (F_q152 S_q152) shF_q108))], isref, N_⟩ 0 (an_q138 N_ S_q113 S_q97 S_q146 S_q152 S_q108) ((cds Pg 123).drop 6) 0 (ls_q190 d_ u_ x k_ b0_1 b0_2 n n_1 n_2) (finV Pg 123 0 c_) = J_q190 N_ S_q113 S_q97 S_q146 S_q152 S_q108 x k_ b0_1 b0_2 n n_1 n_2 (fun r0 r1 r2 => c_ (.tup [.int .u64 r0, .int .i64 r1, .int .i64 r2]) []) := by kernel_rfl
theorem jn_q226 (N_ : Nat) (S_q113 : TS_q113) (S_q97 : TS_q97) (S_q146 : TS_q146) (S_q152 : TS_q152) (S_q108 : TS_q108) (d_ : List V) (u_ : List (Option Blk)) (x : Int) (k_ : Int) (b0 : Bool) (c_ : V -> List Blk -> Bool) : codesV ⟨Pg, ofList [(153, (F_q113 S_q113)), (154, (F_q97 S_q97)), (155, (F_q146 S_q146)), (156, (orFs (F_q108 S_q108) (F_q152 S_q152) shF_q108))], isref, N_⟩ 0 (an_q138 N_ S_q113 S_q97 S_q146 S_q152 S_q108) ((cds Pg 123).drop 6) 0 (ls_q226 d_ u_ x k_ b0) (finV Pg 123 0 c_) = J_q226 N_ S_q113 S_q97 S_q146 S_q152 S_q108 x k_ b0 (fun r0 r1 r2 => c_ (.tup [.int .u64 r0, .int .i64 r1, .int .i64 r2]) []) := by kernel_rfl
theorem hd_z02_Scale_w (N_ : Nat) (S_q113 : TS_q113) (S_q97 : TS_q97) (S_q146 : TS_q146) (S_q152 : TS_q152) (S_q108 : TS_q108) (x : Int) (k_ : Int) (c_ : V -> List Blk -> Bool) (κn_ : St -> Bool) : codesV ⟨Pg, ofList [(153, (F_q113 S_q113)), (154, (F_q97 S_q97)), (155, (F_q146 S_q146)), (156, (orFs (F_q108 S_q108) (F_q152 S_q152) shF_q108))], isref, N_⟩ 0 (an_q138 N_ S_q113 S_q97 S_q146 S_q152 S_q108) (sg Pg 123 0 6) 0 (st0 Pg 123 (shF_q138.args [.int x, .int k_]) []) { (finV Pg 123 0 c_) with nrm := κn_ } = (S_q113 (S_q97 (S_q146 x (fun cr => (κn_ (ls_q226 [.int .u64 x, .int .i64 k_, .any, .any, .any, .int .u64 0, .int .i64 0, .int .i64 0, .any, .any, .int .i64 0, .bool true, .bool false, .agg [.int .i64 53, .int .i64 (-1022), .int .i64 1023, .int .i64 11], .int .u64 x, .agg [.int .i64 2, .bool false, .ptr 0 0, .int .i64 0], .ptr 1 0, .int .i64 2, .bool false, .any, .any, .any, .any, .any, .any, .any, .any, .any, .any, .any, .any, .any, .any, .any, .any] [] x k_ cr))) (fun cr_1 cr_2 nsr => (κn_ (ls_q190 [.int .u64 x, .int .i64 k_, .any, .any, .any, .int .u64 0, .int .i64 0, .int .i64 0, .any, .any, .int .i64 0, .bool true, .bool false, .agg [.int .i64 53, .int .i64 (-1022), .int .i64 1023, .int .i64 11], .int .u64 x, .agg [.int .i64 1, .bool cr_1, .ptr 0 0, .int .i64 (-1074)], .ptr 1 0, .int .i64 1, .bool false, .any, .any, .any, .any, .any, .any, .any, .any, .any, .any, .any, .any, .any, .any, .any, .any] [] x k_ cr_2 nsr 1 cr_1 (-1074)))) (fun cr_3 nr cr_4 nsr_1 => ((fits .i64 (nr + (imm true (-5000) (imm false k_ 5000)))) && (κn_ (ls_q190 [.int .u64 x, .int .i64 k_, .any, .any, .any, .int .u64 0, .int .i64 0, .int .i64 0, .any, .any, .int .i64 0, .bool true, .bool false, .agg [.int .i64 53, .int .i64 (-1022), .int .i64 1023, .int .i64 11], .int .u64 x, .agg [.int .i64 0, .bool cr_3, .ptr 0 0, .int .i64 nr], .ptr 1 0, .int .i64 0, .bool true, .ptr 1 3, .int .i64 nr, .int .i64 k_, .int .i64 (imm false k_ 5000), .int .i64 (imm true (-5000) (imm false k_ 5000)), .int .i64 (nr + (imm true (-5000) (imm false k_ 5000))), .ptr 1 3, .any, .any, .any, .any, .any, .any, .any, .any, .any] [] x k_ cr_4 nsr_1 0 cr_3 (nr + (imm true (-5000) (imm false k_ 5000))))))) (fun cr_5 cr_6 nsr_2 => ((fits .i64 ((-1074) + (imm true (-5000) (imm false k_ 5000)))) && (κn_ (ls_q190 [.int .u64 x, .int .i64 k_, .any, .any, .any, .int .u64 0, .int .i64 0, .int .i64 0, .any, .any, .int .i64 0, .bool true, .bool false, .agg [.int .i64 53, .int .i64 (-1022), .int .i64 1023, .int .i64 11], .int .u64 x, .agg [.int .i64 0, .bool cr_5, .ptr 0 0, .int .i64 (-1074)], .ptr 1 0, .int .i64 0, .bool true, .ptr 1 3, .int .i64 (-1074), .int .i64 k_, .int .i64 (imm false k_ 5000), .int .i64 (imm true (-5000) (imm false k_ 5000)), .int .i64 ((-1074) + (imm true (-5000) (imm false k_ 5000))), .ptr 1 3, .any, .any, .any, .any, .any, .any, .any, .any, .any] [] x k_ cr_6 nsr_2 0 cr_5 ((-1074) + (imm true (-5000) (imm false k_ 5000)))))))))) := by kernel_rfl
theorem jn_z02_Scale_w (N_ : Nat) (S_q113 : TS_q113) (S_q97 : TS_q97) (S_q146 : TS_q146) (S_q152 : TS_q152) (S_q108 : TS_q108) (x : Int) (k_ : Int) (c_ : V -> List Blk -> Bool) : codesV ⟨Pg, ofList [(153, (F_q113 S_q113)), (154, (F_q97 S_q97)), (155, (F_q146 S_q146)), (156, (orFs (F_q108 S_q108) (F_q152 S_q152) shF_q108))], isref, N_⟩ 0 (an_q138 N_ S_q113 S_q97 S_q146 S_q152 S_q108) ((cds Pg 123).drop 0) 0 (st0 Pg 123 (shF_q138.args [.int x, .int k_]) []) (finV Pg 123 0 c_) = G_q138 N_ S_q113 S_q97 S_q146 S_q152 S_q108 x k_ (fun r0 r1 r2 => c_ (.tup [.int .u64 r0, .int .i64 r1, .int .i64 r2]) []) := by
  rw [codesV_cut 0 6 6 rfl]
  refine (hd_z02_Scale_w N_ S_q113 S_q97 S_q146 S_q152 S_q108 x k_ c_ _).trans ?_
  simp only [jn_q226, jn_q190]
  kernel_rfl
theorem eq_q138 (N_ : Nat) (S_q113 : TS_q113) (S_q97 : TS_q97) (S_q146 : TS_q146) (S_q152 : TS_q152) (S_q108 : TS_q108) (x : Int) (k_ : Int) (c_ : V -> List Blk -> Bool) : bodyV ⟨Pg, ofList [(153, (F_q113 S_q113)), (154, (F_q97 S_q97)), (155, (F_q146 S_q146)), (156, (orFs (F_q108 S_q108) (F_q152 S_q152) shF_q108))], isref, N_⟩ (an_q138 N_ S_q113 S_q97 S_q146 S_q152 S_q108) 123 (shF_q138.args [.int x, .int k_]) [] c_ = G_q138 N_ S_q113 S_q97 S_q146 S_q152 S_q108 x k_ (fun r0 r1 r2 => c_ (.tup [.int .u64 r0, .int .i64 r1, .int .i64 r2]) []) :=
  (bodyV_codes (by kernel_rfl)).trans (jn_z02_Scale_w N_ S_q113 S_q97 S_q146 S_q152 S_q108 x k_ c_)
theorem good_q138 (N_ : Nat) (S_q113 : TS_q113) (S_q97 : TS_q97) (S_q146 : TS_q146) (S_q152 : TS_q152) (S_q108 : TS_q108) (h_q113 : GoodF Pg 153 (F_q113 S_q113)) (h_q97 : GoodF Pg 154 (F_q97 S_q97)) (h_q146 : GoodF Pg 155 (F_q146 S_q146)) (h_q152 : GoodF Pg 156 (F_q152 S_q152)) (h_q108 : GoodF Pg 156 (F_q108 S_q108)) : GoodF Pg 123 (F_q138 (G_q138 N_ S_q113 S_q97 S_q146 S_q152 S_q108)) := by
  refine good_fs (cx := ⟨Pg, ofList [(153, (F_q113 S_q113)), (154, (F_q97 S_q97)), (155, (F_q146 S_q146)), (156, (orFs (F_q108 S_q108) (F_q152 S_q152) shF_q108))], isref, N_⟩) (ofList_cons h_q113 (ofList_cons h_q97 (ofList_cons h_q146 (ofList_cons (good_or h_q108 h_q152) (ofList_nil _))))) shF_q138 (sp_q138 (G_q138 N_ S_q113 S_q97 S_q146 S_q152 S_q108)) (an_q138 N_ S_q113 S_q97 S_q146 S_q152 S_q108) 0 0 (by kernel_rfl) (fun i_ hi_ => by omega) ?_
  intro a k h
  unfold sp_q138 at h
  split at h
  · exact ⟨[], rfl, rfl, (eq_q138 _ _ _ _ _ _ _ _ _).trans h⟩
  · cases h

def an_q140 (N_ : Nat) (S_q103 : TS_q103) (S_q138 : TS_q138) (S_q70 : TS_q70) : Nat -> Option Ann := fun b_ => none
theorem eq_q140 (N_ : Nat) (S_q103 : TS_q103) (S_q138 : TS_q138) (S_q70 : TS_q70) (x : Fl) (k_ : Int) (c_ : V -> List Blk -> Bool) : bodyV ⟨Pg, ofList [(88, (F_q103 S_q103)), (123, (F_q138 S_q138)), (100, (F_q70 S_q70))], isref, N_⟩ (an_q140 N_ S_q103 S_q138 S_q70) 77 (shF_q140.args [.fl x, .int k_]) [] c_ = G_q140 N_ S_q103 S_q138 S_q70 x k_ (fun r0 => c_ (.flt r0) []) := by kernel_rfl
theorem good_q140 (N_ : Nat) (S_q103 : TS_q103) (S_q138 : TS_q138) (S_q70 : TS_q70) (h_q103 : GoodF Pg 88 (F_q103 S_q103)) (h_q138 : GoodF Pg 123 (F_q138 S_q138)) (h_q70 : GoodF Pg 100 (F_q70 S_q70)) : GoodF Pg 77 (F_q140 (G_q140 N_ S_q103 S_q138 S_q70)) := by
  refine good_fs (cx := ⟨Pg, ofList [(88, (F_q103 S_q103)), (123, (F_q138 S_q138)), (100, (F_q70 S_q70))], isref, N_⟩) (ofList_cons h_q103 (ofList_cons h_q138 (ofList_cons h_q70 (ofList_nil _)))) shF_q140 (sp_q140 (G_q140 N_ S_q103 S_q138 S_q70)) (an_q140 N_ S_q103 S_q138 S_q70) 0 0 (by kernel_rfl) (fun i_ hi_ => by omega) ?_
  intro a k h
  unfold sp_q140 at h
  split at h
  · exact ⟨[], rfl, rfl, (eq_q140 _ _ _ _ _ _ _).trans h⟩
  · cases h

def an_q181 (N_ : Nat) : Nat -> Option Ann := fun b_ => none
theorem eq_q181 (N_ : Nat) (l : List Fl) (c_ : V -> List Blk -> Bool) : bodyV ⟨Pg, ofList [], isref, N_⟩ (an_q181 N_) 78 (shF_q181.args [.fls l]) [] c_ = G_q181 N_ l (fun r0 r1 r2 r3 => c_ (.agg [.flt r0, .flt r1, .flt r2, .flt r3]) []) := by kernel_rfl
theorem good_q181 (N_ : Nat) : GoodF Pg 78 (F_q181 (G_q181 N_)) := by
  refine good_fs (cx := ⟨Pg, ofList [], isref, N_⟩) (ofList_nil _) shF_q181 (sp_q181 (G_q181 N_)) (an_q181 N_) 0 0 (by kernel_rfl) (fun i_ hi_ => by omega) ?_
  intro a k h
  unfold sp_q181 at h
  split at h
  · exact ⟨[], rfl, rfl, (eq_q181 _ _ _).trans h⟩
  · cases h

def an_q106 (N_ : Nat) (S_q49 : TS_q49) (S_q57 : TS_q57) (S_q133 : TS_q133) (S_q143 : TS_q143) (S_q140 : TS_q140) (S_q176 : TS_q176) (S_q181 : TS_q181) : Nat -> Option Ann := fun b_ => none
theorem eq_q106 (N_ : Nat) (S_q49 : TS_q49) (S_q57 : TS_q57) (S_q133 : TS_q133) (S_q143 : TS_q143) (S_q140 : TS_q140) (S_q176 : TS_q176) (S_q181 : TS_q181) (q_0 : Fl) (q_1 : Fl) (q_2 : Fl) (q_3 : Fl) (c_ : V -> List Blk -> Bool) : bodyV ⟨Pg, ofList [(75, (F_q49 S_q49)), (74, (F_q57 S_q57)), (60, (F_q133 S_q133)), (76, (F_q143 S_q143)), (77, (F_q140 S_q140)), (72, (F_q176 S_q176)), (78, (F_q181 S_q181))], isref, (N_ + 24)⟩ (an_q106 (N_ + 24) S_q49 S_q57 S_q133 S_q143 S_q140 S_q176 S_q181) 19 (shF_q106.args [.fl q_0, .fl q_1, .fl q_2, .fl q_3]) [] c_ = G_q106 (N_ + 24) S_q49 S_q57 S_q133 S_q143 S_q140 S_q176 S_q181 q_0 q_1 q_2 q_3 (fun r0 r1 r2 r3 r4 => c_ (.tup [.agg [.flt r0, .flt r1, .flt r2, .flt r3], .int .i64 r4]) []) := by kernel_rfl
theorem good_q106 (N_ : Nat) (S_q49 : TS_q49) (S_q57 : TS_q57) (S_q133 : TS_q133) (S_q143 : TS_q143) (S_q140 : TS_q140) (S_q176 : TS_q176) (S_q181 : TS_q181) (h_q49 : GoodF Pg 75 (F_q49 S_q49)) (h_q57 : GoodF Pg 74 (F_q57 S_q57)) (h_q133 : GoodF Pg 60 (F_q133 S_q133)) (h_q143 : GoodF Pg 76 (F_q143 S_q143)) (h_q140 : GoodF Pg 77 (F_q140 S_q140)) (h_q176 : GoodF Pg 72 (F_q176 S_q176)) (h_q181 : GoodF Pg 78 (F_q181 S_q181)) : GoodF Pg 19 (F_q106 (G_q106 (N_ + 24) S_q49 S_q57 S_q133 S_q143 S_q140 S_q176 S_q181)) := by
  refine good_fs (cx := ⟨Pg, ofList [(75, (F_q49 S_q49)), (74, (F_q57 S_q57)), (60, (F_q133 S_q133)), (76, (F_q143 S_q143)), (77, (F_q140 S_q140)), (72, (F_q176 S_q176)), (78, (F_q181 S_q181))], isref, (N_ + 24)⟩) (ofList_cons h_q49 (ofList_cons h_q57 (ofList_cons h_q133 (ofList_cons h_q143 (ofList_cons h_q140 (ofList_cons h_q176 (ofList_cons h_q181 (ofList_nil _)))))))) shF_q106 (sp_q106 (G_q106 (N_ + 24) S_q49 S_q57 S_q133 S_q143 S_q140 S_q176 S_q181)) (an_q106 (N_ + 24) S_q49 S_q57 S_q133 S_q143 S_q140 S_q176 S_q181) 2 0 (by kernel_rfl) (fun i_ hi_ => by
    match i_, hi_ with
    | 0, _ => exact (fun hk e => by rw [show hookOf ((an_q106 (N_ + 24) S_q49 S_q57 S_q133 S_q143 S_q140 S_q176 S_q181) (lp Pg 19 0).1) = none from by kernel_rfl] at e; cases e)
    | 1, _ => exact (fun hk e => by rw [show hookOf ((an_q106 (N_ + 24) S_q49 S_q57 S_q133 S_q143 S_q140 S_q176 S_q181) (lp Pg 19 1).1) = none from by kernel_rfl] at e; cases e)
    | (q + 2), h => omega) ?_
  intro a k h
  unfold sp_q106 at h
  split at h
  · exact ⟨[], rfl, rfl, (eq_q106 _ _ _ _ _ _ _ _ _ _ _ _ _).trans h⟩
  · cases h

end Go.Proofs.YtccocdgimamdhaaGreatDoor
