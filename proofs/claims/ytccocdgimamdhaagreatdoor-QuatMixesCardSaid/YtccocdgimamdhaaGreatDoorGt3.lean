/-
  THE TIES: each printed meaning is what the program does (written by program).
  Conditions: none.
-/
import Derived.Test.YtccocdgimamdhaaGreatDoorGs
namespace Go.Proofs.YtccocdgimamdhaaGreatDoor
open Go Go.Mach Go.Proofs
set_option linter.unusedVariables false
set_option maxRecDepth 50000

def an_q132 (N_ : Nat) (S_q12 : TS_q12) (S_q44 : TS_q44) (S_q85 : TS_q85) (S_q87 : TS_q87) (S_q33 : TS_q33) : Nat → Option Ann := fun b_ => none
def ls_q227 (ds_ : List V) (ms_ : List (Option Blk)) (q_0 : Fl) (q_1 : Fl) (q_2 : Fl) (q_3 : Fl) (b7 : List Int) (off_6 : Bool) (off_7 : Int) : St := ⟨(dqs ds_ 0 7 [.ptr 8 0, (dq ds_ 7), (dq ds_ 8), (dq ds_ 9), (dq ds_ 10), (dq ds_ 11), (dq ds_ 12), (dq ds_ 13), (dq ds_ 14), (dq ds_ 15), (dq ds_ 16), (dq ds_ 17), (dq ds_ 18), (dq ds_ 19), (dq ds_ 20), (dq ds_ 21), (dq ds_ 22), (dq ds_ 23), (dq ds_ 24), (dq ds_ 25), (dq ds_ 26), (dq ds_ 27), (dq ds_ 28), (dq ds_ 29), (dq ds_ 30), (dq ds_ 31), (dq ds_ 32), (dq ds_ 33), (dq ds_ 34), (dq ds_ 35), (dq ds_ 36), (dq ds_ 37), (dq ds_ 38), (dq ds_ 39), (dq ds_ 40), (dq ds_ 41), (dq ds_ 42), (dq ds_ 43), (dq ds_ 44), (dq ds_ 45)]), [(ms_.getD 0 none), (ms_.getD 1 none), (ms_.getD 2 none), (ms_.getD 3 none), (ms_.getD 4 none), (ms_.getD 5 none), (ms_.getD 6 none), some ⟨127, 1, .ints .u32 b7⟩, some ⟨124, 1, .cells [.bool off_6, .slw 7, .int .i64 off_7]⟩]⟩
def ls_q226 (ds_ : List V) (ms_ : List (Option Blk)) (q_0 : Fl) (q_1 : Fl) (q_2 : Fl) (q_3 : Fl) (off_4 : Bool) (off_5 : Int) : St := ⟨(dqs ds_ 0 7 [.ptr 7 0, (dq ds_ 7), (dq ds_ 8), (dq ds_ 9), (dq ds_ 10), (dq ds_ 11), (dq ds_ 12), (dq ds_ 13), (dq ds_ 14), (dq ds_ 15), (dq ds_ 16), (dq ds_ 17), (dq ds_ 18), (dq ds_ 19), (dq ds_ 20), (dq ds_ 21), (dq ds_ 22), (dq ds_ 23), (dq ds_ 24), (dq ds_ 25), (dq ds_ 26), (dq ds_ 27), (dq ds_ 28), (dq ds_ 29), (dq ds_ 30), (dq ds_ 31), (dq ds_ 32), (dq ds_ 33), (dq ds_ 34), (dq ds_ 35), (dq ds_ 36), (dq ds_ 37), (dq ds_ 38), (dq ds_ 39), (dq ds_ 40), (dq ds_ 41), (dq ds_ 42), (dq ds_ 43), (dq ds_ 44), (dq ds_ 45)]), [(ms_.getD 0 none), (ms_.getD 1 none), (ms_.getD 2 none), (ms_.getD 3 none), (ms_.getD 4 none), (ms_.getD 5 none), (ms_.getD 6 none), some ⟨124, 1, .cells [.bool off_4, .nil, .int .i64 off_5]⟩]⟩
def ls_q211 (ds_ : List V) (ms_ : List (Option Blk)) (q_0 : Fl) (q_1 : Fl) (q_2 : Fl) (q_3 : Fl) (b3 : List Int) (n_2 : Bool) (n_3 : Int) : St := ⟨(dqs ds_ 0 4 [.ptr 4 0, (dq ds_ 4), (dq ds_ 5), (dq ds_ 6), (dq ds_ 7), (dq ds_ 8), (dq ds_ 9), (dq ds_ 10), (dq ds_ 11), (dq ds_ 12), (dq ds_ 13), (dq ds_ 14), (dq ds_ 15), (dq ds_ 16), (dq ds_ 17), (dq ds_ 18), (dq ds_ 19), (dq ds_ 20), (dq ds_ 21), (dq ds_ 22), (dq ds_ 23), (dq ds_ 24), (dq ds_ 25), (dq ds_ 26), (dq ds_ 27), (dq ds_ 28), (dq ds_ 29), (dq ds_ 30), (dq ds_ 31), (dq ds_ 32), (dq ds_ 33), (dq ds_ 34), (dq ds_ 35), (dq ds_ 36), (dq ds_ 37), (dq ds_ 38), (dq ds_ 39), (dq ds_ 40), (dq ds_ 41), (dq ds_ 42), (dq ds_ 43), (dq ds_ 44), (dq ds_ 45)]), [(ms_.getD 0 none), (ms_.getD 1 none), (ms_.getD 2 none), some ⟨127, 1, .ints .u32 b3⟩, some ⟨124, 1, .cells [.bool n_2, .slw 3, .int .i64 n_3]⟩]⟩
def ls_q225 (ds_ : List V) (ms_ : List (Option Blk)) (q_0 : Fl) (q_1 : Fl) (q_2 : Fl) (q_3 : Fl) (b6 : List Int) (off_2 : Bool) (off_3 : Int) : St := ⟨(dqs ds_ 0 7 [.ptr 7 0, (dq ds_ 7), (dq ds_ 8), (dq ds_ 9), (dq ds_ 10), (dq ds_ 11), (dq ds_ 12), (dq ds_ 13), (dq ds_ 14), (dq ds_ 15), (dq ds_ 16), (dq ds_ 17), (dq ds_ 18), (dq ds_ 19), (dq ds_ 20), (dq ds_ 21), (dq ds_ 22), (dq ds_ 23), (dq ds_ 24), (dq ds_ 25), (dq ds_ 26), (dq ds_ 27), (dq ds_ 28), (dq ds_ 29), (dq ds_ 30), (dq ds_ 31), (dq ds_ 32), (dq ds_ 33), (dq ds_ 34), (dq ds_ 35), (dq ds_ 36), (dq ds_ 37), (dq ds_ 38), (dq ds_ 39), (dq ds_ 40), (dq ds_ 41), (dq ds_ 42), (dq ds_ 43), (dq ds_ 44), (dq ds_ 45)]), [(ms_.getD 0 none), (ms_.getD 1 none), (ms_.getD 2 none), (ms_.getD 3 none), (ms_.getD 4 none), (ms_.getD 5 none), some ⟨127, 1, .ints .u32 b6⟩, some ⟨124, 1, .cells [.bool off_2, .slw 6, .int .i64 off_3]⟩]⟩
def ls_q224 (ds_ : List V) (ms_ : List (Option Blk)) (q_0 : Fl) (q_1 : Fl) (q_2 : Fl) (q_3 : Fl) (off : Bool) (off_1 : Int) : St := ⟨(dqs ds_ 0 7 [.ptr 6 0, (dq ds_ 7), (dq ds_ 8), (dq ds_ 9), (dq ds_ 10), (dq ds_ 11), (dq ds_ 12), (dq ds_ 13), (dq ds_ 14), (dq ds_ 15), (dq ds_ 16), (dq ds_ 17), (dq ds_ 18), (dq ds_ 19), (dq ds_ 20), (dq ds_ 21), (dq ds_ 22), (dq ds_ 23), (dq ds_ 24), (dq ds_ 25), (dq ds_ 26), (dq ds_ 27), (dq ds_ 28), (dq ds_ 29), (dq ds_ 30), (dq ds_ 31), (dq ds_ 32), (dq ds_ 33), (dq ds_ 34), (dq ds_ 35), (dq ds_ 36), (dq ds_ 37), (dq ds_ 38), (dq ds_ 39), (dq ds_ 40), (dq ds_ 41), (dq ds_ 42), (dq ds_ 43), (dq ds_ 44), (dq ds_ 45)]), [(ms_.getD 0 none), (ms_.getD 1 none), (ms_.getD 2 none), (ms_.getD 3 none), (ms_.getD 4 none), (ms_.getD 5 none), some ⟨124, 1, .cells [.bool off, .nil, .int .i64 off_1]⟩]⟩
def ls_q210 (ds_ : List V) (ms_ : List (Option Blk)) (q_0 : Fl) (q_1 : Fl) (q_2 : Fl) (q_3 : Fl) (n : Bool) (n_1 : Int) : St := ⟨(dqs ds_ 0 4 [.ptr 3 0, (dq ds_ 4), (dq ds_ 5), (dq ds_ 6), (dq ds_ 7), (dq ds_ 8), (dq ds_ 9), (dq ds_ 10), (dq ds_ 11), (dq ds_ 12), (dq ds_ 13), (dq ds_ 14), (dq ds_ 15), (dq ds_ 16), (dq ds_ 17), (dq ds_ 18), (dq ds_ 19), (dq ds_ 20), (dq ds_ 21), (dq ds_ 22), (dq ds_ 23), (dq ds_ 24), (dq ds_ 25), (dq ds_ 26), (dq ds_ 27), (dq ds_ 28), (dq ds_ 29), (dq ds_ 30), (dq ds_ 31), (dq ds_ 32), (dq ds_ 33), (dq ds_ 34), (dq ds_ 35), (dq ds_ 36), (dq ds_ 37), (dq ds_ 38), (dq ds_ 39), (dq ds_ 40), (dq ds_ 41), (dq ds_ 42), (dq ds_ 43), (dq ds_ 44), (dq ds_ 45)]), [(ms_.getD 0 none), (ms_.getD 1 none), (ms_.getD 2 none), some ⟨124, 1, .cells [.bool n, .nil, .int .i64 n_1]⟩]⟩
theorem jn_q227 (N_ : Nat) (S_q12 : TS_q12) (S_q44 : TS_q44) (S_q85 : TS_q85) (S_q87 : TS_q87) (S_q33 : TS_q33) (ds_ : List V) (ms_ : List (Option Blk)) (q_0 : Fl) (q_1 : Fl) (q_2 : Fl) (q_3 : Fl) (b7 : List Int) (off_6 : Bool) (off_7 : Int) (cont_ : V → List Blk → Bool) : codesV ⟨Tryz.prog, ofList [(56, (F_q12 S_q12)), (68, (F_q44 S_q44)), (79, (F_q85 S_q85)), (80, (F_q87 S_q87)), (81, (F_q33 S_q33))], isref, N_⟩ 0 (an_q132 N_ S_q12 S_q44 S_q85 S_q87 S_q33) ((cds Tryz.prog 21).drop 11) 0 (ls_q227 ds_ ms_ q_0 q_1 q_2 q_3 b7 off_6 off_7) (finV Tryz.prog 21 0 cont_) = J_q227 N_ S_q12 S_q44 S_q85 S_q87 S_q33 q_0 q_1 q_2 q_3 b7 off_6 off_7 (fun r0 => cont_ (.bool r0) []) := by kernel_rfl
theorem jn_q226 (N_ : Nat) (S_q12 : TS_q12) (S_q44 : TS_q44) (S_q85 : TS_q85) (S_q87 : TS_q87) (S_q33 : TS_q33) (ds_ : List V) (ms_ : List (Option Blk)) (q_0 : Fl) (q_1 : Fl) (q_2 : Fl) (q_3 : Fl) (off_4 : Bool) (off_5 : Int) (cont_ : V → List Blk → Bool) : codesV ⟨Tryz.prog, ofList [(56, (F_q12 S_q12)), (68, (F_q44 S_q44)), (79, (F_q85 S_q85)), (80, (F_q87 S_q87)), (81, (F_q33 S_q33))], isref, N_⟩ 0 (an_q132 N_ S_q12 S_q44 S_q85 S_q87 S_q33) ((cds Tryz.prog 21).drop 11) 0 (ls_q226 ds_ ms_ q_0 q_1 q_2 q_3 off_4 off_5) (finV Tryz.prog 21 0 cont_) = J_q226 N_ S_q12 S_q44 S_q85 S_q87 S_q33 q_0 q_1 q_2 q_3 off_4 off_5 (fun r0 => cont_ (.bool r0) []) := by kernel_rfl
theorem hd_q211 (N_ : Nat) (S_q12 : TS_q12) (S_q44 : TS_q44) (S_q85 : TS_q85) (S_q87 : TS_q87) (S_q33 : TS_q33) (ds_ : List V) (ms_ : List (Option Blk)) (q_0 : Fl) (q_1 : Fl) (q_2 : Fl) (q_3 : Fl) (b3 : List Int) (n_2 : Bool) (n_3 : Int) (cont_ : V → List Blk → Bool) (κn_ : St → Bool) : codesV ⟨Tryz.prog, ofList [(56, (F_q12 S_q12)), (68, (F_q44 S_q44)), (79, (F_q85 S_q85)), (80, (F_q87 S_q87)), (81, (F_q33 S_q33))], isref, N_⟩ 0 (an_q132 N_ S_q12 S_q44 S_q85 S_q87 S_q33) (sg Tryz.prog 21 7 4) 0 (ls_q211 ds_ ms_ q_0 q_1 q_2 q_3 b3 n_2 n_3) { (finV Tryz.prog 21 0 cont_) with nrm := κn_ } = (S_q87 n_2 b3 n_3 false [1] 0 (fun (cr_5 : Bool) (nr_12 : Int) (nr_13 : Int) => (cond (nr_13 != 0) (cont_ (.bool false) []) (κn_ (ls_q226 (dqs ds_ 0 4 [.ptr 4 0, .int .i64 nr_13, .ptr 6 0, (dq ds_ 7), (dq ds_ 8), (dq ds_ 9), (dq ds_ 10), (dq ds_ 11), (dq ds_ 12), (dq ds_ 13), (dq ds_ 14), (dq ds_ 15), (dq ds_ 16), (dq ds_ 17), (dq ds_ 18), (dq ds_ 19), (dq ds_ 20), (dq ds_ 21), .slw 5, .agg [.bool false, .slw 5, .int .i64 0], .tup [.agg [.bool cr_5, .nil, .int .i64 nr_12], .int .i64 nr_13], .agg [.bool n_2, .slw 3, .int .i64 n_3], .agg [.bool false, .slw 5, .int .i64 0], .tup [.agg [.bool cr_5, .nil, .int .i64 nr_12], .int .i64 nr_13], .agg [.bool cr_5, .nil, .int .i64 nr_12], .int .i64 nr_13, .int .i64 nr_13, .bool false, (dq ds_ 32), (dq ds_ 33), (dq ds_ 34), (dq ds_ 35), (dq ds_ 36), (dq ds_ 37), (dq ds_ 38), (dq ds_ 39), (dq ds_ 40), (dq ds_ 41), (dq ds_ 42), (dq ds_ 43), (dq ds_ 44), (dq ds_ 45)]) [(ms_.getD 0 none), (ms_.getD 1 none), (ms_.getD 2 none), some ⟨127, 1, .ints .u32 b3⟩, some ⟨124, 1, .cells [.bool n_2, .slw 3, .int .i64 n_3]⟩, some ⟨127, 1, .ints .u32 [1]⟩, some ⟨124, 1, .cells [.bool false, .slw 5, .int .i64 0]⟩] q_0 q_1 q_2 q_3 cr_5 nr_12)))) (fun (cr_6 : Bool) (nr_14 : Int) (nr_15 : Int) (nsr_2 : List Int) => (cond (nr_15 != 0) (cont_ (.bool false) []) (κn_ (ls_q227 (dqs ds_ 0 4 [.ptr 4 0, .int .i64 nr_15, .ptr 6 0, (dq ds_ 7), (dq ds_ 8), (dq ds_ 9), (dq ds_ 10), (dq ds_ 11), (dq ds_ 12), (dq ds_ 13), (dq ds_ 14), (dq ds_ 15), (dq ds_ 16), (dq ds_ 17), (dq ds_ 18), (dq ds_ 19), (dq ds_ 20), (dq ds_ 21), .slw 5, .agg [.bool false, .slw 5, .int .i64 0], .tup [.agg [.bool cr_6, .slw 7, .int .i64 nr_14], .int .i64 nr_15], .agg [.bool n_2, .slw 3, .int .i64 n_3], .agg [.bool false, .slw 5, .int .i64 0], .tup [.agg [.bool cr_6, .slw 7, .int .i64 nr_14], .int .i64 nr_15], .agg [.bool cr_6, .slw 7, .int .i64 nr_14], .int .i64 nr_15, .int .i64 nr_15, .bool false, (dq ds_ 32), (dq ds_ 33), (dq ds_ 34), (dq ds_ 35), (dq ds_ 36), (dq ds_ 37), (dq ds_ 38), (dq ds_ 39), (dq ds_ 40), (dq ds_ 41), (dq ds_ 42), (dq ds_ 43), (dq ds_ 44), (dq ds_ 45)]) [(ms_.getD 0 none), (ms_.getD 1 none), (ms_.getD 2 none), some ⟨127, 1, .ints .u32 b3⟩, some ⟨124, 1, .cells [.bool n_2, .slw 3, .int .i64 n_3]⟩, some ⟨127, 1, .ints .u32 [1]⟩, some ⟨124, 1, .cells [.bool false, .slw 5, .int .i64 0]⟩] q_0 q_1 q_2 q_3 nsr_2 cr_6 nr_14))))) := by kernel_rfl
theorem jn_q211 (N_ : Nat) (S_q12 : TS_q12) (S_q44 : TS_q44) (S_q85 : TS_q85) (S_q87 : TS_q87) (S_q33 : TS_q33) (ds_ : List V) (ms_ : List (Option Blk)) (q_0 : Fl) (q_1 : Fl) (q_2 : Fl) (q_3 : Fl) (b3 : List Int) (n_2 : Bool) (n_3 : Int) (cont_ : V → List Blk → Bool) : codesV ⟨Tryz.prog, ofList [(56, (F_q12 S_q12)), (68, (F_q44 S_q44)), (79, (F_q85 S_q85)), (80, (F_q87 S_q87)), (81, (F_q33 S_q33))], isref, N_⟩ 0 (an_q132 N_ S_q12 S_q44 S_q85 S_q87 S_q33) ((cds Tryz.prog 21).drop 7) 0 (ls_q211 ds_ ms_ q_0 q_1 q_2 q_3 b3 n_2 n_3) (finV Tryz.prog 21 0 cont_) = J_q211 N_ S_q12 S_q44 S_q85 S_q87 S_q33 q_0 q_1 q_2 q_3 b3 n_2 n_3 (fun r0 => cont_ (.bool r0) []) := by
  rw [codesV_cut 7 4 11 rfl]
  refine (hd_q211 N_ S_q12 S_q44 S_q85 S_q87 S_q33 ds_ ms_ q_0 q_1 q_2 q_3 b3 n_2 n_3 cont_ _).trans ?_
  simp only [jn_q226, jn_q227]
  kernel_rfl
theorem jn_q225 (N_ : Nat) (S_q12 : TS_q12) (S_q44 : TS_q44) (S_q85 : TS_q85) (S_q87 : TS_q87) (S_q33 : TS_q33) (ds_ : List V) (ms_ : List (Option Blk)) (q_0 : Fl) (q_1 : Fl) (q_2 : Fl) (q_3 : Fl) (b6 : List Int) (off_2 : Bool) (off_3 : Int) (cont_ : V → List Blk → Bool) : codesV ⟨Tryz.prog, ofList [(56, (F_q12 S_q12)), (68, (F_q44 S_q44)), (79, (F_q85 S_q85)), (80, (F_q87 S_q87)), (81, (F_q33 S_q33))], isref, N_⟩ 0 (an_q132 N_ S_q12 S_q44 S_q85 S_q87 S_q33) ((cds Tryz.prog 21).drop 11) 0 (ls_q225 ds_ ms_ q_0 q_1 q_2 q_3 b6 off_2 off_3) (finV Tryz.prog 21 0 cont_) = J_q225 N_ S_q12 S_q44 S_q85 S_q87 S_q33 q_0 q_1 q_2 q_3 b6 off_2 off_3 (fun r0 => cont_ (.bool r0) []) := by kernel_rfl
theorem jn_q224 (N_ : Nat) (S_q12 : TS_q12) (S_q44 : TS_q44) (S_q85 : TS_q85) (S_q87 : TS_q87) (S_q33 : TS_q33) (ds_ : List V) (ms_ : List (Option Blk)) (q_0 : Fl) (q_1 : Fl) (q_2 : Fl) (q_3 : Fl) (off : Bool) (off_1 : Int) (cont_ : V → List Blk → Bool) : codesV ⟨Tryz.prog, ofList [(56, (F_q12 S_q12)), (68, (F_q44 S_q44)), (79, (F_q85 S_q85)), (80, (F_q87 S_q87)), (81, (F_q33 S_q33))], isref, N_⟩ 0 (an_q132 N_ S_q12 S_q44 S_q85 S_q87 S_q33) ((cds Tryz.prog 21).drop 11) 0 (ls_q224 ds_ ms_ q_0 q_1 q_2 q_3 off off_1) (finV Tryz.prog 21 0 cont_) = J_q224 N_ S_q12 S_q44 S_q85 S_q87 S_q33 q_0 q_1 q_2 q_3 off off_1 (fun r0 => cont_ (.bool r0) []) := by kernel_rfl
theorem hd_q210 (N_ : Nat) (S_q12 : TS_q12) (S_q44 : TS_q44) (S_q85 : TS_q85) (S_q87 : TS_q87) (S_q33 : TS_q33) (ds_ : List V) (ms_ : List (Option Blk)) (q_0 : Fl) (q_1 : Fl) (q_2 : Fl) (q_3 : Fl) (n : Bool) (n_1 : Int) (cont_ : V → List Blk → Bool) (κn_ : St → Bool) : codesV ⟨Tryz.prog, ofList [(56, (F_q12 S_q12)), (68, (F_q44 S_q44)), (79, (F_q85 S_q85)), (80, (F_q87 S_q87)), (81, (F_q33 S_q33))], isref, N_⟩ 0 (an_q132 N_ S_q12 S_q44 S_q85 S_q87 S_q33) (sg Tryz.prog 21 7 4) 0 (ls_q210 ds_ ms_ q_0 q_1 q_2 q_3 n n_1) { (finV Tryz.prog 21 0 cont_) with nrm := κn_ } = (S_q87 n [] n_1 false [1] 0 (fun (cr_3 : Bool) (nr_4 : Int) (nr_5 : Int) => (cond (nr_5 != 0) (cont_ (.bool false) []) (κn_ (ls_q224 (dqs ds_ 0 4 [.ptr 3 0, .int .i64 nr_5, .ptr 5 0, (dq ds_ 7), (dq ds_ 8), (dq ds_ 9), (dq ds_ 10), (dq ds_ 11), (dq ds_ 12), (dq ds_ 13), (dq ds_ 14), (dq ds_ 15), (dq ds_ 16), (dq ds_ 17), (dq ds_ 18), (dq ds_ 19), (dq ds_ 20), (dq ds_ 21), .slw 4, .agg [.bool false, .slw 4, .int .i64 0], .tup [.agg [.bool cr_3, .nil, .int .i64 nr_4], .int .i64 nr_5], .agg [.bool n, .nil, .int .i64 n_1], .agg [.bool false, .slw 4, .int .i64 0], .tup [.agg [.bool cr_3, .nil, .int .i64 nr_4], .int .i64 nr_5], .agg [.bool cr_3, .nil, .int .i64 nr_4], .int .i64 nr_5, .int .i64 nr_5, .bool false, (dq ds_ 32), (dq ds_ 33), (dq ds_ 34), (dq ds_ 35), (dq ds_ 36), (dq ds_ 37), (dq ds_ 38), (dq ds_ 39), (dq ds_ 40), (dq ds_ 41), (dq ds_ 42), (dq ds_ 43), (dq ds_ 44), (dq ds_ 45)]) [(ms_.getD 0 none), (ms_.getD 1 none), (ms_.getD 2 none), some ⟨124, 1, .cells [.bool n, .nil, .int .i64 n_1]⟩, some ⟨127, 1, .ints .u32 [1]⟩, some ⟨124, 1, .cells [.bool false, .slw 4, .int .i64 0]⟩] q_0 q_1 q_2 q_3 cr_3 nr_4)))) (fun (cr_4 : Bool) (nr_6 : Int) (nr_7 : Int) (nsr_1 : List Int) => (cond (nr_7 != 0) (cont_ (.bool false) []) (κn_ (ls_q225 (dqs ds_ 0 4 [.ptr 3 0, .int .i64 nr_7, .ptr 5 0, (dq ds_ 7), (dq ds_ 8), (dq ds_ 9), (dq ds_ 10), (dq ds_ 11), (dq ds_ 12), (dq ds_ 13), (dq ds_ 14), (dq ds_ 15), (dq ds_ 16), (dq ds_ 17), (dq ds_ 18), (dq ds_ 19), (dq ds_ 20), (dq ds_ 21), .slw 4, .agg [.bool false, .slw 4, .int .i64 0], .tup [.agg [.bool cr_4, .slw 6, .int .i64 nr_6], .int .i64 nr_7], .agg [.bool n, .nil, .int .i64 n_1], .agg [.bool false, .slw 4, .int .i64 0], .tup [.agg [.bool cr_4, .slw 6, .int .i64 nr_6], .int .i64 nr_7], .agg [.bool cr_4, .slw 6, .int .i64 nr_6], .int .i64 nr_7, .int .i64 nr_7, .bool false, (dq ds_ 32), (dq ds_ 33), (dq ds_ 34), (dq ds_ 35), (dq ds_ 36), (dq ds_ 37), (dq ds_ 38), (dq ds_ 39), (dq ds_ 40), (dq ds_ 41), (dq ds_ 42), (dq ds_ 43), (dq ds_ 44), (dq ds_ 45)]) [(ms_.getD 0 none), (ms_.getD 1 none), (ms_.getD 2 none), some ⟨124, 1, .cells [.bool n, .nil, .int .i64 n_1]⟩, some ⟨127, 1, .ints .u32 [1]⟩, some ⟨124, 1, .cells [.bool false, .slw 4, .int .i64 0]⟩] q_0 q_1 q_2 q_3 nsr_1 cr_4 nr_6))))) := by kernel_rfl
theorem jn_q210 (N_ : Nat) (S_q12 : TS_q12) (S_q44 : TS_q44) (S_q85 : TS_q85) (S_q87 : TS_q87) (S_q33 : TS_q33) (ds_ : List V) (ms_ : List (Option Blk)) (q_0 : Fl) (q_1 : Fl) (q_2 : Fl) (q_3 : Fl) (n : Bool) (n_1 : Int) (cont_ : V → List Blk → Bool) : codesV ⟨Tryz.prog, ofList [(56, (F_q12 S_q12)), (68, (F_q44 S_q44)), (79, (F_q85 S_q85)), (80, (F_q87 S_q87)), (81, (F_q33 S_q33))], isref, N_⟩ 0 (an_q132 N_ S_q12 S_q44 S_q85 S_q87 S_q33) ((cds Tryz.prog 21).drop 7) 0 (ls_q210 ds_ ms_ q_0 q_1 q_2 q_3 n n_1) (finV Tryz.prog 21 0 cont_) = J_q210 N_ S_q12 S_q44 S_q85 S_q87 S_q33 q_0 q_1 q_2 q_3 n n_1 (fun r0 => cont_ (.bool r0) []) := by
  rw [codesV_cut 7 4 11 rfl]
  refine (hd_q210 N_ S_q12 S_q44 S_q85 S_q87 S_q33 ds_ ms_ q_0 q_1 q_2 q_3 n n_1 cont_ _).trans ?_
  simp only [jn_q224, jn_q225]
  kernel_rfl
theorem hd_quat_Good_w (N_ : Nat) (S_q12 : TS_q12) (S_q44 : TS_q44) (S_q85 : TS_q85) (S_q87 : TS_q87) (S_q33 : TS_q33) (q_0 : Fl) (q_1 : Fl) (q_2 : Fl) (q_3 : Fl) (cont_ : V → List Blk → Bool) (κn_ : St → Bool) : codesV ⟨Tryz.prog, ofList [(56, (F_q12 S_q12)), (68, (F_q44 S_q44)), (79, (F_q85 S_q85)), (80, (F_q87 S_q87)), (81, (F_q33 S_q33))], isref, N_⟩ 0 (an_q132 N_ S_q12 S_q44 S_q85 S_q87 S_q33) (sg Tryz.prog 21 0 7) 0 (st0 Tryz.prog 21 (shF_q132.args [.fl q_0, .fl q_1, .fl q_2, .fl q_3]) []) { (finV Tryz.prog 21 0 cont_) with nrm := κn_ } = (S_q12 q_0 q_1 q_2 q_3 (fun (cr : Bool) => (cond (!cr) (cont_ (.bool false) []) (S_q44 q_0 q_1 q_2 q_3 (S_q85 [q_0, q_1, q_2, q_3] [q_0, q_1, q_2, q_3] (fun (cr_1 : Bool) (nr : Int) (nr_1 : Int) => (cond (nr_1 != 0) (cont_ (.bool false) []) (κn_ (ls_q210 [.agg [.flt q_0, .flt q_1, .flt q_2, .flt q_3], .ptr 0 0, .bool false, .ptr 2 0, .int .i64 nr_1, .any, .any, .any, .agg [.flt q_0, .flt q_1, .flt q_2, .flt q_3], .slw 1, .bool cr, .bool false, .agg [.flt q_0, .flt q_1, .flt q_2, .flt q_3], .agg [.flt q_0, .flt q_1, .flt q_2, .flt q_3], .tup [.agg [.bool cr_1, .nil, .int .i64 nr], .int .i64 nr_1], .sl 2 0 (4 - 0), .sl 2 0 (4 - 0), .tup [.agg [.bool cr_1, .nil, .int .i64 nr], .int .i64 nr_1], .agg [.bool cr_1, .nil, .int .i64 nr], .int .i64 nr_1, .int .i64 nr_1, .bool false, .any, .any, .any, .any, .any, .any, .any, .any, .any, .any, .any, .any, .any, .any, .any, .any, .any, .any, .any, .any, .any, .any, .any, .any] [some ⟨26, 1, .cells [.flt q_0, .flt q_1, .flt q_2, .flt q_3]⟩, some ⟨26, 4, .cells [.flt q_0, .flt q_1, .flt q_2, .flt q_3]⟩, some ⟨113, 1, .flts [q_0, q_1, q_2, q_3]⟩] q_0 q_1 q_2 q_3 cr_1 nr)))) (fun (cr_2 : Bool) (nr_2 : Int) (nr_3 : Int) (nsr : List Int) => (cond (nr_3 != 0) (cont_ (.bool false) []) (κn_ (ls_q211 [.agg [.flt q_0, .flt q_1, .flt q_2, .flt q_3], .ptr 0 0, .bool false, .ptr 2 0, .int .i64 nr_3, .any, .any, .any, .agg [.flt q_0, .flt q_1, .flt q_2, .flt q_3], .slw 1, .bool cr, .bool false, .agg [.flt q_0, .flt q_1, .flt q_2, .flt q_3], .agg [.flt q_0, .flt q_1, .flt q_2, .flt q_3], .tup [.agg [.bool cr_2, .slw 3, .int .i64 nr_2], .int .i64 nr_3], .sl 2 0 (4 - 0), .sl 2 0 (4 - 0), .tup [.agg [.bool cr_2, .slw 3, .int .i64 nr_2], .int .i64 nr_3], .agg [.bool cr_2, .slw 3, .int .i64 nr_2], .int .i64 nr_3, .int .i64 nr_3, .bool false, .any, .any, .any, .any, .any, .any, .any, .any, .any, .any, .any, .any, .any, .any, .any, .any, .any, .any, .any, .any, .any, .any, .any, .any] [some ⟨26, 1, .cells [.flt q_0, .flt q_1, .flt q_2, .flt q_3]⟩, some ⟨26, 4, .cells [.flt q_0, .flt q_1, .flt q_2, .flt q_3]⟩, some ⟨113, 1, .flts [q_0, q_1, q_2, q_3]⟩] q_0 q_1 q_2 q_3 nsr cr_2 nr_2))))))))) := by kernel_rfl
theorem jn_quat_Good_w (N_ : Nat) (S_q12 : TS_q12) (S_q44 : TS_q44) (S_q85 : TS_q85) (S_q87 : TS_q87) (S_q33 : TS_q33) (q_0 : Fl) (q_1 : Fl) (q_2 : Fl) (q_3 : Fl) (cont_ : V → List Blk → Bool) : codesV ⟨Tryz.prog, ofList [(56, (F_q12 S_q12)), (68, (F_q44 S_q44)), (79, (F_q85 S_q85)), (80, (F_q87 S_q87)), (81, (F_q33 S_q33))], isref, N_⟩ 0 (an_q132 N_ S_q12 S_q44 S_q85 S_q87 S_q33) ((cds Tryz.prog 21).drop 0) 0 (st0 Tryz.prog 21 (shF_q132.args [.fl q_0, .fl q_1, .fl q_2, .fl q_3]) []) (finV Tryz.prog 21 0 cont_) = G_q132 N_ S_q12 S_q44 S_q85 S_q87 S_q33 q_0 q_1 q_2 q_3 (fun r0 => cont_ (.bool r0) []) := by
  rw [codesV_cut 0 7 7 rfl]
  refine (hd_quat_Good_w N_ S_q12 S_q44 S_q85 S_q87 S_q33 q_0 q_1 q_2 q_3 cont_ _).trans ?_
  simp only [jn_q210, jn_q211]
  kernel_rfl
theorem eq_q132 (N_ : Nat) (S_q12 : TS_q12) (S_q44 : TS_q44) (S_q85 : TS_q85) (S_q87 : TS_q87) (S_q33 : TS_q33) (q_0 : Fl) (q_1 : Fl) (q_2 : Fl) (q_3 : Fl) (cont_ : V → List Blk → Bool) : bodyV ⟨Tryz.prog, ofList [(56, (F_q12 S_q12)), (68, (F_q44 S_q44)), (79, (F_q85 S_q85)), (80, (F_q87 S_q87)), (81, (F_q33 S_q33))], isref, N_⟩ (an_q132 N_ S_q12 S_q44 S_q85 S_q87 S_q33) 21 (shF_q132.args [.fl q_0, .fl q_1, .fl q_2, .fl q_3]) [] cont_ = G_q132 N_ S_q12 S_q44 S_q85 S_q87 S_q33 q_0 q_1 q_2 q_3 (fun r0 => cont_ (.bool r0) []) :=
  (bodyV_codes (by kernel_rfl)).trans (jn_quat_Good_w N_ S_q12 S_q44 S_q85 S_q87 S_q33 q_0 q_1 q_2 q_3 cont_)
theorem good_q132 (N_ : Nat) (S_q12 : TS_q12) (S_q44 : TS_q44) (S_q85 : TS_q85) (S_q87 : TS_q87) (S_q33 : TS_q33) (h_quat_good_o1 : GoodF Tryz.prog 56 (F_q12 S_q12)) (h_quat_four : GoodF Tryz.prog 68 (F_q44 S_q44)) (h_dyad_Dot : GoodF Tryz.prog 79 (F_q85 S_q85)) (h_dyad_Sub : GoodF Tryz.prog 80 (F_q87 S_q87)) (h_dyad_Compare : GoodF Tryz.prog 81 (F_q33 S_q33)) : GoodF Tryz.prog 21 (F_q132 (G_q132 N_ S_q12 S_q44 S_q85 S_q87 S_q33)) := by
  refine good_fs (cx := ⟨Tryz.prog, ofList [(56, (F_q12 S_q12)), (68, (F_q44 S_q44)), (79, (F_q85 S_q85)), (80, (F_q87 S_q87)), (81, (F_q33 S_q33))], isref, N_⟩) (ofList_cons h_quat_good_o1 (ofList_cons h_quat_four (ofList_cons h_dyad_Dot (ofList_cons h_dyad_Sub (ofList_cons h_dyad_Compare (ofList_nil _)))))) shF_q132 (sp_q132 (G_q132 N_ S_q12 S_q44 S_q85 S_q87 S_q33)) (an_q132 N_ S_q12 S_q44 S_q85 S_q87 S_q33) 0 0 (by kernel_rfl) (fun i_ hi_ => by omega) ?_
  intro a k h
  unfold sp_q132 at h
  split at h
  · exact ⟨[], rfl, rfl, (eq_q132 _ _ _ _ _ _ _ _ _ _ _).trans h⟩
  · cases h

def an_q83 (N_ : Nat) : Nat → Option Ann := fun b_ => none
theorem eq_q83 (N_ : Nat) (cont_ : V → List Blk → Bool) : bodyV ⟨Tryz.prog, ofList [], isref, N_⟩ (an_q83 N_) 55 (shF_q83.args []) [] cont_ = G_q83 N_ (fun r0 r1 r2 r3 => cont_ (.agg [.flt r0, .flt r1, .flt r2, .flt r3]) []) := by kernel_rfl
theorem good_q83 (N_ : Nat) : GoodF Tryz.prog 55 (F_q83 (G_q83 N_)) := by
  refine good_fs (cx := ⟨Tryz.prog, ofList [], isref, N_⟩) (ofList_nil _) shF_q83 (sp_q83 (G_q83 N_)) (an_q83 N_) 0 0 (by kernel_rfl) (fun i_ hi_ => by omega) ?_
  intro a k h
  unfold sp_q83 at h
  split at h
  · exact ⟨[], rfl, rfl, (eq_q83 _ _).trans h⟩
  · cases h

def an_q51 (N_ : Nat) (S_q108 : TS_q108) (S_q158 : TS_q158) (S_q133 : TS_q133) (S_q132 : TS_q132) (S_q83 : TS_q83) : Nat → Option Ann := fun b_ => none
theorem eq_q51 (N_ : Nat) (S_q108 : TS_q108) (S_q158 : TS_q158) (S_q133 : TS_q133) (S_q132 : TS_q132) (S_q83 : TS_q83) (cont_ : V → List Blk → Bool) : bodyV ⟨Tryz.prog, ofList [(18, (F_q108 S_q108)), (44, (F_q158 S_q158)), (10, (F_q133 S_q133)), (21, (F_q132 S_q132)), (55, (F_q83 S_q83))], isref, N_⟩ (an_q51 N_ S_q108 S_q158 S_q133 S_q132 S_q83) 8 (shF_q51.args []) [] cont_ = G_q51 N_ S_q108 S_q158 S_q133 S_q132 S_q83 (fun r0 => cont_ (.bool r0) []) := by kernel_rfl
theorem good_q51 (N_ : Nat) (S_q108 : TS_q108) (S_q158 : TS_q158) (S_q133 : TS_q133) (S_q132 : TS_q132) (S_q83 : TS_q83) (h_quat_Unit : GoodF Tryz.prog 18 (F_q108 S_q108)) (h_quat_Turn : GoodF Tryz.prog 44 (F_q158 S_q158)) (h_quat_Mul : GoodF Tryz.prog 10 (F_q133 S_q133)) (h_quat_Good : GoodF Tryz.prog 21 (F_q132 S_q132)) (h_binnaclelaw12_m2 : GoodF Tryz.prog 55 (F_q83 S_q83)) : GoodF Tryz.prog 8 (F_q51 (G_q51 N_ S_q108 S_q158 S_q133 S_q132 S_q83)) := by
  refine good_fs (cx := ⟨Tryz.prog, ofList [(18, (F_q108 S_q108)), (44, (F_q158 S_q158)), (10, (F_q133 S_q133)), (21, (F_q132 S_q132)), (55, (F_q83 S_q83))], isref, N_⟩) (ofList_cons h_quat_Unit (ofList_cons h_quat_Turn (ofList_cons h_quat_Mul (ofList_cons h_quat_Good (ofList_cons h_binnaclelaw12_m2 (ofList_nil _)))))) shF_q51 (sp_q51 (G_q51 N_ S_q108 S_q158 S_q133 S_q132 S_q83)) (an_q51 N_ S_q108 S_q158 S_q133 S_q132 S_q83) 0 0 (by kernel_rfl) (fun i_ hi_ => by omega) ?_
  intro a k h
  unfold sp_q51 at h
  split at h
  · exact ⟨[], rfl, rfl, (eq_q51 _ _ _ _ _ _ _).trans h⟩
  · cases h

def an_q151 (N_ : Nat) (S_q45 : TS_q45) (S_q23 : TS_q23) (S_q70 : TS_q70) (S_q44 : TS_q44) (S_q119 : TS_q119) (S_q122 : TS_q122) (S_q108 : TS_q108) : Nat → Option Ann := fun b_ => none
theorem eq_q151 (N_ : Nat) (S_q45 : TS_q45) (S_q23 : TS_q23) (S_q70 : TS_q70) (S_q44 : TS_q44) (S_q119 : TS_q119) (S_q122 : TS_q122) (S_q108 : TS_q108) (a_0 : Fl) (a_1 : Fl) (a_2 : Fl) (a_3 : Fl) (b_0 : Fl) (b_1 : Fl) (b_2 : Fl) (b_3 : Fl) (t : Fl) (cont_ : V → List Blk → Bool) : bodyV ⟨Tryz.prog, ofList [(56, (F_q45 S_q45)), (86, (F_q23 S_q23)), (36, (F_q70 S_q70)), (68, (F_q44 S_q44)), (73, (F_q119 S_q119)), (57, (F_q122 S_q122)), (18, (F_q108 S_q108))], isref, (N_ + 24)⟩ (an_q151 (N_ + 24) S_q45 S_q23 S_q70 S_q44 S_q119 S_q122 S_q108) 38 (shF_q151.args [.fl a_0, .fl a_1, .fl a_2, .fl a_3, .fl b_0, .fl b_1, .fl b_2, .fl b_3, .fl t]) [] cont_ = G_q151 (N_ + 24) S_q45 S_q23 S_q70 S_q44 S_q119 S_q122 S_q108 a_0 a_1 a_2 a_3 b_0 b_1 b_2 b_3 t (fun r0 r1 r2 r3 r4 => cont_ (.tup [.agg [.flt r0, .flt r1, .flt r2, .flt r3], .int .i64 r4]) []) := by kernel_rfl
theorem good_q151 (N_ : Nat) (S_q45 : TS_q45) (S_q23 : TS_q23) (S_q70 : TS_q70) (S_q44 : TS_q44) (S_q119 : TS_q119) (S_q122 : TS_q122) (S_q108 : TS_q108) (h_quat_good_o2 : GoodF Tryz.prog 56 (F_q45 S_q45)) (h_quat_finite : GoodF Tryz.prog 86 (F_q23 S_q23)) (h_quat_Nearest : GoodF Tryz.prog 36 (F_q70 S_q70)) (h_quat_four : GoodF Tryz.prog 68 (F_q44 S_q44)) (h_quat_quat : GoodF Tryz.prog 73 (F_q119 S_q119)) (h_quat_told : GoodF Tryz.prog 57 (F_q122 S_q122)) (h_quat_Unit : GoodF Tryz.prog 18 (F_q108 S_q108)) : GoodF Tryz.prog 38 (F_q151 (G_q151 (N_ + 24) S_q45 S_q23 S_q70 S_q44 S_q119 S_q122 S_q108)) := by
  refine good_fs (cx := ⟨Tryz.prog, ofList [(56, (F_q45 S_q45)), (86, (F_q23 S_q23)), (36, (F_q70 S_q70)), (68, (F_q44 S_q44)), (73, (F_q119 S_q119)), (57, (F_q122 S_q122)), (18, (F_q108 S_q108))], isref, (N_ + 24)⟩) (ofList_cons h_quat_good_o2 (ofList_cons h_quat_finite (ofList_cons h_quat_Nearest (ofList_cons h_quat_four (ofList_cons h_quat_quat (ofList_cons h_quat_told (ofList_cons h_quat_Unit (ofList_nil _)))))))) shF_q151 (sp_q151 (G_q151 (N_ + 24) S_q45 S_q23 S_q70 S_q44 S_q119 S_q122 S_q108)) (an_q151 (N_ + 24) S_q45 S_q23 S_q70 S_q44 S_q119 S_q122 S_q108) 1 0 (by kernel_rfl) (fun i_ hi_ => by
    match i_, hi_ with
    | 0, _ => exact (fun hk e => by rw [show hookOf ((an_q151 (N_ + 24) S_q45 S_q23 S_q70 S_q44 S_q119 S_q122 S_q108) (lp Tryz.prog 38 0).1) = none from by kernel_rfl] at e; cases e)
    | (q + 1), h => omega) ?_
  intro a k h
  unfold sp_q151 at h
  split at h
  · exact ⟨[], rfl, rfl, (eq_q151 _ _ _ _ _ _ _ _ _ _ _ _ _ _ _ _ _ _).trans h⟩
  · cases h

def an_q89 (N_ : Nat) : Nat → Option Ann := fun b_ => none
theorem eq_q89 (N_ : Nat) (ok_0 : Bool) (ok_1 : Bool) (ok_2 : Bool) (cont_ : V → List Blk → Bool) : bodyV ⟨Tryz.prog, ofList [], isref, (N_ + 24)⟩ (an_q89 (N_ + 24)) 74 (shF_q89.args [.bool ok_0, .bool ok_1, .bool ok_2]) [] cont_ = G_q89 (N_ + 24) ok_0 ok_1 ok_2 (fun r0 => cont_ (.int .i64 r0) []) := by kernel_rfl
theorem good_q89 (N_ : Nat) : GoodF Tryz.prog 74 (F_q89 (G_q89 (N_ + 24))) := by
  refine good_fs (cx := ⟨Tryz.prog, ofList [], isref, (N_ + 24)⟩) (ofList_nil _) shF_q89 (sp_q89 (G_q89 (N_ + 24))) (an_q89 (N_ + 24)) 1 0 (by kernel_rfl) (fun i_ hi_ => by
    match i_, hi_ with
    | 0, _ => exact (fun hk e => by rw [show hookOf ((an_q89 (N_ + 24)) (lp Tryz.prog 74 0).1) = none from by kernel_rfl] at e; cases e)
    | (q + 1), h => omega) ?_
  intro a k h
  unfold sp_q89 at h
  split at h
  · exact ⟨[], rfl, rfl, (eq_q89 _ _ _ _ _).trans h⟩
  · cases h

def an_z12_p (N_ : Nat) : Nat → Option Ann := fun b_ => none
theorem eq_z12_p (N_ : Nat) (a : Fl) (b : Fl) (cont_ : V → List Blk → Bool) : bodyV ⟨Tryz.prog, ofList [], isref, N_⟩ (an_z12_p N_) 92 (shF_z12_p.args [.fl a, .fl b]) [] cont_ = G_z12_p N_ a b (fun r0 => cont_ (.flt r0) []) := by kernel_rfl
theorem good_z12_p (N_ : Nat) : GoodF Tryz.prog 92 (F_z12_p (G_z12_p N_)) := by
  refine good_fs (cx := ⟨Tryz.prog, ofList [], isref, N_⟩) (ofList_nil _) shF_z12_p (sp_z12_p (G_z12_p N_)) (an_z12_p N_) 0 0 (by kernel_rfl) (fun i_ hi_ => by omega) ?_
  intro a k h
  unfold sp_z12_p at h
  split at h
  · exact ⟨[], rfl, rfl, (eq_z12_p _ _ _ _).trans h⟩
  · cases h

def an_q180 (N_ : Nat) : Nat → Option Ann := fun b_ => none
theorem eq_q180 (N_ : Nat) (l : List Fl) (cont_ : V → List Blk → Bool) : bodyV ⟨Tryz.prog, ofList [], isref, N_⟩ (an_q180 N_) 78 (shF_q180.args [.fls l]) [] cont_ = G_q180 N_ l (fun r0 r1 r2 r3 => cont_ (.agg [.flt r0, .flt r1, .flt r2, .flt r3]) []) := by kernel_rfl
theorem good_q180 (N_ : Nat) : GoodF Tryz.prog 78 (F_q180 (G_q180 N_)) := by
  refine good_fs (cx := ⟨Tryz.prog, ofList [], isref, N_⟩) (ofList_nil _) shF_q180 (sp_q180 (G_q180 N_)) (an_q180 N_) 0 0 (by kernel_rfl) (fun i_ hi_ => by omega) ?_
  intro a k h
  unfold sp_q180 at h
  split at h
  · exact ⟨[], rfl, rfl, (eq_q180 _ _ _).trans h⟩
  · cases h

def an_q59 (N_ : Nat) : Nat → Option Ann := fun b_ => none
theorem eq_q59 (N_ : Nat) (ok : Bool) (cont_ : V → List Blk → Bool) : bodyV ⟨Tryz.prog, ofList [], isref, (N_ + 24)⟩ (an_q59 (N_ + 24)) 74 (shF_q59.args [.bool ok]) [] cont_ = G_q59 (N_ + 24) ok (fun r0 => cont_ (.int .i64 r0) []) := by kernel_rfl
theorem good_q59 (N_ : Nat) : GoodF Tryz.prog 74 (F_q59 (G_q59 (N_ + 24))) := by
  refine good_fs (cx := ⟨Tryz.prog, ofList [], isref, (N_ + 24)⟩) (ofList_nil _) shF_q59 (sp_q59 (G_q59 (N_ + 24))) (an_q59 (N_ + 24)) 1 0 (by kernel_rfl) (fun i_ hi_ => by
    match i_, hi_ with
    | 0, _ => exact (fun hk e => by rw [show hookOf ((an_q59 (N_ + 24)) (lp Tryz.prog 74 0).1) = none from by kernel_rfl] at e; cases e)
    | (q + 1), h => omega) ?_
  intro a k h
  unfold sp_q59 at h
  split at h
  · exact ⟨[], rfl, rfl, (eq_q59 _ _ _).trans h⟩
  · cases h

def sh_st_binnacleref10_Power_0 : StSh := ⟨[.rof, .any, .any, .any, .flt, .int .i64, .any, .any, .any, .any, .any, .any, .any, .any, .any, .any, .any, .any, .any, .any, .any, .any, .any, .any, .any, .any, .any, .any, .any, .any], []⟩
def sx0_st_binnacleref10_Power_0 : StSh := ⟨[.any, .any, .any, .any, .flt, .any, .any, .any, .any, .any, .any, .any, .any, .any, .any, .any, .any, .any, .any, .any, .any, .any, .any, .any, .any, .any, .any, .any, .any, .any], []⟩
def hk_st_binnacleref10_Power_0 (N_ : Nat) (S_m_Abs : TS_m_Abs) (S_q92 : TS_q92) : List Atom → K → Bool := fun a_ κ => match a_ with
  | [.fls x_1, .fl m, .int i] => iterG N_ (st_z10_Power_0 N_ S_m_Abs S_q92 x_1 (fun r0 => κ.ext 0 (sx0_st_binnacleref10_Power_0.build [.fl r0]))) (m, i)
  | _ => false
def an_q114 (N_ : Nat) (S_m_Abs : TS_m_Abs) (S_q92 : TS_q92) : Nat → Option Ann := fun b_ => cond (b_ == 0) (some ⟨⟨[0, 4, 5], [], []⟩, [(0, ⟨[4], [], []⟩)], some ⟨[2, 3], [], []⟩, some (mkHooks [(sh_st_binnacleref10_Power_0, hk_st_binnacleref10_Power_0 N_ S_m_Abs S_q92)])⟩) (none)
theorem eq_st_binnacleref10_Power_0 (N_ : Nat) (S_m_Abs : TS_m_Abs) (S_q92 : TS_q92) (κ : K) (x_1 : List Fl) (m : Fl) (i : Int) : iter N_ (fun s k => codeV ⟨Tryz.prog, ofList [(69, (F_m_Abs S_m_Abs)), (70, (F_q92 S_q92))], isref, N_⟩ 0 (an_q114 N_ S_m_Abs S_q92) (lp Tryz.prog 76 0).2 (lp Tryz.prog 76 0).1 s (roundK Tryz.prog 0 ((an_q114 N_ S_m_Abs S_q92) (lp Tryz.prog 76 0).1) κ k)) (sh_st_binnacleref10_Power_0.build [.fls x_1, .fl m, .int i]) = iterG N_ (st_z10_Power_0 N_ S_m_Abs S_q92 x_1 (fun r0 => κ.ext 0 (sx0_st_binnacleref10_Power_0.build [.fl r0]))) (m, i) :=
  iter_tr (fun (v_ : Fl × Int) => sh_st_binnacleref10_Power_0.build [.fls x_1, .fl v_.1, .int v_.2]) (fun v_ K_ => by obtain ⟨m, i⟩ := v_; kernel_rfl) N_ (m, i)
theorem hk1_st_binnacleref10_Power_0 (N_ : Nat) (S_m_Abs : TS_m_Abs) (S_q92 : TS_q92) : HookFor ⟨Tryz.prog, ofList [(69, (F_m_Abs S_m_Abs)), (70, (F_q92 S_q92))], isref, N_⟩ 0 (an_q114 N_ S_m_Abs S_q92) (lp Tryz.prog 76 0) (sh_st_binnacleref10_Power_0, hk_st_binnacleref10_Power_0 N_ S_m_Abs S_q92) := by
  intro a κ h
  simp only at h
  unfold hk_st_binnacleref10_Power_0 at h
  split at h
  · exact (eq_st_binnacleref10_Power_0 _ _ _ _ _ _ _).trans h
  · cases h
theorem ho_binnacleref10_Power_0 (N_ : Nat) (S_m_Abs : TS_m_Abs) (S_q92 : TS_q92) : HookOk ⟨Tryz.prog, ofList [(69, (F_m_Abs S_m_Abs)), (70, (F_q92 S_q92))], isref, N_⟩ 0 (an_q114 N_ S_m_Abs S_q92) (lp Tryz.prog 76 0) :=
  hooks_ok [(sh_st_binnacleref10_Power_0, hk_st_binnacleref10_Power_0 N_ S_m_Abs S_q92)] (by kernel_rfl) ⟨hk1_st_binnacleref10_Power_0 _ _ _, trivial⟩
theorem eq_q114 (N_ : Nat) (S_m_Abs : TS_m_Abs) (S_q92 : TS_q92) (x : List Fl) (cont_ : V → List Blk → Bool) : bodyV ⟨Tryz.prog, ofList [(69, (F_m_Abs S_m_Abs)), (70, (F_q92 S_q92))], isref, N_⟩ (an_q114 N_ S_m_Abs S_q92) 76 (shF_q114.args [.fls x]) [] cont_ = G_q114 N_ S_m_Abs S_q92 x (fun r0 r1 => cont_ (.tup [.int .i64 r0, .bool r1]) []) := by kernel_rfl
theorem good_q114 (N_ : Nat) (S_m_Abs : TS_m_Abs) (S_q92 : TS_q92) (h_math_Abs : GoodF Tryz.prog 69 (F_m_Abs S_m_Abs)) (h_math_Frexp : GoodF Tryz.prog 70 (F_q92 S_q92)) : GoodF Tryz.prog 76 (F_q114 (G_q114 N_ S_m_Abs S_q92)) := by
  refine good_fs (cx := ⟨Tryz.prog, ofList [(69, (F_m_Abs S_m_Abs)), (70, (F_q92 S_q92))], isref, N_⟩) (ofList_cons h_math_Abs (ofList_cons h_math_Frexp (ofList_nil _))) shF_q114 (sp_q114 (G_q114 N_ S_m_Abs S_q92)) (an_q114 N_ S_m_Abs S_q92) 1 0 (by kernel_rfl) (fun i_ hi_ => by
    match i_, hi_ with
    | 0, _ => exact ho_binnacleref10_Power_0 _ _ _
    | (q + 1), h => omega) ?_
  intro a k h
  unfold sp_q114 at h
  split at h
  · exact ⟨[], rfl, rfl, (eq_q114 _ _ _ _ _).trans h⟩
  · cases h

def an_q109 (N_ : Nat) : Nat → Option Ann := fun b_ => none
theorem eq_q109 (N_ : Nat) (cont_ : V → List Blk → Bool) : bodyV ⟨Tryz.prog, ofList [], isref, N_⟩ (an_q109 N_) 153 (shF_q109.args []) [] cont_ = G_q109 N_ (cont_ (.bool true) []) := by kernel_rfl
theorem good_q109 (N_ : Nat) : GoodF Tryz.prog 153 (F_q109 (G_q109 N_)) := by
  refine good_fs (cx := ⟨Tryz.prog, ofList [], isref, N_⟩) (ofList_nil _) shF_q109 (sp_q109 (G_q109 N_)) (an_q109 N_) 0 0 (by kernel_rfl) (fun i_ hi_ => by omega) ?_
  intro a k h
  unfold sp_q109 at h
  split at h
  · exact ⟨[], rfl, rfl, (eq_q109 _ _).trans h⟩
  · cases h

def an_q91 (N_ : Nat) : Nat → Option Ann := fun b_ => none
theorem eq_q91 (N_ : Nat) (cont_ : V → List Blk → Bool) : bodyV ⟨Tryz.prog, ofList [], isref, N_⟩ (an_q91 N_) 154 (shF_q91.args []) [] cont_ = G_q91 N_ (cont_ (.agg [.int .i64 53, .int .i64 (-1022), .int .i64 1023, .int .i64 11]) []) := by kernel_rfl
theorem good_q91 (N_ : Nat) : GoodF Tryz.prog 154 (F_q91 (G_q91 N_)) := by
  refine good_fs (cx := ⟨Tryz.prog, ofList [], isref, N_⟩) (ofList_nil _) shF_q91 (sp_q91 (G_q91 N_)) (an_q91 N_) 0 0 (by kernel_rfl) (fun i_ hi_ => by omega) ?_
  intro a k h
  unfold sp_q91 at h
  split at h
  · exact ⟨[], rfl, rfl, (eq_q91 _ _).trans h⟩
  · cases h

def sh_st_binnacleref00_cut_w_0 : StSh := ⟨[.sl 0, .any, .any, .any, .any, .any, .any, .any, .any, .any, .any, .any, .any, .any, .any, .any, .any, .any, .any, .any, .any], [some (127, 1, .ints .u32)]⟩
def sx0_st_binnacleref00_cut_w_0 : StSh := ⟨[.sl 0, .any, .any, .any, .any, .any, .any, .any, .any, .any, .any, .any, .any, .any, .any, .any, .any, .any, .any, .any, .any], [some (127, 1, .ints .u32)]⟩
def hk_st_binnacleref00_cut_w_0 (N_ : Nat) : List Atom → K → Bool := fun a_ κ => match a_ with
  | [.nat m_1, .nat m_2, .ints m_3] => iterG N_ (st_q222 N_ m_1 m_3 (fun r1 => κ.ext 0 (sx0_st_binnacleref00_cut_w_0.build [.nat m_1, .nat r1, .ints m_3]))) m_2
  | _ => false
def an_q20 (N_ : Nat) : Nat → Option Ann := fun b_ => cond (b_ == 0) (some ⟨⟨[0], [(0, some 0, 0)], []⟩, [(0, ⟨[0], [], []⟩)], some ⟨[2], [], []⟩, some (mkHooks [(sh_st_binnacleref00_cut_w_0, hk_st_binnacleref00_cut_w_0 N_)])⟩) (none)
theorem eq_st_binnacleref00_cut_w_0 (N_ : Nat) (κ : K) (m_1 : Nat) (m_2 : Nat) (m_3 : List Int) : iter N_ (fun s k => codeV ⟨Tryz.prog, ofList [], isref, N_⟩ 1 (an_q20 N_) (lp Tryz.prog 147 0).2 (lp Tryz.prog 147 0).1 s (roundK Tryz.prog 1 ((an_q20 N_) (lp Tryz.prog 147 0).1) κ k)) (sh_st_binnacleref00_cut_w_0.build [.nat m_1, .nat m_2, .ints m_3]) = iterG N_ (st_q222 N_ m_1 m_3 (fun r1 => κ.ext 0 (sx0_st_binnacleref00_cut_w_0.build [.nat m_1, .nat r1, .ints m_3]))) m_2 :=
  iter_tr (fun (v_ : Nat) => sh_st_binnacleref00_cut_w_0.build [.nat m_1, .nat v_, .ints m_3]) (fun v_ K_ => by kernel_rfl) N_ m_2
theorem hk1_st_binnacleref00_cut_w_0 (N_ : Nat) : HookFor ⟨Tryz.prog, ofList [], isref, N_⟩ 1 (an_q20 N_) (lp Tryz.prog 147 0) (sh_st_binnacleref00_cut_w_0, hk_st_binnacleref00_cut_w_0 N_) := by
  intro a κ h
  simp only at h
  unfold hk_st_binnacleref00_cut_w_0 at h
  split at h
  · exact (eq_st_binnacleref00_cut_w_0 _ _ _ _ _).trans h
  · cases h
theorem ho_binnacleref00_cut_w_0 (N_ : Nat) : HookOk ⟨Tryz.prog, ofList [], isref, N_⟩ 1 (an_q20 N_) (lp Tryz.prog 147 0) :=
  hooks_ok [(sh_st_binnacleref00_cut_w_0, hk_st_binnacleref00_cut_w_0 N_)] (by kernel_rfl) ⟨hk1_st_binnacleref00_cut_w_0 _, trivial⟩
theorem eq_q20 (N_ : Nat) (b : List Int) (cont_ : V → List Blk → Bool) : bodyZ ⟨Tryz.prog, ofList [], isref, N_⟩ (an_q20 N_) 147 (shF_q20.args [.ints b]) [⟨127, 1, .ints .u32 b⟩] cont_ = G_q20 N_ b (fun r0 r1 => cont_ (.sl 0 r0 r1) [⟨127, 1, .ints .u32 b⟩]) := by kernel_rfl
theorem good_q20 (N_ : Nat) : GoodF Tryz.prog 147 (F_q20 (G_q20 N_)) := by
  refine good_fsZ (cx := ⟨Tryz.prog, ofList [], isref, N_⟩) (ofList_nil _) shF_q20 (sp_q20 (G_q20 N_)) (an_q20 N_) 1 1 (by kernel_rfl) (fun i_ hi_ => by
    match i_, hi_ with
    | 0, _ => exact ho_binnacleref00_cut_w_0 _
    | (q + 1), h => omega) ?_
  intro a k h
  unfold sp_q20 at h
  split at h
  · exact ⟨[_], rfl, rfl, (eq_q20 _ _ _).trans h⟩
  · cases h

def an_q98 (N_ : Nat) (S_q20 : TS_q20) : Nat → Option Ann := fun b_ => none
theorem eq_q98 (N_ : Nat) (S_q20 : TS_q20) (n : Int) (cont_ : V → List Blk → Bool) : bodyZ ⟨Tryz.prog, ofList [(147, (F_q20 S_q20))], isref, N_⟩ (an_q98 N_ S_q20) 117 (shF_q98.args [.int n]) [] cont_ = G_q98 N_ S_q20 n (fun r0 => cont_ (.roi .u32 r0) []) := by kernel_rfl
theorem good_q98 (N_ : Nat) (S_q20 : TS_q20) (h_binnacleref00_cut_w : GoodF Tryz.prog 147 (F_q20 S_q20)) : GoodF Tryz.prog 117 (F_q98 (G_q98 N_ S_q20)) := by
  refine good_fsZ (cx := ⟨Tryz.prog, ofList [(147, (F_q20 S_q20))], isref, N_⟩) (ofList_cons h_binnacleref00_cut_w (ofList_nil _)) shF_q98 (sp_q98 (G_q98 N_ S_q20)) (an_q98 N_ S_q20) 0 0 (by kernel_rfl) (fun i_ hi_ => by omega) ?_
  intro a k h
  unfold sp_q98 at h
  split at h
  · exact ⟨[], rfl, rfl, (eq_q98 _ _ _ _).trans h⟩
  · cases h

def sh_st_binnacleref00_cut_0 : StSh := ⟨[.roi .u32, .any, .any, .any, .any, .any, .any, .any, .any, .any, .any, .any, .any, .any, .any, .any, .any, .any, .any, .any, .any], []⟩
def sx0_st_binnacleref00_cut_0 : StSh := ⟨[.roi .u32, .any, .any, .any, .any, .any, .any, .any, .any, .any, .any, .any, .any, .any, .any, .any, .any, .any, .any, .any, .any], []⟩
def hk_st_binnacleref00_cut_0 (N_ : Nat) : List Atom → K → Bool := fun a_ κ => match a_ with
  | [.ints m_1] => iterG N_ (st_z00_cut_0 N_ (fun r0 => κ.ext 0 (sx0_st_binnacleref00_cut_0.build [.ints r0]))) m_1
  | _ => false
def an_q161 (N_ : Nat) : Nat → Option Ann := fun b_ => cond (b_ == 0) (some ⟨⟨[0], [], []⟩, [(0, ⟨[0], [], []⟩)], some ⟨[2], [], []⟩, some (mkHooks [(sh_st_binnacleref00_cut_0, hk_st_binnacleref00_cut_0 N_)])⟩) (none)
theorem eq_st_binnacleref00_cut_0 (N_ : Nat) (κ : K) (m_1 : List Int) : iter N_ (fun s k => codeV ⟨Tryz.prog, ofList [], isref, N_⟩ 0 (an_q161 N_) (lp Tryz.prog 147 0).2 (lp Tryz.prog 147 0).1 s (roundK Tryz.prog 0 ((an_q161 N_) (lp Tryz.prog 147 0).1) κ k)) (sh_st_binnacleref00_cut_0.build [.ints m_1]) = iterG N_ (st_z00_cut_0 N_ (fun r0 => κ.ext 0 (sx0_st_binnacleref00_cut_0.build [.ints r0]))) m_1 :=
  iter_tr (fun (v_ : List Int) => sh_st_binnacleref00_cut_0.build [.ints v_]) (fun v_ K_ => by kernel_rfl) N_ m_1
theorem hk1_st_binnacleref00_cut_0 (N_ : Nat) : HookFor ⟨Tryz.prog, ofList [], isref, N_⟩ 0 (an_q161 N_) (lp Tryz.prog 147 0) (sh_st_binnacleref00_cut_0, hk_st_binnacleref00_cut_0 N_) := by
  intro a κ h
  simp only at h
  unfold hk_st_binnacleref00_cut_0 at h
  split at h
  · exact (eq_st_binnacleref00_cut_0 _ _ _).trans h
  · cases h
theorem ho_binnacleref00_cut_0 (N_ : Nat) : HookOk ⟨Tryz.prog, ofList [], isref, N_⟩ 0 (an_q161 N_) (lp Tryz.prog 147 0) :=
  hooks_ok [(sh_st_binnacleref00_cut_0, hk_st_binnacleref00_cut_0 N_)] (by kernel_rfl) ⟨hk1_st_binnacleref00_cut_0 _, trivial⟩
theorem eq_q161 (N_ : Nat) (m : List Int) (cont_ : V → List Blk → Bool) : bodyZ ⟨Tryz.prog, ofList [], isref, N_⟩ (an_q161 N_) 147 (shF_q161.args [.ints m]) [] cont_ = G_q161 N_ m (fun r0 => cont_ (.roi .u32 r0) []) := by kernel_rfl
theorem good_q161 (N_ : Nat) : GoodF Tryz.prog 147 (F_q161 (G_q161 N_)) := by
  refine good_fsZ (cx := ⟨Tryz.prog, ofList [], isref, N_⟩) (ofList_nil _) shF_q161 (sp_q161 (G_q161 N_)) (an_q161 N_) 1 0 (by kernel_rfl) (fun i_ hi_ => by
    match i_, hi_ with
    | 0, _ => exact ho_binnacleref00_cut_0 _
    | (q + 1), h => omega) ?_
  intro a k h
  unfold sp_q161 at h
  split at h
  · exact ⟨[], rfl, rfl, (eq_q161 _ _ _).trans h⟩
  · cases h

def an_q52 (N_ : Nat) (S_q161 : TS_q161) : Nat → Option Ann := fun b_ => none
theorem eq_q52 (N_ : Nat) (S_q161 : TS_q161) (neg : Bool) (m : List Int) (b : Bool) (cont_ : V → List Blk → Bool) : bodyZ ⟨Tryz.prog, ofList [(147, (F_q161 S_q161))], isref, N_⟩ (an_q52 N_ S_q161) 113 (shF_q52.args [.bool neg, .ints m, .bool b]) [⟨105, 1, .cells [.bool b, .nil]⟩] cont_ = G_q52 N_ S_q161 neg m b (fun r0 r1 => cont_ (.ptr 0 0) [⟨105, 1, .cells [.bool r0, .roi .u32 r1]⟩]) := by kernel_rfl
theorem good_q52 (N_ : Nat) (S_q161 : TS_q161) (h_binnacleref00_cut : GoodF Tryz.prog 147 (F_q161 S_q161)) : GoodF Tryz.prog 113 (F_q52 (G_q52 N_ S_q161)) := by
  refine good_fsZ (cx := ⟨Tryz.prog, ofList [(147, (F_q161 S_q161))], isref, N_⟩) (ofList_cons h_binnacleref00_cut (ofList_nil _)) shF_q52 (sp_q52 (G_q52 N_ S_q161)) (an_q52 N_ S_q161) 0 1 (by kernel_rfl) (fun i_ hi_ => by omega) ?_
  intro a k h
  unfold sp_q52 at h
  split at h
  · exact ⟨[_], rfl, rfl, (eq_q52 _ _ _ _ _ _).trans h⟩
  · cases h

def an_q73 (N_ : Nat) (S_q98 : TS_q98) (S_q52 : TS_q52) : Nat → Option Ann := fun b_ => none
theorem eq_q73 (N_ : Nat) (S_q98 : TS_q98) (S_q52 : TS_q52) (n : Int) (b : Bool) (cont_ : V → List Blk → Bool) : bodyZ ⟨Tryz.prog, ofList [(117, (F_q98 S_q98)), (113, (F_q52 S_q52))], isref, N_⟩ (an_q73 N_ S_q98 S_q52) 66 (shF_q73.args [.int n, .bool b]) [⟨105, 1, .cells [.bool b, .nil]⟩] cont_ = G_q73 N_ S_q98 S_q52 n b (fun r0 r1 => cont_ (.ptr 0 0) [⟨105, 1, .cells [.bool r0, .roi .u32 r1]⟩]) := by kernel_rfl
theorem good_q73 (N_ : Nat) (S_q98 : TS_q98) (S_q52 : TS_q52) (h_binnacleref00_words : GoodF Tryz.prog 117 (F_q98 S_q98)) (h_binnacleref00_Int_put_p0n : GoodF Tryz.prog 113 (F_q52 S_q52)) : GoodF Tryz.prog 66 (F_q73 (G_q73 N_ S_q98 S_q52)) := by
  refine good_fsZ (cx := ⟨Tryz.prog, ofList [(117, (F_q98 S_q98)), (113, (F_q52 S_q52))], isref, N_⟩) (ofList_cons h_binnacleref00_words (ofList_cons h_binnacleref00_Int_put_p0n (ofList_nil _))) shF_q73 (sp_q73 (G_q73 N_ S_q98 S_q52)) (an_q73 N_ S_q98 S_q52) 0 1 (by kernel_rfl) (fun i_ hi_ => by omega) ?_
  intro a k h
  unfold sp_q73 at h
  split at h
  · exact ⟨[_], rfl, rfl, (eq_q73 _ _ _ _ _ _).trans h⟩
  · cases h

def an_q64 (N_ : Nat) (S_q161 : TS_q161) : Nat → Option Ann := fun b_ => none
theorem eq_q64 (N_ : Nat) (S_q161 : TS_q161) (neg : Bool) (m : List Int) (b : Bool) (b_1 : List Int) (cont_ : V → List Blk → Bool) : bodyZ ⟨Tryz.prog, ofList [(147, (F_q161 S_q161))], isref, N_⟩ (an_q64 N_ S_q161) 113 (shF_q64.args [.bool neg, .ints m, .bool b, .ints b_1]) [⟨105, 1, .cells [.bool b, .roi .u32 b_1]⟩] cont_ = G_q64 N_ S_q161 neg m b b_1 (fun r0 r1 => cont_ (.ptr 0 0) [⟨105, 1, .cells [.bool r0, .roi .u32 r1]⟩]) := by kernel_rfl
theorem good_q64 (N_ : Nat) (S_q161 : TS_q161) (h_binnacleref00_cut : GoodF Tryz.prog 147 (F_q161 S_q161)) : GoodF Tryz.prog 113 (F_q64 (G_q64 N_ S_q161)) := by
  refine good_fsZ (cx := ⟨Tryz.prog, ofList [(147, (F_q161 S_q161))], isref, N_⟩) (ofList_cons h_binnacleref00_cut (ofList_nil _)) shF_q64 (sp_q64 (G_q64 N_ S_q161)) (an_q64 N_ S_q161) 0 1 (by kernel_rfl) (fun i_ hi_ => by omega) ?_
  intro a k h
  unfold sp_q64 at h
  split at h
  · exact ⟨[_], rfl, rfl, (eq_q64 _ _ _ _ _ _ _).trans h⟩
  · cases h

def an_q76 (N_ : Nat) (S_q98 : TS_q98) (S_q64 : TS_q64) : Nat → Option Ann := fun b_ => none
theorem eq_q76 (N_ : Nat) (S_q98 : TS_q98) (S_q64 : TS_q64) (n : Int) (b : Bool) (b_1 : List Int) (cont_ : V → List Blk → Bool) : bodyZ ⟨Tryz.prog, ofList [(117, (F_q98 S_q98)), (113, (F_q64 S_q64))], isref, N_⟩ (an_q76 N_ S_q98 S_q64) 66 (shF_q76.args [.int n, .bool b, .ints b_1]) [⟨105, 1, .cells [.bool b, .roi .u32 b_1]⟩] cont_ = G_q76 N_ S_q98 S_q64 n b b_1 (fun r0 r1 => cont_ (.ptr 0 0) [⟨105, 1, .cells [.bool r0, .roi .u32 r1]⟩]) := by kernel_rfl
theorem good_q76 (N_ : Nat) (S_q98 : TS_q98) (S_q64 : TS_q64) (h_binnacleref00_words : GoodF Tryz.prog 117 (F_q98 S_q98)) (h_binnacleref00_Int_put_p0r : GoodF Tryz.prog 113 (F_q64 S_q64)) : GoodF Tryz.prog 66 (F_q76 (G_q76 N_ S_q98 S_q64)) := by
  refine good_fsZ (cx := ⟨Tryz.prog, ofList [(117, (F_q98 S_q98)), (113, (F_q64 S_q64))], isref, N_⟩) (ofList_cons h_binnacleref00_words (ofList_cons h_binnacleref00_Int_put_p0r (ofList_nil _))) shF_q76 (sp_q76 (G_q76 N_ S_q98 S_q64)) (an_q76 N_ S_q98 S_q64) 0 1 (by kernel_rfl) (fun i_ hi_ => by omega) ?_
  intro a k h
  unfold sp_q76 at h
  split at h
  · exact ⟨[_], rfl, rfl, (eq_q76 _ _ _ _ _ _ _).trans h⟩
  · cases h

def an_q148 (N_ : Nat) (S_q73 : TS_q73) (S_q76 : TS_q76) : Nat → Option Ann := fun b_ => none
theorem eq_q148 (N_ : Nat) (S_q73 : TS_q73) (S_q76 : TS_q76) (bits : Int) (cont_ : V → List Blk → Bool) : bodyV ⟨Tryz.prog, ofList [(66, (orFs (F_q73 S_q73) (F_q76 S_q76) shF_q73))], isref, N_⟩ (an_q148 N_ S_q73 S_q76) 155 (shF_q148.args [.int bits]) [] cont_ = G_q148 N_ S_q73 S_q76 bits (fun r0 => cont_ (.agg [.int .i64 2, .bool false, .ptr 0 0, .int .i64 0]) [⟨105, 1, .cells [.bool r0, .nil]⟩]) (fun r0 r1 r2 => cont_ (.agg [.int .i64 1, .bool r0, .ptr 0 0, .int .i64 (-1074)]) [⟨105, 1, .cells [.bool r1, .roi .u32 r2]⟩]) (fun r0 r1 r2 r3 => cont_ (.agg [.int .i64 0, .bool r0, .ptr 0 0, .int .i64 r1]) [⟨105, 1, .cells [.bool r2, .roi .u32 r3]⟩]) (fun r0 r1 r2 => cont_ (.agg [.int .i64 0, .bool r0, .ptr 0 0, .int .i64 (-1074)]) [⟨105, 1, .cells [.bool r1, .roi .u32 r2]⟩]) := by kernel_rfl
theorem good_q148 (N_ : Nat) (S_q73 : TS_q73) (S_q76 : TS_q76) (h_binnacleref00_Int_SetUint64_p0n : GoodF Tryz.prog 66 (F_q73 S_q73)) (h_binnacleref00_Int_SetUint64_p0r : GoodF Tryz.prog 66 (F_q76 S_q76)) : GoodF Tryz.prog 155 (F_q148 (G_q148 N_ S_q73 S_q76)) := by
  refine good_fs (cx := ⟨Tryz.prog, ofList [(66, (orFs (F_q73 S_q73) (F_q76 S_q76) shF_q73))], isref, N_⟩) (ofList_cons (good_or h_binnacleref00_Int_SetUint64_p0n h_binnacleref00_Int_SetUint64_p0r) (ofList_nil _)) shF_q148 (sp_q148 (G_q148 N_ S_q73 S_q76)) (an_q148 N_ S_q73 S_q76) 0 0 (by kernel_rfl) (fun i_ hi_ => by omega) ?_
  intro a k h
  unfold sp_q148 at h
  split at h
  · exact ⟨[], rfl, rfl, (eq_q148 _ _ _ _ _).trans h⟩
  · cases h

def an_q168 (N_ : Nat) : Nat → Option Ann := fun b_ => none
theorem eq_q168 (N_ : Nat) (cont_ : V → List Blk → Bool) : bodyV ⟨Tryz.prog, ofList [], isref, N_⟩ (an_q168 N_) 184 (shF_q168.args []) [] cont_ = G_q168 N_ (fun r0 => cont_ (.int .u64 r0) []) := by kernel_rfl
theorem good_q168 (N_ : Nat) : GoodF Tryz.prog 184 (F_q168 (G_q168 N_)) := by
  refine good_fs (cx := ⟨Tryz.prog, ofList [], isref, N_⟩) (ofList_nil _) shF_q168 (sp_q168 (G_q168 N_)) (an_q168 N_) 0 0 (by kernel_rfl) (fun i_ hi_ => by omega) ?_
  intro a k h
  unfold sp_q168 at h
  split at h
  · exact ⟨[], rfl, rfl, (eq_q168 _ _).trans h⟩
  · cases h

def an_q152 (N_ : Nat) (S_q168 : TS_q168) : Nat → Option Ann := fun b_ => none
theorem eq_q152 (N_ : Nat) (S_q168 : TS_q168) (b : Bool) (cont_ : V → List Blk → Bool) : bodyV ⟨Tryz.prog, ofList [(184, (F_q168 S_q168))], isref, N_⟩ (an_q152 N_ S_q168) 156 (shF_q152.args [.bool b]) [⟨105, 1, .cells [.bool b, .nil]⟩] cont_ = G_q152 N_ S_q168 b (fun r0 r1 => cont_ (.tup [.int .u64 r0, .int .i64 r1]) [⟨105, 1, .cells [.bool b, .nil]⟩]) := by kernel_rfl
theorem good_q152 (N_ : Nat) (S_q168 : TS_q168) (h_v_binnacleref02_Fmt_None : GoodF Tryz.prog 184 (F_q168 S_q168)) : GoodF Tryz.prog 156 (F_q152 (G_q152 N_ S_q168)) := by
  refine good_fs (cx := ⟨Tryz.prog, ofList [(184, (F_q168 S_q168))], isref, N_⟩) (ofList_cons h_v_binnacleref02_Fmt_None (ofList_nil _)) shF_q152 (sp_q152 (G_q152 N_ S_q168)) (an_q152 N_ S_q168) 0 1 (by kernel_rfl) (fun i_ hi_ => by omega) ?_
  intro a k h
  unfold sp_q152 at h
  split at h
  · exact ⟨[_], rfl, rfl, (eq_q152 _ _ _ _).trans h⟩
  · cases h

def an_q65 (N_ : Nat) : Nat → Option Ann := fun b_ => none
theorem eq_q65 (N_ : Nat) (neg : Bool) (field : Int) (frac : Int) (cont_ : V → List Blk → Bool) : bodyV ⟨Tryz.prog, ofList [], isref, N_⟩ (an_q65 N_) 206 (shF_q65.args [.bool neg, .int field, .int frac]) [] cont_ = G_q65 N_ neg field frac (fun r0 => cont_ (.int .u64 r0) []) := by kernel_rfl
theorem good_q65 (N_ : Nat) : GoodF Tryz.prog 206 (F_q65 (G_q65 N_)) := by
  refine good_fs (cx := ⟨Tryz.prog, ofList [], isref, N_⟩) (ofList_nil _) shF_q65 (sp_q65 (G_q65 N_)) (an_q65 N_) 0 0 (by kernel_rfl) (fun i_ hi_ => by omega) ?_
  intro a k h
  unfold sp_q65 at h
  split at h
  · exact ⟨[], rfl, rfl, (eq_q65 _ _ _ _ _).trans h⟩
  · cases h

def an_q97 (N_ : Nat) (S_q65 : TS_q65) : Nat → Option Ann := fun b_ => none
theorem eq_q97 (N_ : Nat) (S_q65 : TS_q65) (neg : Bool) (cont_ : V → List Blk → Bool) : bodyV ⟨Tryz.prog, ofList [(206, (F_q65 S_q65))], isref, N_⟩ (an_q97 N_ S_q65) 185 (shF_q97.args [.bool neg]) [] cont_ = G_q97 N_ S_q65 neg (fun r0 => cont_ (.int .u64 r0) []) := by kernel_rfl
theorem good_q97 (N_ : Nat) (S_q65 : TS_q65) (h_v_binnacleref02_Fmt_put : GoodF Tryz.prog 206 (F_q65 S_q65)) : GoodF Tryz.prog 185 (F_q97 (G_q97 N_ S_q65)) := by
  refine good_fs (cx := ⟨Tryz.prog, ofList [(206, (F_q65 S_q65))], isref, N_⟩) (ofList_cons h_v_binnacleref02_Fmt_put (ofList_nil _)) shF_q97 (sp_q97 (G_q97 N_ S_q65)) (an_q97 N_ S_q65) 0 0 (by kernel_rfl) (fun i_ hi_ => by omega) ?_
  intro a k h
  unfold sp_q97 at h
  split at h
  · exact ⟨[], rfl, rfl, (eq_q97 _ _ _ _).trans h⟩
  · cases h

def an_q94 (N_ : Nat) : Nat → Option Ann := fun b_ => none
theorem eq_q94 (N_ : Nat) (b : Bool) (b_1 : List Int) (cont_ : V → List Blk → Bool) : bodyZ ⟨Tryz.prog, ofList [], isref, N_⟩ (an_q94 N_) 63 (shF_q94.args [.bool b, .ints b_1]) [⟨105, 1, .cells [.bool b, .roi .u32 b_1]⟩] cont_ = G_q94 N_ b b_1 (fun r0 => cont_ (.int .i64 r0) [⟨105, 1, .cells [.bool b, .roi .u32 b_1]⟩]) := by kernel_rfl
theorem good_q94 (N_ : Nat) : GoodF Tryz.prog 63 (F_q94 (G_q94 N_)) := by
  refine good_fsZ (cx := ⟨Tryz.prog, ofList [], isref, N_⟩) (ofList_nil _) shF_q94 (sp_q94 (G_q94 N_)) (an_q94 N_) 0 1 (by kernel_rfl) (fun i_ hi_ => by omega) ?_
  intro a k h
  unfold sp_q94 at h
  split at h
  · exact ⟨[_], rfl, rfl, (eq_q94 _ _ _ _).trans h⟩
  · cases h

def an_q159 (N_ : Nat) (S_q94 : TS_q94) : Nat → Option Ann := fun b_ => none
theorem eq_q159 (N_ : Nat) (S_q94 : TS_q94) (n_0 : Int) (n_1 : Bool) (n_2 : Int) (b : Bool) (b_1 : List Int) (cont_ : V → List Blk → Bool) : bodyV ⟨Tryz.prog, ofList [(63, (F_q94 S_q94))], isref, N_⟩ (an_q159 N_ S_q94) 186 (shF_q159.args [.int n_0, .bool n_1, .int n_2, .bool b, .ints b_1]) [⟨105, 1, .cells [.bool b, .roi .u32 b_1]⟩] cont_ = G_q159 N_ S_q94 n_0 n_1 n_2 b b_1 (fun r0 => cont_ (.bool r0) [⟨105, 1, .cells [.bool b, .roi .u32 b_1]⟩]) := by kernel_rfl
theorem good_q159 (N_ : Nat) (S_q94 : TS_q94) (h_binnacleref00_Int_Sign_p0r : GoodF Tryz.prog 63 (F_q94 S_q94)) : GoodF Tryz.prog 186 (F_q159 (G_q159 N_ S_q94)) := by
  refine good_fs (cx := ⟨Tryz.prog, ofList [(63, (F_q94 S_q94))], isref, N_⟩) (ofList_cons h_binnacleref00_Int_Sign_p0r (ofList_nil _)) shF_q159 (sp_q159 (G_q159 N_ S_q94)) (an_q159 N_ S_q94) 0 1 (by kernel_rfl) (fun i_ hi_ => by omega) ?_
  intro a k h
  unfold sp_q159 at h
  split at h
  · exact ⟨[_], rfl, rfl, (eq_q159 _ _ _ _ _ _ _ _).trans h⟩
  · cases h

def an_q160 (N_ : Nat) (S_q65 : TS_q65) : Nat → Option Ann := fun b_ => none
theorem eq_q160 (N_ : Nat) (S_q65 : TS_q65) (neg : Bool) (cont_ : V → List Blk → Bool) : bodyV ⟨Tryz.prog, ofList [(206, (F_q65 S_q65))], isref, N_⟩ (an_q160 N_ S_q65) 187 (shF_q160.args [.bool neg]) [] cont_ = G_q160 N_ S_q65 neg (fun r0 => cont_ (.int .u64 r0) []) := by kernel_rfl
theorem good_q160 (N_ : Nat) (S_q65 : TS_q65) (h_v_binnacleref02_Fmt_put : GoodF Tryz.prog 206 (F_q65 S_q65)) : GoodF Tryz.prog 187 (F_q160 (G_q160 N_ S_q65)) := by
  refine good_fs (cx := ⟨Tryz.prog, ofList [(206, (F_q65 S_q65))], isref, N_⟩) (ofList_cons h_v_binnacleref02_Fmt_put (ofList_nil _)) shF_q160 (sp_q160 (G_q160 N_ S_q65)) (an_q160 N_ S_q65) 0 0 (by kernel_rfl) (fun i_ hi_ => by omega) ?_
  intro a k h
  unfold sp_q160 at h
  split at h
  · exact ⟨[], rfl, rfl, (eq_q160 _ _ _ _).trans h⟩
  · cases h

def an_q113 (N_ : Nat) : Nat → Option Ann := fun b_ => none
theorem eq_q113 (N_ : Nat) (x : Int) (cont_ : V → List Blk → Bool) : bodyV ⟨Tryz.prog, ofList [], isref, N_⟩ (an_q113 N_) 222 (shF_q113.args [.int x]) [] cont_ = G_q113 N_ x (fun r0 => cont_ (.int .i64 r0) []) := by kernel_rfl
theorem good_q113 (N_ : Nat) : GoodF Tryz.prog 222 (F_q113 (G_q113 N_)) := by
  refine good_fs (cx := ⟨Tryz.prog, ofList [], isref, N_⟩) (ofList_nil _) shF_q113 (sp_q113 (G_q113 N_)) (an_q113 N_) 0 0 (by kernel_rfl) (fun i_ hi_ => by omega) ?_
  intro a k h
  unfold sp_q113 at h
  split at h
  · exact ⟨[], rfl, rfl, (eq_q113 _ _ _).trans h⟩
  · cases h

def an_q4 (N_ : Nat) (S_q113 : TS_q113) : Nat → Option Ann := fun b_ => none
theorem eq_q4 (N_ : Nat) (S_q113 : TS_q113) (b : Bool) (b_1 : List Int) (cont_ : V → List Blk → Bool) : bodyZ ⟨Tryz.prog, ofList [(222, (F_q113 S_q113))], isref, N_⟩ (an_q4 N_ S_q113) 207 (shF_q4.args [.bool b, .ints b_1]) [⟨105, 1, .cells [.bool b, .roi .u32 b_1]⟩] cont_ = G_q4 N_ S_q113 b b_1 (fun r0 => cont_ (.int .i64 r0) [⟨105, 1, .cells [.bool b, .roi .u32 b_1]⟩]) := by kernel_rfl
theorem good_q4 (N_ : Nat) (S_q113 : TS_q113) (h_math_bits_Len32 : GoodF Tryz.prog 222 (F_q113 S_q113)) : GoodF Tryz.prog 207 (F_q4 (G_q4 N_ S_q113)) := by
  refine good_fsZ (cx := ⟨Tryz.prog, ofList [(222, (F_q113 S_q113))], isref, N_⟩) (ofList_cons h_math_bits_Len32 (ofList_nil _)) shF_q4 (sp_q4 (G_q4 N_ S_q113)) (an_q4 N_ S_q113) 0 1 (by kernel_rfl) (fun i_ hi_ => by omega) ?_
  intro a k h
  unfold sp_q4 at h
  split at h
  · exact ⟨[_], rfl, rfl, (eq_q4 _ _ _ _ _).trans h⟩
  · cases h

def an_q117 (N_ : Nat) (S_q20 : TS_q20) : Nat → Option Ann := fun b_ => none
theorem eq_q117 (N_ : Nat) (S_q20 : TS_q20) (neg : Bool) (b : Bool) (b_1 : List Int) (cont_ : V → List Blk → Bool) : bodyZ ⟨Tryz.prog, ofList [(147, (F_q20 S_q20))], isref, N_⟩ (an_q117 N_ S_q20) 113 (shF_q117.args [.bool neg, .bool b, .ints b_1]) [⟨105, 1, .cells [.bool b, .nil]⟩, ⟨127, 1, .ints .u32 b_1⟩] cont_ = G_q117 N_ S_q20 neg b b_1 (fun r0 r1 r2 => cont_ (.ptr 0 0) [⟨105, 1, .cells [.bool r0, .sl 1 r1 r2]⟩, ⟨127, 1, .ints .u32 b_1⟩]) := by kernel_rfl
theorem good_q117 (N_ : Nat) (S_q20 : TS_q20) (h_binnacleref00_cut_w : GoodF Tryz.prog 147 (F_q20 S_q20)) : GoodF Tryz.prog 113 (F_q117 (G_q117 N_ S_q20)) := by
  refine good_fsZ (cx := ⟨Tryz.prog, ofList [(147, (F_q20 S_q20))], isref, N_⟩) (ofList_cons h_binnacleref00_cut_w (ofList_nil _)) shF_q117 (sp_q117 (G_q117 N_ S_q20)) (an_q117 N_ S_q20) 0 2 (by kernel_rfl) (fun i_ hi_ => by omega) ?_
  intro a k h
  unfold sp_q117 at h
  split at h
  · exact ⟨[_, _], rfl, rfl, (eq_q117 _ _ _ _ _ _).trans h⟩
  · cases h

def an_q7 (N_ : Nat) (S_q117 : TS_q117) : Nat → Option Ann := fun b_ => none
theorem eq_q7 (N_ : Nat) (S_q117 : TS_q117) (b : Bool) (b_1 : Bool) (b_2 : List Int) (cont_ : V → List Blk → Bool) : bodyZ ⟨Tryz.prog, ofList [(113, (F_q117 S_q117))], isref, N_⟩ (an_q7 N_ S_q117) 208 (shF_q7.args [.bool b, .bool b_1, .ints b_2]) [⟨105, 1, .cells [.bool b, .nil]⟩, ⟨105, 1, .cells [.bool b_1, .roi .u32 b_2]⟩] cont_ = G_q7 N_ S_q117 b b_1 b_2 (fun r0 r1 => cont_ (.ptr 0 0) [⟨105, 1, .cells [.bool r0, .roi .u32 r1]⟩, ⟨105, 1, .cells [.bool b_1, .roi .u32 b_2]⟩]) := by kernel_rfl
theorem good_q7 (N_ : Nat) (S_q117 : TS_q117) (h_binnacleref00_Int_put_p0w1n : GoodF Tryz.prog 113 (F_q117 S_q117)) : GoodF Tryz.prog 208 (F_q7 (G_q7 N_ S_q117)) := by
  refine good_fsZ (cx := ⟨Tryz.prog, ofList [(113, (F_q117 S_q117))], isref, N_⟩) (ofList_cons h_binnacleref00_Int_put_p0w1n (ofList_nil _)) shF_q7 (sp_q7 (G_q7 N_ S_q117)) (an_q7 N_ S_q117) 0 2 (by kernel_rfl) (fun i_ hi_ => by omega) ?_
  intro a k h
  unfold sp_q7 at h
  split at h
  · exact ⟨[_, _], rfl, rfl, (eq_q7 _ _ _ _ _ _).trans h⟩
  · cases h

def sh_st_binnacleref00_left_0 : StSh := ⟨[.roi .u32, .any, .any, .any, .any, .int .i64, .int .u64, .slw 0, .int .i64, .any, .any, .any, .any, .any, .any, .any, .any, .any, .any, .any, .any, .any, .any, .any, .any, .any, .any, .any, .any, .any, .any, .any, .any, .any, .any, .any, .any, .any, .any, .any, .any, .any, .any, .any, .any, .any, .any, .any, .any, .any, .any, .any, .any, .any, .any, .any, .any, .any], [some (127, 1, .ints .u32)]⟩
def sx0_st_binnacleref00_left_0 : StSh := ⟨[.any, .any, .any, .any, .any, .any, .any, .slw 0, .any, .any, .any, .any, .any, .any, .any, .any, .any, .any, .any, .any, .any, .any, .any, .any, .any, .any, .any, .any, .any, .any, .any, .any, .any, .any, .any, .any, .any, .any, .any, .any, .any, .any, .any, .any, .any, .any, .any, .any, .any, .any, .any, .any, .any, .any, .any, .any, .any, .any], [some (127, 1, .ints .u32)]⟩
def hk_st_binnacleref00_left_0 (N_ : Nat) (S_q20 : TS_q20) : List Atom → K → Bool := fun a_ κ => match a_ with
  | [.ints m_1, .int w, .int s, .int i, .ints out] => iterG N_ (st_z00_left_0 N_ S_q20 m_1 w s (fun r0 => κ.ext 0 (sx0_st_binnacleref00_left_0.build [.ints r0]))) (i, out)
  | _ => false
def an_q131 (N_ : Nat) (S_q20 : TS_q20) : Nat → Option Ann := fun b_ => cond (b_ == 0) (some ⟨⟨[0, 5, 6, 7, 8], [], []⟩, [(0, ⟨[7], [], []⟩)], some ⟨[4], [], []⟩, some (mkHooks [(sh_st_binnacleref00_left_0, hk_st_binnacleref00_left_0 N_ S_q20)])⟩) (none)
theorem eq_st_binnacleref00_left_0 (N_ : Nat) (S_q20 : TS_q20) (κ : K) (m_1 : List Int) (w : Int) (s : Int) (i : Int) (out : List Int) : iter N_ (fun s k => codeV ⟨Tryz.prog, ofList [(147, (F_q20 S_q20))], isref, N_⟩ 0 (an_q131 N_ S_q20) (lp Tryz.prog 183 0).2 (lp Tryz.prog 183 0).1 s (roundK Tryz.prog 0 ((an_q131 N_ S_q20) (lp Tryz.prog 183 0).1) κ k)) (sh_st_binnacleref00_left_0.build [.ints m_1, .int w, .int s, .int i, .ints out]) = iterG N_ (st_z00_left_0 N_ S_q20 m_1 w s (fun r0 => κ.ext 0 (sx0_st_binnacleref00_left_0.build [.ints r0]))) (i, out) :=
  iter_tr (fun (v_ : Int × List Int) => sh_st_binnacleref00_left_0.build [.ints m_1, .int w, .int s, .int v_.1, .ints v_.2]) (fun v_ K_ => by obtain ⟨i, out⟩ := v_; kernel_rfl) N_ (i, out)
theorem hk1_st_binnacleref00_left_0 (N_ : Nat) (S_q20 : TS_q20) : HookFor ⟨Tryz.prog, ofList [(147, (F_q20 S_q20))], isref, N_⟩ 0 (an_q131 N_ S_q20) (lp Tryz.prog 183 0) (sh_st_binnacleref00_left_0, hk_st_binnacleref00_left_0 N_ S_q20) := by
  intro a κ h
  simp only at h
  unfold hk_st_binnacleref00_left_0 at h
  split at h
  · exact (eq_st_binnacleref00_left_0 _ _ _ _ _ _ _ _).trans h
  · cases h
theorem ho_binnacleref00_left_0 (N_ : Nat) (S_q20 : TS_q20) : HookOk ⟨Tryz.prog, ofList [(147, (F_q20 S_q20))], isref, N_⟩ 0 (an_q131 N_ S_q20) (lp Tryz.prog 183 0) :=
  hooks_ok [(sh_st_binnacleref00_left_0, hk_st_binnacleref00_left_0 N_ S_q20)] (by kernel_rfl) ⟨hk1_st_binnacleref00_left_0 _ _, trivial⟩
theorem eq_q131 (N_ : Nat) (S_q20 : TS_q20) (m : List Int) (n : Int) (cont_ : V → List Blk → Bool) : bodyZ ⟨Tryz.prog, ofList [(147, (F_q20 S_q20))], isref, N_⟩ (an_q131 N_ S_q20) 183 (shF_q131.args [.ints m, .int n]) [] cont_ = G_q131 N_ S_q20 m n (fun r0 => cont_ (.roi .u32 r0) []) := by kernel_rfl
theorem good_q131 (N_ : Nat) (S_q20 : TS_q20) (h_binnacleref00_cut_w : GoodF Tryz.prog 147 (F_q20 S_q20)) : GoodF Tryz.prog 183 (F_q131 (G_q131 N_ S_q20)) := by
  refine good_fsZ (cx := ⟨Tryz.prog, ofList [(147, (F_q20 S_q20))], isref, N_⟩) (ofList_cons h_binnacleref00_cut_w (ofList_nil _)) shF_q131 (sp_q131 (G_q131 N_ S_q20)) (an_q131 N_ S_q20) 1 0 (by kernel_rfl) (fun i_ hi_ => by
    match i_, hi_ with
    | 0, _ => exact ho_binnacleref00_left_0 _ _
    | (q + 1), h => omega) ?_
  intro a k h
  unfold sp_q131 at h
  split at h
  · exact ⟨[], rfl, rfl, (eq_q131 _ _ _ _ _).trans h⟩
  · cases h

def an_q10 (N_ : Nat) (S_q131 : TS_q131) (S_q64 : TS_q64) : Nat → Option Ann := fun b_ => none
theorem eq_q10 (N_ : Nat) (S_q131 : TS_q131) (S_q64 : TS_q64) (n : Int) (b : Bool) (b_1 : List Int) (cont_ : V → List Blk → Bool) : bodyZ ⟨Tryz.prog, ofList [(183, (F_q131 S_q131)), (113, (F_q64 S_q64))], isref, N_⟩ (an_q10 N_ S_q131 S_q64) 146 (shF_q10.args [.int n, .bool b, .ints b_1]) [⟨105, 1, .cells [.bool b, .roi .u32 b_1]⟩] cont_ = G_q10 N_ S_q131 S_q64 n b b_1 (fun r0 r1 => cont_ (.ptr 0 0) [⟨105, 1, .cells [.bool r0, .roi .u32 r1]⟩]) := by kernel_rfl
theorem good_q10 (N_ : Nat) (S_q131 : TS_q131) (S_q64 : TS_q64) (h_binnacleref00_left : GoodF Tryz.prog 183 (F_q131 S_q131)) (h_binnacleref00_Int_put_p0r : GoodF Tryz.prog 113 (F_q64 S_q64)) : GoodF Tryz.prog 146 (F_q10 (G_q10 N_ S_q131 S_q64)) := by
  refine good_fsZ (cx := ⟨Tryz.prog, ofList [(183, (F_q131 S_q131)), (113, (F_q64 S_q64))], isref, N_⟩) (ofList_cons h_binnacleref00_left (ofList_cons h_binnacleref00_Int_put_p0r (ofList_nil _))) shF_q10 (sp_q10 (G_q10 N_ S_q131 S_q64)) (an_q10 N_ S_q131 S_q64) 0 1 (by kernel_rfl) (fun i_ hi_ => by omega) ?_
  intro a k h
  unfold sp_q10 at h
  split at h
  · exact ⟨[_], rfl, rfl, (eq_q10 _ _ _ _ _ _ _).trans h⟩
  · cases h

def sh_st_binnacleref00_right_0 : StSh := ⟨[.roi .u32, .any, .any, .any, .any, .int .i64, .int .u64, .slw 0, .int .i64, .any, .any, .any, .any, .any, .any, .any, .any, .any, .any, .any, .any, .any, .any, .any, .any, .any, .any, .any, .any, .any, .any, .any, .any, .any, .any, .any, .any, .any, .any, .any, .any, .any, .any, .any, .any, .any, .any, .any, .any, .any, .any, .any, .any, .any, .any, .any, .any, .any, .any, .any, .any, .any, .any, .any], [some (127, 1, .ints .u32)]⟩
def sx0_st_binnacleref00_right_0 : StSh := ⟨[.any, .any, .any, .any, .any, .any, .any, .slw 0, .any, .any, .any, .any, .any, .any, .any, .any, .any, .any, .any, .any, .any, .any, .any, .any, .any, .any, .any, .any, .any, .any, .any, .any, .any, .any, .any, .any, .any, .any, .any, .any, .any, .any, .any, .any, .any, .any, .any, .any, .any, .any, .any, .any, .any, .any, .any, .any, .any, .any, .any, .any, .any, .any, .any, .any], [some (127, 1, .ints .u32)]⟩
def hk_st_binnacleref00_right_0 (N_ : Nat) (S_q20 : TS_q20) : List Atom → K → Bool := fun a_ κ => match a_ with
  | [.ints m_1, .int w, .int s, .int i, .ints out] => iterG N_ (st_z00_right_0 N_ S_q20 m_1 w s (fun r0 => κ.ext 0 (sx0_st_binnacleref00_right_0.build [.ints r0]))) (i, out)
  | _ => false
def an_q115 (N_ : Nat) (S_q20 : TS_q20) : Nat → Option Ann := fun b_ => cond (b_ == 0) (some ⟨⟨[0, 5, 6, 7, 8], [], []⟩, [(0, ⟨[7], [], []⟩)], some ⟨[4], [], []⟩, some (mkHooks [(sh_st_binnacleref00_right_0, hk_st_binnacleref00_right_0 N_ S_q20)])⟩) (none)
theorem eq_st_binnacleref00_right_0 (N_ : Nat) (S_q20 : TS_q20) (κ : K) (m_1 : List Int) (w : Int) (s : Int) (i : Int) (out : List Int) : iter N_ (fun s k => codeV ⟨Tryz.prog, ofList [(147, (F_q20 S_q20))], isref, N_⟩ 0 (an_q115 N_ S_q20) (lp Tryz.prog 226 0).2 (lp Tryz.prog 226 0).1 s (roundK Tryz.prog 0 ((an_q115 N_ S_q20) (lp Tryz.prog 226 0).1) κ k)) (sh_st_binnacleref00_right_0.build [.ints m_1, .int w, .int s, .int i, .ints out]) = iterG N_ (st_z00_right_0 N_ S_q20 m_1 w s (fun r0 => κ.ext 0 (sx0_st_binnacleref00_right_0.build [.ints r0]))) (i, out) :=
  iter_tr (fun (v_ : Int × List Int) => sh_st_binnacleref00_right_0.build [.ints m_1, .int w, .int s, .int v_.1, .ints v_.2]) (fun v_ K_ => by obtain ⟨i, out⟩ := v_; kernel_rfl) N_ (i, out)
theorem hk1_st_binnacleref00_right_0 (N_ : Nat) (S_q20 : TS_q20) : HookFor ⟨Tryz.prog, ofList [(147, (F_q20 S_q20))], isref, N_⟩ 0 (an_q115 N_ S_q20) (lp Tryz.prog 226 0) (sh_st_binnacleref00_right_0, hk_st_binnacleref00_right_0 N_ S_q20) := by
  intro a κ h
  simp only at h
  unfold hk_st_binnacleref00_right_0 at h
  split at h
  · exact (eq_st_binnacleref00_right_0 _ _ _ _ _ _ _ _).trans h
  · cases h
theorem ho_binnacleref00_right_0 (N_ : Nat) (S_q20 : TS_q20) : HookOk ⟨Tryz.prog, ofList [(147, (F_q20 S_q20))], isref, N_⟩ 0 (an_q115 N_ S_q20) (lp Tryz.prog 226 0) :=
  hooks_ok [(sh_st_binnacleref00_right_0, hk_st_binnacleref00_right_0 N_ S_q20)] (by kernel_rfl) ⟨hk1_st_binnacleref00_right_0 _ _, trivial⟩
theorem eq_q115 (N_ : Nat) (S_q20 : TS_q20) (m : List Int) (n : Int) (cont_ : V → List Blk → Bool) : bodyZ ⟨Tryz.prog, ofList [(147, (F_q20 S_q20))], isref, N_⟩ (an_q115 N_ S_q20) 226 (shF_q115.args [.ints m, .int n]) [] cont_ = G_q115 N_ S_q20 m n (fun r0 => cont_ (.roi .u32 r0) []) := by kernel_rfl
theorem good_q115 (N_ : Nat) (S_q20 : TS_q20) (h_binnacleref00_cut_w : GoodF Tryz.prog 147 (F_q20 S_q20)) : GoodF Tryz.prog 226 (F_q115 (G_q115 N_ S_q20)) := by
  refine good_fsZ (cx := ⟨Tryz.prog, ofList [(147, (F_q20 S_q20))], isref, N_⟩) (ofList_cons h_binnacleref00_cut_w (ofList_nil _)) shF_q115 (sp_q115 (G_q115 N_ S_q20)) (an_q115 N_ S_q20) 1 0 (by kernel_rfl) (fun i_ hi_ => by
    match i_, hi_ with
    | 0, _ => exact ho_binnacleref00_right_0 _ _
    | (q + 1), h => omega) ?_
  intro a k h
  unfold sp_q115 at h
  split at h
  · exact ⟨[], rfl, rfl, (eq_q115 _ _ _ _ _).trans h⟩
  · cases h

def sh_st_binnacleref00_minus_0 : StSh := ⟨[.roi .u32, .roi .u32, .any, .any, .any, .slw 0, .int .u64, .int .i64, .any, .any, .any, .any, .any, .any, .any, .any, .any, .any, .any, .any, .any, .any, .any, .any, .any, .any, .any, .any, .any, .any, .any, .any, .any, .any, .any, .any, .any, .any, .any, .any, .any, .any, .any, .any, .any, .any, .any, .any, .any, .any, .any, .any, .any, .any, .any, .any], [some (127, 1, .ints .u32)]⟩
def sx0_st_binnacleref00_minus_0 : StSh := ⟨[.any, .any, .any, .any, .any, .slw 0, .any, .any, .any, .any, .any, .any, .any, .any, .any, .any, .any, .any, .any, .any, .any, .any, .any, .any, .any, .any, .any, .any, .any, .any, .any, .any, .any, .any, .any, .any, .any, .any, .any, .any, .any, .any, .any, .any, .any, .any, .any, .any, .any, .any, .any, .any, .any, .any, .any, .any], [some (127, 1, .ints .u32)]⟩
def hk_st_binnacleref00_minus_0 (N_ : Nat) (S_q20 : TS_q20) : List Atom → K → Bool := fun a_ κ => match a_ with
  | [.ints a_1, .ints b_1, .int borrow, .int i, .ints out] => iterG N_ (st_z00_minus_0 N_ S_q20 a_1 b_1 (fun r0 => κ.ext 0 (sx0_st_binnacleref00_minus_0.build [.ints r0]))) (borrow, i, out)
  | _ => false
def an_q31 (N_ : Nat) (S_q20 : TS_q20) : Nat → Option Ann := fun b_ => cond (b_ == 0) (some ⟨⟨[0, 1, 5, 6, 7], [], []⟩, [(0, ⟨[5], [], []⟩)], some ⟨[4], [], []⟩, some (mkHooks [(sh_st_binnacleref00_minus_0, hk_st_binnacleref00_minus_0 N_ S_q20)])⟩) (none)
theorem eq_st_binnacleref00_minus_0 (N_ : Nat) (S_q20 : TS_q20) (κ : K) (a_1 : List Int) (b_1 : List Int) (borrow : Int) (i : Int) (out : List Int) : iter N_ (fun s k => codeV ⟨Tryz.prog, ofList [(147, (F_q20 S_q20))], isref, N_⟩ 0 (an_q31 N_ S_q20) (lp Tryz.prog 182 0).2 (lp Tryz.prog 182 0).1 s (roundK Tryz.prog 0 ((an_q31 N_ S_q20) (lp Tryz.prog 182 0).1) κ k)) (sh_st_binnacleref00_minus_0.build [.ints a_1, .ints b_1, .int borrow, .int i, .ints out]) = iterG N_ (st_z00_minus_0 N_ S_q20 a_1 b_1 (fun r0 => κ.ext 0 (sx0_st_binnacleref00_minus_0.build [.ints r0]))) (borrow, i, out) :=
  iter_tr (fun (v_ : Int × Int × List Int) => sh_st_binnacleref00_minus_0.build [.ints a_1, .ints b_1, .int v_.1, .int v_.2.1, .ints v_.2.2]) (fun v_ K_ => by obtain ⟨borrow, i, out⟩ := v_; kernel_rfl) N_ (borrow, i, out)
theorem hk1_st_binnacleref00_minus_0 (N_ : Nat) (S_q20 : TS_q20) : HookFor ⟨Tryz.prog, ofList [(147, (F_q20 S_q20))], isref, N_⟩ 0 (an_q31 N_ S_q20) (lp Tryz.prog 182 0) (sh_st_binnacleref00_minus_0, hk_st_binnacleref00_minus_0 N_ S_q20) := by
  intro a κ h
  simp only at h
  unfold hk_st_binnacleref00_minus_0 at h
  split at h
  · exact (eq_st_binnacleref00_minus_0 _ _ _ _ _ _ _ _).trans h
  · cases h
theorem ho_binnacleref00_minus_0 (N_ : Nat) (S_q20 : TS_q20) : HookOk ⟨Tryz.prog, ofList [(147, (F_q20 S_q20))], isref, N_⟩ 0 (an_q31 N_ S_q20) (lp Tryz.prog 182 0) :=
  hooks_ok [(sh_st_binnacleref00_minus_0, hk_st_binnacleref00_minus_0 N_ S_q20)] (by kernel_rfl) ⟨hk1_st_binnacleref00_minus_0 _ _, trivial⟩
theorem eq_q31 (N_ : Nat) (S_q20 : TS_q20) (a : List Int) (b : List Int) (cont_ : V → List Blk → Bool) : bodyZ ⟨Tryz.prog, ofList [(147, (F_q20 S_q20))], isref, N_⟩ (an_q31 N_ S_q20) 182 (shF_q31.args [.ints a, .ints b]) [] cont_ = G_q31 N_ S_q20 a b (fun r0 => cont_ (.roi .u32 r0) []) := by kernel_rfl
theorem good_q31 (N_ : Nat) (S_q20 : TS_q20) (h_binnacleref00_cut_w : GoodF Tryz.prog 147 (F_q20 S_q20)) : GoodF Tryz.prog 182 (F_q31 (G_q31 N_ S_q20)) := by
  refine good_fsZ (cx := ⟨Tryz.prog, ofList [(147, (F_q20 S_q20))], isref, N_⟩) (ofList_cons h_binnacleref00_cut_w (ofList_nil _)) shF_q31 (sp_q31 (G_q31 N_ S_q20)) (an_q31 N_ S_q20) 1 0 (by kernel_rfl) (fun i_ hi_ => by
    match i_, hi_ with
    | 0, _ => exact ho_binnacleref00_minus_0 _ _
    | (q + 1), h => omega) ?_
  intro a k h
  unfold sp_q31 at h
  split at h
  · exact ⟨[], rfl, rfl, (eq_q31 _ _ _ _ _).trans h⟩
  · cases h

def sh_st_binnacleref00_plus_0 : StSh := ⟨[.roi .u32, .roi .u32, .any, .any, .any, .any, .slw 0, .int .u64, .int .i64, .any, .any, .any, .any, .any, .any, .any, .any, .any, .any, .any, .any, .any, .any, .any, .any, .any, .any, .any, .any, .any, .any, .any, .any, .any, .any, .any, .any, .any, .any, .any, .any, .any, .any, .any, .any, .any, .any, .any, .any, .any, .any, .any, .any, .any, .any, .any, .any, .any, .any, .any, .any], [some (127, 1, .ints .u32)]⟩
def sx0_st_binnacleref00_plus_0 : StSh := ⟨[.roi .u32, .any, .any, .any, .any, .any, .slw 0, .int .u64, .any, .any, .any, .any, .any, .any, .any, .any, .any, .any, .any, .any, .any, .any, .any, .any, .any, .any, .any, .any, .any, .any, .any, .any, .any, .any, .any, .any, .any, .any, .any, .any, .any, .any, .any, .any, .any, .any, .any, .any, .any, .any, .any, .any, .any, .any, .any, .any, .any, .any, .any, .any, .any], [some (127, 1, .ints .u32)]⟩
def hk_st_binnacleref00_plus_0 (N_ : Nat) (S_q20 : TS_q20) : List Atom → K → Bool := fun a_ κ => match a_ with
  | [.ints a_1, .ints b_1, .int carry, .int i, .ints out] => iterG N_ (st_z00_plus_0 N_ S_q20 a_1 b_1 (fun r1 r2 => κ.ext 0 (sx0_st_binnacleref00_plus_0.build [.ints a_1, .int r1, .ints r2]))) (carry, i, out)
  | _ => false
def an_q95 (N_ : Nat) (S_q20 : TS_q20) : Nat → Option Ann := fun b_ => cond (b_ == 0) (some ⟨⟨[0, 1, 6, 7, 8], [], []⟩, [(0, ⟨[0, 6, 7], [], []⟩)], some ⟨[4], [], []⟩, some (mkHooks [(sh_st_binnacleref00_plus_0, hk_st_binnacleref00_plus_0 N_ S_q20)])⟩) (none)
theorem eq_st_binnacleref00_plus_0 (N_ : Nat) (S_q20 : TS_q20) (κ : K) (a_1 : List Int) (b_1 : List Int) (carry : Int) (i : Int) (out : List Int) : iter N_ (fun s k => codeV ⟨Tryz.prog, ofList [(147, (F_q20 S_q20))], isref, N_⟩ 0 (an_q95 N_ S_q20) (lp Tryz.prog 180 0).2 (lp Tryz.prog 180 0).1 s (roundK Tryz.prog 0 ((an_q95 N_ S_q20) (lp Tryz.prog 180 0).1) κ k)) (sh_st_binnacleref00_plus_0.build [.ints a_1, .ints b_1, .int carry, .int i, .ints out]) = iterG N_ (st_z00_plus_0 N_ S_q20 a_1 b_1 (fun r1 r2 => κ.ext 0 (sx0_st_binnacleref00_plus_0.build [.ints a_1, .int r1, .ints r2]))) (carry, i, out) :=
  iter_tr (fun (v_ : Int × Int × List Int) => sh_st_binnacleref00_plus_0.build [.ints a_1, .ints b_1, .int v_.1, .int v_.2.1, .ints v_.2.2]) (fun v_ K_ => by obtain ⟨carry, i, out⟩ := v_; kernel_rfl) N_ (carry, i, out)
theorem hk1_st_binnacleref00_plus_0 (N_ : Nat) (S_q20 : TS_q20) : HookFor ⟨Tryz.prog, ofList [(147, (F_q20 S_q20))], isref, N_⟩ 0 (an_q95 N_ S_q20) (lp Tryz.prog 180 0) (sh_st_binnacleref00_plus_0, hk_st_binnacleref00_plus_0 N_ S_q20) := by
  intro a κ h
  simp only at h
  unfold hk_st_binnacleref00_plus_0 at h
  split at h
  · exact (eq_st_binnacleref00_plus_0 _ _ _ _ _ _ _ _).trans h
  · cases h
theorem ho_binnacleref00_plus_0 (N_ : Nat) (S_q20 : TS_q20) : HookOk ⟨Tryz.prog, ofList [(147, (F_q20 S_q20))], isref, N_⟩ 0 (an_q95 N_ S_q20) (lp Tryz.prog 180 0) :=
  hooks_ok [(sh_st_binnacleref00_plus_0, hk_st_binnacleref00_plus_0 N_ S_q20)] (by kernel_rfl) ⟨hk1_st_binnacleref00_plus_0 _ _, trivial⟩
theorem eq_q95 (N_ : Nat) (S_q20 : TS_q20) (a : List Int) (b : List Int) (cont_ : V → List Blk → Bool) : bodyZ ⟨Tryz.prog, ofList [(147, (F_q20 S_q20))], isref, N_⟩ (an_q95 N_ S_q20) 180 (shF_q95.args [.ints a, .ints b]) [] cont_ = G_q95 N_ S_q20 a b (fun r0 => cont_ (.roi .u32 r0) []) := by kernel_rfl
theorem good_q95 (N_ : Nat) (S_q20 : TS_q20) (h_binnacleref00_cut_w : GoodF Tryz.prog 147 (F_q20 S_q20)) : GoodF Tryz.prog 180 (F_q95 (G_q95 N_ S_q20)) := by
  refine good_fsZ (cx := ⟨Tryz.prog, ofList [(147, (F_q20 S_q20))], isref, N_⟩) (ofList_cons h_binnacleref00_cut_w (ofList_nil _)) shF_q95 (sp_q95 (G_q95 N_ S_q20)) (an_q95 N_ S_q20) 1 0 (by kernel_rfl) (fun i_ hi_ => by
    match i_, hi_ with
    | 0, _ => exact ho_binnacleref00_plus_0 _ _
    | (q + 1), h => omega) ?_
  intro a k h
  unfold sp_q95 at h
  split at h
  · exact ⟨[], rfl, rfl, (eq_q95 _ _ _ _ _).trans h⟩
  · cases h

def an_q104 (N_ : Nat) (S_q115 : TS_q115) (S_q52 : TS_q52) (S_q31 : TS_q31) (S_q95 : TS_q95) : Nat → Option Ann := fun b_ => none
theorem eq_q104 (N_ : Nat) (S_q115 : TS_q115) (S_q52 : TS_q52) (S_q31 : TS_q31) (S_q95 : TS_q95) (n : Int) (b : Bool) (b_1 : Bool) (b_2 : List Int) (cont_ : V → List Blk → Bool) : bodyZ ⟨Tryz.prog, ofList [(226, (F_q115 S_q115)), (113, (F_q52 S_q52)), (182, (F_q31 S_q31)), (180, (F_q95 S_q95))], isref, N_⟩ (an_q104 N_ S_q115 S_q52 S_q31 S_q95) 211 (shF_q104.args [.int n, .bool b, .bool b_1, .ints b_2]) [⟨105, 1, .cells [.bool b, .nil]⟩, ⟨105, 1, .cells [.bool b_1, .roi .u32 b_2]⟩] cont_ = G_q104 N_ S_q115 S_q52 S_q31 S_q95 n b b_1 b_2 (fun r0 r1 => cont_ (.ptr 0 0) [⟨105, 1, .cells [.bool r0, .roi .u32 r1]⟩, ⟨105, 1, .cells [.bool b_1, .roi .u32 b_2]⟩]) := by kernel_rfl
theorem good_q104 (N_ : Nat) (S_q115 : TS_q115) (S_q52 : TS_q52) (S_q31 : TS_q31) (S_q95 : TS_q95) (h_binnacleref00_right : GoodF Tryz.prog 226 (F_q115 S_q115)) (h_binnacleref00_Int_put_p0n : GoodF Tryz.prog 113 (F_q52 S_q52)) (h_binnacleref00_minus : GoodF Tryz.prog 182 (F_q31 S_q31)) (h_binnacleref00_plus : GoodF Tryz.prog 180 (F_q95 S_q95)) : GoodF Tryz.prog 211 (F_q104 (G_q104 N_ S_q115 S_q52 S_q31 S_q95)) := by
  refine good_fsZ (cx := ⟨Tryz.prog, ofList [(226, (F_q115 S_q115)), (113, (F_q52 S_q52)), (182, (F_q31 S_q31)), (180, (F_q95 S_q95))], isref, N_⟩) (ofList_cons h_binnacleref00_right (ofList_cons h_binnacleref00_Int_put_p0n (ofList_cons h_binnacleref00_minus (ofList_cons h_binnacleref00_plus (ofList_nil _))))) shF_q104 (sp_q104 (G_q104 N_ S_q115 S_q52 S_q31 S_q95)) (an_q104 N_ S_q115 S_q52 S_q31 S_q95) 0 2 (by kernel_rfl) (fun i_ hi_ => by omega) ?_
  intro a k h
  unfold sp_q104 at h
  split at h
  · exact ⟨[_, _], rfl, rfl, (eq_q104 _ _ _ _ _ _ _ _ _ _).trans h⟩
  · cases h

end Go.Proofs.YtccocdgimamdhaaGreatDoor
