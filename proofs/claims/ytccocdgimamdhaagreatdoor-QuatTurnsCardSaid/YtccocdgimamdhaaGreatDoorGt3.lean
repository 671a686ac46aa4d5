/-
  THE TIES: each printed meaning is what the program does (written by program).
  Conditions: none.
-/
import Derived.Test.YtccocdgimamdhaaGreatDoorGs
namespace Go.Proofs.YtccocdgimamdhaaGreatDoor
open Go Go.Mach Go.Proofs
set_option linter.unusedVariables false
set_option maxRecDepth 50000

def an_q144 (N_ : Nat) (S_q12 : TS_q12) (S_q30 : TS_q30) (S_q94 : TS_q94) (S_q96 : TS_q96) (S_q43 : TS_q43) : Nat -> Option Ann := fun b_ => none
def ls_q231 (d_ : List V) (u_ : List (Option Blk)) (q_0 : Fl) (q_1 : Fl) (q_2 : Fl) (q_3 : Fl) (b7 : List Int) (off_6 : Bool) (off_7 : Int) : St := ⟨(dqs d_ 0 7 [.ptr 8 0, (dq d_ 7), (dq d_ 8), (dq d_ 9), (dq d_ 10), (dq d_ 11), (dq d_ 12), (dq d_ 13), (dq d_ 14), (dq d_ 15), (dq d_ 16), (dq d_ 17), (dq d_ 18), (dq d_ 19), (dq d_ 20), (dq d_ 21), (dq d_ 22), (dq d_ 23), (dq d_ 24), (dq d_ 25), (dq d_ 26), (dq d_ 27), (dq d_ 28), (dq d_ 29), (dq d_ 30), (dq d_ 31), (dq d_ 32), (dq d_ 33), (dq d_ 34), (dq d_ 35), (dq d_ 36), (dq d_ 37), (dq d_ 38), (dq d_ 39), (dq d_ 40), (dq d_ 41), (dq d_ 42), (dq d_ 43), (dq d_ 44), (dq d_ 45)]), [(u_.getD 0 none), (u_.getD 1 none), (u_.getD 2 none), (u_.getD 3 none), (u_.getD 4 none), (u_.getD 5 none), (u_.getD 6 none), some ⟨127, 1, .ints .u32 b7⟩, some ⟨124, 1, .cells [.bool off_6, .slw 7, .int .i64 off_7]⟩]⟩
def ls_q230 (d_ : List V) (u_ : List (Option Blk)) (q_0 : Fl) (q_1 : Fl) (q_2 : Fl) (q_3 : Fl) (off_4 : Bool) (off_5 : Int) : St := ⟨(dqs d_ 0 7 [.ptr 7 0, (dq d_ 7), (dq d_ 8), (dq d_ 9), (dq d_ 10), (dq d_ 11), (dq d_ 12), (dq d_ 13), (dq d_ 14), (dq d_ 15), (dq d_ 16), (dq d_ 17), (dq d_ 18), (dq d_ 19), (dq d_ 20), (dq d_ 21), (dq d_ 22), (dq d_ 23), (dq d_ 24), (dq d_ 25), (dq d_ 26), (dq d_ 27), (dq d_ 28), (dq d_ 29), (dq d_ 30), (dq d_ 31), (dq d_ 32), (dq d_ 33), (dq d_ 34), (dq d_ 35), (dq d_ 36), (dq d_ 37), (dq d_ 38), (dq d_ 39), (dq d_ 40), (dq d_ 41), (dq d_ 42), (dq d_ 43), (dq d_ 44), (dq d_ 45)]), [(u_.getD 0 none), (u_.getD 1 none), (u_.getD 2 none), (u_.getD 3 none), (u_.getD 4 none), (u_.getD 5 none), (u_.getD 6 none), some ⟨124, 1, .cells [.bool off_4, .nil, .int .i64 off_5]⟩]⟩
def ls_q215 (d_ : List V) (u_ : List (Option Blk)) (q_0 : Fl) (q_1 : Fl) (q_2 : Fl) (q_3 : Fl) (b3 : List Int) (n_2 : Bool) (n_3 : Int) : St := ⟨(dqs d_ 0 4 [.ptr 4 0, (dq d_ 4), (dq d_ 5), (dq d_ 6), (dq d_ 7), (dq d_ 8), (dq d_ 9), (dq d_ 10), (dq d_ 11), (dq d_ 12), (dq d_ 13), (dq d_ 14), (dq d_ 15), (dq d_ 16), (dq d_ 17), (dq d_ 18), (dq d_ 19), (dq d_ 20), (dq d_ 21), (dq d_ 22), (dq d_ 23), (dq d_ 24), (dq d_ 25), (dq d_ 26), (dq d_ 27), (dq d_ 28), (dq d_ 29), (dq d_ 30), (dq d_ 31), (dq d_ 32), (dq d_ 33), (dq d_ 34), (dq d_ 35), (dq d_ 36), (dq d_ 37), (dq d_ 38), (dq d_ 39), (dq d_ 40), (dq d_ 41), (dq d_ 42), (dq d_ 43), (dq d_ 44), (dq d_ 45)]), [(u_.getD 0 none), (u_.getD 1 none), (u_.getD 2 none), some ⟨127, 1, .ints .u32 b3⟩, some ⟨124, 1, .cells [.bool n_2, .slw 3, .int .i64 n_3]⟩]⟩
def ls_q229 (d_ : List V) (u_ : List (Option Blk)) (q_0 : Fl) (q_1 : Fl) (q_2 : Fl) (q_3 : Fl) (b6 : List Int) (off_2 : Bool) (off_3 : Int) : St := ⟨(dqs d_ 0 7 [.ptr 7 0, (dq d_ 7), (dq d_ 8), (dq d_ 9), (dq d_ 10), (dq d_ 11), (dq d_ 12), (dq d_ 13), (dq d_ 14), (dq d_ 15), (dq d_ 16), (dq d_ 17), (dq d_ 18), (dq d_ 19), (dq d_ 20), (dq d_ 21), (dq d_ 22), (dq d_ 23), (dq d_ 24), (dq d_ 25), (dq d_ 26), (dq d_ 27), (dq d_ 28), (dq d_ 29), (dq d_ 30), (dq d_ 31), (dq d_ 32), (dq d_ 33), (dq d_ 34), (dq d_ 35), (dq d_ 36), (dq d_ 37), (dq d_ 38), (dq d_ 39), (dq d_ 40), (dq d_ 41), (dq d_ 42), (dq d_ 43), (dq d_ 44), (dq d_ 45)]), [(u_.getD 0 none), (u_.getD 1 none), (u_.getD 2 none), (u_.getD 3 none), (u_.getD 4 none), (u_.getD 5 none), some ⟨127, 1, .ints .u32 b6⟩, some ⟨124, 1, .cells [.bool off_2, .slw 6, .int .i64 off_3]⟩]⟩
def ls_q228 (d_ : List V) (u_ : List (Option Blk)) (q_0 : Fl) (q_1 : Fl) (q_2 : Fl) (q_3 : Fl) (off : Bool) (off_1 : Int) : St := ⟨(dqs d_ 0 7 [.ptr 6 0, (dq d_ 7), (dq d_ 8), (dq d_ 9), (dq d_ 10), (dq d_ 11), (dq d_ 12), (dq d_ 13), (dq d_ 14), (dq d_ 15), (dq d_ 16), (dq d_ 17), (dq d_ 18), (dq d_ 19), (dq d_ 20), (dq d_ 21), (dq d_ 22), (dq d_ 23), (dq d_ 24), (dq d_ 25), (dq d_ 26), (dq d_ 27), (dq d_ 28), (dq d_ 29), (dq d_ 30), (dq d_ 31), (dq d_ 32), (dq d_ 33), (dq d_ 34), (dq d_ 35), (dq d_ 36), (dq d_ 37), (dq d_ 38), (dq d_ 39), (dq d_ 40), (dq d_ 41), (dq d_ 42), (dq d_ 43), (dq d_ 44), (dq d_ 45)]), [(u_.getD 0 none), (u_.getD 1 none), (u_.getD 2 none), (u_.getD 3 none), (u_.getD 4 none), (u_.getD 5 none), some ⟨124, 1, .cells [.bool off, .nil, .int .i64 off_1]⟩]⟩
def ls_q214 (d_ : List V) (u_ : List (Option Blk)) (q_0 : Fl) (q_1 : Fl) (q_2 : Fl) (q_3 : Fl) (n : Bool) (n_1 : Int) : St := ⟨(dqs d_ 0 4 [.ptr 3 0, (dq d_ 4), (dq d_ 5), (dq d_ 6), (dq d_ 7), (dq d_ 8), (dq d_ 9), (dq d_ 10), (dq d_ 11), (dq d_ 12), (dq d_ 13), (dq d_ 14), (dq d_ 15), (dq d_ 16), (dq d_ 17), (dq d_ 18), (dq d_ 19), (dq d_ 20), (dq d_ 21), (dq d_ 22), (dq d_ 23), (dq d_ 24), (dq d_ 25), (dq d_ 26), (dq d_ 27), (dq d_ 28), (dq d_ 29), (dq d_ 30), (dq d_ 31), (dq d_ 32), (dq d_ 33), (dq d_ 34), (dq d_ 35), (dq d_ 36), (dq d_ 37), (dq d_ 38), (dq d_ 39), (dq d_ 40), (dq d_ 41), (dq d_ 42), (dq d_ 43), (dq d_ 44), (dq d_ 45)]), [(u_.getD 0 none), (u_.getD 1 none), (u_.getD 2 none), some ⟨124, 1, .cells [.bool n, .nil, .int .i64 n_1]⟩]⟩
theorem jn_q231 (N_ : Nat) (S_q12 : TS_q12) (S_q30 : TS_q30) (S_q94 : TS_q94) (S_q96 : TS_q96) (S_q43 : TS_q43) (d_ : List V) (u_ : List (Option Blk)) (q_0 : Fl) (q_1 : Fl) (q_2 : Fl) (q_3 : Fl) (b7 : List Int) (off_6 : Bool) (off_7 : Int) (c_ : V -> List Blk -> Bool) : codesV ⟨Pg, ofList [(56, (F_q12 S_q12)), (68, (F_q30 S_q30)), (79, (F_q94 S_q94)), (80, (F_q96 S_q96)), (81, (F_q43 S_q43))], isref, N_⟩ 0 (an_q144 N_ S_q12 S_q30 S_q94 S_q96 S_q43) ((cds Pg 21).drop 11) 0 (ls_q231 d_ u_ q_0 q_1 q_2 q_3 b7 off_6 off_7) (finV Pg 21 0 c_) = J_q231 N_ S_q12 S_q30 S_q94 S_q96 S_q43 q_0 q_1 q_2 q_3 b7 off_6 off_7 (fun r0 => c_ (.bool r0) []) := by kernel_rfl
theorem jn_q230 (N_ : Nat) (S_q12 : TS_q12) (S_q30 : TS_q30) (S_q94 : TS_q94) (S_q96 : TS_q96) (S_q43 : TS_q43) (d_ : List V) (u_ : List (Option Blk)) (q_0 : Fl) (q_1 : Fl) (q_2 : Fl) (q_3 : Fl) (off_4 : Bool) (off_5 : Int) (c_ : V -> List Blk -> Bool) : codesV ⟨Pg, ofList [(56, (F_q12 S_q12)), (68, (F_q30 S_q30)), (79, (F_q94 S_q94)), (80, (F_q96 S_q96)), (81, (F_q43 S_q43))], isref, N_⟩ 0 (an_q144 N_ S_q12 S_q30 S_q94 S_q96 S_q43) ((cds Pg 21).drop 11) 0 (ls_q230 d_ u_ q_0 q_1 q_2 q_3 off_4 off_5) (finV Pg 21 0 c_) = J_q230 N_ S_q12 S_q30 S_q94 S_q96 S_q43 q_0 q_1 q_2 q_3 off_4 off_5 (fun r0 => c_ (.bool r0) []) := by kernel_rfl
theorem hd_q215 (N_ : Nat) (S_q12 : TS_q12) (S_q30 : TS_q30) (S_q94 : TS_q94) (S_q96 : TS_q96) (S_q43 : TS_q43) (d_ : List V) (u_ : List (Option Blk)) (q_0 : Fl) (q_1 : Fl) (q_2 : Fl) (q_3 : Fl) (b3 : List Int) (n_2 : Bool) (n_3 : Int) (c_ : V -> List Blk -> Bool) (κn_ : St -> Bool) : codesV ⟨Pg, ofList [(56, (F_q12 S_q12)), (68, (F_q30 S_q30)), (79, (F_q94 S_q94)), (80, (F_q96 S_q96)), (81, (F_q43 S_q43))], isref, N_⟩ 0 (an_q144 N_ S_q12 S_q30 S_q94 S_q96 S_q43) (sg Pg 21 7 4) 0 (ls_q215 d_ u_ q_0 q_1 q_2 q_3 b3 n_2 n_3) { (finV Pg 21 0 c_) with nrm := κn_ } = (S_q96 n_2 b3 n_3 false [1] 0 (fun cr_5 nr_12 nr_13 => (cond (nr_13 != 0) (c_ (.bool false) []) (κn_ (ls_q230 (dqs d_ 0 4 [.ptr 4 0, .int .i64 nr_13, .ptr 6 0, (dq d_ 7), (dq d_ 8), (dq d_ 9), (dq d_ 10), (dq d_ 11), (dq d_ 12), (dq d_ 13), (dq d_ 14), (dq d_ 15), (dq d_ 16), (dq d_ 17), (dq d_ 18), (dq d_ 19), (dq d_ 20), (dq d_ 21), .slw 5, .agg [.bool false, .slw 5, .int .i64 0], .tup [.agg [.bool cr_5, .nil, .int .i64 nr_12], .int .i64 nr_13], .agg [.bool n_2, .slw 3, .int .i64 n_3], .agg [.bool false, .slw 5, .int .i64 0], .tup [.agg [.bool cr_5, .nil, .int .i64 nr_12], .int .i64 nr_13], .agg [.bool cr_5, .nil, .int .i64 nr_12], .int .i64 nr_13, .int .i64 nr_13, .bool false, (dq d_ 32), (dq d_ 33), (dq d_ 34), (dq d_ 35), (dq d_ 36), (dq d_ 37), (dq d_ 38), (dq d_ 39), (dq d_ 40), (dq d_ 41), (dq d_ 42), (dq d_ 43), (dq d_ 44), (dq d_ 45)]) [(u_.getD 0 none), (u_.getD 1 none), (u_.getD 2 none), some ⟨127, 1, .ints .u32 b3⟩, some ⟨124, 1, .cells [.bool n_2, .slw 3, .int .i64 n_3]⟩, some ⟨127, 1, .ints .u32 [1]⟩, some ⟨124, 1, .cells [.bool false, .slw 5, .int .i64 0]⟩] q_0 q_1 q_2 q_3 cr_5 nr_12)))) (fun cr_6 nr_14 nr_15 nsr_2 => (cond (nr_15 != 0) (c_ (.bool false) []) (κn_ (ls_q231 (dqs d_ 0 4 [.ptr 4 0, .int .i64 nr_15, .ptr 6 0, (dq d_ 7), (dq d_ 8), (dq d_ 9), (dq d_ 10), (dq d_ 11), (dq d_ 12), (dq d_ 13), (dq d_ 14), (dq d_ 15), (dq d_ 16), (dq d_ 17), (dq d_ 18), (dq d_ 19), (dq d_ 20), (dq d_ 21), .slw 5, .agg [.bool false, .slw 5, .int .i64 0], .tup [.agg [.bool cr_6, .slw 7, .int .i64 nr_14], .int .i64 nr_15], .agg [.bool n_2, .slw 3, .int .i64 n_3], .agg [.bool false, .slw 5, .int .i64 0], .tup [.agg [.bool cr_6, .slw 7, .int .i64 nr_14], .int .i64 nr_15], .agg [.bool cr_6, .slw 7, .int .i64 nr_14], .int .i64 nr_15, .int .i64 nr_15, .bool false, (dq d_ 32), (dq d_ 33), (dq d_ 34), (dq d_ 35), (dq d_ 36), (dq d_ 37), (dq d_ 38), (dq d_ 39), (dq d_ 40), (dq d_ 41), (dq d_ 42), (dq d_ 43), (dq d_ 44), (dq d_ 45)]) [(u_.getD 0 none), (u_.getD 1 none), (u_.getD 2 none), some ⟨127, 1, .ints .u32 b3⟩, some ⟨124, 1, .cells [.bool n_2, .slw 3, .int .i64 n_3]⟩, some ⟨127, 1, .ints .u32 [1]⟩, some ⟨124, 1, .cells [.bool false, .slw 5, .int .i64 0]⟩] q_0 q_1 q_2 q_3 nsr_2 cr_6 nr_14))))) := by kernel_rfl
theorem jn_q215 (N_ : Nat) (S_q12 : TS_q12) (S_q30 : TS_q30) (S_q94 : TS_q94) (S_q96 : TS_q96) (S_q43 : TS_q43) (d_ : List V) (u_ : List (Option Blk)) (q_0 : Fl) (q_1 : Fl) (q_2 : Fl) (q_3 : Fl) (b3 : List Int) (n_2 : Bool) (n_3 : Int) (c_ : V -> List Blk -> Bool) : codesV ⟨Pg, ofList [(56, (F_q12 S_q12)), (68, (F_q30 S_q30)), (79, (F_q94 S_q94)), (80, (F_q96 S_q96)), (81, (F_q43 S_q43))], isref, N_⟩ 0 (an_q144 N_ S_q12 S_q30 S_q94 S_q96 S_q43) ((cds Pg 21).drop 7) 0 (ls_q215 d_ u_ q_0 q_1 q_2 q_3 b3 n_2 n_3) (finV Pg 21 0 c_) = J_q215 N_ S_q12 S_q30 S_q94 S_q96 S_q43 q_0 q_1 q_2 q_3 b3 n_2 n_3 (fun r0 => c_ (.bool r0) []) := by
  rw [codesV_cut 7 4 11 rfl]
  refine (hd_q215 N_ S_q12 S_q30 S_q94 S_q96 S_q43 d_ u_ q_0 q_1 q_2 q_3 b3 n_2 n_3 c_ _).trans ?_
  simp only [jn_q230, jn_q231]
  kernel_rfl
theorem jn_q229 (N_ : Nat) (S_q12 : TS_q12) (S_q30 : TS_q30) (S_q94 : TS_q94) (S_q96 : TS_q96) (S_q43 : TS_q43) (d_ : List V) (u_ : List (Option Blk)) (q_0 : Fl) (q_1 : Fl) (q_2 : Fl) (q_3 : Fl) (b6 : List Int) (off_2 : Bool) (off_3 : Int) (c_ : V -> List Blk -> Bool) : codesV ⟨Pg, ofList [(56, (F_q12 S_q12)), (68, (F_q30 S_q30)), (79, (F_q94 S_q94)), (80, (F_q96 S_q96)), (81, (F_q43 S_q43))], isref, N_⟩ 0 (an_q144 N_ S_q12 S_q30 S_q94 S_q96 S_q43) ((cds Pg 21).drop 11) 0 (ls_q229 d_ u_ q_0 q_1 q_2 q_3 b6 off_2 off_3) (finV Pg 21 0 c_) = J_q229 N_ S_q12 S_q30 S_q94 S_q96 S_q43 q_0 q_1 q_2 q_3 b6 off_2 off_3 (fun r0 => c_ (.bool r0) []) := by kernel_rfl
theorem jn_q228 (N_ : Nat) (S_q12 : TS_q12) (S_q30 : TS_q30) (S_q94 : TS_q94) (S_q96 : TS_q96) (S_q43 : TS_q43) (d_ : List V) (u_ : List (Option Blk)) (q_0 : Fl) (q_1 : Fl) (q_2 : Fl) (q_3 : Fl) (off : Bool) (off_1 : Int) (c_ : V -> List Blk -> Bool) : codesV ⟨Pg, ofList [(56, (F_q12 S_q12)), (68, (F_q30 S_q30)), (79, (F_q94 S_q94)), (80, (F_q96 S_q96)), (81, (F_q43 S_q43))], isref, N_⟩ 0 (an_q144 N_ S_q12 S_q30 S_q94 S_q96 S_q43) ((cds Pg 21).drop 11) 0 (ls_q228 d_ u_ q_0 q_1 q_2 q_3 off off_1) (finV Pg 21 0 c_) = J_q228 N_ S_q12 S_q30 S_q94 S_q96 S_q43 q_0 q_1 q_2 q_3 off off_1 (fun r0 => c_ (.bool r0) []) := by kernel_rfl
theorem hd_q214 (N_ : Nat) (S_q12 : TS_q12) (S_q30 : TS_q30) (S_q94 : TS_q94) (S_q96 : TS_q96) (S_q43 : TS_q43) (d_ : List V) (u_ : List (Option Blk)) (q_0 : Fl) (q_1 : Fl) (q_2 : Fl) (q_3 : Fl) (n : Bool) (n_1 : Int) (c_ : V -> List Blk -> Bool) (κn_ : St -> Bool) : codesV ⟨Pg, ofList [(56, (F_q12 S_q12)), (68, (F_q30 S_q30)), (79, (F_q94 S_q94)), (80, (F_q96 S_q96)), (81, (F_q43 S_q43))], isref, N_⟩ 0 (an_q144 N_ S_q12 S_q30 S_q94 S_q96 S_q43) (sg Pg 21 7 4) 0 (ls_q214 d_ u_ q_0 q_1 q_2 q_3 n n_1) { (finV Pg 21 0 c_) with nrm := κn_ } = (S_q96 n [] n_1 false [1] 0 (fun cr_3 nr_4 nr_5 => (cond (nr_5 != 0) (c_ (.bool false) []) (κn_ (ls_q228 (dqs d_ 0 4 [.ptr 3 0, .int .i64 nr_5, .ptr 5 0, (dq d_ 7), (dq d_ 8), (dq d_ 9), (dq d_ 10), (dq d_ 11), (dq d_ 12), (dq d_ 13), (dq d_ 14), (dq d_ 15), (dq d_ 16), (dq d_ 17), (dq d_ 18), (dq d_ 19), (dq d_ 20), (dq d_ 21), .slw 4, .agg [.bool false, .slw 4, .int .i64 0], .tup [.agg [.bool cr_3, .nil, .int .i64 nr_4], .int .i64 nr_5], .agg [.bool n, .nil, .int .i64 n_1], .agg [.bool false, .slw 4, .int .i64 0], .tup [.agg [.bool cr_3, .nil, .int .i64 nr_4], .int .i64 nr_5], .agg [.bool cr_3, .nil, .int .i64 nr_4], .int .i64 nr_5, .int .i64 nr_5, .bool false, (dq d_ 32), (dq d_ 33), (dq d_ 34), (dq d_ 35), (dq d_ 36), (dq d_ 37), (dq d_ 38), (dq d_ 39), (dq d_ 40), (dq d_ 41), (dq d_ 42), (dq d_ 43), (dq d_ 44), (dq d_ 45)]) [(u_.getD 0 none), (u_.getD 1 none), (u_.getD 2 none), some ⟨124, 1, .cells [.bool n, .nil, .int .i64 n_1]⟩, some ⟨127, 1, .ints .u32 [1]⟩, some ⟨124, 1, .cells [.bool false, .slw 4, .int .i64 0]⟩] q_0 q_1 q_2 q_3 cr_3 nr_4)))) (fun cr_4 nr_6 nr_7 nsr_1 => (cond (nr_7 != 0) (c_ (.bool false) []) (κn_ (ls_q229 (dqs d_ 0 4 [.ptr 3 0, .int .i64 nr_7, .ptr 5 0, (dq d_ 7), (dq d_ 8), (dq d_ 9), (dq d_ 10), (dq d_ 11), (dq d_ 12), (dq d_ 13), (dq d_ 14), (dq d_ 15), (dq d_ 16), (dq d_ 17), (dq d_ 18), (dq d_ 19), (dq d_ 20), (dq d_ 21), .slw 4, .agg [.bool false, .slw 4, .int .i64 0], .tup [.agg [.bool cr_4, .slw 6, .int .i64 nr_6], .int .i64 nr_7], .agg [.bool n, .nil, .int .i64 n_1], .agg [.bool false, .slw 4, .int .i64 0], .tup [.agg [.bool cr_4, .slw 6, .int .i64 nr_6], .int .i64 nr_7], .agg [.bool cr_4, .slw 6, .int .i64 nr_6], .int .i64 nr_7, .int .i64 nr_7, .bool false, (dq d_ 32), (dq d_ 33), (dq d_ 34), (dq d_ 35), (dq d_ 36), (dq d_ 37), (dq d_ 38), (dq d_ 39), (dq d_ 40), (dq d_ 41), (dq d_ 42), (dq d_ 43), (dq d_ 44), (dq d_ 45)]) [(u_.getD 0 none), (u_.getD 1 none), (u_.getD 2 none), some ⟨124, 1, .cells [.bool n, .nil, .int .i64 n_1]⟩, some ⟨127, 1, .ints .u32 [1]⟩, some ⟨124, 1, .cells [.bool false, .slw 4, .int .i64 0]⟩] q_0 q_1 q_2 q_3 nsr_1 cr_4 nr_6))))) := by kernel_rfl
theorem jn_q214 (N_ : Nat) (S_q12 : TS_q12) (S_q30 : TS_q30) (S_q94 : TS_q94) (S_q96 : TS_q96) (S_q43 : TS_q43) (d_ : List V) (u_ : List (Option Blk)) (q_0 : Fl) (q_1 : Fl) (q_2 : Fl) (q_3 : Fl) (n : Bool) (n_1 : Int) (c_ : V -> List Blk -> Bool) : codesV ⟨Pg, ofList [(56, (F_q12 S_q12)), (68, (F_q30 S_q30)), (79, (F_q94 S_q94)), (80, (F_q96 S_q96)), (81, (F_q43 S_q43))], isref, N_⟩ 0 (an_q144 N_ S_q12 S_q30 S_q94 S_q96 S_q43) ((cds Pg 21).drop 7) 0 (ls_q214 d_ u_ q_0 q_1 q_2 q_3 n n_1) (finV Pg 21 0 c_) = J_q214 N_ S_q12 S_q30 S_q94 S_q96 S_q43 q_0 q_1 q_2 q_3 n n_1 (fun r0 => c_ (.bool r0) []) := by
  rw [codesV_cut 7 4 11 rfl]
  refine (hd_q214 N_ S_q12 S_q30 S_q94 S_q96 S_q43 d_ u_ q_0 q_1 q_2 q_3 n n_1 c_ _).trans ?_
  simp only [jn_q228, jn_q229]
  kernel_rfl
theorem hd_quat_Good_w (N_ : Nat) (S_q12 : TS_q12) (S_q30 : TS_q30) (S_q94 : TS_q94) (S_q96 : TS_q96) (S_q43 : TS_q43) (q_0 : Fl) (q_1 : Fl) (q_2 : Fl) (q_3 : Fl) (c_ : V -> List Blk -> Bool) (κn_ : St -> Bool) : codesV ⟨Pg, ofList [(56, (F_q12 S_q12)), (68, (F_q30 S_q30)), (79, (F_q94 S_q94)), (80, (F_q96 S_q96)), (81, (F_q43 S_q43))], isref, N_⟩ 0 (an_q144 N_ S_q12 S_q30 S_q94 S_q96 S_q43) (sg Pg 21 0 7) 0 (st0 Pg 21 (shF_q144.args [.fl q_0, .fl q_1, .fl q_2, .fl q_3]) []) { (finV Pg 21 0 c_) with nrm := κn_ } = (S_q12 q_0 q_1 q_2 q_3 (fun cr => (cond (!cr) (c_ (.bool false) []) (S_q30 q_0 q_1 q_2 q_3 (S_q94 [q_0, q_1, q_2, q_3] [q_0, q_1, q_2, q_3] (fun cr_1 nr nr_1 => (cond (nr_1 != 0) (c_ (.bool false) []) (κn_ (ls_q214 [.agg [.flt q_0, .flt q_1, .flt q_2, .flt q_3], .ptr 0 0, .bool false, .ptr 2 0, .int .i64 nr_1, .any, .any, .any, .agg [.flt q_0, .flt q_1, .flt q_2, .flt q_3], .slw 1, .bool cr, .bool false, .agg [.flt q_0, .flt q_1, .flt q_2, .flt q_3], .agg [.flt q_0, .flt q_1, .flt q_2, .flt q_3], .tup [.agg [.bool cr_1, .nil, .int .i64 nr], .int .i64 nr_1], .sl 2 0 (4 - 0), .sl 2 0 (4 - 0), .tup [.agg [.bool cr_1, .nil, .int .i64 nr], .int .i64 nr_1], .agg [.bool cr_1, .nil, .int .i64 nr], .int .i64 nr_1, .int .i64 nr_1, .bool false, .any, .any, .any, .any, .any, .any, .any, .any, .any, .any, .any, .any, .any, .any, .any, .any, .any, .any, .any, .any, .any, .any, .any, .any] [some ⟨26, 1, .cells [.flt q_0, .flt q_1, .flt q_2, .flt q_3]⟩, some ⟨26, 4, .cells [.flt q_0, .flt q_1, .flt q_2, .flt q_3]⟩, some ⟨113, 1, .flts [q_0, q_1, q_2, q_3]⟩] q_0 q_1 q_2 q_3 cr_1 nr)))) (fun cr_2 nr_2 nr_3 nsr => (cond (nr_3 != 0) (c_ (.bool false) []) (κn_ (ls_q215 [.agg [.flt q_0, .flt q_1, .flt q_2, .flt q_3], .ptr 0 0, .bool false, .ptr 2 0, .int .i64 nr_3, .any, .any, .any, .agg [.flt q_0, .flt q_1, .flt q_2, .flt q_3], .slw 1, .bool cr, .bool false, .agg [.flt q_0, .flt q_1, .flt q_2, .flt q_3], .agg [.flt q_0, .flt q_1, .flt q_2, .flt q_3], .tup [.agg [.bool cr_2, .slw 3, .int .i64 nr_2], .int .i64 nr_3], .sl 2 0 (4 - 0), .sl 2 0 (4 - 0), .tup [.agg [.bool cr_2, .slw 3, .int .i64 nr_2], .int .i64 nr_3], .agg [.bool cr_2, .slw 3, .int .i64 nr_2], .int .i64 nr_3, .int .i64 nr_3, .bool false, .any, .any, .any, .any, .any, .any, .any, .any, .any, .any, .any, .any, .any, .any, .any, .any, .any, .any, .any, .any, .any, .any, .any, .any] [some ⟨26, 1, .cells [.flt q_0, .flt q_1, .flt q_2, .flt q_3]⟩, some ⟨26, 4, .cells [.flt q_0, .flt q_1, .flt q_2, .flt q_3]⟩, some ⟨113, 1, .flts [q_0, q_1, q_2, q_3]⟩] q_0 q_1 q_2 q_3 nsr cr_2 nr_2))))))))) := by kernel_rfl
theorem jn_quat_Good_w (N_ : Nat) (S_q12 : TS_q12) (S_q30 : TS_q30) (S_q94 : TS_q94) (S_q96 : TS_q96) (S_q43 : TS_q43) (q_0 : Fl) (q_1 : Fl) (q_2 : Fl) (q_3 : Fl) (c_ : V -> List Blk -> Bool) : codesV ⟨Pg, ofList [(56, (F_q12 S_q12)), (68, (F_q30 S_q30)), (79, (F_q94 S_q94)), (80, (F_q96 S_q96)), (81, (F_q43 S_q43))], isref, N_⟩ 0 (an_q144 N_ S_q12 S_q30 S_q94 S_q96 S_q43) ((cds Pg 21).drop 0) 0 (st0 Pg 21 (shF_q144.args [.fl q_0, .fl q_1, .fl q_2, .fl q_3]) []) (finV Pg 21 0 c_) = G_q144 N_ S_q12 S_q30 S_q94 S_q96 S_q43 q_0 q_1 q_2 q_3 (fun r0 => c_ (.bool r0) []) := by
  rw [codesV_cut 0 7 7 rfl]
  refine (hd_quat_Good_w N_ S_q12 S_q30 S_q94 S_q96 S_q43 q_0 q_1 q_2 q_3 c_ _).trans ?_
  simp only [jn_q214, jn_q215]
  kernel_rfl
theorem eq_q144 (N_ : Nat) (S_q12 : TS_q12) (S_q30 : TS_q30) (S_q94 : TS_q94) (S_q96 : TS_q96) (S_q43 : TS_q43) (q_0 : Fl) (q_1 : Fl) (q_2 : Fl) (q_3 : Fl) (c_ : V -> List Blk -> Bool) : bodyV ⟨Pg, ofList [(56, (F_q12 S_q12)), (68, (F_q30 S_q30)), (79, (F_q94 S_q94)), (80, (F_q96 S_q96)), (81, (F_q43 S_q43))], isref, N_⟩ (an_q144 N_ S_q12 S_q30 S_q94 S_q96 S_q43) 21 (shF_q144.args [.fl q_0, .fl q_1, .fl q_2, .fl q_3]) [] c_ = G_q144 N_ S_q12 S_q30 S_q94 S_q96 S_q43 q_0 q_1 q_2 q_3 (fun r0 => c_ (.bool r0) []) :=
  (bodyV_codes (by kernel_rfl)).trans (jn_quat_Good_w N_ S_q12 S_q30 S_q94 S_q96 S_q43 q_0 q_1 q_2 q_3 c_)
theorem good_q144 (N_ : Nat) (S_q12 : TS_q12) (S_q30 : TS_q30) (S_q94 : TS_q94) (S_q96 : TS_q96) (S_q43 : TS_q43) (h_q12 : GoodF Pg 56 (F_q12 S_q12)) (h_q30 : GoodF Pg 68 (F_q30 S_q30)) (h_q94 : GoodF Pg 79 (F_q94 S_q94)) (h_q96 : GoodF Pg 80 (F_q96 S_q96)) (h_q43 : GoodF Pg 81 (F_q43 S_q43)) : GoodF Pg 21 (F_q144 (G_q144 N_ S_q12 S_q30 S_q94 S_q96 S_q43)) := by
  refine good_fs (cx := ⟨Pg, ofList [(56, (F_q12 S_q12)), (68, (F_q30 S_q30)), (79, (F_q94 S_q94)), (80, (F_q96 S_q96)), (81, (F_q43 S_q43))], isref, N_⟩) (ofList_cons h_q12 (ofList_cons h_q30 (ofList_cons h_q94 (ofList_cons h_q96 (ofList_cons h_q43 (ofList_nil _)))))) shF_q144 (sp_q144 (G_q144 N_ S_q12 S_q30 S_q94 S_q96 S_q43)) (an_q144 N_ S_q12 S_q30 S_q94 S_q96 S_q43) 0 0 (by kernel_rfl) (fun i_ hi_ => by omega) ?_
  intro a k h
  unfold sp_q144 at h
  split at h
  · exact ⟨[], rfl, rfl, (eq_q144 _ _ _ _ _ _ _ _ _ _ _).trans h⟩
  · cases h

def an_q88 (N_ : Nat) : Nat -> Option Ann := fun b_ => none
theorem eq_q88 (N_ : Nat) (c_ : V -> List Blk -> Bool) : bodyV ⟨Pg, ofList [], isref, N_⟩ (an_q88 N_) 55 (shF_q88.args []) [] c_ = G_q88 N_ (fun r0 r1 r2 r3 => c_ (.agg [.flt r0, .flt r1, .flt r2, .flt r3]) []) := by kernel_rfl
theorem good_q88 (N_ : Nat) : GoodF Pg 55 (F_q88 (G_q88 N_)) := by
  refine good_fs (cx := ⟨Pg, ofList [], isref, N_⟩) (ofList_nil _) shF_q88 (sp_q88 (G_q88 N_)) (an_q88 N_) 0 0 (by kernel_rfl) (fun i_ hi_ => by omega) ?_
  intro a k h
  unfold sp_q88 at h
  split at h
  · exact ⟨[], rfl, rfl, (eq_q88 _ _).trans h⟩
  · cases h

def an_q51 (N_ : Nat) (S_q63 : TS_q63) (S_q115 : TS_q115) (S_q180 : TS_q180) (S_q144 : TS_q144) (S_q88 : TS_q88) : Nat -> Option Ann := fun b_ => none
theorem eq_q51 (N_ : Nat) (S_q63 : TS_q63) (S_q115 : TS_q115) (S_q180 : TS_q180) (S_q144 : TS_q144) (S_q88 : TS_q88) (c_ : V -> List Blk -> Bool) : bodyV ⟨Pg, ofList [(18, (F_q63 S_q63)), (44, (F_q115 S_q115)), (10, (F_q180 S_q180)), (21, (F_q144 S_q144)), (55, (F_q88 S_q88))], isref, N_⟩ (an_q51 N_ S_q63 S_q115 S_q180 S_q144 S_q88) 8 (shF_q51.args []) [] c_ = G_q51 N_ S_q63 S_q115 S_q180 S_q144 S_q88 (fun r0 => c_ (.bool r0) []) := by kernel_rfl
theorem good_q51 (N_ : Nat) (S_q63 : TS_q63) (S_q115 : TS_q115) (S_q180 : TS_q180) (S_q144 : TS_q144) (S_q88 : TS_q88) (h_q63 : GoodF Pg 18 (F_q63 S_q63)) (h_q115 : GoodF Pg 44 (F_q115 S_q115)) (h_q180 : GoodF Pg 10 (F_q180 S_q180)) (h_q144 : GoodF Pg 21 (F_q144 S_q144)) (h_q88 : GoodF Pg 55 (F_q88 S_q88)) : GoodF Pg 8 (F_q51 (G_q51 N_ S_q63 S_q115 S_q180 S_q144 S_q88)) := by
  refine good_fs (cx := ⟨Pg, ofList [(18, (F_q63 S_q63)), (44, (F_q115 S_q115)), (10, (F_q180 S_q180)), (21, (F_q144 S_q144)), (55, (F_q88 S_q88))], isref, N_⟩) (ofList_cons h_q63 (ofList_cons h_q115 (ofList_cons h_q180 (ofList_cons h_q144 (ofList_cons h_q88 (ofList_nil _)))))) shF_q51 (sp_q51 (G_q51 N_ S_q63 S_q115 S_q180 S_q144 S_q88)) (an_q51 N_ S_q63 S_q115 S_q180 S_q144 S_q88) 0 0 (by kernel_rfl) (fun i_ hi_ => by omega) ?_
  intro a k h
  unfold sp_q51 at h
  split at h
  · exact ⟨[], rfl, rfl, (eq_q51 _ _ _ _ _ _ _).trans h⟩
  · cases h

def an_q132 (N_ : Nat) (S_q13 : TS_q13) (S_q49 : TS_q49) (S_q121 : TS_q121) : Nat -> Option Ann := fun b_ => none
theorem eq_q132 (N_ : Nat) (S_q13 : TS_q13) (S_q49 : TS_q49) (S_q121 : TS_q121) (a_0 : Fl) (a_1 : Fl) (a_2 : Fl) (b_0 : Fl) (b_1 : Fl) (b_2 : Fl) (c_ : V -> List Blk -> Bool) : bodyV ⟨Pg, ofList [(86, (F_q13 S_q13)), (104, (F_q49 S_q49)), (105, (F_q121 S_q121))], isref, N_⟩ (an_q132 N_ S_q13 S_q49 S_q121) 47 (shF_q132.args [.fl a_0, .fl a_1, .fl a_2, .fl b_0, .fl b_1, .fl b_2]) [] c_ = G_q132 N_ S_q13 S_q49 S_q121 a_0 a_1 a_2 b_0 b_1 b_2 (fun r0 r1 r2 r3 => c_ (.tup [.agg [.flt r0, .flt r1, .flt r2], .int .i64 r3]) []) := by kernel_rfl
theorem good_q132 (N_ : Nat) (S_q13 : TS_q13) (S_q49 : TS_q49) (S_q121 : TS_q121) (h_q13 : GoodF Pg 86 (F_q13 S_q13)) (h_q49 : GoodF Pg 104 (F_q49 S_q49)) (h_q121 : GoodF Pg 105 (F_q121 S_q121)) : GoodF Pg 47 (F_q132 (G_q132 N_ S_q13 S_q49 S_q121)) := by
  refine good_fs (cx := ⟨Pg, ofList [(86, (F_q13 S_q13)), (104, (F_q49 S_q49)), (105, (F_q121 S_q121))], isref, N_⟩) (ofList_cons h_q13 (ofList_cons h_q49 (ofList_cons h_q121 (ofList_nil _)))) shF_q132 (sp_q132 (G_q132 N_ S_q13 S_q49 S_q121)) (an_q132 N_ S_q13 S_q49 S_q121) 0 0 (by kernel_rfl) (fun i_ hi_ => by omega) ?_
  intro a k h
  unfold sp_q132 at h
  split at h
  · exact ⟨[], rfl, rfl, (eq_q132 _ _ _ _ _ _ _ _ _ _ _).trans h⟩
  · cases h

def an_q141 (N_ : Nat) (S_q14 : TS_q14) (S_q23 : TS_q23) (S_q66 : TS_q66) (S_q71 : TS_q71) : Nat -> Option Ann := fun b_ => none
theorem eq_q141 (N_ : Nat) (S_q14 : TS_q14) (S_q23 : TS_q23) (S_q66 : TS_q66) (S_q71 : TS_q71) (a_0 : Fl) (a_1 : Fl) (a_2 : Fl) (b_0 : Fl) (b_1 : Fl) (b_2 : Fl) (c_ : V -> List Blk -> Bool) : bodyV ⟨Pg, ofList [(106, (F_q14 S_q14)), (74, (F_q23 S_q23)), (107, (F_q66 S_q66)), (108, (F_q71 S_q71))], isref, N_⟩ (an_q141 N_ S_q14 S_q23 S_q66 S_q71) 48 (shF_q141.args [.fl a_0, .fl a_1, .fl a_2, .fl b_0, .fl b_1, .fl b_2]) [] c_ = G_q141 N_ S_q14 S_q23 S_q66 S_q71 a_0 a_1 a_2 b_0 b_1 b_2 (fun r0 r1 r2 r3 => c_ (.tup [.agg [.flt r0, .flt r1, .flt r2], .int .i64 r3]) []) := by kernel_rfl
theorem good_q141 (N_ : Nat) (S_q14 : TS_q14) (S_q23 : TS_q23) (S_q66 : TS_q66) (S_q71 : TS_q71) (h_q14 : GoodF Pg 106 (F_q14 S_q14)) (h_q23 : GoodF Pg 74 (F_q23 S_q23)) (h_q66 : GoodF Pg 107 (F_q66 S_q66)) (h_q71 : GoodF Pg 108 (F_q71 S_q71)) : GoodF Pg 48 (F_q141 (G_q141 N_ S_q14 S_q23 S_q66 S_q71)) := by
  refine good_fs (cx := ⟨Pg, ofList [(106, (F_q14 S_q14)), (74, (F_q23 S_q23)), (107, (F_q66 S_q66)), (108, (F_q71 S_q71))], isref, N_⟩) (ofList_cons h_q14 (ofList_cons h_q23 (ofList_cons h_q66 (ofList_cons h_q71 (ofList_nil _))))) shF_q141 (sp_q141 (G_q141 N_ S_q14 S_q23 S_q66 S_q71)) (an_q141 N_ S_q14 S_q23 S_q66 S_q71) 0 0 (by kernel_rfl) (fun i_ hi_ => by omega) ?_
  intro a k h
  unfold sp_q141 at h
  split at h
  · exact ⟨[], rfl, rfl, (eq_q141 _ _ _ _ _ _ _ _ _ _ _ _).trans h⟩
  · cases h

def an_q133 (N_ : Nat) (S_q12 : TS_q12) (S_q13 : TS_q13) (S_q121 : TS_q121) : Nat -> Option Ann := fun b_ => none
theorem eq_q133 (N_ : Nat) (S_q12 : TS_q12) (S_q13 : TS_q13) (S_q121 : TS_q121) (q_0 : Fl) (q_1 : Fl) (q_2 : Fl) (q_3 : Fl) (c_ : V -> List Blk -> Bool) : bodyV ⟨Pg, ofList [(56, (F_q12 S_q12)), (86, (F_q13 S_q13)), (105, (F_q121 S_q121))], isref, N_⟩ (an_q133 N_ S_q12 S_q13 S_q121) 49 (shF_q133.args [.fl q_0, .fl q_1, .fl q_2, .fl q_3]) [] c_ = G_q133 N_ S_q12 S_q13 S_q121 q_0 q_1 q_2 q_3 (fun r0 r1 r2 r3 => c_ (.tup [.agg [.flt r0, .flt r1, .flt r2], .int .i64 r3]) []) := by kernel_rfl
theorem good_q133 (N_ : Nat) (S_q12 : TS_q12) (S_q13 : TS_q13) (S_q121 : TS_q121) (h_q12 : GoodF Pg 56 (F_q12 S_q12)) (h_q13 : GoodF Pg 86 (F_q13 S_q13)) (h_q121 : GoodF Pg 105 (F_q121 S_q121)) : GoodF Pg 49 (F_q133 (G_q133 N_ S_q12 S_q13 S_q121)) := by
  refine good_fs (cx := ⟨Pg, ofList [(56, (F_q12 S_q12)), (86, (F_q13 S_q13)), (105, (F_q121 S_q121))], isref, N_⟩) (ofList_cons h_q12 (ofList_cons h_q13 (ofList_cons h_q121 (ofList_nil _)))) shF_q133 (sp_q133 (G_q133 N_ S_q12 S_q13 S_q121)) (an_q133 N_ S_q12 S_q13 S_q121) 0 0 (by kernel_rfl) (fun i_ hi_ => by omega) ?_
  intro a k h
  unfold sp_q133 at h
  split at h
  · exact ⟨[], rfl, rfl, (eq_q133 _ _ _ _ _ _ _ _ _).trans h⟩
  · cases h

def an_q36 (N_ : Nat) : Nat -> Option Ann := fun b_ => none
theorem eq_q36 (N_ : Nat) (ok : Bool) (c_ : V -> List Blk -> Bool) : bodyV ⟨Pg, ofList [], isref, (N_ + 24)⟩ (an_q36 (N_ + 24)) 74 (shF_q36.args [.bool ok]) [] c_ = G_q36 (N_ + 24) ok (fun r0 => c_ (.int .i64 r0) []) := by kernel_rfl
theorem good_q36 (N_ : Nat) : GoodF Pg 74 (F_q36 (G_q36 (N_ + 24))) := by
  refine good_fs (cx := ⟨Pg, ofList [], isref, (N_ + 24)⟩) (ofList_nil _) shF_q36 (sp_q36 (G_q36 (N_ + 24))) (an_q36 (N_ + 24)) 1 0 (by kernel_rfl) (fun i_ hi_ => by
    match i_, hi_ with
    | 0, _ => exact (fun hk e => by rw [show hookOf ((an_q36 (N_ + 24)) (lp Pg 74 0).1) = none from by kernel_rfl] at e; cases e)
    | (q + 1), h => omega) ?_
  intro a k h
  unfold sp_q36 at h
  split at h
  · exact ⟨[], rfl, rfl, (eq_q36 _ _ _).trans h⟩
  · cases h

def an_q142 (N_ : Nat) (S_q87 : TS_q87) (S_q36 : TS_q36) (S_q71 : TS_q71) : Nat -> Option Ann := fun b_ => none
theorem eq_q142 (N_ : Nat) (S_q87 : TS_q87) (S_q36 : TS_q36) (S_q71 : TS_q71) (q_0 : Fl) (q_1 : Fl) (q_2 : Fl) (q_3 : Fl) (c_ : V -> List Blk -> Bool) : bodyV ⟨Pg, ofList [(75, (F_q87 S_q87)), (74, (F_q36 S_q36)), (108, (F_q71 S_q71))], isref, N_⟩ (an_q142 N_ S_q87 S_q36 S_q71) 50 (shF_q142.args [.fl q_0, .fl q_1, .fl q_2, .fl q_3]) [] c_ = G_q142 N_ S_q87 S_q36 S_q71 q_0 q_1 q_2 q_3 (fun r0 r1 r2 r3 => c_ (.tup [.agg [.flt r0, .flt r1, .flt r2], .int .i64 r3]) []) := by kernel_rfl
theorem good_q142 (N_ : Nat) (S_q87 : TS_q87) (S_q36 : TS_q36) (S_q71 : TS_q71) (h_q87 : GoodF Pg 75 (F_q87 S_q87)) (h_q36 : GoodF Pg 74 (F_q36 S_q36)) (h_q71 : GoodF Pg 108 (F_q71 S_q71)) : GoodF Pg 50 (F_q142 (G_q142 N_ S_q87 S_q36 S_q71)) := by
  refine good_fs (cx := ⟨Pg, ofList [(75, (F_q87 S_q87)), (74, (F_q36 S_q36)), (108, (F_q71 S_q71))], isref, N_⟩) (ofList_cons h_q87 (ofList_cons h_q36 (ofList_cons h_q71 (ofList_nil _)))) shF_q142 (sp_q142 (G_q142 N_ S_q87 S_q36 S_q71)) (an_q142 N_ S_q87 S_q36 S_q71) 0 0 (by kernel_rfl) (fun i_ hi_ => by omega) ?_
  intro a k h
  unfold sp_q142 at h
  split at h
  · exact ⟨[], rfl, rfl, (eq_q142 _ _ _ _ _ _ _ _ _).trans h⟩
  · cases h

def an_q114 (N_ : Nat) (S_q63 : TS_q63) : Nat -> Option Ann := fun b_ => none
theorem eq_q114 (N_ : Nat) (S_q63 : TS_q63) (v_0 : Fl) (v_1 : Fl) (v_2 : Fl) (c_ : V -> List Blk -> Bool) : bodyV ⟨Pg, ofList [(18, (F_q63 S_q63))], isref, N_⟩ (an_q114 N_ S_q63) 51 (shF_q114.args [.fl v_0, .fl v_1, .fl v_2]) [] c_ = G_q114 N_ S_q63 v_0 v_1 v_2 (fun r0 r1 r2 r3 r4 => c_ (.tup [.agg [.flt r0, .flt r1, .flt r2, .flt r3], .int .i64 r4]) []) := by kernel_rfl
theorem good_q114 (N_ : Nat) (S_q63 : TS_q63) (h_q63 : GoodF Pg 18 (F_q63 S_q63)) : GoodF Pg 51 (F_q114 (G_q114 N_ S_q63)) := by
  refine good_fs (cx := ⟨Pg, ofList [(18, (F_q63 S_q63))], isref, N_⟩) (ofList_cons h_q63 (ofList_nil _)) shF_q114 (sp_q114 (G_q114 N_ S_q63)) (an_q114 N_ S_q63) 0 0 (by kernel_rfl) (fun i_ hi_ => by omega) ?_
  intro a k h
  unfold sp_q114 at h
  split at h
  · exact ⟨[], rfl, rfl, (eq_q114 _ _ _ _ _ _).trans h⟩
  · cases h

def sh_st_binnacleref10_Power_0 : StSh := ⟨[.rof, .any, .any, .any, .flt, .int .i64, .any, .any, .any, .any, .any, .any, .any, .any, .any, .any, .any, .any, .any, .any, .any, .any, .any, .any, .any, .any, .any, .any, .any, .any], []⟩
def sx0_st_binnacleref10_Power_0 : StSh := ⟨[.any, .any, .any, .any, .flt, .any, .any, .any, .any, .any, .any, .any, .any, .any, .any, .any, .any, .any, .any, .any, .any, .any, .any, .any, .any, .any, .any, .any, .any, .any], []⟩
def hk_st_binnacleref10_Power_0 (N_ : Nat) (S_m_Abs : TS_m_Abs) (S_q100 : TS_q100) : List Atom -> K -> Bool := fun a_ κ => match a_ with
  | [.fls x_1, .fl m, .int i] => iterG N_ (st_z10_Power_0 N_ S_m_Abs S_q100 x_1 (fun r0 => κ.ext 0 (sx0_st_binnacleref10_Power_0.build [.fl r0]))) (m, i)
  | _ => false
def an_q122 (N_ : Nat) (S_m_Abs : TS_m_Abs) (S_q100 : TS_q100) : Nat -> Option Ann := fun b_ => cond (b_ == 0) (some ⟨⟨[0, 4, 5], [], []⟩, [(0, ⟨[4], [], []⟩)], some ⟨[2, 3], [], []⟩, some (mkHooks [(sh_st_binnacleref10_Power_0, hk_st_binnacleref10_Power_0 N_ S_m_Abs S_q100)])⟩) (none)
theorem eq_st_binnacleref10_Power_0 (N_ : Nat) (S_m_Abs : TS_m_Abs) (S_q100 : TS_q100) (κ : K) (x_1 : List Fl) (m : Fl) (i : Int) : iter N_ (fun s k => codeV ⟨Pg, ofList [(69, (F_m_Abs S_m_Abs)), (70, (F_q100 S_q100))], isref, N_⟩ 0 (an_q122 N_ S_m_Abs S_q100) (lp Pg 76 0).2 (lp Pg 76 0).1 s (roundK Pg 0 ((an_q122 N_ S_m_Abs S_q100) (lp Pg 76 0).1) κ k)) (sh_st_binnacleref10_Power_0.build [.fls x_1, .fl m, .int i]) = iterG N_ (st_z10_Power_0 N_ S_m_Abs S_q100 x_1 (fun r0 => κ.ext 0 (sx0_st_binnacleref10_Power_0.build [.fl r0]))) (m, i) :=
  iter_tr (fun (v_ : Fl × Int) => sh_st_binnacleref10_Power_0.build [.fls x_1, .fl v_.1, .int v_.2]) (fun v_ K_ => by obtain ⟨m, i⟩ := v_; kernel_rfl) N_ (m, i)
theorem hk1_st_binnacleref10_Power_0 (N_ : Nat) (S_m_Abs : TS_m_Abs) (S_q100 : TS_q100) : HookFor ⟨Pg, ofList [(69, (F_m_Abs S_m_Abs)), (70, (F_q100 S_q100))], isref, N_⟩ 0 (an_q122 N_ S_m_Abs S_q100) (lp Pg 76 0) (sh_st_binnacleref10_Power_0, hk_st_binnacleref10_Power_0 N_ S_m_Abs S_q100) := by
  intro a κ h
  simp only at h
  unfold hk_st_binnacleref10_Power_0 at h
  split at h
  · exact (eq_st_binnacleref10_Power_0 _ _ _ _ _ _ _).trans h
  · cases h
theorem ho_binnacleref10_Power_0 (N_ : Nat) (S_m_Abs : TS_m_Abs) (S_q100 : TS_q100) : HookOk ⟨Pg, ofList [(69, (F_m_Abs S_m_Abs)), (70, (F_q100 S_q100))], isref, N_⟩ 0 (an_q122 N_ S_m_Abs S_q100) (lp Pg 76 0) :=
  hooks_ok [(sh_st_binnacleref10_Power_0, hk_st_binnacleref10_Power_0 N_ S_m_Abs S_q100)] (by kernel_rfl) ⟨hk1_st_binnacleref10_Power_0 _ _ _, trivial⟩
theorem eq_q122 (N_ : Nat) (S_m_Abs : TS_m_Abs) (S_q100 : TS_q100) (x : List Fl) (c_ : V -> List Blk -> Bool) : bodyV ⟨Pg, ofList [(69, (F_m_Abs S_m_Abs)), (70, (F_q100 S_q100))], isref, N_⟩ (an_q122 N_ S_m_Abs S_q100) 76 (shF_q122.args [.fls x]) [] c_ = G_q122 N_ S_m_Abs S_q100 x (fun r0 r1 => c_ (.tup [.int .i64 r0, .bool r1]) []) := by kernel_rfl
theorem good_q122 (N_ : Nat) (S_m_Abs : TS_m_Abs) (S_q100 : TS_q100) (h_m_Abs : GoodF Pg 69 (F_m_Abs S_m_Abs)) (h_q100 : GoodF Pg 70 (F_q100 S_q100)) : GoodF Pg 76 (F_q122 (G_q122 N_ S_m_Abs S_q100)) := by
  refine good_fs (cx := ⟨Pg, ofList [(69, (F_m_Abs S_m_Abs)), (70, (F_q100 S_q100))], isref, N_⟩) (ofList_cons h_m_Abs (ofList_cons h_q100 (ofList_nil _))) shF_q122 (sp_q122 (G_q122 N_ S_m_Abs S_q100)) (an_q122 N_ S_m_Abs S_q100) 1 0 (by kernel_rfl) (fun i_ hi_ => by
    match i_, hi_ with
    | 0, _ => exact ho_binnacleref10_Power_0 _ _ _
    | (q + 1), h => omega) ?_
  intro a k h
  unfold sp_q122 at h
  split at h
  · exact ⟨[], rfl, rfl, (eq_q122 _ _ _ _ _).trans h⟩
  · cases h

def an_q119 (N_ : Nat) : Nat -> Option Ann := fun b_ => none
theorem eq_q119 (N_ : Nat) (c_ : V -> List Blk -> Bool) : bodyV ⟨Pg, ofList [], isref, N_⟩ (an_q119 N_) 153 (shF_q119.args []) [] c_ = G_q119 N_ (c_ (.bool true) []) := by kernel_rfl
theorem good_q119 (N_ : Nat) : GoodF Pg 153 (F_q119 (G_q119 N_)) := by
  refine good_fs (cx := ⟨Pg, ofList [], isref, N_⟩) (ofList_nil _) shF_q119 (sp_q119 (G_q119 N_)) (an_q119 N_) 0 0 (by kernel_rfl) (fun i_ hi_ => by omega) ?_
  intro a k h
  unfold sp_q119 at h
  split at h
  · exact ⟨[], rfl, rfl, (eq_q119 _ _).trans h⟩
  · cases h

def an_q101 (N_ : Nat) : Nat -> Option Ann := fun b_ => none
theorem eq_q101 (N_ : Nat) (c_ : V -> List Blk -> Bool) : bodyV ⟨Pg, ofList [], isref, N_⟩ (an_q101 N_) 154 (shF_q101.args []) [] c_ = G_q101 N_ (c_ (.agg [.int .i64 53, .int .i64 (-1022), .int .i64 1023, .int .i64 11]) []) := by kernel_rfl
theorem good_q101 (N_ : Nat) : GoodF Pg 154 (F_q101 (G_q101 N_)) := by
  refine good_fs (cx := ⟨Pg, ofList [], isref, N_⟩) (ofList_nil _) shF_q101 (sp_q101 (G_q101 N_)) (an_q101 N_) 0 0 (by kernel_rfl) (fun i_ hi_ => by omega) ?_
  intro a k h
  unfold sp_q101 at h
  split at h
  · exact ⟨[], rfl, rfl, (eq_q101 _ _).trans h⟩
  · cases h

def sh_st_binnacleref00_cut_w_0 : StSh := ⟨[.sl 0, .any, .any, .any, .any, .any, .any, .any, .any, .any, .any, .any, .any, .any, .any, .any, .any, .any, .any, .any, .any], [some (127, 1, .ints .u32)]⟩
def sx0_st_binnacleref00_cut_w_0 : StSh := ⟨[.sl 0, .any, .any, .any, .any, .any, .any, .any, .any, .any, .any, .any, .any, .any, .any, .any, .any, .any, .any, .any, .any], [some (127, 1, .ints .u32)]⟩
def hk_st_binnacleref00_cut_w_0 (N_ : Nat) : List Atom -> K -> Bool := fun a_ κ => match a_ with
  | [.nat m_1, .nat m_2, .ints m_3] => iterG N_ (st_q226 N_ m_1 m_3 (fun r1 => κ.ext 0 (sx0_st_binnacleref00_cut_w_0.build [.nat m_1, .nat r1, .ints m_3]))) m_2
  | _ => false
def an_q21 (N_ : Nat) : Nat -> Option Ann := fun b_ => cond (b_ == 0) (some ⟨⟨[0], [(0, some 0, 0)], []⟩, [(0, ⟨[0], [], []⟩)], some ⟨[2], [], []⟩, some (mkHooks [(sh_st_binnacleref00_cut_w_0, hk_st_binnacleref00_cut_w_0 N_)])⟩) (none)
theorem eq_st_binnacleref00_cut_w_0 (N_ : Nat) (κ : K) (m_1 : Nat) (m_2 : Nat) (m_3 : List Int) : iter N_ (fun s k => codeV ⟨Pg, ofList [], isref, N_⟩ 1 (an_q21 N_) (lp Pg 147 0).2 (lp Pg 147 0).1 s (roundK Pg 1 ((an_q21 N_) (lp Pg 147 0).1) κ k)) (sh_st_binnacleref00_cut_w_0.build [.nat m_1, .nat m_2, .ints m_3]) = iterG N_ (st_q226 N_ m_1 m_3 (fun r1 => κ.ext 0 (sx0_st_binnacleref00_cut_w_0.build [.nat m_1, .nat r1, .ints m_3]))) m_2 :=
  iter_tr (fun v_ => sh_st_binnacleref00_cut_w_0.build [.nat m_1, .nat v_, .ints m_3]) (fun v_ K_ => by kernel_rfl) N_ m_2
theorem hk1_st_binnacleref00_cut_w_0 (N_ : Nat) : HookFor ⟨Pg, ofList [], isref, N_⟩ 1 (an_q21 N_) (lp Pg 147 0) (sh_st_binnacleref00_cut_w_0, hk_st_binnacleref00_cut_w_0 N_) := by
  intro a κ h
  simp only at h
  unfold hk_st_binnacleref00_cut_w_0 at h
  split at h
  · exact (eq_st_binnacleref00_cut_w_0 _ _ _ _ _).trans h
  · cases h
theorem ho_binnacleref00_cut_w_0 (N_ : Nat) : HookOk ⟨Pg, ofList [], isref, N_⟩ 1 (an_q21 N_) (lp Pg 147 0) :=
  hooks_ok [(sh_st_binnacleref00_cut_w_0, hk_st_binnacleref00_cut_w_0 N_)] (by kernel_rfl) ⟨hk1_st_binnacleref00_cut_w_0 _, trivial⟩
theorem eq_q21 (N_ : Nat) (b : List Int) (c_ : V -> List Blk -> Bool) : bodyZ ⟨Pg, ofList [], isref, N_⟩ (an_q21 N_) 147 (shF_q21.args [.ints b]) [⟨127, 1, .ints .u32 b⟩] c_ = G_q21 N_ b (fun r0 r1 => c_ (.sl 0 r0 r1) [⟨127, 1, .ints .u32 b⟩]) := by kernel_rfl
theorem good_q21 (N_ : Nat) : GoodF Pg 147 (F_q21 (G_q21 N_)) := by
  refine good_fsZ (cx := ⟨Pg, ofList [], isref, N_⟩) (ofList_nil _) shF_q21 (sp_q21 (G_q21 N_)) (an_q21 N_) 1 1 (by kernel_rfl) (fun i_ hi_ => by
    match i_, hi_ with
    | 0, _ => exact ho_binnacleref00_cut_w_0 _
    | (q + 1), h => omega) ?_
  intro a k h
  unfold sp_q21 at h
  split at h
  · exact ⟨[_], rfl, rfl, (eq_q21 _ _ _).trans h⟩
  · cases h

def an_q106 (N_ : Nat) (S_q21 : TS_q21) : Nat -> Option Ann := fun b_ => none
theorem eq_q106 (N_ : Nat) (S_q21 : TS_q21) (n : Int) (c_ : V -> List Blk -> Bool) : bodyZ ⟨Pg, ofList [(147, (F_q21 S_q21))], isref, N_⟩ (an_q106 N_ S_q21) 117 (shF_q106.args [.int n]) [] c_ = G_q106 N_ S_q21 n (fun r0 => c_ (.roi .u32 r0) []) := by kernel_rfl
theorem good_q106 (N_ : Nat) (S_q21 : TS_q21) (h_q21 : GoodF Pg 147 (F_q21 S_q21)) : GoodF Pg 117 (F_q106 (G_q106 N_ S_q21)) := by
  refine good_fsZ (cx := ⟨Pg, ofList [(147, (F_q21 S_q21))], isref, N_⟩) (ofList_cons h_q21 (ofList_nil _)) shF_q106 (sp_q106 (G_q106 N_ S_q21)) (an_q106 N_ S_q21) 0 0 (by kernel_rfl) (fun i_ hi_ => by omega) ?_
  intro a k h
  unfold sp_q106 at h
  split at h
  · exact ⟨[], rfl, rfl, (eq_q106 _ _ _ _).trans h⟩
  · cases h

def sh_st_binnacleref00_cut_0 : StSh := ⟨[.roi .u32, .any, .any, .any, .any, .any, .any, .any, .any, .any, .any, .any, .any, .any, .any, .any, .any, .any, .any, .any, .any], []⟩
def sx0_st_binnacleref00_cut_0 : StSh := ⟨[.roi .u32, .any, .any, .any, .any, .any, .any, .any, .any, .any, .any, .any, .any, .any, .any, .any, .any, .any, .any, .any, .any], []⟩
def hk_st_binnacleref00_cut_0 (N_ : Nat) : List Atom -> K -> Bool := fun a_ κ => match a_ with
  | [.ints m_1] => iterG N_ (st_z00_cut_0 N_ (fun r0 => κ.ext 0 (sx0_st_binnacleref00_cut_0.build [.ints r0]))) m_1
  | _ => false
def an_q168 (N_ : Nat) : Nat -> Option Ann := fun b_ => cond (b_ == 0) (some ⟨⟨[0], [], []⟩, [(0, ⟨[0], [], []⟩)], some ⟨[2], [], []⟩, some (mkHooks [(sh_st_binnacleref00_cut_0, hk_st_binnacleref00_cut_0 N_)])⟩) (none)
theorem eq_st_binnacleref00_cut_0 (N_ : Nat) (κ : K) (m_1 : List Int) : iter N_ (fun s k => codeV ⟨Pg, ofList [], isref, N_⟩ 0 (an_q168 N_) (lp Pg 147 0).2 (lp Pg 147 0).1 s (roundK Pg 0 ((an_q168 N_) (lp Pg 147 0).1) κ k)) (sh_st_binnacleref00_cut_0.build [.ints m_1]) = iterG N_ (st_z00_cut_0 N_ (fun r0 => κ.ext 0 (sx0_st_binnacleref00_cut_0.build [.ints r0]))) m_1 :=
  iter_tr (fun v_ => sh_st_binnacleref00_cut_0.build [.ints v_]) (fun v_ K_ => by kernel_rfl) N_ m_1
theorem hk1_st_binnacleref00_cut_0 (N_ : Nat) : HookFor ⟨Pg, ofList [], isref, N_⟩ 0 (an_q168 N_) (lp Pg 147 0) (sh_st_binnacleref00_cut_0, hk_st_binnacleref00_cut_0 N_) := by
  intro a κ h
  simp only at h
  unfold hk_st_binnacleref00_cut_0 at h
  split at h
  · exact (eq_st_binnacleref00_cut_0 _ _ _).trans h
  · cases h
theorem ho_binnacleref00_cut_0 (N_ : Nat) : HookOk ⟨Pg, ofList [], isref, N_⟩ 0 (an_q168 N_) (lp Pg 147 0) :=
  hooks_ok [(sh_st_binnacleref00_cut_0, hk_st_binnacleref00_cut_0 N_)] (by kernel_rfl) ⟨hk1_st_binnacleref00_cut_0 _, trivial⟩
theorem eq_q168 (N_ : Nat) (m : List Int) (c_ : V -> List Blk -> Bool) : bodyZ ⟨Pg, ofList [], isref, N_⟩ (an_q168 N_) 147 (shF_q168.args [.ints m]) [] c_ = G_q168 N_ m (fun r0 => c_ (.roi .u32 r0) []) := by kernel_rfl
theorem good_q168 (N_ : Nat) : GoodF Pg 147 (F_q168 (G_q168 N_)) := by
  refine good_fsZ (cx := ⟨Pg, ofList [], isref, N_⟩) (ofList_nil _) shF_q168 (sp_q168 (G_q168 N_)) (an_q168 N_) 1 0 (by kernel_rfl) (fun i_ hi_ => by
    match i_, hi_ with
    | 0, _ => exact ho_binnacleref00_cut_0 _
    | (q + 1), h => omega) ?_
  intro a k h
  unfold sp_q168 at h
  split at h
  · exact ⟨[], rfl, rfl, (eq_q168 _ _ _).trans h⟩
  · cases h

def an_q53 (N_ : Nat) (S_q168 : TS_q168) : Nat -> Option Ann := fun b_ => none
theorem eq_q53 (N_ : Nat) (S_q168 : TS_q168) (neg : Bool) (m : List Int) (b : Bool) (c_ : V -> List Blk -> Bool) : bodyZ ⟨Pg, ofList [(147, (F_q168 S_q168))], isref, N_⟩ (an_q53 N_ S_q168) 113 (shF_q53.args [.bool neg, .ints m, .bool b]) [⟨105, 1, .cells [.bool b, .nil]⟩] c_ = G_q53 N_ S_q168 neg m b (fun r0 r1 => c_ (.ptr 0 0) [⟨105, 1, .cells [.bool r0, .roi .u32 r1]⟩]) := by kernel_rfl
theorem good_q53 (N_ : Nat) (S_q168 : TS_q168) (h_q168 : GoodF Pg 147 (F_q168 S_q168)) : GoodF Pg 113 (F_q53 (G_q53 N_ S_q168)) := by
  refine good_fsZ (cx := ⟨Pg, ofList [(147, (F_q168 S_q168))], isref, N_⟩) (ofList_cons h_q168 (ofList_nil _)) shF_q53 (sp_q53 (G_q53 N_ S_q168)) (an_q53 N_ S_q168) 0 1 (by kernel_rfl) (fun i_ hi_ => by omega) ?_
  intro a k h
  unfold sp_q53 at h
  split at h
  · exact ⟨[_], rfl, rfl, (eq_q53 _ _ _ _ _ _).trans h⟩
  · cases h

def an_q76 (N_ : Nat) (S_q106 : TS_q106) (S_q53 : TS_q53) : Nat -> Option Ann := fun b_ => none
theorem eq_q76 (N_ : Nat) (S_q106 : TS_q106) (S_q53 : TS_q53) (n : Int) (b : Bool) (c_ : V -> List Blk -> Bool) : bodyZ ⟨Pg, ofList [(117, (F_q106 S_q106)), (113, (F_q53 S_q53))], isref, N_⟩ (an_q76 N_ S_q106 S_q53) 66 (shF_q76.args [.int n, .bool b]) [⟨105, 1, .cells [.bool b, .nil]⟩] c_ = G_q76 N_ S_q106 S_q53 n b (fun r0 r1 => c_ (.ptr 0 0) [⟨105, 1, .cells [.bool r0, .roi .u32 r1]⟩]) := by kernel_rfl
theorem good_q76 (N_ : Nat) (S_q106 : TS_q106) (S_q53 : TS_q53) (h_q106 : GoodF Pg 117 (F_q106 S_q106)) (h_q53 : GoodF Pg 113 (F_q53 S_q53)) : GoodF Pg 66 (F_q76 (G_q76 N_ S_q106 S_q53)) := by
  refine good_fsZ (cx := ⟨Pg, ofList [(117, (F_q106 S_q106)), (113, (F_q53 S_q53))], isref, N_⟩) (ofList_cons h_q106 (ofList_cons h_q53 (ofList_nil _))) shF_q76 (sp_q76 (G_q76 N_ S_q106 S_q53)) (an_q76 N_ S_q106 S_q53) 0 1 (by kernel_rfl) (fun i_ hi_ => by omega) ?_
  intro a k h
  unfold sp_q76 at h
  split at h
  · exact ⟨[_], rfl, rfl, (eq_q76 _ _ _ _ _ _).trans h⟩
  · cases h

def an_q64 (N_ : Nat) (S_q168 : TS_q168) : Nat -> Option Ann := fun b_ => none
theorem eq_q64 (N_ : Nat) (S_q168 : TS_q168) (neg : Bool) (m : List Int) (b : Bool) (b_1 : List Int) (c_ : V -> List Blk -> Bool) : bodyZ ⟨Pg, ofList [(147, (F_q168 S_q168))], isref, N_⟩ (an_q64 N_ S_q168) 113 (shF_q64.args [.bool neg, .ints m, .bool b, .ints b_1]) [⟨105, 1, .cells [.bool b, .roi .u32 b_1]⟩] c_ = G_q64 N_ S_q168 neg m b b_1 (fun r0 r1 => c_ (.ptr 0 0) [⟨105, 1, .cells [.bool r0, .roi .u32 r1]⟩]) := by kernel_rfl
theorem good_q64 (N_ : Nat) (S_q168 : TS_q168) (h_q168 : GoodF Pg 147 (F_q168 S_q168)) : GoodF Pg 113 (F_q64 (G_q64 N_ S_q168)) := by
  refine good_fsZ (cx := ⟨Pg, ofList [(147, (F_q168 S_q168))], isref, N_⟩) (ofList_cons h_q168 (ofList_nil _)) shF_q64 (sp_q64 (G_q64 N_ S_q168)) (an_q64 N_ S_q168) 0 1 (by kernel_rfl) (fun i_ hi_ => by omega) ?_
  intro a k h
  unfold sp_q64 at h
  split at h
  · exact ⟨[_], rfl, rfl, (eq_q64 _ _ _ _ _ _ _).trans h⟩
  · cases h

def an_q80 (N_ : Nat) (S_q106 : TS_q106) (S_q64 : TS_q64) : Nat -> Option Ann := fun b_ => none
theorem eq_q80 (N_ : Nat) (S_q106 : TS_q106) (S_q64 : TS_q64) (n : Int) (b : Bool) (b_1 : List Int) (c_ : V -> List Blk -> Bool) : bodyZ ⟨Pg, ofList [(117, (F_q106 S_q106)), (113, (F_q64 S_q64))], isref, N_⟩ (an_q80 N_ S_q106 S_q64) 66 (shF_q80.args [.int n, .bool b, .ints b_1]) [⟨105, 1, .cells [.bool b, .roi .u32 b_1]⟩] c_ = G_q80 N_ S_q106 S_q64 n b b_1 (fun r0 r1 => c_ (.ptr 0 0) [⟨105, 1, .cells [.bool r0, .roi .u32 r1]⟩]) := by kernel_rfl
theorem good_q80 (N_ : Nat) (S_q106 : TS_q106) (S_q64 : TS_q64) (h_q106 : GoodF Pg 117 (F_q106 S_q106)) (h_q64 : GoodF Pg 113 (F_q64 S_q64)) : GoodF Pg 66 (F_q80 (G_q80 N_ S_q106 S_q64)) := by
  refine good_fsZ (cx := ⟨Pg, ofList [(117, (F_q106 S_q106)), (113, (F_q64 S_q64))], isref, N_⟩) (ofList_cons h_q106 (ofList_cons h_q64 (ofList_nil _))) shF_q80 (sp_q80 (G_q80 N_ S_q106 S_q64)) (an_q80 N_ S_q106 S_q64) 0 1 (by kernel_rfl) (fun i_ hi_ => by omega) ?_
  intro a k h
  unfold sp_q80 at h
  split at h
  · exact ⟨[_], rfl, rfl, (eq_q80 _ _ _ _ _ _ _).trans h⟩
  · cases h

def an_q156 (N_ : Nat) (S_q76 : TS_q76) (S_q80 : TS_q80) : Nat -> Option Ann := fun b_ => none
theorem eq_q156 (N_ : Nat) (S_q76 : TS_q76) (S_q80 : TS_q80) (bits : Int) (c_ : V -> List Blk -> Bool) : bodyV ⟨Pg, ofList [(66, (orFs (F_q76 S_q76) (F_q80 S_q80) shF_q76))], isref, N_⟩ (an_q156 N_ S_q76 S_q80) 155 (shF_q156.args [.int bits]) [] c_ = G_q156 N_ S_q76 S_q80 bits (fun r0 => c_ (.agg [.int .i64 2, .bool false, .ptr 0 0, .int .i64 0]) [⟨105, 1, .cells [.bool r0, .nil]⟩]) (fun r0 r1 r2 => c_ (.agg [.int .i64 1, .bool r0, .ptr 0 0, .int .i64 (-1074)]) [⟨105, 1, .cells [.bool r1, .roi .u32 r2]⟩]) (fun r0 r1 r2 r3 => c_ (.agg [.int .i64 0, .bool r0, .ptr 0 0, .int .i64 r1]) [⟨105, 1, .cells [.bool r2, .roi .u32 r3]⟩]) (fun r0 r1 r2 => c_ (.agg [.int .i64 0, .bool r0, .ptr 0 0, .int .i64 (-1074)]) [⟨105, 1, .cells [.bool r1, .roi .u32 r2]⟩]) := by kernel_rfl
theorem good_q156 (N_ : Nat) (S_q76 : TS_q76) (S_q80 : TS_q80) (h_q76 : GoodF Pg 66 (F_q76 S_q76)) (h_q80 : GoodF Pg 66 (F_q80 S_q80)) : GoodF Pg 155 (F_q156 (G_q156 N_ S_q76 S_q80)) := by
  refine good_fs (cx := ⟨Pg, ofList [(66, (orFs (F_q76 S_q76) (F_q80 S_q80) shF_q76))], isref, N_⟩) (ofList_cons (good_or h_q76 h_q80) (ofList_nil _)) shF_q156 (sp_q156 (G_q156 N_ S_q76 S_q80)) (an_q156 N_ S_q76 S_q80) 0 0 (by kernel_rfl) (fun i_ hi_ => by omega) ?_
  intro a k h
  unfold sp_q156 at h
  split at h
  · exact ⟨[], rfl, rfl, (eq_q156 _ _ _ _ _).trans h⟩
  · cases h

def an_q175 (N_ : Nat) : Nat -> Option Ann := fun b_ => none
theorem eq_q175 (N_ : Nat) (c_ : V -> List Blk -> Bool) : bodyV ⟨Pg, ofList [], isref, N_⟩ (an_q175 N_) 184 (shF_q175.args []) [] c_ = G_q175 N_ (fun r0 => c_ (.int .u64 r0) []) := by kernel_rfl
theorem good_q175 (N_ : Nat) : GoodF Pg 184 (F_q175 (G_q175 N_)) := by
  refine good_fs (cx := ⟨Pg, ofList [], isref, N_⟩) (ofList_nil _) shF_q175 (sp_q175 (G_q175 N_)) (an_q175 N_) 0 0 (by kernel_rfl) (fun i_ hi_ => by omega) ?_
  intro a k h
  unfold sp_q175 at h
  split at h
  · exact ⟨[], rfl, rfl, (eq_q175 _ _).trans h⟩
  · cases h

def an_q164 (N_ : Nat) (S_q175 : TS_q175) : Nat -> Option Ann := fun b_ => none
theorem eq_q164 (N_ : Nat) (S_q175 : TS_q175) (b : Bool) (c_ : V -> List Blk -> Bool) : bodyV ⟨Pg, ofList [(184, (F_q175 S_q175))], isref, N_⟩ (an_q164 N_ S_q175) 156 (shF_q164.args [.bool b]) [⟨105, 1, .cells [.bool b, .nil]⟩] c_ = G_q164 N_ S_q175 b (fun r0 r1 => c_ (.tup [.int .u64 r0, .int .i64 r1]) [⟨105, 1, .cells [.bool b, .nil]⟩]) := by kernel_rfl
theorem good_q164 (N_ : Nat) (S_q175 : TS_q175) (h_q175 : GoodF Pg 184 (F_q175 S_q175)) : GoodF Pg 156 (F_q164 (G_q164 N_ S_q175)) := by
  refine good_fs (cx := ⟨Pg, ofList [(184, (F_q175 S_q175))], isref, N_⟩) (ofList_cons h_q175 (ofList_nil _)) shF_q164 (sp_q164 (G_q164 N_ S_q175)) (an_q164 N_ S_q175) 0 1 (by kernel_rfl) (fun i_ hi_ => by omega) ?_
  intro a k h
  unfold sp_q164 at h
  split at h
  · exact ⟨[_], rfl, rfl, (eq_q164 _ _ _ _).trans h⟩
  · cases h

def an_q68 (N_ : Nat) : Nat -> Option Ann := fun b_ => none
theorem eq_q68 (N_ : Nat) (neg : Bool) (field : Int) (frac : Int) (c_ : V -> List Blk -> Bool) : bodyV ⟨Pg, ofList [], isref, N_⟩ (an_q68 N_) 206 (shF_q68.args [.bool neg, .int field, .int frac]) [] c_ = G_q68 N_ neg field frac (fun r0 => c_ (.int .u64 r0) []) := by kernel_rfl
theorem good_q68 (N_ : Nat) : GoodF Pg 206 (F_q68 (G_q68 N_)) := by
  refine good_fs (cx := ⟨Pg, ofList [], isref, N_⟩) (ofList_nil _) shF_q68 (sp_q68 (G_q68 N_)) (an_q68 N_) 0 0 (by kernel_rfl) (fun i_ hi_ => by omega) ?_
  intro a k h
  unfold sp_q68 at h
  split at h
  · exact ⟨[], rfl, rfl, (eq_q68 _ _ _ _ _).trans h⟩
  · cases h

def an_q104 (N_ : Nat) (S_q68 : TS_q68) : Nat -> Option Ann := fun b_ => none
theorem eq_q104 (N_ : Nat) (S_q68 : TS_q68) (neg : Bool) (c_ : V -> List Blk -> Bool) : bodyV ⟨Pg, ofList [(206, (F_q68 S_q68))], isref, N_⟩ (an_q104 N_ S_q68) 185 (shF_q104.args [.bool neg]) [] c_ = G_q104 N_ S_q68 neg (fun r0 => c_ (.int .u64 r0) []) := by kernel_rfl
theorem good_q104 (N_ : Nat) (S_q68 : TS_q68) (h_q68 : GoodF Pg 206 (F_q68 S_q68)) : GoodF Pg 185 (F_q104 (G_q104 N_ S_q68)) := by
  refine good_fs (cx := ⟨Pg, ofList [(206, (F_q68 S_q68))], isref, N_⟩) (ofList_cons h_q68 (ofList_nil _)) shF_q104 (sp_q104 (G_q104 N_ S_q68)) (an_q104 N_ S_q68) 0 0 (by kernel_rfl) (fun i_ hi_ => by omega) ?_
  intro a k h
  unfold sp_q104 at h
  split at h
  · exact ⟨[], rfl, rfl, (eq_q104 _ _ _ _).trans h⟩
  · cases h

def an_q99 (N_ : Nat) : Nat -> Option Ann := fun b_ => none
theorem eq_q99 (N_ : Nat) (b : Bool) (b_1 : List Int) (c_ : V -> List Blk -> Bool) : bodyZ ⟨Pg, ofList [], isref, N_⟩ (an_q99 N_) 63 (shF_q99.args [.bool b, .ints b_1]) [⟨105, 1, .cells [.bool b, .roi .u32 b_1]⟩] c_ = G_q99 N_ b b_1 (fun r0 => c_ (.int .i64 r0) [⟨105, 1, .cells [.bool b, .roi .u32 b_1]⟩]) := by kernel_rfl
theorem good_q99 (N_ : Nat) : GoodF Pg 63 (F_q99 (G_q99 N_)) := by
  refine good_fsZ (cx := ⟨Pg, ofList [], isref, N_⟩) (ofList_nil _) shF_q99 (sp_q99 (G_q99 N_)) (an_q99 N_) 0 1 (by kernel_rfl) (fun i_ hi_ => by omega) ?_
  intro a k h
  unfold sp_q99 at h
  split at h
  · exact ⟨[_], rfl, rfl, (eq_q99 _ _ _ _).trans h⟩
  · cases h

def an_q167 (N_ : Nat) (S_q99 : TS_q99) : Nat -> Option Ann := fun b_ => none
theorem eq_q167 (N_ : Nat) (S_q99 : TS_q99) (n_0 : Int) (n_1 : Bool) (n_2 : Int) (b : Bool) (b_1 : List Int) (c_ : V -> List Blk -> Bool) : bodyV ⟨Pg, ofList [(63, (F_q99 S_q99))], isref, N_⟩ (an_q167 N_ S_q99) 186 (shF_q167.args [.int n_0, .bool n_1, .int n_2, .bool b, .ints b_1]) [⟨105, 1, .cells [.bool b, .roi .u32 b_1]⟩] c_ = G_q167 N_ S_q99 n_0 n_1 n_2 b b_1 (fun r0 => c_ (.bool r0) [⟨105, 1, .cells [.bool b, .roi .u32 b_1]⟩]) := by kernel_rfl
theorem good_q167 (N_ : Nat) (S_q99 : TS_q99) (h_q99 : GoodF Pg 63 (F_q99 S_q99)) : GoodF Pg 186 (F_q167 (G_q167 N_ S_q99)) := by
  refine good_fs (cx := ⟨Pg, ofList [(63, (F_q99 S_q99))], isref, N_⟩) (ofList_cons h_q99 (ofList_nil _)) shF_q167 (sp_q167 (G_q167 N_ S_q99)) (an_q167 N_ S_q99) 0 1 (by kernel_rfl) (fun i_ hi_ => by omega) ?_
  intro a k h
  unfold sp_q167 at h
  split at h
  · exact ⟨[_], rfl, rfl, (eq_q167 _ _ _ _ _ _ _ _).trans h⟩
  · cases h

def an_q169 (N_ : Nat) (S_q68 : TS_q68) : Nat -> Option Ann := fun b_ => none
theorem eq_q169 (N_ : Nat) (S_q68 : TS_q68) (neg : Bool) (c_ : V -> List Blk -> Bool) : bodyV ⟨Pg, ofList [(206, (F_q68 S_q68))], isref, N_⟩ (an_q169 N_ S_q68) 187 (shF_q169.args [.bool neg]) [] c_ = G_q169 N_ S_q68 neg (fun r0 => c_ (.int .u64 r0) []) := by kernel_rfl
theorem good_q169 (N_ : Nat) (S_q68 : TS_q68) (h_q68 : GoodF Pg 206 (F_q68 S_q68)) : GoodF Pg 187 (F_q169 (G_q169 N_ S_q68)) := by
  refine good_fs (cx := ⟨Pg, ofList [(206, (F_q68 S_q68))], isref, N_⟩) (ofList_cons h_q68 (ofList_nil _)) shF_q169 (sp_q169 (G_q169 N_ S_q68)) (an_q169 N_ S_q68) 0 0 (by kernel_rfl) (fun i_ hi_ => by omega) ?_
  intro a k h
  unfold sp_q169 at h
  split at h
  · exact ⟨[], rfl, rfl, (eq_q169 _ _ _ _).trans h⟩
  · cases h

def an_q125 (N_ : Nat) : Nat -> Option Ann := fun b_ => none
theorem eq_q125 (N_ : Nat) (x : Int) (c_ : V -> List Blk -> Bool) : bodyV ⟨Pg, ofList [], isref, N_⟩ (an_q125 N_) 222 (shF_q125.args [.int x]) [] c_ = G_q125 N_ x (fun r0 => c_ (.int .i64 r0) []) := by kernel_rfl
theorem good_q125 (N_ : Nat) : GoodF Pg 222 (F_q125 (G_q125 N_)) := by
  refine good_fs (cx := ⟨Pg, ofList [], isref, N_⟩) (ofList_nil _) shF_q125 (sp_q125 (G_q125 N_)) (an_q125 N_) 0 0 (by kernel_rfl) (fun i_ hi_ => by omega) ?_
  intro a k h
  unfold sp_q125 at h
  split at h
  · exact ⟨[], rfl, rfl, (eq_q125 _ _ _).trans h⟩
  · cases h

def an_q5 (N_ : Nat) (S_q125 : TS_q125) : Nat -> Option Ann := fun b_ => none
theorem eq_q5 (N_ : Nat) (S_q125 : TS_q125) (b : Bool) (b_1 : List Int) (c_ : V -> List Blk -> Bool) : bodyZ ⟨Pg, ofList [(222, (F_q125 S_q125))], isref, N_⟩ (an_q5 N_ S_q125) 207 (shF_q5.args [.bool b, .ints b_1]) [⟨105, 1, .cells [.bool b, .roi .u32 b_1]⟩] c_ = G_q5 N_ S_q125 b b_1 (fun r0 => c_ (.int .i64 r0) [⟨105, 1, .cells [.bool b, .roi .u32 b_1]⟩]) := by kernel_rfl
theorem good_q5 (N_ : Nat) (S_q125 : TS_q125) (h_q125 : GoodF Pg 222 (F_q125 S_q125)) : GoodF Pg 207 (F_q5 (G_q5 N_ S_q125)) := by
  refine good_fsZ (cx := ⟨Pg, ofList [(222, (F_q125 S_q125))], isref, N_⟩) (ofList_cons h_q125 (ofList_nil _)) shF_q5 (sp_q5 (G_q5 N_ S_q125)) (an_q5 N_ S_q125) 0 1 (by kernel_rfl) (fun i_ hi_ => by omega) ?_
  intro a k h
  unfold sp_q5 at h
  split at h
  · exact ⟨[_], rfl, rfl, (eq_q5 _ _ _ _ _).trans h⟩
  · cases h

def an_q128 (N_ : Nat) (S_q21 : TS_q21) : Nat -> Option Ann := fun b_ => none
theorem eq_q128 (N_ : Nat) (S_q21 : TS_q21) (neg : Bool) (b : Bool) (b_1 : List Int) (c_ : V -> List Blk -> Bool) : bodyZ ⟨Pg, ofList [(147, (F_q21 S_q21))], isref, N_⟩ (an_q128 N_ S_q21) 113 (shF_q128.args [.bool neg, .bool b, .ints b_1]) [⟨105, 1, .cells [.bool b, .nil]⟩, ⟨127, 1, .ints .u32 b_1⟩] c_ = G_q128 N_ S_q21 neg b b_1 (fun r0 r1 r2 => c_ (.ptr 0 0) [⟨105, 1, .cells [.bool r0, .sl 1 r1 r2]⟩, ⟨127, 1, .ints .u32 b_1⟩]) := by kernel_rfl
theorem good_q128 (N_ : Nat) (S_q21 : TS_q21) (h_q21 : GoodF Pg 147 (F_q21 S_q21)) : GoodF Pg 113 (F_q128 (G_q128 N_ S_q21)) := by
  refine good_fsZ (cx := ⟨Pg, ofList [(147, (F_q21 S_q21))], isref, N_⟩) (ofList_cons h_q21 (ofList_nil _)) shF_q128 (sp_q128 (G_q128 N_ S_q21)) (an_q128 N_ S_q21) 0 2 (by kernel_rfl) (fun i_ hi_ => by omega) ?_
  intro a k h
  unfold sp_q128 at h
  split at h
  · exact ⟨[_, _], rfl, rfl, (eq_q128 _ _ _ _ _ _).trans h⟩
  · cases h

def an_q8 (N_ : Nat) (S_q128 : TS_q128) : Nat -> Option Ann := fun b_ => none
theorem eq_q8 (N_ : Nat) (S_q128 : TS_q128) (b : Bool) (b_1 : Bool) (b_2 : List Int) (c_ : V -> List Blk -> Bool) : bodyZ ⟨Pg, ofList [(113, (F_q128 S_q128))], isref, N_⟩ (an_q8 N_ S_q128) 208 (shF_q8.args [.bool b, .bool b_1, .ints b_2]) [⟨105, 1, .cells [.bool b, .nil]⟩, ⟨105, 1, .cells [.bool b_1, .roi .u32 b_2]⟩] c_ = G_q8 N_ S_q128 b b_1 b_2 (fun r0 r1 => c_ (.ptr 0 0) [⟨105, 1, .cells [.bool r0, .roi .u32 r1]⟩, ⟨105, 1, .cells [.bool b_1, .roi .u32 b_2]⟩]) := by kernel_rfl
theorem good_q8 (N_ : Nat) (S_q128 : TS_q128) (h_q128 : GoodF Pg 113 (F_q128 S_q128)) : GoodF Pg 208 (F_q8 (G_q8 N_ S_q128)) := by
  refine good_fsZ (cx := ⟨Pg, ofList [(113, (F_q128 S_q128))], isref, N_⟩) (ofList_cons h_q128 (ofList_nil _)) shF_q8 (sp_q8 (G_q8 N_ S_q128)) (an_q8 N_ S_q128) 0 2 (by kernel_rfl) (fun i_ hi_ => by omega) ?_
  intro a k h
  unfold sp_q8 at h
  split at h
  · exact ⟨[_, _], rfl, rfl, (eq_q8 _ _ _ _ _ _).trans h⟩
  · cases h

def sh_st_binnacleref00_left_0 : StSh := ⟨[.roi .u32, .any, .any, .any, .any, .int .i64, .int .u64, .slw 0, .int .i64, .any, .any, .any, .any, .any, .any, .any, .any, .any, .any, .any, .any, .any, .any, .any, .any, .any, .any, .any, .any, .any, .any, .any, .any, .any, .any, .any, .any, .any, .any, .any, .any, .any, .any, .any, .any, .any, .any, .any, .any, .any, .any, .any, .any, .any, .any, .any, .any, .any], [some (127, 1, .ints .u32)]⟩
def sx0_st_binnacleref00_left_0 : StSh := ⟨[.any, .any, .any, .any, .any, .any, .any, .slw 0, .any, .any, .any, .any, .any, .any, .any, .any, .any, .any, .any, .any, .any, .any, .any, .any, .any, .any, .any, .any, .any, .any, .any, .any, .any, .any, .any, .any, .any, .any, .any, .any, .any, .any, .any, .any, .any, .any, .any, .any, .any, .any, .any, .any, .any, .any, .any, .any, .any, .any], [some (127, 1, .ints .u32)]⟩
def hk_st_binnacleref00_left_0 (N_ : Nat) (S_q21 : TS_q21) : List Atom -> K -> Bool := fun a_ κ => match a_ with
  | [.ints m_1, .int w, .int s, .int i, .ints out] => iterG N_ (st_z00_left_0 N_ S_q21 m_1 w s (fun r0 => κ.ext 0 (sx0_st_binnacleref00_left_0.build [.ints r0]))) (i, out)
  | _ => false
def an_q139 (N_ : Nat) (S_q21 : TS_q21) : Nat -> Option Ann := fun b_ => cond (b_ == 0) (some ⟨⟨[0, 5, 6, 7, 8], [], []⟩, [(0, ⟨[7], [], []⟩)], some ⟨[4], [], []⟩, some (mkHooks [(sh_st_binnacleref00_left_0, hk_st_binnacleref00_left_0 N_ S_q21)])⟩) (none)
theorem eq_st_binnacleref00_left_0 (N_ : Nat) (S_q21 : TS_q21) (κ : K) (m_1 : List Int) (w : Int) (s : Int) (i : Int) (out : List Int) : iter N_ (fun s k => codeV ⟨Pg, ofList [(147, (F_q21 S_q21))], isref, N_⟩ 0 (an_q139 N_ S_q21) (lp Pg 183 0).2 (lp Pg 183 0).1 s (roundK Pg 0 ((an_q139 N_ S_q21) (lp Pg 183 0).1) κ k)) (sh_st_binnacleref00_left_0.build [.ints m_1, .int w, .int s, .int i, .ints out]) = iterG N_ (st_z00_left_0 N_ S_q21 m_1 w s (fun r0 => κ.ext 0 (sx0_st_binnacleref00_left_0.build [.ints r0]))) (i, out) :=
  iter_tr (fun (v_ : Int × List Int) => sh_st_binnacleref00_left_0.build [.ints m_1, .int w, .int s, .int v_.1, .ints v_.2]) (fun v_ K_ => by obtain ⟨i, out⟩ := v_; kernel_rfl) N_ (i, out)
theorem hk1_st_binnacleref00_left_0 (N_ : Nat) (S_q21 : TS_q21) : HookFor ⟨Pg, ofList [(147, (F_q21 S_q21))], isref, N_⟩ 0 (an_q139 N_ S_q21) (lp Pg 183 0) (sh_st_binnacleref00_left_0, hk_st_binnacleref00_left_0 N_ S_q21) := by
  intro a κ h
  simp only at h
  unfold hk_st_binnacleref00_left_0 at h
  split at h
  · exact (eq_st_binnacleref00_left_0 _ _ _ _ _ _ _ _).trans h
  · cases h
theorem ho_binnacleref00_left_0 (N_ : Nat) (S_q21 : TS_q21) : HookOk ⟨Pg, ofList [(147, (F_q21 S_q21))], isref, N_⟩ 0 (an_q139 N_ S_q21) (lp Pg 183 0) :=
  hooks_ok [(sh_st_binnacleref00_left_0, hk_st_binnacleref00_left_0 N_ S_q21)] (by kernel_rfl) ⟨hk1_st_binnacleref00_left_0 _ _, trivial⟩
theorem eq_q139 (N_ : Nat) (S_q21 : TS_q21) (m : List Int) (n : Int) (c_ : V -> List Blk -> Bool) : bodyZ ⟨Pg, ofList [(147, (F_q21 S_q21))], isref, N_⟩ (an_q139 N_ S_q21) 183 (shF_q139.args [.ints m, .int n]) [] c_ = G_q139 N_ S_q21 m n (fun r0 => c_ (.roi .u32 r0) []) := by kernel_rfl
theorem good_q139 (N_ : Nat) (S_q21 : TS_q21) (h_q21 : GoodF Pg 147 (F_q21 S_q21)) : GoodF Pg 183 (F_q139 (G_q139 N_ S_q21)) := by
  refine good_fsZ (cx := ⟨Pg, ofList [(147, (F_q21 S_q21))], isref, N_⟩) (ofList_cons h_q21 (ofList_nil _)) shF_q139 (sp_q139 (G_q139 N_ S_q21)) (an_q139 N_ S_q21) 1 0 (by kernel_rfl) (fun i_ hi_ => by
    match i_, hi_ with
    | 0, _ => exact ho_binnacleref00_left_0 _ _
    | (q + 1), h => omega) ?_
  intro a k h
  unfold sp_q139 at h
  split at h
  · exact ⟨[], rfl, rfl, (eq_q139 _ _ _ _ _).trans h⟩
  · cases h

def an_q10 (N_ : Nat) (S_q139 : TS_q139) (S_q64 : TS_q64) : Nat -> Option Ann := fun b_ => none
theorem eq_q10 (N_ : Nat) (S_q139 : TS_q139) (S_q64 : TS_q64) (n : Int) (b : Bool) (b_1 : List Int) (c_ : V -> List Blk -> Bool) : bodyZ ⟨Pg, ofList [(183, (F_q139 S_q139)), (113, (F_q64 S_q64))], isref, N_⟩ (an_q10 N_ S_q139 S_q64) 146 (shF_q10.args [.int n, .bool b, .ints b_1]) [⟨105, 1, .cells [.bool b, .roi .u32 b_1]⟩] c_ = G_q10 N_ S_q139 S_q64 n b b_1 (fun r0 r1 => c_ (.ptr 0 0) [⟨105, 1, .cells [.bool r0, .roi .u32 r1]⟩]) := by kernel_rfl
theorem good_q10 (N_ : Nat) (S_q139 : TS_q139) (S_q64 : TS_q64) (h_q139 : GoodF Pg 183 (F_q139 S_q139)) (h_q64 : GoodF Pg 113 (F_q64 S_q64)) : GoodF Pg 146 (F_q10 (G_q10 N_ S_q139 S_q64)) := by
  refine good_fsZ (cx := ⟨Pg, ofList [(183, (F_q139 S_q139)), (113, (F_q64 S_q64))], isref, N_⟩) (ofList_cons h_q139 (ofList_cons h_q64 (ofList_nil _))) shF_q10 (sp_q10 (G_q10 N_ S_q139 S_q64)) (an_q10 N_ S_q139 S_q64) 0 1 (by kernel_rfl) (fun i_ hi_ => by omega) ?_
  intro a k h
  unfold sp_q10 at h
  split at h
  · exact ⟨[_], rfl, rfl, (eq_q10 _ _ _ _ _ _ _).trans h⟩
  · cases h

def sh_st_binnacleref00_right_0 : StSh := ⟨[.roi .u32, .any, .any, .any, .any, .int .i64, .int .u64, .slw 0, .int .i64, .any, .any, .any, .any, .any, .any, .any, .any, .any, .any, .any, .any, .any, .any, .any, .any, .any, .any, .any, .any, .any, .any, .any, .any, .any, .any, .any, .any, .any, .any, .any, .any, .any, .any, .any, .any, .any, .any, .any, .any, .any, .any, .any, .any, .any, .any, .any, .any, .any, .any, .any, .any, .any, .any, .any], [some (127, 1, .ints .u32)]⟩
def sx0_st_binnacleref00_right_0 : StSh := ⟨[.any, .any, .any, .any, .any, .any, .any, .slw 0, .any, .any, .any, .any, .any, .any, .any, .any, .any, .any, .any, .any, .any, .any, .any, .any, .any, .any, .any, .any, .any, .any, .any, .any, .any, .any, .any, .any, .any, .any, .any, .any, .any, .any, .any, .any, .any, .any, .any, .any, .any, .any, .any, .any, .any, .any, .any, .any, .any, .any, .any, .any, .any, .any, .any, .any], [some (127, 1, .ints .u32)]⟩
def hk_st_binnacleref00_right_0 (N_ : Nat) (S_q21 : TS_q21) : List Atom -> K -> Bool := fun a_ κ => match a_ with
  | [.ints m_1, .int w, .int s, .int i, .ints out] => iterG N_ (st_z00_right_0 N_ S_q21 m_1 w s (fun r0 => κ.ext 0 (sx0_st_binnacleref00_right_0.build [.ints r0]))) (i, out)
  | _ => false
def an_q126 (N_ : Nat) (S_q21 : TS_q21) : Nat -> Option Ann := fun b_ => cond (b_ == 0) (some ⟨⟨[0, 5, 6, 7, 8], [], []⟩, [(0, ⟨[7], [], []⟩)], some ⟨[4], [], []⟩, some (mkHooks [(sh_st_binnacleref00_right_0, hk_st_binnacleref00_right_0 N_ S_q21)])⟩) (none)
theorem eq_st_binnacleref00_right_0 (N_ : Nat) (S_q21 : TS_q21) (κ : K) (m_1 : List Int) (w : Int) (s : Int) (i : Int) (out : List Int) : iter N_ (fun s k => codeV ⟨Pg, ofList [(147, (F_q21 S_q21))], isref, N_⟩ 0 (an_q126 N_ S_q21) (lp Pg 226 0).2 (lp Pg 226 0).1 s (roundK Pg 0 ((an_q126 N_ S_q21) (lp Pg 226 0).1) κ k)) (sh_st_binnacleref00_right_0.build [.ints m_1, .int w, .int s, .int i, .ints out]) = iterG N_ (st_z00_right_0 N_ S_q21 m_1 w s (fun r0 => κ.ext 0 (sx0_st_binnacleref00_right_0.build [.ints r0]))) (i, out) :=
  iter_tr (fun (v_ : Int × List Int) => sh_st_binnacleref00_right_0.build [.ints m_1, .int w, .int s, .int v_.1, .ints v_.2]) (fun v_ K_ => by obtain ⟨i, out⟩ := v_; kernel_rfl) N_ (i, out)
theorem hk1_st_binnacleref00_right_0 (N_ : Nat) (S_q21 : TS_q21) : HookFor ⟨Pg, ofList [(147, (F_q21 S_q21))], isref, N_⟩ 0 (an_q126 N_ S_q21) (lp Pg 226 0) (sh_st_binnacleref00_right_0, hk_st_binnacleref00_right_0 N_ S_q21) := by
  intro a κ h
  simp only at h
  unfold hk_st_binnacleref00_right_0 at h
  split at h
  · exact (eq_st_binnacleref00_right_0 _ _ _ _ _ _ _ _).trans h
  · cases h
theorem ho_binnacleref00_right_0 (N_ : Nat) (S_q21 : TS_q21) : HookOk ⟨Pg, ofList [(147, (F_q21 S_q21))], isref, N_⟩ 0 (an_q126 N_ S_q21) (lp Pg 226 0) :=
  hooks_ok [(sh_st_binnacleref00_right_0, hk_st_binnacleref00_right_0 N_ S_q21)] (by kernel_rfl) ⟨hk1_st_binnacleref00_right_0 _ _, trivial⟩
theorem eq_q126 (N_ : Nat) (S_q21 : TS_q21) (m : List Int) (n : Int) (c_ : V -> List Blk -> Bool) : bodyZ ⟨Pg, ofList [(147, (F_q21 S_q21))], isref, N_⟩ (an_q126 N_ S_q21) 226 (shF_q126.args [.ints m, .int n]) [] c_ = G_q126 N_ S_q21 m n (fun r0 => c_ (.roi .u32 r0) []) := by kernel_rfl
theorem good_q126 (N_ : Nat) (S_q21 : TS_q21) (h_q21 : GoodF Pg 147 (F_q21 S_q21)) : GoodF Pg 226 (F_q126 (G_q126 N_ S_q21)) := by
  refine good_fsZ (cx := ⟨Pg, ofList [(147, (F_q21 S_q21))], isref, N_⟩) (ofList_cons h_q21 (ofList_nil _)) shF_q126 (sp_q126 (G_q126 N_ S_q21)) (an_q126 N_ S_q21) 1 0 (by kernel_rfl) (fun i_ hi_ => by
    match i_, hi_ with
    | 0, _ => exact ho_binnacleref00_right_0 _ _
    | (q + 1), h => omega) ?_
  intro a k h
  unfold sp_q126 at h
  split at h
  · exact ⟨[], rfl, rfl, (eq_q126 _ _ _ _ _).trans h⟩
  · cases h

def sh_st_binnacleref00_minus_0 : StSh := ⟨[.roi .u32, .roi .u32, .any, .any, .any, .slw 0, .int .u64, .int .i64, .any, .any, .any, .any, .any, .any, .any, .any, .any, .any, .any, .any, .any, .any, .any, .any, .any, .any, .any, .any, .any, .any, .any, .any, .any, .any, .any, .any, .any, .any, .any, .any, .any, .any, .any, .any, .any, .any, .any, .any, .any, .any, .any, .any, .any, .any, .any, .any], [some (127, 1, .ints .u32)]⟩
def sx0_st_binnacleref00_minus_0 : StSh := ⟨[.any, .any, .any, .any, .any, .slw 0, .any, .any, .any, .any, .any, .any, .any, .any, .any, .any, .any, .any, .any, .any, .any, .any, .any, .any, .any, .any, .any, .any, .any, .any, .any, .any, .any, .any, .any, .any, .any, .any, .any, .any, .any, .any, .any, .any, .any, .any, .any, .any, .any, .any, .any, .any, .any, .any, .any, .any], [some (127, 1, .ints .u32)]⟩
def hk_st_binnacleref00_minus_0 (N_ : Nat) (S_q21 : TS_q21) : List Atom -> K -> Bool := fun a_ κ => match a_ with
  | [.ints a_1, .ints b_1, .int borrow, .int i, .ints out] => iterG N_ (st_z00_minus_0 N_ S_q21 a_1 b_1 (fun r0 => κ.ext 0 (sx0_st_binnacleref00_minus_0.build [.ints r0]))) (borrow, i, out)
  | _ => false
def an_q33 (N_ : Nat) (S_q21 : TS_q21) : Nat -> Option Ann := fun b_ => cond (b_ == 0) (some ⟨⟨[0, 1, 5, 6, 7], [], []⟩, [(0, ⟨[5], [], []⟩)], some ⟨[4], [], []⟩, some (mkHooks [(sh_st_binnacleref00_minus_0, hk_st_binnacleref00_minus_0 N_ S_q21)])⟩) (none)
theorem eq_st_binnacleref00_minus_0 (N_ : Nat) (S_q21 : TS_q21) (κ : K) (a_1 : List Int) (b_1 : List Int) (borrow : Int) (i : Int) (out : List Int) : iter N_ (fun s k => codeV ⟨Pg, ofList [(147, (F_q21 S_q21))], isref, N_⟩ 0 (an_q33 N_ S_q21) (lp Pg 182 0).2 (lp Pg 182 0).1 s (roundK Pg 0 ((an_q33 N_ S_q21) (lp Pg 182 0).1) κ k)) (sh_st_binnacleref00_minus_0.build [.ints a_1, .ints b_1, .int borrow, .int i, .ints out]) = iterG N_ (st_z00_minus_0 N_ S_q21 a_1 b_1 (fun r0 => κ.ext 0 (sx0_st_binnacleref00_minus_0.build [.ints r0]))) (borrow, i, out) :=
  iter_tr (fun (v_ : Int × Int × List Int) => sh_st_binnacleref00_minus_0.build [.ints a_1, .ints b_1, .int v_.1, .int v_.2.1, .ints v_.2.2]) (fun v_ K_ => by obtain ⟨borrow, i, out⟩ := v_; kernel_rfl) N_ (borrow, i, out)
theorem hk1_st_binnacleref00_minus_0 (N_ : Nat) (S_q21 : TS_q21) : HookFor ⟨Pg, ofList [(147, (F_q21 S_q21))], isref, N_⟩ 0 (an_q33 N_ S_q21) (lp Pg 182 0) (sh_st_binnacleref00_minus_0, hk_st_binnacleref00_minus_0 N_ S_q21) := by
  intro a κ h
  simp only at h
  unfold hk_st_binnacleref00_minus_0 at h
  split at h
  · exact (eq_st_binnacleref00_minus_0 _ _ _ _ _ _ _ _).trans h
  · cases h
theorem ho_binnacleref00_minus_0 (N_ : Nat) (S_q21 : TS_q21) : HookOk ⟨Pg, ofList [(147, (F_q21 S_q21))], isref, N_⟩ 0 (an_q33 N_ S_q21) (lp Pg 182 0) :=
  hooks_ok [(sh_st_binnacleref00_minus_0, hk_st_binnacleref00_minus_0 N_ S_q21)] (by kernel_rfl) ⟨hk1_st_binnacleref00_minus_0 _ _, trivial⟩
theorem eq_q33 (N_ : Nat) (S_q21 : TS_q21) (a : List Int) (b : List Int) (c_ : V -> List Blk -> Bool) : bodyZ ⟨Pg, ofList [(147, (F_q21 S_q21))], isref, N_⟩ (an_q33 N_ S_q21) 182 (shF_q33.args [.ints a, .ints b]) [] c_ = G_q33 N_ S_q21 a b (fun r0 => c_ (.roi .u32 r0) []) := by kernel_rfl
theorem good_q33 (N_ : Nat) (S_q21 : TS_q21) (h_q21 : GoodF Pg 147 (F_q21 S_q21)) : GoodF Pg 182 (F_q33 (G_q33 N_ S_q21)) := by
  refine good_fsZ (cx := ⟨Pg, ofList [(147, (F_q21 S_q21))], isref, N_⟩) (ofList_cons h_q21 (ofList_nil _)) shF_q33 (sp_q33 (G_q33 N_ S_q21)) (an_q33 N_ S_q21) 1 0 (by kernel_rfl) (fun i_ hi_ => by
    match i_, hi_ with
    | 0, _ => exact ho_binnacleref00_minus_0 _ _
    | (q + 1), h => omega) ?_
  intro a k h
  unfold sp_q33 at h
  split at h
  · exact ⟨[], rfl, rfl, (eq_q33 _ _ _ _ _).trans h⟩
  · cases h

end Go.Proofs.YtccocdgimamdhaaGreatDoor
