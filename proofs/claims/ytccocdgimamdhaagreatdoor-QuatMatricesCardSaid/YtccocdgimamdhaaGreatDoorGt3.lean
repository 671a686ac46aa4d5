/-
  THE TIES: each printed meaning is what the program does (written by program).
  Conditions: none.
-/
import Derived.Test.YtccocdgimamdhaaGreatDoorGs
namespace Go.Proofs.YtccocdgimamdhaaGreatDoor
open Go Go.Mach Go.Proofs
set_option linter.unusedVariables false
set_option maxRecDepth 50000

def an_q134 (N_ : Nat) (S_q12 : TS_q12) (S_q55 : TS_q55) (S_q91 : TS_q91) (S_q92 : TS_q92) (S_q44 : TS_q44) : Nat -> Option Ann := fun b_ => none
def ls_q225 (d_ : List V) (u_ : List (Option Blk)) (q_0 : Fl) (q_1 : Fl) (q_2 : Fl) (q_3 : Fl) (b7 : List Int) (off_6 : Bool) (off_7 : Int) : St := ⟨(dqs d_ 0 7 [.ptr 8 0, (dq d_ 7), (dq d_ 8), (dq d_ 9), (dq d_ 10), (dq d_ 11), (dq d_ 12), (dq d_ 13), (dq d_ 14), (dq d_ 15), (dq d_ 16), (dq d_ 17), (dq d_ 18), (dq d_ 19), (dq d_ 20), (dq d_ 21), (dq d_ 22), (dq d_ 23), (dq d_ 24), (dq d_ 25), (dq d_ 26), (dq d_ 27), (dq d_ 28), (dq d_ 29), (dq d_ 30), (dq d_ 31), (dq d_ 32), (dq d_ 33), (dq d_ 34), (dq d_ 35), (dq d_ 36), (dq d_ 37), (dq d_ 38), (dq d_ 39), (dq d_ 40), (dq d_ 41), (dq d_ 42), (dq d_ 43), (dq d_ 44), (dq d_ 45)]), [(u_.getD 0 none), (u_.getD 1 none), (u_.getD 2 none), (u_.getD 3 none), (u_.getD 4 none), (u_.getD 5 none), (u_.getD 6 none), some ⟨127, 1, .ints .u32 b7⟩, some ⟨124, 1, .cells [.bool off_6, .slw 7, .int .i64 off_7]⟩]⟩
def ls_q224 (d_ : List V) (u_ : List (Option Blk)) (q_0 : Fl) (q_1 : Fl) (q_2 : Fl) (q_3 : Fl) (off_4 : Bool) (off_5 : Int) : St := ⟨(dqs d_ 0 7 [.ptr 7 0, (dq d_ 7), (dq d_ 8), (dq d_ 9), (dq d_ 10), (dq d_ 11), (dq d_ 12), (dq d_ 13), (dq d_ 14), (dq d_ 15), (dq d_ 16), (dq d_ 17), (dq d_ 18), (dq d_ 19), (dq d_ 20), (dq d_ 21), (dq d_ 22), (dq d_ 23), (dq d_ 24), (dq d_ 25), (dq d_ 26), (dq d_ 27), (dq d_ 28), (dq d_ 29), (dq d_ 30), (dq d_ 31), (dq d_ 32), (dq d_ 33), (dq d_ 34), (dq d_ 35), (dq d_ 36), (dq d_ 37), (dq d_ 38), (dq d_ 39), (dq d_ 40), (dq d_ 41), (dq d_ 42), (dq d_ 43), (dq d_ 44), (dq d_ 45)]), [(u_.getD 0 none), (u_.getD 1 none), (u_.getD 2 none), (u_.getD 3 none), (u_.getD 4 none), (u_.getD 5 none), (u_.getD 6 none), some ⟨124, 1, .cells [.bool off_4, .nil, .int .i64 off_5]⟩]⟩
def ls_q208 (d_ : List V) (u_ : List (Option Blk)) (q_0 : Fl) (q_1 : Fl) (q_2 : Fl) (q_3 : Fl) (b3 : List Int) (n_2 : Bool) (n_3 : Int) : St := ⟨(dqs d_ 0 4 [.ptr 4 0, (dq d_ 4), (dq d_ 5), (dq d_ 6), (dq d_ 7), (dq d_ 8), (dq d_ 9), (dq d_ 10), (dq d_ 11), (dq d_ 12), (dq d_ 13), (dq d_ 14), (dq d_ 15), (dq d_ 16), (dq d_ 17), (dq d_ 18), (dq d_ 19), (dq d_ 20), (dq d_ 21), (dq d_ 22), (dq d_ 23), (dq d_ 24), (dq d_ 25), (dq d_ 26), (dq d_ 27), (dq d_ 28), (dq d_ 29), (dq d_ 30), (dq d_ 31), (dq d_ 32), (dq d_ 33), (dq d_ 34), (dq d_ 35), (dq d_ 36), (dq d_ 37), (dq d_ 38), (dq d_ 39), (dq d_ 40), (dq d_ 41), (dq d_ 42), (dq d_ 43), (dq d_ 44), (dq d_ 45)]), [(u_.getD 0 none), (u_.getD 1 none), (u_.getD 2 none), some ⟨127, 1, .ints .u32 b3⟩, some ⟨124, 1, .cells [.bool n_2, .slw 3, .int .i64 n_3]⟩]⟩
def ls_q223 (d_ : List V) (u_ : List (Option Blk)) (q_0 : Fl) (q_1 : Fl) (q_2 : Fl) (q_3 : Fl) (b6 : List Int) (off_2 : Bool) (off_3 : Int) : St := ⟨(dqs d_ 0 7 [.ptr 7 0, (dq d_ 7), (dq d_ 8), (dq d_ 9), (dq d_ 10), (dq d_ 11), (dq d_ 12), (dq d_ 13), (dq d_ 14), (dq d_ 15), (dq d_ 16), (dq d_ 17), (dq d_ 18), (dq d_ 19), (dq d_ 20), (dq d_ 21), (dq d_ 22), (dq d_ 23), (dq d_ 24), (dq d_ 25), (dq d_ 26), (dq d_ 27), (dq d_ 28), (dq d_ 29), (dq d_ 30), (dq d_ 31), (dq d_ 32), (dq d_ 33), (dq d_ 34), (dq d_ 35), (dq d_ 36), (dq d_ 37), (dq d_ 38), (dq d_ 39), (dq d_ 40), (dq d_ 41), (dq d_ 42), (dq d_ 43), (dq d_ 44), (dq d_ 45)]), [(u_.getD 0 none), (u_.getD 1 none), (u_.getD 2 none), (u_.getD 3 none), (u_.getD 4 none), (u_.getD 5 none), some ⟨127, 1, .ints .u32 b6⟩, some ⟨124, 1, .cells [.bool off_2, .slw 6, .int .i64 off_3]⟩]⟩
def ls_q222 (d_ : List V) (u_ : List (Option Blk)) (q_0 : Fl) (q_1 : Fl) (q_2 : Fl) (q_3 : Fl) (off : Bool) (off_1 : Int) : St := ⟨(dqs d_ 0 7 [.ptr 6 0, (dq d_ 7), (dq d_ 8), (dq d_ 9), (dq d_ 10), (dq d_ 11), (dq d_ 12), (dq d_ 13), (dq d_ 14), (dq d_ 15), (dq d_ 16), (dq d_ 17), (dq d_ 18), (dq d_ 19), (dq d_ 20), (dq d_ 21), (dq d_ 22), (dq d_ 23), (dq d_ 24), (dq d_ 25), (dq d_ 26), (dq d_ 27), (dq d_ 28), (dq d_ 29), (dq d_ 30), (dq d_ 31), (dq d_ 32), (dq d_ 33), (dq d_ 34), (dq d_ 35), (dq d_ 36), (dq d_ 37), (dq d_ 38), (dq d_ 39), (dq d_ 40), (dq d_ 41), (dq d_ 42), (dq d_ 43), (dq d_ 44), (dq d_ 45)]), [(u_.getD 0 none), (u_.getD 1 none), (u_.getD 2 none), (u_.getD 3 none), (u_.getD 4 none), (u_.getD 5 none), some ⟨124, 1, .cells [.bool off, .nil, .int .i64 off_1]⟩]⟩
def ls_q207 (d_ : List V) (u_ : List (Option Blk)) (q_0 : Fl) (q_1 : Fl) (q_2 : Fl) (q_3 : Fl) (n : Bool) (n_1 : Int) : St := ⟨(dqs d_ 0 4 [.ptr 3 0, (dq d_ 4), (dq d_ 5), (dq d_ 6), (dq d_ 7), (dq d_ 8), (dq d_ 9), (dq d_ 10), (dq d_ 11), (dq d_ 12), (dq d_ 13), (dq d_ 14), (dq d_ 15), (dq d_ 16), (dq d_ 17), (dq d_ 18), (dq d_ 19), (dq d_ 20), (dq d_ 21), (dq d_ 22), (dq d_ 23), (dq d_ 24), (dq d_ 25), (dq d_ 26), (dq d_ 27), (dq d_ 28), (dq d_ 29), (dq d_ 30), (dq d_ 31), (dq d_ 32), (dq d_ 33), (dq d_ 34), (dq d_ 35), (dq d_ 36), (dq d_ 37), (dq d_ 38), (dq d_ 39), (dq d_ 40), (dq d_ 41), (dq d_ 42), (dq d_ 43), (dq d_ 44), (dq d_ 45)]), [(u_.getD 0 none), (u_.getD 1 none), (u_.getD 2 none), some ⟨124, 1, .cells [.bool n, .nil, .int .i64 n_1]⟩]⟩
theorem jn_q225 (N_ : Nat) (S_q12 : TS_q12) (S_q55 : TS_q55) (S_q91 : TS_q91) (S_q92 : TS_q92) (S_q44 : TS_q44) (d_ : List V) (u_ : List (Option Blk)) (q_0 : Fl) (q_1 : Fl) (q_2 : Fl) (q_3 : Fl) (b7 : List Int) (off_6 : Bool) (off_7 : Int) (c_ : V -> List Blk -> Bool) : codesV ⟨Pg, ofList [(56, (F_q12 S_q12)), (68, (F_q55 S_q55)), (79, (F_q91 S_q91)), (80, (F_q92 S_q92)), (81, (F_q44 S_q44))], isref, N_⟩ 0 (an_q134 N_ S_q12 S_q55 S_q91 S_q92 S_q44) ((cds Pg 21).drop 11) 0 (ls_q225 d_ u_ q_0 q_1 q_2 q_3 b7 off_6 off_7) (finV Pg 21 0 c_) = J_q225 N_ S_q12 S_q55 S_q91 S_q92 S_q44 q_0 q_1 q_2 q_3 b7 off_6 off_7 (fun r0 => c_ (.bool r0) []) := by kernel_rfl
theorem jn_q224 (N_ : Nat) (S_q12 : TS_q12) (S_q55 : TS_q55) (S_q91 : TS_q91) (S_q92 : TS_q92) (S_q44 : TS_q44) (d_ : List V) (u_ : List (Option Blk)) (q_0 : Fl) (q_1 : Fl) (q_2 : Fl) (q_3 : Fl) (off_4 : Bool) (off_5 : Int) (c_ : V -> List Blk -> Bool) : codesV ⟨Pg, ofList [(56, (F_q12 S_q12)), (68, (F_q55 S_q55)), (79, (F_q91 S_q91)), (80, (F_q92 S_q92)), (81, (F_q44 S_q44))], isref, N_⟩ 0 (an_q134 N_ S_q12 S_q55 S_q91 S_q92 S_q44) ((cds Pg 21).drop 11) 0 (ls_q224 d_ u_ q_0 q_1 q_2 q_3 off_4 off_5) (finV Pg 21 0 c_) = J_q224 N_ S_q12 S_q55 S_q91 S_q92 S_q44 q_0 q_1 q_2 q_3 off_4 off_5 (fun r0 => c_ (.bool r0) []) := by kernel_rfl
theorem hd_q208 (N_ : Nat) (S_q12 : TS_q12) (S_q55 : TS_q55) (S_q91 : TS_q91) (S_q92 : TS_q92) (S_q44 : TS_q44) (d_ : List V) (u_ : List (Option Blk)) (q_0 : Fl) (q_1 : Fl) (q_2 : Fl) (q_3 : Fl) (b3 : List Int) (n_2 : Bool) (n_3 : Int) (c_ : V -> List Blk -> Bool) (κn_ : St -> Bool) : codesV ⟨Pg, ofList [(56, (F_q12 S_q12)), (68, (F_q55 S_q55)), (79, (F_q91 S_q91)), (80, (F_q92 S_q92)), (81, (F_q44 S_q44))], isref, N_⟩ 0 (an_q134 N_ S_q12 S_q55 S_q91 S_q92 S_q44) (sg Pg 21 7 4) 0 (ls_q208 d_ u_ q_0 q_1 q_2 q_3 b3 n_2 n_3) { (finV Pg 21 0 c_) with nrm := κn_ } = (S_q92 n_2 b3 n_3 false [1] 0 (fun cr_5 nr_12 nr_13 => (cond (nr_13 != 0) (c_ (.bool false) []) (κn_ (ls_q224 (dqs d_ 0 4 [.ptr 4 0, .int .i64 nr_13, .ptr 6 0, (dq d_ 7), (dq d_ 8), (dq d_ 9), (dq d_ 10), (dq d_ 11), (dq d_ 12), (dq d_ 13), (dq d_ 14), (dq d_ 15), (dq d_ 16), (dq d_ 17), (dq d_ 18), (dq d_ 19), (dq d_ 20), (dq d_ 21), .slw 5, .agg [.bool false, .slw 5, .int .i64 0], .tup [.agg [.bool cr_5, .nil, .int .i64 nr_12], .int .i64 nr_13], .agg [.bool n_2, .slw 3, .int .i64 n_3], .agg [.bool false, .slw 5, .int .i64 0], .tup [.agg [.bool cr_5, .nil, .int .i64 nr_12], .int .i64 nr_13], .agg [.bool cr_5, .nil, .int .i64 nr_12], .int .i64 nr_13, .int .i64 nr_13, .bool false, (dq d_ 32), (dq d_ 33), (dq d_ 34), (dq d_ 35), (dq d_ 36), (dq d_ 37), (dq d_ 38), (dq d_ 39), (dq d_ 40), (dq d_ 41), (dq d_ 42), (dq d_ 43), (dq d_ 44), (dq d_ 45)]) [(u_.getD 0 none), (u_.getD 1 none), (u_.getD 2 none), some ⟨127, 1, .ints .u32 b3⟩, some ⟨124, 1, .cells [.bool n_2, .slw 3, .int .i64 n_3]⟩, some ⟨127, 1, .ints .u32 [1]⟩, some ⟨124, 1, .cells [.bool false, .slw 5, .int .i64 0]⟩] q_0 q_1 q_2 q_3 cr_5 nr_12)))) (fun cr_6 nr_14 nr_15 nsr_2 => (cond (nr_15 != 0) (c_ (.bool false) []) (κn_ (ls_q225 (dqs d_ 0 4 [.ptr 4 0, .int .i64 nr_15, .ptr 6 0, (dq d_ 7), (dq d_ 8), (dq d_ 9), (dq d_ 10), (dq d_ 11), (dq d_ 12), (dq d_ 13), (dq d_ 14), (dq d_ 15), (dq d_ 16), (dq d_ 17), (dq d_ 18), (dq d_ 19), (dq d_ 20), (dq d_ 21), .slw 5, .agg [.bool false, .slw 5, .int .i64 0], .tup [.agg [.bool cr_6, .slw 7, .int .i64 nr_14], .int .i64 nr_15], .agg [.bool n_2, .slw 3, .int .i64 n_3], .agg [.bool false, .slw 5, .int .i64 0], .tup [.agg [.bool cr_6, .slw 7, .int .i64 nr_14], .int .i64 nr_15], .agg [.bool cr_6, .slw 7, .int .i64 nr_14], .int .i64 nr_15, .int .i64 nr_15, .bool false, (dq d_ 32), (dq d_ 33), (dq d_ 34), (dq d_ 35), (dq d_ 36), (dq d_ 37), (dq d_ 38), (dq d_ 39), (dq d_ 40), (dq d_ 41), (dq d_ 42), (dq d_ 43), (dq d_ 44), (dq d_ 45)]) [(u_.getD 0 none), (u_.getD 1 none), (u_.getD 2 none), some ⟨127, 1, .ints .u32 b3⟩, some ⟨124, 1, .cells [.bool n_2, .slw 3, .int .i64 n_3]⟩, some ⟨127, 1, .ints .u32 [1]⟩, some ⟨124, 1, .cells [.bool false, .slw 5, .int .i64 0]⟩] q_0 q_1 q_2 q_3 nsr_2 cr_6 nr_14))))) := by kernel_rfl
theorem jn_q208 (N_ : Nat) (S_q12 : TS_q12) (S_q55 : TS_q55) (S_q91 : TS_q91) (S_q92 : TS_q92) (S_q44 : TS_q44) (d_ : List V) (u_ : List (Option Blk)) (q_0 : Fl) (q_1 : Fl) (q_2 : Fl) (q_3 : Fl) (b3 : List Int) (n_2 : Bool) (n_3 : Int) (c_ : V -> List Blk -> Bool) : codesV ⟨Pg, ofList [(56, (F_q12 S_q12)), (68, (F_q55 S_q55)), (79, (F_q91 S_q91)), (80, (F_q92 S_q92)), (81, (F_q44 S_q44))], isref, N_⟩ 0 (an_q134 N_ S_q12 S_q55 S_q91 S_q92 S_q44) ((cds Pg 21).drop 7) 0 (ls_q208 d_ u_ q_0 q_1 q_2 q_3 b3 n_2 n_3) (finV Pg 21 0 c_) = J_q208 N_ S_q12 S_q55 S_q91 S_q92 S_q44 q_0 q_1 q_2 q_3 b3 n_2 n_3 (fun r0 => c_ (.bool r0) []) := by
  rw [codesV_cut 7 4 11 rfl]
  refine (hd_q208 N_ S_q12 S_q55 S_q91 S_q92 S_q44 d_ u_ q_0 q_1 q_2 q_3 b3 n_2 n_3 c_ _).trans ?_
  simp only [jn_q224, jn_q225]
  kernel_rfl
theorem jn_q223 (N_ : Nat) (S_q12 : TS_q12) (S_q55 : TS_q55) (S_q91 : TS_q91) (S_q92 : TS_q92) (S_q44 : TS_q44) (d_ : List V) (u_ : List (Option Blk)) (q_0 : Fl) (q_1 : Fl) (q_2 : Fl) (q_3 : Fl) (b6 : List Int) (off_2 : Bool) (off_3 : Int) (c_ : V -> List Blk -> Bool) : codesV ⟨Pg, ofList [(56, (F_q12 S_q12)), (68, (F_q55 S_q55)), (79, (F_q91 S_q91)), (80, (F_q92 S_q92)), (81, (F_q44 S_q44))], isref, N_⟩ 0 (an_q134 N_ S_q12 S_q55 S_q91 S_q92 S_q44) ((cds Pg 21).drop 11) 0 (ls_q223 d_ u_ q_0 q_1 q_2 q_3 b6 off_2 off_3) (finV Pg 21 0 c_) = J_q223 N_ S_q12 S_q55 S_q91 S_q92 S_q44 q_0 q_1 q_2 q_3 b6 off_2 off_3 (fun r0 => c_ (.bool r0) []) := by kernel_rfl
theorem jn_q222 (N_ : Nat) (S_q12 : TS_q12) (S_q55 : TS_q55) (S_q91 : TS_q91) (S_q92 : TS_q92) (S_q44 : TS_q44) (d_ : List V) (u_ : List (Option Blk)) (q_0 : Fl) (q_1 : Fl) (q_2 : Fl) (q_3 : Fl) (off : Bool) (off_1 : Int) (c_ : V -> List Blk -> Bool) : codesV ⟨Pg, ofList [(56, (F_q12 S_q12)), (68, (F_q55 S_q55)), (79, (F_q91 S_q91)), (80, (F_q92 S_q92)), (81, (F_q44 S_q44))], isref, N_⟩ 0 (an_q134 N_ S_q12 S_q55 S_q91 S_q92 S_q44) ((cds Pg 21).drop 11) 0 (ls_q222 d_ u_ q_0 q_1 q_2 q_3 off off_1) (finV Pg 21 0 c_) = J_q222 N_ S_q12 S_q55 S_q91 S_q92 S_q44 q_0 q_1 q_2 q_3 off off_1 (fun r0 => c_ (.bool r0) []) := by kernel_rfl
theorem hd_q207 (N_ : Nat) (S_q12 : TS_q12) (S_q55 : TS_q55) (S_q91 : TS_q91) (S_q92 : TS_q92) (S_q44 : TS_q44) (d_ : List V) (u_ : List (Option Blk)) (q_0 : Fl) (q_1 : Fl) (q_2 : Fl) (q_3 : Fl) (n : Bool) (n_1 : Int) (c_ : V -> List Blk -> Bool) (κn_ : St -> Bool) : codesV ⟨Pg, ofList [(56, (F_q12 S_q12)), (68, (F_q55 S_q55)), (79, (F_q91 S_q91)), (80, (F_q92 S_q92)), (81, (F_q44 S_q44))], isref, N_⟩ 0 (an_q134 N_ S_q12 S_q55 S_q91 S_q92 S_q44) (sg Pg 21 7 4) 0 (ls_q207 d_ u_ q_0 q_1 q_2 q_3 n n_1) { (finV Pg 21 0 c_) with nrm := κn_ } = (S_q92 n [] n_1 false [1] 0 (fun cr_3 nr_4 nr_5 => (cond (nr_5 != 0) (c_ (.bool false) []) (κn_ (ls_q222 (dqs d_ 0 4 [.ptr 3 0, .int .i64 nr_5, .ptr 5 0, (dq d_ 7), (dq d_ 8), (dq d_ 9), (dq d_ 10), (dq d_ 11), (dq d_ 12), (dq d_ 13), (dq d_ 14), (dq d_ 15), (dq d_ 16), (dq d_ 17), (dq d_ 18), (dq d_ 19), (dq d_ 20), (dq d_ 21), .slw 4, .agg [.bool false, .slw 4, .int .i64 0], .tup [.agg [.bool cr_3, .nil, .int .i64 nr_4], .int .i64 nr_5], .agg [.bool n, .nil, .int .i64 n_1], .agg [.bool false, .slw 4, .int .i64 0], .tup [.agg [.bool cr_3, .nil, .int .i64 nr_4], .int .i64 nr_5], .agg [.bool cr_3, .nil, .int .i64 nr_4], .int .i64 nr_5, .int .i64 nr_5, .bool false, (dq d_ 32), (dq d_ 33), (dq d_ 34), (dq d_ 35), (dq d_ 36), (dq d_ 37), (dq d_ 38), (dq d_ 39), (dq d_ 40), (dq d_ 41), (dq d_ 42), (dq d_ 43), (dq d_ 44), (dq d_ 45)]) [(u_.getD 0 none), (u_.getD 1 none), (u_.getD 2 none), some ⟨124, 1, .cells [.bool n, .nil, .int .i64 n_1]⟩, some ⟨127, 1, .ints .u32 [1]⟩, some ⟨124, 1, .cells [.bool false, .slw 4, .int .i64 0]⟩] q_0 q_1 q_2 q_3 cr_3 nr_4)))) (fun cr_4 nr_6 nr_7 nsr_1 => (cond (nr_7 != 0) (c_ (.bool false) []) (κn_ (ls_q223 (dqs d_ 0 4 [.ptr 3 0, .int .i64 nr_7, .ptr 5 0, (dq d_ 7), (dq d_ 8), (dq d_ 9), (dq d_ 10), (dq d_ 11), (dq d_ 12), (dq d_ 13), (dq d_ 14), (dq d_ 15), (dq d_ 16), (dq d_ 17), (dq d_ 18), (dq d_ 19), (dq d_ 20), (dq d_ 21), .slw 4, .agg [.bool false, .slw 4, .int .i64 0], .tup [.agg [.bool cr_4, .slw 6, .int .i64 nr_6], .int .i64 nr_7], .agg [.bool n, .nil, .int .i64 n_1], .agg [.bool false, .slw 4, .int .i64 0], .tup [.agg [.bool cr_4, .slw 6, .int .i64 nr_6], .int .i64 nr_7], .agg [.bool cr_4, .slw 6, .int .i64 nr_6], .int .i64 nr_7, .int .i64 nr_7, .bool false, (dq d_ 32), (dq d_ 33), (dq d_ 34), (dq d_ 35), (dq d_ 36), (dq d_ 37), (dq d_ 38), (dq d_ 39), (dq d_ 40), (dq d_ 41), (dq d_ 42), (dq d_ 43), (dq d_ 44), (dq d_ 45)]) [(u_.getD 0 none), (u_.getD 1 none), (u_.getD 2 none), some ⟨124, 1, .cells [.bool n, .nil, .int .i64 n_1]⟩, some ⟨127, 1, .ints .u32 [1]⟩, some ⟨124, 1, .cells [.bool false, .slw 4, .int .i64 0]⟩] q_0 q_1 q_2 q_3 nsr_1 cr_4 nr_6))))) := by kernel_rfl
theorem jn_q207 (N_ : Nat) (S_q12 : TS_q12) (S_q55 : TS_q55) (S_q91 : TS_q91) (S_q92 : TS_q92) (S_q44 : TS_q44) (d_ : List V) (u_ : List (Option Blk)) (q_0 : Fl) (q_1 : Fl) (q_2 : Fl) (q_3 : Fl) (n : Bool) (n_1 : Int) (c_ : V -> List Blk -> Bool) : codesV ⟨Pg, ofList [(56, (F_q12 S_q12)), (68, (F_q55 S_q55)), (79, (F_q91 S_q91)), (80, (F_q92 S_q92)), (81, (F_q44 S_q44))], isref, N_⟩ 0 (an_q134 N_ S_q12 S_q55 S_q91 S_q92 S_q44) ((cds Pg 21).drop 7) 0 (ls_q207 d_ u_ q_0 q_1 q_2 q_3 n n_1) (finV Pg 21 0 c_) = J_q207 N_ S_q12 S_q55 S_q91 S_q92 S_q44 q_0 q_1 q_2 q_3 n n_1 (fun r0 => c_ (.bool r0) []) := by
  rw [codesV_cut 7 4 11 rfl]
  refine (hd_q207 N_ S_q12 S_q55 S_q91 S_q92 S_q44 d_ u_ q_0 q_1 q_2 q_3 n n_1 c_ _).trans ?_
  simp only [jn_q222, jn_q223]
  kernel_rfl
theorem hd_quat_Good_w (N_ : Nat) (S_q12 : TS_q12) (S_q55 : TS_q55) (S_q91 : TS_q91) (S_q92 : TS_q92) (S_q44 : TS_q44) (q_0 : Fl) (q_1 : Fl) (q_2 : Fl) (q_3 : Fl) (c_ : V -> List Blk -> Bool) (κn_ : St -> Bool) : codesV ⟨Pg, ofList [(56, (F_q12 S_q12)), (68, (F_q55 S_q55)), (79, (F_q91 S_q91)), (80, (F_q92 S_q92)), (81, (F_q44 S_q44))], isref, N_⟩ 0 (an_q134 N_ S_q12 S_q55 S_q91 S_q92 S_q44) (sg Pg 21 0 7) 0 (st0 Pg 21 (shF_q134.args [.fl q_0, .fl q_1, .fl q_2, .fl q_3]) []) { (finV Pg 21 0 c_) with nrm := κn_ } = (S_q12 q_0 q_1 q_2 q_3 (fun cr => (cond (!cr) (c_ (.bool false) []) (S_q55 q_0 q_1 q_2 q_3 (S_q91 [q_0, q_1, q_2, q_3] [q_0, q_1, q_2, q_3] (fun cr_1 nr nr_1 => (cond (nr_1 != 0) (c_ (.bool false) []) (κn_ (ls_q207 [.agg [.flt q_0, .flt q_1, .flt q_2, .flt q_3], .ptr 0 0, .bool false, .ptr 2 0, .int .i64 nr_1, .any, .any, .any, .agg [.flt q_0, .flt q_1, .flt q_2, .flt q_3], .slw 1, .bool cr, .bool false, .agg [.flt q_0, .flt q_1, .flt q_2, .flt q_3], .agg [.flt q_0, .flt q_1, .flt q_2, .flt q_3], .tup [.agg [.bool cr_1, .nil, .int .i64 nr], .int .i64 nr_1], .sl 2 0 (4 - 0), .sl 2 0 (4 - 0), .tup [.agg [.bool cr_1, .nil, .int .i64 nr], .int .i64 nr_1], .agg [.bool cr_1, .nil, .int .i64 nr], .int .i64 nr_1, .int .i64 nr_1, .bool false, .any, .any, .any, .any, .any, .any, .any, .any, .any, .any, .any, .any, .any, .any, .any, .any, .any, .any, .any, .any, .any, .any, .any, .any] [some ⟨26, 1, .cells [.flt q_0, .flt q_1, .flt q_2, .flt q_3]⟩, some ⟨26, 4, .cells [.flt q_0, .flt q_1, .flt q_2, .flt q_3]⟩, some ⟨113, 1, .flts [q_0, q_1, q_2, q_3]⟩] q_0 q_1 q_2 q_3 cr_1 nr)))) (fun cr_2 nr_2 nr_3 nsr => (cond (nr_3 != 0) (c_ (.bool false) []) (κn_ (ls_q208 [.agg [.flt q_0, .flt q_1, .flt q_2, .flt q_3], .ptr 0 0, .bool false, .ptr 2 0, .int .i64 nr_3, .any, .any, .any, .agg [.flt q_0, .flt q_1, .flt q_2, .flt q_3], .slw 1, .bool cr, .bool false, .agg [.flt q_0, .flt q_1, .flt q_2, .flt q_3], .agg [.flt q_0, .flt q_1, .flt q_2, .flt q_3], .tup [.agg [.bool cr_2, .slw 3, .int .i64 nr_2], .int .i64 nr_3], .sl 2 0 (4 - 0), .sl 2 0 (4 - 0), .tup [.agg [.bool cr_2, .slw 3, .int .i64 nr_2], .int .i64 nr_3], .agg [.bool cr_2, .slw 3, .int .i64 nr_2], .int .i64 nr_3, .int .i64 nr_3, .bool false, .any, .any, .any, .any, .any, .any, .any, .any, .any, .any, .any, .any, .any, .any, .any, .any, .any, .any, .any, .any, .any, .any, .any, .any] [some ⟨26, 1, .cells [.flt q_0, .flt q_1, .flt q_2, .flt q_3]⟩, some ⟨26, 4, .cells [.flt q_0, .flt q_1, .flt q_2, .flt q_3]⟩, some ⟨113, 1, .flts [q_0, q_1, q_2, q_3]⟩] q_0 q_1 q_2 q_3 nsr cr_2 nr_2))))))))) := by kernel_rfl
theorem jn_quat_Good_w (N_ : Nat) (S_q12 : TS_q12) (S_q55 : TS_q55) (S_q91 : TS_q91) (S_q92 : TS_q92) (S_q44 : TS_q44) (q_0 : Fl) (q_1 : Fl) (q_2 : Fl) (q_3 : Fl) (c_ : V -> List Blk -> Bool) : codesV ⟨Pg, ofList [(56, (F_q12 S_q12)), (68, (F_q55 S_q55)), (79, (F_q91 S_q91)), (80, (F_q92 S_q92)), (81, (F_q44 S_q44))], isref, N_⟩ 0 (an_q134 N_ S_q12 S_q55 S_q91 S_q92 S_q44) ((cds Pg 21).drop 0) 0 (st0 Pg 21 (shF_q134.args [.fl q_0, .fl q_1, .fl q_2, .fl q_3]) []) (finV Pg 21 0 c_) = G_q134 N_ S_q12 S_q55 S_q91 S_q92 S_q44 q_0 q_1 q_2 q_3 (fun r0 => c_ (.bool r0) []) := by
  rw [codesV_cut 0 7 7 rfl]
  refine (hd_quat_Good_w N_ S_q12 S_q55 S_q91 S_q92 S_q44 q_0 q_1 q_2 q_3 c_ _).trans ?_
  simp only [jn_q207, jn_q208]
  kernel_rfl
theorem eq_q134 (N_ : Nat) (S_q12 : TS_q12) (S_q55 : TS_q55) (S_q91 : TS_q91) (S_q92 : TS_q92) (S_q44 : TS_q44) (q_0 : Fl) (q_1 : Fl) (q_2 : Fl) (q_3 : Fl) (c_ : V -> List Blk -> Bool) : bodyV ⟨Pg, ofList [(56, (F_q12 S_q12)), (68, (F_q55 S_q55)), (79, (F_q91 S_q91)), (80, (F_q92 S_q92)), (81, (F_q44 S_q44))], isref, N_⟩ (an_q134 N_ S_q12 S_q55 S_q91 S_q92 S_q44) 21 (shF_q134.args [.fl q_0, .fl q_1, .fl q_2, .fl q_3]) [] c_ = G_q134 N_ S_q12 S_q55 S_q91 S_q92 S_q44 q_0 q_1 q_2 q_3 (fun r0 => c_ (.bool r0) []) :=
  (bodyV_codes (by kernel_rfl)).trans (jn_quat_Good_w N_ S_q12 S_q55 S_q91 S_q92 S_q44 q_0 q_1 q_2 q_3 c_)
theorem good_q134 (N_ : Nat) (S_q12 : TS_q12) (S_q55 : TS_q55) (S_q91 : TS_q91) (S_q92 : TS_q92) (S_q44 : TS_q44) (h_q12 : GoodF Pg 56 (F_q12 S_q12)) (h_q55 : GoodF Pg 68 (F_q55 S_q55)) (h_q91 : GoodF Pg 79 (F_q91 S_q91)) (h_q92 : GoodF Pg 80 (F_q92 S_q92)) (h_q44 : GoodF Pg 81 (F_q44 S_q44)) : GoodF Pg 21 (F_q134 (G_q134 N_ S_q12 S_q55 S_q91 S_q92 S_q44)) := by
  refine good_fs (cx := ⟨Pg, ofList [(56, (F_q12 S_q12)), (68, (F_q55 S_q55)), (79, (F_q91 S_q91)), (80, (F_q92 S_q92)), (81, (F_q44 S_q44))], isref, N_⟩) (ofList_cons h_q12 (ofList_cons h_q55 (ofList_cons h_q91 (ofList_cons h_q92 (ofList_cons h_q44 (ofList_nil _)))))) shF_q134 (sp_q134 (G_q134 N_ S_q12 S_q55 S_q91 S_q92 S_q44)) (an_q134 N_ S_q12 S_q55 S_q91 S_q92 S_q44) 0 0 (by kernel_rfl) (fun i_ hi_ => by omega) ?_
  intro a k h
  unfold sp_q134 at h
  split at h
  · exact ⟨[], rfl, rfl, (eq_q134 _ _ _ _ _ _ _ _ _ _ _).trans h⟩
  · cases h

def an_q84 (N_ : Nat) : Nat -> Option Ann := fun b_ => none
theorem eq_q84 (N_ : Nat) (c_ : V -> List Blk -> Bool) : bodyV ⟨Pg, ofList [], isref, N_⟩ (an_q84 N_) 55 (shF_q84.args []) [] c_ = G_q84 N_ (fun r0 r1 r2 r3 => c_ (.agg [.flt r0, .flt r1, .flt r2, .flt r3]) []) := by kernel_rfl
theorem good_q84 (N_ : Nat) : GoodF Pg 55 (F_q84 (G_q84 N_)) := by
  refine good_fs (cx := ⟨Pg, ofList [], isref, N_⟩) (ofList_nil _) shF_q84 (sp_q84 (G_q84 N_)) (an_q84 N_) 0 0 (by kernel_rfl) (fun i_ hi_ => by omega) ?_
  intro a k h
  unfold sp_q84 at h
  split at h
  · exact ⟨[], rfl, rfl, (eq_q84 _ _).trans h⟩
  · cases h

def an_q20 (N_ : Nat) (S_q89 : TS_q89) (S_q153 : TS_q153) (S_q170 : TS_q170) (S_q134 : TS_q134) (S_q84 : TS_q84) : Nat -> Option Ann := fun b_ => none
theorem eq_q20 (N_ : Nat) (S_q89 : TS_q89) (S_q153 : TS_q153) (S_q170 : TS_q170) (S_q134 : TS_q134) (S_q84 : TS_q84) (c_ : V -> List Blk -> Bool) : bodyV ⟨Pg, ofList [(18, (F_q89 S_q89)), (44, (F_q153 S_q153)), (10, (F_q170 S_q170)), (21, (F_q134 S_q134)), (55, (F_q84 S_q84))], isref, N_⟩ (an_q20 N_ S_q89 S_q153 S_q170 S_q134 S_q84) 8 (shF_q20.args []) [] c_ = G_q20 N_ S_q89 S_q153 S_q170 S_q134 S_q84 (fun r0 => c_ (.bool r0) []) := by kernel_rfl
theorem good_q20 (N_ : Nat) (S_q89 : TS_q89) (S_q153 : TS_q153) (S_q170 : TS_q170) (S_q134 : TS_q134) (S_q84 : TS_q84) (h_q89 : GoodF Pg 18 (F_q89 S_q89)) (h_q153 : GoodF Pg 44 (F_q153 S_q153)) (h_q170 : GoodF Pg 10 (F_q170 S_q170)) (h_q134 : GoodF Pg 21 (F_q134 S_q134)) (h_q84 : GoodF Pg 55 (F_q84 S_q84)) : GoodF Pg 8 (F_q20 (G_q20 N_ S_q89 S_q153 S_q170 S_q134 S_q84)) := by
  refine good_fs (cx := ⟨Pg, ofList [(18, (F_q89 S_q89)), (44, (F_q153 S_q153)), (10, (F_q170 S_q170)), (21, (F_q134 S_q134)), (55, (F_q84 S_q84))], isref, N_⟩) (ofList_cons h_q89 (ofList_cons h_q153 (ofList_cons h_q170 (ofList_cons h_q134 (ofList_cons h_q84 (ofList_nil _)))))) shF_q20 (sp_q20 (G_q20 N_ S_q89 S_q153 S_q170 S_q134 S_q84)) (an_q20 N_ S_q89 S_q153 S_q170 S_q134 S_q84) 0 0 (by kernel_rfl) (fun i_ hi_ => by omega) ?_
  intro a k h
  unfold sp_q20 at h
  split at h
  · exact ⟨[], rfl, rfl, (eq_q20 _ _ _ _ _ _ _).trans h⟩
  · cases h

def sh_st_binnacleref01_Of64_0 : StSh := ⟨[.any, .any, .any, .slw 0, .any, .any, .roi .u64, .int .i64, .int .i64, .any, .any, .any, .any, .any, .any, .any, .any, .any, .any], [some (24, 1, .flts)]⟩
def sx0_st_binnacleref01_Of64_0 : StSh := ⟨[.any, .any, .any, .slw 0, .any, .any, .any, .any, .any, .any, .any, .any, .any, .any, .any, .any, .any, .any, .any], [some (24, 1, .flts)]⟩
def hk_st_binnacleref01_Of64_0 (N_ : Nat) (S_q70 : TS_q70) : List Atom -> K -> Bool := fun a_ κ => match a_ with
  | [.ints t6_1, .int t7_1, .int t8_1, .fls x] => iterG N_ (st_z01_Of64_0 N_ S_q70 t6_1 t7_1 (fun r0 => κ.ext 0 (sx0_st_binnacleref01_Of64_0.build [.fls r0]))) (t8_1, x)
  | _ => false
def an_q162 (N_ : Nat) (S_q70 : TS_q70) : Nat -> Option Ann := fun b_ => cond (b_ == 0) (some ⟨⟨[3, 6, 7, 8], [(3, none, 24)], []⟩, [(0, ⟨[3], [], []⟩)], some ⟨[2], [], []⟩, some (mkHooks [(sh_st_binnacleref01_Of64_0, hk_st_binnacleref01_Of64_0 N_ S_q70)])⟩) (none)
theorem eq_st_binnacleref01_Of64_0 (N_ : Nat) (S_q70 : TS_q70) (κ : K) (t6_1 : List Int) (t7_1 : Int) (t8_1 : Int) (x : List Fl) : iter N_ (fun s k => codeV ⟨Pg, ofList [(100, (F_q70 S_q70))], isref, N_⟩ 0 (an_q162 N_ S_q70) (lp Pg 96 0).2 (lp Pg 96 0).1 s (roundK Pg 0 ((an_q162 N_ S_q70) (lp Pg 96 0).1) κ k)) (sh_st_binnacleref01_Of64_0.build [.ints t6_1, .int t7_1, .int t8_1, .fls x]) = iterG N_ (st_z01_Of64_0 N_ S_q70 t6_1 t7_1 (fun r0 => κ.ext 0 (sx0_st_binnacleref01_Of64_0.build [.fls r0]))) (t8_1, x) :=
  iter_tr (fun (v_ : Int × List Fl) => sh_st_binnacleref01_Of64_0.build [.ints t6_1, .int t7_1, .int v_.1, .fls v_.2]) (fun v_ K_ => by obtain ⟨t8_1, x⟩ := v_; kernel_rfl) N_ (t8_1, x)
theorem hk1_st_binnacleref01_Of64_0 (N_ : Nat) (S_q70 : TS_q70) : HookFor ⟨Pg, ofList [(100, (F_q70 S_q70))], isref, N_⟩ 0 (an_q162 N_ S_q70) (lp Pg 96 0) (sh_st_binnacleref01_Of64_0, hk_st_binnacleref01_Of64_0 N_ S_q70) := by
  intro a κ h
  simp only at h
  unfold hk_st_binnacleref01_Of64_0 at h
  split at h
  · exact (eq_st_binnacleref01_Of64_0 _ _ _ _ _ _ _).trans h
  · cases h
theorem ho_binnacleref01_Of64_0 (N_ : Nat) (S_q70 : TS_q70) : HookOk ⟨Pg, ofList [(100, (F_q70 S_q70))], isref, N_⟩ 0 (an_q162 N_ S_q70) (lp Pg 96 0) :=
  hooks_ok [(sh_st_binnacleref01_Of64_0, hk_st_binnacleref01_Of64_0 N_ S_q70)] (by kernel_rfl) ⟨hk1_st_binnacleref01_Of64_0 _ _, trivial⟩
theorem eq_q162 (N_ : Nat) (S_q70 : TS_q70) (l : List Int) (c_ : V -> List Blk -> Bool) : bodyV ⟨Pg, ofList [(100, (F_q70 S_q70))], isref, N_⟩ (an_q162 N_ S_q70) 96 (shF_q162.args [.ints l]) [] c_ = G_q162 N_ S_q70 l (fun r0 => c_ (.slw 0) [⟨24, 1, .flts r0⟩]) := by kernel_rfl
theorem good_q162 (N_ : Nat) (S_q70 : TS_q70) (h_q70 : GoodF Pg 100 (F_q70 S_q70)) : GoodF Pg 96 (F_q162 (G_q162 N_ S_q70)) := by
  refine good_fs (cx := ⟨Pg, ofList [(100, (F_q70 S_q70))], isref, N_⟩) (ofList_cons h_q70 (ofList_nil _)) shF_q162 (sp_q162 (G_q162 N_ S_q70)) (an_q162 N_ S_q70) 1 0 (by kernel_rfl) (fun i_ hi_ => by
    match i_, hi_ with
    | 0, _ => exact ho_binnacleref01_Of64_0 _ _
    | (q + 1), h => omega) ?_
  intro a k h
  unfold sp_q162 at h
  split at h
  · exact ⟨[], rfl, rfl, (eq_q162 _ _ _ _).trans h⟩
  · cases h

def an_q24 (N_ : Nat) (S_q162 : TS_q162) : Nat -> Option Ann := fun b_ => none
theorem eq_q24 (N_ : Nat) (S_q162 : TS_q162) (m_0 : Int) (m_1 : Int) (m_2 : List Int) (c_ : V -> List Blk -> Bool) : bodyV ⟨Pg, ofList [(96, (F_q162 S_q162))], isref, N_⟩ (an_q24 N_ S_q162) 34 (shF_q24.args [.int m_0, .int m_1, .ints m_2]) [] c_ = G_q24 N_ S_q162 m_0 m_1 m_2 (fun r2 => c_ (.agg [.int .i64 m_0, .int .i64 m_1, .slw 0]) [⟨24, 1, .flts r2⟩]) := by kernel_rfl
theorem good_q24 (N_ : Nat) (S_q162 : TS_q162) (h_q162 : GoodF Pg 96 (F_q162 S_q162)) : GoodF Pg 34 (F_q24 (G_q24 N_ S_q162)) := by
  refine good_fs (cx := ⟨Pg, ofList [(96, (F_q162 S_q162))], isref, N_⟩) (ofList_cons h_q162 (ofList_nil _)) shF_q24 (sp_q24 (G_q24 N_ S_q162)) (an_q24 N_ S_q162) 0 0 (by kernel_rfl) (fun i_ hi_ => by omega) ?_
  intro a k h
  unfold sp_q24 at h
  split at h
  · exact ⟨[], rfl, rfl, (eq_q24 _ _ _ _ _ _).trans h⟩
  · cases h

def an_q126 (N_ : Nat) : Nat -> Option Ann := fun b_ => none
theorem eq_q126 (N_ : Nat) (n : Int) (c_ : V -> List Blk -> Bool) : bodyV ⟨Pg, ofList [], isref, N_⟩ (an_q126 N_) 139 (shF_q126.args [.int n]) [] c_ = G_q126 N_ n (fun r0 => c_ (.bool r0) []) := by kernel_rfl
theorem good_q126 (N_ : Nat) : GoodF Pg 139 (F_q126 (G_q126 N_)) := by
  refine good_fs (cx := ⟨Pg, ofList [], isref, N_⟩) (ofList_nil _) shF_q126 (sp_q126 (G_q126 N_)) (an_q126 N_) 0 0 (by kernel_rfl) (fun i_ hi_ => by omega) ?_
  intro a k h
  unfold sp_q126 at h
  split at h
  · exact ⟨[], rfl, rfl, (eq_q126 _ _ _).trans h⟩
  · cases h

def an_q75 (N_ : Nat) (S_q126 : TS_q126) (S_q93 : TS_q93) : Nat -> Option Ann := fun b_ => none
theorem eq_q75 (N_ : Nat) (S_q126 : TS_q126) (S_q93 : TS_q93) (m_0 : Int) (m_1 : Int) (m_2 : List Fl) (c_ : V -> List Blk -> Bool) : bodyV ⟨Pg, ofList [(139, (F_q126 S_q126)), (124, (F_q93 S_q93))], isref, N_⟩ (an_q75 N_ S_q126 S_q93) 94 (shF_q75.args [.int m_0, .int m_1, .fls m_2]) [] c_ = G_q75 N_ S_q126 S_q93 m_0 m_1 m_2 (fun r0 => c_ (.int .i64 r0) []) := by kernel_rfl
theorem good_q75 (N_ : Nat) (S_q126 : TS_q126) (S_q93 : TS_q93) (h_q126 : GoodF Pg 139 (F_q126 S_q126)) (h_q93 : GoodF Pg 124 (F_q93 S_q93)) : GoodF Pg 94 (F_q75 (G_q75 N_ S_q126 S_q93)) := by
  refine good_fs (cx := ⟨Pg, ofList [(139, (F_q126 S_q126)), (124, (F_q93 S_q93))], isref, N_⟩) (ofList_cons h_q126 (ofList_cons h_q93 (ofList_nil _))) shF_q75 (sp_q75 (G_q75 N_ S_q126 S_q93)) (an_q75 N_ S_q126 S_q93) 0 0 (by kernel_rfl) (fun i_ hi_ => by omega) ?_
  intro a k h
  unfold sp_q75 at h
  split at h
  · exact ⟨[], rfl, rfl, (eq_q75 _ _ _ _ _ _ _).trans h⟩
  · cases h

def an_q30 (N_ : Nat) : Nat -> Option Ann := fun b_ => none
theorem eq_q30 (N_ : Nat) (i : Int) (j : Int) (b : Int) (b_1 : Int) (b_2 : List Fl) (c_ : V -> List Blk -> Bool) : bodyV ⟨Pg, ofList [], isref, N_⟩ (an_q30 N_) 95 (shF_q30.args [.int i, .int j, .int b, .int b_1, .fls b_2]) [⟨61, 1, .cells [.int .i64 b, .int .i64 b_1, .rof b_2]⟩] c_ = G_q30 N_ i j b b_1 b_2 (fun r0 => c_ (.flt r0) [⟨61, 1, .cells [.int .i64 b, .int .i64 b_1, .rof b_2]⟩]) := by kernel_rfl
theorem good_q30 (N_ : Nat) : GoodF Pg 95 (F_q30 (G_q30 N_)) := by
  refine good_fs (cx := ⟨Pg, ofList [], isref, N_⟩) (ofList_nil _) shF_q30 (sp_q30 (G_q30 N_)) (an_q30 N_) 0 1 (by kernel_rfl) (fun i_ hi_ => by omega) ?_
  intro a k h
  unfold sp_q30 at h
  split at h
  · exact ⟨[_], rfl, rfl, (eq_q30 _ _ _ _ _ _ _).trans h⟩
  · cases h

def an_q88 (N_ : Nat) (S_q75 : TS_q75) (S_q30 : TS_q30) (S_q21 : TS_q21) (S_q99 : TS_q99) (S_q89 : TS_q89) : Nat -> Option Ann := fun b_ => none
def ls_q188 (d_ : List V) (u_ : List (Option Blk)) (m_0 : Int) (m_1 : Int) (m_2 : List Fl) (k_ : Fl) (k__1 : Fl) (k__2 : Fl) (k__3 : Fl) : St := ⟨[(dq d_ 0), (dq d_ 1), .ptr 1 0, (dq d_ 2), (dq d_ 3), (dq d_ 4), (dq d_ 5), (dq d_ 6), (dq d_ 7), (dq d_ 8), (dq d_ 9), (dq d_ 10), (dq d_ 11), (dq d_ 12), (dq d_ 13), (dq d_ 14), .ptr 3 0, (dq d_ 15), (dq d_ 16), (dq d_ 17), (dq d_ 18), (dq d_ 19), (dq d_ 20), (dq d_ 21), (dq d_ 22), (dq d_ 23), (dq d_ 24), (dq d_ 25), (dq d_ 26), (dq d_ 27), (dq d_ 28), (dq d_ 29), (dq d_ 30), (dq d_ 31), (dq d_ 32), (dq d_ 33), (dq d_ 34), (dq d_ 35), (dq d_ 36), (dq d_ 37), (dq d_ 38), (dq d_ 39), (dq d_ 40), (dq d_ 41), (dq d_ 42), (dq d_ 43), (dq d_ 44), (dq d_ 45), (dq d_ 46), (dq d_ 47), (dq d_ 48), (dq d_ 49), (dq d_ 50), (dq d_ 51), (dq d_ 52), (dq d_ 53), (dq d_ 54), (dq d_ 55), (dq d_ 56), (dq d_ 57), (dq d_ 58), (dq d_ 59), (dq d_ 60), (dq d_ 61), (dq d_ 62), (dq d_ 63), (dq d_ 64), (dq d_ 65), (dq d_ 66), (dq d_ 67), (dq d_ 68), (dq d_ 69), (dq d_ 70), (dq d_ 71), (dq d_ 72), (dq d_ 73), (dq d_ 74), (dq d_ 75), (dq d_ 76), (dq d_ 77), (dq d_ 78), (dq d_ 79), (dq d_ 80), (dq d_ 81), (dq d_ 82), (dq d_ 83), (dq d_ 84), (dq d_ 85), (dq d_ 86), (dq d_ 87), (dq d_ 88), (dq d_ 89), (dq d_ 90), (dq d_ 91), (dq d_ 92), (dq d_ 93), (dq d_ 94), (dq d_ 95), (dq d_ 96), (dq d_ 97), (dq d_ 98), (dq d_ 99), (dq d_ 100), (dq d_ 101), (dq d_ 102), (dq d_ 103), (dq d_ 104), (dq d_ 105), (dq d_ 106), (dq d_ 107), (dq d_ 108), (dq d_ 109), (dq d_ 110), (dq d_ 111), (dq d_ 112), (dq d_ 113), (dq d_ 114), (dq d_ 115), (dq d_ 116), (dq d_ 117), (dq d_ 118), (dq d_ 119), (dq d_ 120), (dq d_ 121), (dq d_ 122), (dq d_ 123), (dq d_ 124), (dq d_ 125), (dq d_ 126), (dq d_ 127), (dq d_ 128), (dq d_ 129), (dq d_ 130), (dq d_ 131), (dq d_ 132), (dq d_ 133), (dq d_ 134), (dq d_ 135), (dq d_ 136), (dq d_ 137), (dq d_ 138), (dq d_ 139), (dq d_ 140), (dq d_ 141), (dq d_ 142), (dq d_ 143)], [(u_.getD 0 none), some ⟨26, 1, .cells [.flt (some 0), .flt (some 0), .flt (some 0), .flt (some 0)]⟩, (u_.getD 1 none), some ⟨26, 1, .cells [.flt k_, .flt k__1, .flt k__2, .flt k__3]⟩]⟩
theorem jn_q188 (N_ : Nat) (S_q75 : TS_q75) (S_q30 : TS_q30) (S_q21 : TS_q21) (S_q99 : TS_q99) (S_q89 : TS_q89) (d_ : List V) (u_ : List (Option Blk)) (m_0 : Int) (m_1 : Int) (m_2 : List Fl) (k_ : Fl) (k__1 : Fl) (k__2 : Fl) (k__3 : Fl) (c_ : V -> List Blk -> Bool) : codesV ⟨Pg, ofList [(94, (F_q75 S_q75)), (95, (F_q30 S_q30)), (86, (F_q21 S_q21)), (57, (F_q99 S_q99)), (18, (F_q89 S_q89))], isref, N_⟩ 0 (an_q88 N_ S_q75 S_q30 S_q21 S_q99 S_q89) ((cds Pg 33).drop 17) 0 (ls_q188 d_ u_ m_0 m_1 m_2 k_ k__1 k__2 k__3) (finV Pg 33 0 c_) = J_q188 N_ S_q75 S_q30 S_q21 S_q99 S_q89 m_0 m_1 m_2 k_ k__1 k__2 k__3 (fun r0 r1 r2 r3 r4 => c_ (.tup [.agg [.flt r0, .flt r1, .flt r2, .flt r3], .int .i64 r4]) []) := by kernel_rfl
theorem hd_quat_From_w (N_ : Nat) (S_q75 : TS_q75) (S_q30 : TS_q30) (S_q21 : TS_q21) (S_q99 : TS_q99) (S_q89 : TS_q89) (m_0 : Int) (m_1 : Int) (m_2 : List Fl) (c_ : V -> List Blk -> Bool) (κn_ : St -> Bool) : codesV ⟨Pg, ofList [(94, (F_q75 S_q75)), (95, (F_q30 S_q30)), (86, (F_q21 S_q21)), (57, (F_q99 S_q99)), (18, (F_q89 S_q89))], isref, N_⟩ 0 (an_q88 N_ S_q75 S_q30 S_q21 S_q99 S_q89) (sg Pg 33 0 17) 0 (st0 Pg 33 (shF_q88.args [.int m_0, .int m_1, .fls m_2]) []) { (finV Pg 33 0 c_) with nrm := κn_ } = (S_q75 m_0 m_1 m_2 (fun nr => (cond (nr != 0) (c_ (.tup [.agg [.flt (some 0), .flt (some 0), .flt (some 0), .flt (some 0)], .int .i64 nr]) []) (cond ((m_0 != 3) == false) (cond (m_1 != 3) (c_ (.tup [.agg [.flt (some 0), .flt (some 0), .flt (some 0), .flt (some 0)], .int .i64 3]) []) (S_q30 0 0 m_0 m_1 m_2 (fun xr => (S_q30 1 1 m_0 m_1 m_2 (fun xr_1 => (S_q30 2 2 m_0 m_1 m_2 (fun xr_2 => (S_q21 [(fadd (fadd xr xr_1) xr_2)] (fun cr => (cond (!cr) (c_ (.tup [.agg [.flt (some 0), .flt (some 0), .flt (some 0), .flt (some 0)], .int .i64 5]) []) (S_q30 2 1 m_0 m_1 m_2 (fun xr_3 => (S_q30 1 2 m_0 m_1 m_2 (fun xr_4 => (S_q30 0 2 m_0 m_1 m_2 (fun xr_5 => (S_q30 2 0 m_0 m_1 m_2 (fun xr_6 => (S_q30 1 0 m_0 m_1 m_2 (fun xr_7 => (S_q30 0 1 m_0 m_1 m_2 (fun xr_8 => (S_q30 0 1 m_0 m_1 m_2 (fun xr_9 => (S_q30 1 0 m_0 m_1 m_2 (fun xr_10 => (S_q30 0 2 m_0 m_1 m_2 (fun xr_11 => (S_q30 2 0 m_0 m_1 m_2 (fun xr_12 => (S_q30 1 2 m_0 m_1 m_2 (fun xr_13 => (S_q30 2 1 m_0 m_1 m_2 (fun xr_14 => (cond (feq (fmm true (fmm true (fmm true (fadd (fadd xr xr_1) xr_2) xr) xr_1) xr_2) (fadd (fadd xr xr_1) xr_2)) (κn_ (ls_q188 [.agg [.int .i64 m_0, .int .i64 m_1, .rof m_2], .ptr 0 0, .int .i64 0, .int .i64 nr, .fn 95 [.ptr 0 0], .flt xr, .flt xr_1, .flt xr_2, .flt (fadd (fadd xr xr_1) xr_2), .flt (fsub xr_3 xr_4), .flt (fsub xr_5 xr_6), .flt (fsub xr_7 xr_8), .flt (fadd xr_9 xr_10), .flt (fadd xr_11 xr_12), .flt (fadd xr_13 xr_14), .flt (fmm true (fmm true (fmm true (fadd (fadd xr xr_1) xr_2) xr) xr_1) xr_2), .any, .any, .agg [.int .i64 m_0, .int .i64 m_1, .rof m_2], .int .i64 nr, .int .i64 nr, .bool false, .any, .any, .ptr 0 0, .int .i64 m_0, .bool (m_0 != 3), .bool false, .ptr 0 1, .int .i64 m_1, .bool (m_1 != 3), .bool false, .any, .fn 95 [.ptr 0 0], .fn 95 [.ptr 0 0], .flt xr, .fn 95 [.ptr 0 0], .flt xr_1, .fn 95 [.ptr 0 0], .flt xr_2, .flt xr, .flt xr_1, .flt (fadd xr xr_1), .flt xr_2, .flt (fadd (fadd xr xr_1) xr_2), .flt (fadd (fadd xr xr_1) xr_2), .slw 2, .bool cr, .bool false, .any, .fn 95 [.ptr 0 0], .flt xr_3, .fn 95 [.ptr 0 0], .flt xr_4, .flt (fsub xr_3 xr_4), .fn 95 [.ptr 0 0], .flt xr_5, .fn 95 [.ptr 0 0], .flt xr_6, .flt (fsub xr_5 xr_6), .fn 95 [.ptr 0 0], .flt xr_7, .fn 95 [.ptr 0 0], .flt xr_8, .flt (fsub xr_7 xr_8), .fn 95 [.ptr 0 0], .flt xr_9, .fn 95 [.ptr 0 0], .flt xr_10, .flt (fadd xr_9 xr_10), .fn 95 [.ptr 0 0], .flt xr_11, .fn 95 [.ptr 0 0], .flt xr_12, .flt (fadd xr_11 xr_12), .fn 95 [.ptr 0 0], .flt xr_13, .fn 95 [.ptr 0 0], .flt xr_14, .flt (fadd xr_13 xr_14), .flt (fadd (fadd xr xr_1) xr_2), .flt xr, .flt xr_1, .flt xr_2, .flt (fmm true (fmm true (fmm true (fadd (fadd xr xr_1) xr_2) xr) xr_1) xr_2), .flt (fmm true (fmm true (fmm true (fadd (fadd xr xr_1) xr_2) xr) xr_1) xr_2), .any, .any, .any, .any, .any, .any, .any, .any, .any, .any, .bool true, .flt (fadd (fadd xr xr_1) xr_2), .bool (feq (fmm true (fmm true (fmm true (fadd (fadd xr xr_1) xr_2) xr) xr_1) xr_2) (fadd (fadd xr xr_1) xr_2)), .flt (fadd (fadd xr xr_1) xr_2), .flt (fadd (some 4607182418800017408) (fadd (fadd xr xr_1) xr_2)), .flt (fsub xr_3 xr_4), .flt (fsub xr_5 xr_6), .flt (fsub xr_7 xr_8), .agg [.flt (fadd (some 4607182418800017408) (fadd (fadd xr xr_1) xr_2)), .flt (fsub xr_3 xr_4), .flt (fsub xr_5 xr_6), .flt (fsub xr_7 xr_8)], .any, .any, .any, .any, .any, .any, .any, .any, .any, .any, .any, .any, .any, .any, .any, .any, .any, .any, .any, .any, .any, .any, .any, .any, .any, .any, .any, .any, .any, .any, .any, .any, .any, .any, .any, .any, .any, .any, .any] [some ⟨61, 1, .cells [.int .i64 m_0, .int .i64 m_1, .rof m_2]⟩, some ⟨24, 1, .flts [(fadd (fadd xr xr_1) xr_2)]⟩] m_0 m_1 m_2 (fadd (some 4607182418800017408) (fadd (fadd xr xr_1) xr_2)) (fsub xr_3 xr_4) (fsub xr_5 xr_6) (fsub xr_7 xr_8))) (cond (feq (fmm true (fmm true (fmm true (fadd (fadd xr xr_1) xr_2) xr) xr_1) xr_2) xr) (κn_ (ls_q188 [.agg [.int .i64 m_0, .int .i64 m_1, .rof m_2], .ptr 0 0, .int .i64 0, .int .i64 nr, .fn 95 [.ptr 0 0], .flt xr, .flt xr_1, .flt xr_2, .flt (fadd (fadd xr xr_1) xr_2), .flt (fsub xr_3 xr_4), .flt (fsub xr_5 xr_6), .flt (fsub xr_7 xr_8), .flt (fadd xr_9 xr_10), .flt (fadd xr_11 xr_12), .flt (fadd xr_13 xr_14), .flt (fmm true (fmm true (fmm true (fadd (fadd xr xr_1) xr_2) xr) xr_1) xr_2), .any, .any, .agg [.int .i64 m_0, .int .i64 m_1, .rof m_2], .int .i64 nr, .int .i64 nr, .bool false, .any, .any, .ptr 0 0, .int .i64 m_0, .bool (m_0 != 3), .bool false, .ptr 0 1, .int .i64 m_1, .bool (m_1 != 3), .bool false, .any, .fn 95 [.ptr 0 0], .fn 95 [.ptr 0 0], .flt xr, .fn 95 [.ptr 0 0], .flt xr_1, .fn 95 [.ptr 0 0], .flt xr_2, .flt xr, .flt xr_1, .flt (fadd xr xr_1), .flt xr_2, .flt (fadd (fadd xr xr_1) xr_2), .flt (fadd (fadd xr xr_1) xr_2), .slw 2, .bool cr, .bool false, .any, .fn 95 [.ptr 0 0], .flt xr_3, .fn 95 [.ptr 0 0], .flt xr_4, .flt (fsub xr_3 xr_4), .fn 95 [.ptr 0 0], .flt xr_5, .fn 95 [.ptr 0 0], .flt xr_6, .flt (fsub xr_5 xr_6), .fn 95 [.ptr 0 0], .flt xr_7, .fn 95 [.ptr 0 0], .flt xr_8, .flt (fsub xr_7 xr_8), .fn 95 [.ptr 0 0], .flt xr_9, .fn 95 [.ptr 0 0], .flt xr_10, .flt (fadd xr_9 xr_10), .fn 95 [.ptr 0 0], .flt xr_11, .fn 95 [.ptr 0 0], .flt xr_12, .flt (fadd xr_11 xr_12), .fn 95 [.ptr 0 0], .flt xr_13, .fn 95 [.ptr 0 0], .flt xr_14, .flt (fadd xr_13 xr_14), .flt (fadd (fadd xr xr_1) xr_2), .flt xr, .flt xr_1, .flt xr_2, .flt (fmm true (fmm true (fmm true (fadd (fadd xr xr_1) xr_2) xr) xr_1) xr_2), .flt (fmm true (fmm true (fmm true (fadd (fadd xr xr_1) xr_2) xr) xr_1) xr_2), .any, .any, .any, .any, .any, .any, .any, .any, .any, .any, .bool false, .flt (fadd (fadd xr xr_1) xr_2), .bool (feq (fmm true (fmm true (fmm true (fadd (fadd xr xr_1) xr_2) xr) xr_1) xr_2) (fadd (fadd xr xr_1) xr_2)), .any, .any, .any, .any, .any, .any, .bool true, .flt xr, .bool (feq (fmm true (fmm true (fmm true (fadd (fadd xr xr_1) xr_2) xr) xr_1) xr_2) xr), .flt (fsub xr_3 xr_4), .flt xr, .flt (fadd (some 4607182418800017408) xr), .flt xr_1, .flt (fsub (fadd (some 4607182418800017408) xr) xr_1), .flt xr_2, .flt (fsub (fsub (fadd (some 4607182418800017408) xr) xr_1) xr_2), .flt (fadd xr_9 xr_10), .flt (fadd xr_11 xr_12), .agg [.flt (fsub xr_3 xr_4), .flt (fsub (fsub (fadd (some 4607182418800017408) xr) xr_1) xr_2), .flt (fadd xr_9 xr_10), .flt (fadd xr_11 xr_12)], .any, .any, .any, .any, .any, .any, .any, .any, .any, .any, .any, .any, .any, .any, .any, .any, .any, .any, .any, .any, .any, .any, .any, .any, .any, .any] [some ⟨61, 1, .cells [.int .i64 m_0, .int .i64 m_1, .rof m_2]⟩, some ⟨24, 1, .flts [(fadd (fadd xr xr_1) xr_2)]⟩] m_0 m_1 m_2 (fsub xr_3 xr_4) (fsub (fsub (fadd (some 4607182418800017408) xr) xr_1) xr_2) (fadd xr_9 xr_10) (fadd xr_11 xr_12))) (cond (feq (fmm true (fmm true (fmm true (fadd (fadd xr xr_1) xr_2) xr) xr_1) xr_2) xr_1) (κn_ (ls_q188 [.agg [.int .i64 m_0, .int .i64 m_1, .rof m_2], .ptr 0 0, .int .i64 0, .int .i64 nr, .fn 95 [.ptr 0 0], .flt xr, .flt xr_1, .flt xr_2, .flt (fadd (fadd xr xr_1) xr_2), .flt (fsub xr_3 xr_4), .flt (fsub xr_5 xr_6), .flt (fsub xr_7 xr_8), .flt (fadd xr_9 xr_10), .flt (fadd xr_11 xr_12), .flt (fadd xr_13 xr_14), .flt (fmm true (fmm true (fmm true (fadd (fadd xr xr_1) xr_2) xr) xr_1) xr_2), .any, .any, .agg [.int .i64 m_0, .int .i64 m_1, .rof m_2], .int .i64 nr, .int .i64 nr, .bool false, .any, .any, .ptr 0 0, .int .i64 m_0, .bool (m_0 != 3), .bool false, .ptr 0 1, .int .i64 m_1, .bool (m_1 != 3), .bool false, .any, .fn 95 [.ptr 0 0], .fn 95 [.ptr 0 0], .flt xr, .fn 95 [.ptr 0 0], .flt xr_1, .fn 95 [.ptr 0 0], .flt xr_2, .flt xr, .flt xr_1, .flt (fadd xr xr_1), .flt xr_2, .flt (fadd (fadd xr xr_1) xr_2), .flt (fadd (fadd xr xr_1) xr_2), .slw 2, .bool cr, .bool false, .any, .fn 95 [.ptr 0 0], .flt xr_3, .fn 95 [.ptr 0 0], .flt xr_4, .flt (fsub xr_3 xr_4), .fn 95 [.ptr 0 0], .flt xr_5, .fn 95 [.ptr 0 0], .flt xr_6, .flt (fsub xr_5 xr_6), .fn 95 [.ptr 0 0], .flt xr_7, .fn 95 [.ptr 0 0], .flt xr_8, .flt (fsub xr_7 xr_8), .fn 95 [.ptr 0 0], .flt xr_9, .fn 95 [.ptr 0 0], .flt xr_10, .flt (fadd xr_9 xr_10), .fn 95 [.ptr 0 0], .flt xr_11, .fn 95 [.ptr 0 0], .flt xr_12, .flt (fadd xr_11 xr_12), .fn 95 [.ptr 0 0], .flt xr_13, .fn 95 [.ptr 0 0], .flt xr_14, .flt (fadd xr_13 xr_14), .flt (fadd (fadd xr xr_1) xr_2), .flt xr, .flt xr_1, .flt xr_2, .flt (fmm true (fmm true (fmm true (fadd (fadd xr xr_1) xr_2) xr) xr_1) xr_2), .flt (fmm true (fmm true (fmm true (fadd (fadd xr xr_1) xr_2) xr) xr_1) xr_2), .any, .any, .any, .any, .any, .any, .any, .any, .any, .any, .bool false, .flt (fadd (fadd xr xr_1) xr_2), .bool (feq (fmm true (fmm true (fmm true (fadd (fadd xr xr_1) xr_2) xr) xr_1) xr_2) (fadd (fadd xr xr_1) xr_2)), .any, .any, .any, .any, .any, .any, .bool false, .flt xr, .bool (feq (fmm true (fmm true (fmm true (fadd (fadd xr xr_1) xr_2) xr) xr_1) xr_2) xr), .any, .any, .any, .any, .any, .any, .any, .any, .any, .any, .bool true, .flt xr_1, .bool (feq (fmm true (fmm true (fmm true (fadd (fadd xr xr_1) xr_2) xr) xr_1) xr_2) xr_1), .flt (fsub xr_5 xr_6), .flt (fadd xr_9 xr_10), .flt xr, .flt (fsub (some 4607182418800017408) xr), .flt xr_1, .flt (fadd (fsub (some 4607182418800017408) xr) xr_1), .flt xr_2, .flt (fsub (fadd (fsub (some 4607182418800017408) xr) xr_1) xr_2), .flt (fadd xr_13 xr_14), .agg [.flt (fsub xr_5 xr_6), .flt (fadd xr_9 xr_10), .flt (fsub (fadd (fsub (some 4607182418800017408) xr) xr_1) xr_2), .flt (fadd xr_13 xr_14)], .any, .any, .any, .any, .any, .any, .any, .any, .any, .any, .any, .any, .any] [some ⟨61, 1, .cells [.int .i64 m_0, .int .i64 m_1, .rof m_2]⟩, some ⟨24, 1, .flts [(fadd (fadd xr xr_1) xr_2)]⟩] m_0 m_1 m_2 (fsub xr_5 xr_6) (fadd xr_9 xr_10) (fsub (fadd (fsub (some 4607182418800017408) xr) xr_1) xr_2) (fadd xr_13 xr_14))) (κn_ (ls_q188 [.agg [.int .i64 m_0, .int .i64 m_1, .rof m_2], .ptr 0 0, .int .i64 0, .int .i64 nr, .fn 95 [.ptr 0 0], .flt xr, .flt xr_1, .flt xr_2, .flt (fadd (fadd xr xr_1) xr_2), .flt (fsub xr_3 xr_4), .flt (fsub xr_5 xr_6), .flt (fsub xr_7 xr_8), .flt (fadd xr_9 xr_10), .flt (fadd xr_11 xr_12), .flt (fadd xr_13 xr_14), .flt (fmm true (fmm true (fmm true (fadd (fadd xr xr_1) xr_2) xr) xr_1) xr_2), .any, .any, .agg [.int .i64 m_0, .int .i64 m_1, .rof m_2], .int .i64 nr, .int .i64 nr, .bool false, .any, .any, .ptr 0 0, .int .i64 m_0, .bool (m_0 != 3), .bool false, .ptr 0 1, .int .i64 m_1, .bool (m_1 != 3), .bool false, .any, .fn 95 [.ptr 0 0], .fn 95 [.ptr 0 0], .flt xr, .fn 95 [.ptr 0 0], .flt xr_1, .fn 95 [.ptr 0 0], .flt xr_2, .flt xr, .flt xr_1, .flt (fadd xr xr_1), .flt xr_2, .flt (fadd (fadd xr xr_1) xr_2), .flt (fadd (fadd xr xr_1) xr_2), .slw 2, .bool cr, .bool false, .any, .fn 95 [.ptr 0 0], .flt xr_3, .fn 95 [.ptr 0 0], .flt xr_4, .flt (fsub xr_3 xr_4), .fn 95 [.ptr 0 0], .flt xr_5, .fn 95 [.ptr 0 0], .flt xr_6, .flt (fsub xr_5 xr_6), .fn 95 [.ptr 0 0], .flt xr_7, .fn 95 [.ptr 0 0], .flt xr_8, .flt (fsub xr_7 xr_8), .fn 95 [.ptr 0 0], .flt xr_9, .fn 95 [.ptr 0 0], .flt xr_10, .flt (fadd xr_9 xr_10), .fn 95 [.ptr 0 0], .flt xr_11, .fn 95 [.ptr 0 0], .flt xr_12, .flt (fadd xr_11 xr_12), .fn 95 [.ptr 0 0], .flt xr_13, .fn 95 [.ptr 0 0], .flt xr_14, .flt (fadd xr_13 xr_14), .flt (fadd (fadd xr xr_1) xr_2), .flt xr, .flt xr_1, .flt xr_2, .flt (fmm true (fmm true (fmm true (fadd (fadd xr xr_1) xr_2) xr) xr_1) xr_2), .flt (fmm true (fmm true (fmm true (fadd (fadd xr xr_1) xr_2) xr) xr_1) xr_2), .flt (fsub xr_7 xr_8), .flt (fadd xr_11 xr_12), .flt (fadd xr_13 xr_14), .flt xr, .flt (fsub (some 4607182418800017408) xr), .flt xr_1, .flt (fsub (fsub (some 4607182418800017408) xr) xr_1), .flt xr_2, .flt (fadd (fsub (fsub (some 4607182418800017408) xr) xr_1) xr_2), .agg [.flt (fsub xr_7 xr_8), .flt (fadd xr_11 xr_12), .flt (fadd xr_13 xr_14), .flt (fadd (fsub (fsub (some 4607182418800017408) xr) xr_1) xr_2)], .bool false, .flt (fadd (fadd xr xr_1) xr_2), .bool (feq (fmm true (fmm true (fmm true (fadd (fadd xr xr_1) xr_2) xr) xr_1) xr_2) (fadd (fadd xr xr_1) xr_2)), .any, .any, .any, .any, .any, .any, .bool false, .flt xr, .bool (feq (fmm true (fmm true (fmm true (fadd (fadd xr xr_1) xr_2) xr) xr_1) xr_2) xr), .any, .any, .any, .any, .any, .any, .any, .any, .any, .any, .bool false, .flt xr_1, .bool (feq (fmm true (fmm true (fmm true (fadd (fadd xr xr_1) xr_2) xr) xr_1) xr_2) xr_1), .any, .any, .any, .any, .any, .any, .any, .any, .any, .any, .any, .any, .any, .any, .any, .any, .any, .any, .any, .any, .any, .any, .any] [some ⟨61, 1, .cells [.int .i64 m_0, .int .i64 m_1, .rof m_2]⟩, some ⟨24, 1, .flts [(fadd (fadd xr xr_1) xr_2)]⟩] m_0 m_1 m_2 (fsub xr_7 xr_8) (fadd xr_11 xr_12) (fadd xr_13 xr_14) (fadd (fsub (fsub (some 4607182418800017408) xr) xr_1) xr_2)))))))))))))))))))))))))))))))))))))))) (c_ (.tup [.agg [.flt (some 0), .flt (some 0), .flt (some 0), .flt (some 0)], .int .i64 3]) []))))) := by kernel_rfl
theorem jn_quat_From_w (N_ : Nat) (S_q75 : TS_q75) (S_q30 : TS_q30) (S_q21 : TS_q21) (S_q99 : TS_q99) (S_q89 : TS_q89) (m_0 : Int) (m_1 : Int) (m_2 : List Fl) (c_ : V -> List Blk -> Bool) : codesV ⟨Pg, ofList [(94, (F_q75 S_q75)), (95, (F_q30 S_q30)), (86, (F_q21 S_q21)), (57, (F_q99 S_q99)), (18, (F_q89 S_q89))], isref, N_⟩ 0 (an_q88 N_ S_q75 S_q30 S_q21 S_q99 S_q89) ((cds Pg 33).drop 0) 0 (st0 Pg 33 (shF_q88.args [.int m_0, .int m_1, .fls m_2]) []) (finV Pg 33 0 c_) = G_q88 N_ S_q75 S_q30 S_q21 S_q99 S_q89 m_0 m_1 m_2 (fun r0 r1 r2 r3 r4 => c_ (.tup [.agg [.flt r0, .flt r1, .flt r2, .flt r3], .int .i64 r4]) []) := by
  rw [codesV_cut 0 17 17 rfl]
  refine (hd_quat_From_w N_ S_q75 S_q30 S_q21 S_q99 S_q89 m_0 m_1 m_2 c_ _).trans ?_
  simp only [jn_q188]
  kernel_rfl
theorem eq_q88 (N_ : Nat) (S_q75 : TS_q75) (S_q30 : TS_q30) (S_q21 : TS_q21) (S_q99 : TS_q99) (S_q89 : TS_q89) (m_0 : Int) (m_1 : Int) (m_2 : List Fl) (c_ : V -> List Blk -> Bool) : bodyV ⟨Pg, ofList [(94, (F_q75 S_q75)), (95, (F_q30 S_q30)), (86, (F_q21 S_q21)), (57, (F_q99 S_q99)), (18, (F_q89 S_q89))], isref, N_⟩ (an_q88 N_ S_q75 S_q30 S_q21 S_q99 S_q89) 33 (shF_q88.args [.int m_0, .int m_1, .fls m_2]) [] c_ = G_q88 N_ S_q75 S_q30 S_q21 S_q99 S_q89 m_0 m_1 m_2 (fun r0 r1 r2 r3 r4 => c_ (.tup [.agg [.flt r0, .flt r1, .flt r2, .flt r3], .int .i64 r4]) []) :=
  (bodyV_codes (by kernel_rfl)).trans (jn_quat_From_w N_ S_q75 S_q30 S_q21 S_q99 S_q89 m_0 m_1 m_2 c_)
theorem good_q88 (N_ : Nat) (S_q75 : TS_q75) (S_q30 : TS_q30) (S_q21 : TS_q21) (S_q99 : TS_q99) (S_q89 : TS_q89) (h_q75 : GoodF Pg 94 (F_q75 S_q75)) (h_q30 : GoodF Pg 95 (F_q30 S_q30)) (h_q21 : GoodF Pg 86 (F_q21 S_q21)) (h_q99 : GoodF Pg 57 (F_q99 S_q99)) (h_q89 : GoodF Pg 18 (F_q89 S_q89)) : GoodF Pg 33 (F_q88 (G_q88 N_ S_q75 S_q30 S_q21 S_q99 S_q89)) := by
  refine good_fs (cx := ⟨Pg, ofList [(94, (F_q75 S_q75)), (95, (F_q30 S_q30)), (86, (F_q21 S_q21)), (57, (F_q99 S_q99)), (18, (F_q89 S_q89))], isref, N_⟩) (ofList_cons h_q75 (ofList_cons h_q30 (ofList_cons h_q21 (ofList_cons h_q99 (ofList_cons h_q89 (ofList_nil _)))))) shF_q88 (sp_q88 (G_q88 N_ S_q75 S_q30 S_q21 S_q99 S_q89)) (an_q88 N_ S_q75 S_q30 S_q21 S_q99 S_q89) 0 0 (by kernel_rfl) (fun i_ hi_ => by omega) ?_
  intro a k h
  unfold sp_q88 at h
  split at h
  · exact ⟨[], rfl, rfl, (eq_q88 _ _ _ _ _ _ _ _ _ _).trans h⟩
  · cases h

def an_q94 (N_ : Nat) (S_q50 : TS_q50) : Nat -> Option Ann := fun b_ => none
theorem eq_q94 (N_ : Nat) (S_q50 : TS_q50) (m_0 : Int) (m_1 : Int) (m_2 : List Fl) (c_ : V -> List Blk -> Bool) : bodyV ⟨Pg, ofList [(101, (F_q50 S_q50))], isref, N_⟩ (an_q94 N_ S_q50) 98 (shF_q94.args [.int m_0, .int m_1, .fls m_2]) [] c_ = G_q94 N_ S_q50 m_0 m_1 m_2 (fun r0 => c_ (.int .i64 r0) []) := by kernel_rfl
theorem good_q94 (N_ : Nat) (S_q50 : TS_q50) (h_q50 : GoodF Pg 101 (F_q50 S_q50)) : GoodF Pg 98 (F_q94 (G_q94 N_ S_q50)) := by
  refine good_fs (cx := ⟨Pg, ofList [(101, (F_q50 S_q50))], isref, N_⟩) (ofList_cons h_q50 (ofList_nil _)) shF_q94 (sp_q94 (G_q94 N_ S_q50)) (an_q94 N_ S_q50) 0 0 (by kernel_rfl) (fun i_ hi_ => by omega) ?_
  intro a k h
  unfold sp_q94 at h
  split at h
  · exact ⟨[], rfl, rfl, (eq_q94 _ _ _ _ _ _).trans h⟩
  · cases h

def an_q148 (N_ : Nat) : Nat -> Option Ann := fun b_ => none
theorem eq_q148 (N_ : Nat) (is : Bool) (e : Int) (c_ : V -> List Blk -> Bool) : bodyV ⟨Pg, ofList [], isref, N_⟩ (an_q148 N_) 99 (shF_q148.args [.bool is, .int e]) [] c_ = G_q148 N_ is e (fun r0 => c_ (.int .i64 r0) []) := by kernel_rfl
theorem good_q148 (N_ : Nat) : GoodF Pg 99 (F_q148 (G_q148 N_)) := by
  refine good_fs (cx := ⟨Pg, ofList [], isref, N_⟩) (ofList_nil _) shF_q148 (sp_q148 (G_q148 N_)) (an_q148 N_) 0 0 (by kernel_rfl) (fun i_ hi_ => by omega) ?_
  intro a k h
  unfold sp_q148 at h
  split at h
  · exact ⟨[], rfl, rfl, (eq_q148 _ _ _ _).trans h⟩
  · cases h

def sh_st_binnacleref08_First_0 : StSh := ⟨[.roi .i64, .any, .any, .int .i64, .any, .any, .any, .any, .any, .any, .any, .any, .any, .any, .any, .any, .any, .any, .any], []⟩
def sx0_st_binnacleref08_First_0 : StSh := ⟨[.any, .any, .int .i64, .any, .any, .any, .any, .any, .any, .any, .any, .any, .any, .any, .any, .any, .any, .any, .any], []⟩
def sx1_st_binnacleref08_First_0 : StSh := ⟨[.any, .any, .any, .any, .any, .any, .any, .any, .any, .any, .any, .any, .any, .any, .any, .any, .any, .any, .any], []⟩
def hk_st_binnacleref08_First_0 (N_ : Nat) : List Atom -> K -> Bool := fun a_ κ => match a_ with
  | [.ints l_1, .int i] => iterG N_ (st_z08_First_0 N_ l_1 (fun r0 => κ.ret (sx0_st_binnacleref08_First_0.build [.int r0])) (κ.ext 0 (sx1_st_binnacleref08_First_0.build []))) i
  | _ => false
def an_q85 (N_ : Nat) : Nat -> Option Ann := fun b_ => cond (b_ == 0) (some ⟨⟨[0, 3], [], []⟩, [(0, ⟨[], [], []⟩)], some ⟨[2], [], []⟩, some (mkHooks [(sh_st_binnacleref08_First_0, hk_st_binnacleref08_First_0 N_)])⟩) (none)
theorem eq_st_binnacleref08_First_0 (N_ : Nat) (κ : K) (l_1 : List Int) (i : Int) : iter N_ (fun s k => codeV ⟨Pg, ofList [], isref, N_⟩ 0 (an_q85 N_) (lp Pg 97 0).2 (lp Pg 97 0).1 s (roundK Pg 0 ((an_q85 N_) (lp Pg 97 0).1) κ k)) (sh_st_binnacleref08_First_0.build [.ints l_1, .int i]) = iterG N_ (st_z08_First_0 N_ l_1 (fun r0 => κ.ret (sx0_st_binnacleref08_First_0.build [.int r0])) (κ.ext 0 (sx1_st_binnacleref08_First_0.build []))) i :=
  iter_tr (fun v_ => sh_st_binnacleref08_First_0.build [.ints l_1, .int v_]) (fun v_ K_ => by kernel_rfl) N_ i
theorem hk1_st_binnacleref08_First_0 (N_ : Nat) : HookFor ⟨Pg, ofList [], isref, N_⟩ 0 (an_q85 N_) (lp Pg 97 0) (sh_st_binnacleref08_First_0, hk_st_binnacleref08_First_0 N_) := by
  intro a κ h
  simp only at h
  unfold hk_st_binnacleref08_First_0 at h
  split at h
  · exact (eq_st_binnacleref08_First_0 _ _ _ _).trans h
  · cases h
theorem ho_binnacleref08_First_0 (N_ : Nat) : HookOk ⟨Pg, ofList [], isref, N_⟩ 0 (an_q85 N_) (lp Pg 97 0) :=
  hooks_ok [(sh_st_binnacleref08_First_0, hk_st_binnacleref08_First_0 N_)] (by kernel_rfl) ⟨hk1_st_binnacleref08_First_0 _, trivial⟩
theorem eq_q85 (N_ : Nat) (l : List Int) (c_ : V -> List Blk -> Bool) : bodyV ⟨Pg, ofList [], isref, N_⟩ (an_q85 N_) 97 (shF_q85.args [.ints l]) [] c_ = G_q85 N_ l (fun r0 => c_ (.int .i64 r0) []) := by kernel_rfl
theorem good_q85 (N_ : Nat) : GoodF Pg 97 (F_q85 (G_q85 N_)) := by
  refine good_fs (cx := ⟨Pg, ofList [], isref, N_⟩) (ofList_nil _) shF_q85 (sp_q85 (G_q85 N_)) (an_q85 N_) 1 0 (by kernel_rfl) (fun i_ hi_ => by
    match i_, hi_ with
    | 0, _ => exact ho_binnacleref08_First_0 _
    | (q + 1), h => omega) ?_
  intro a k h
  unfold sp_q85 at h
  split at h
  · exact ⟨[], rfl, rfl, (eq_q85 _ _ _).trans h⟩
  · cases h

def sh_st_binnacleref10_Power_0 : StSh := ⟨[.rof, .any, .any, .any, .flt, .int .i64, .any, .any, .any, .any, .any, .any, .any, .any, .any, .any, .any, .any, .any, .any, .any, .any, .any, .any, .any, .any, .any, .any, .any, .any], []⟩
def sx0_st_binnacleref10_Power_0 : StSh := ⟨[.any, .any, .any, .any, .flt, .any, .any, .any, .any, .any, .any, .any, .any, .any, .any, .any, .any, .any, .any, .any, .any, .any, .any, .any, .any, .any, .any, .any, .any, .any], []⟩
def hk_st_binnacleref10_Power_0 (N_ : Nat) (S_m_Abs : TS_m_Abs) (S_q127 : TS_q127) : List Atom -> K -> Bool := fun a_ κ => match a_ with
  | [.fls x_1, .fl m, .int i] => iterG N_ (st_z10_Power_0 N_ S_m_Abs S_q127 x_1 (fun r0 => κ.ext 0 (sx0_st_binnacleref10_Power_0.build [.fl r0]))) (m, i)
  | _ => false
def an_q143 (N_ : Nat) (S_m_Abs : TS_m_Abs) (S_q127 : TS_q127) : Nat -> Option Ann := fun b_ => cond (b_ == 0) (some ⟨⟨[0, 4, 5], [], []⟩, [(0, ⟨[4], [], []⟩)], some ⟨[2, 3], [], []⟩, some (mkHooks [(sh_st_binnacleref10_Power_0, hk_st_binnacleref10_Power_0 N_ S_m_Abs S_q127)])⟩) (none)
theorem eq_st_binnacleref10_Power_0 (N_ : Nat) (S_m_Abs : TS_m_Abs) (S_q127 : TS_q127) (κ : K) (x_1 : List Fl) (m : Fl) (i : Int) : iter N_ (fun s k => codeV ⟨Pg, ofList [(69, (F_m_Abs S_m_Abs)), (70, (F_q127 S_q127))], isref, N_⟩ 0 (an_q143 N_ S_m_Abs S_q127) (lp Pg 76 0).2 (lp Pg 76 0).1 s (roundK Pg 0 ((an_q143 N_ S_m_Abs S_q127) (lp Pg 76 0).1) κ k)) (sh_st_binnacleref10_Power_0.build [.fls x_1, .fl m, .int i]) = iterG N_ (st_z10_Power_0 N_ S_m_Abs S_q127 x_1 (fun r0 => κ.ext 0 (sx0_st_binnacleref10_Power_0.build [.fl r0]))) (m, i) :=
  iter_tr (fun (v_ : Fl × Int) => sh_st_binnacleref10_Power_0.build [.fls x_1, .fl v_.1, .int v_.2]) (fun v_ K_ => by obtain ⟨m, i⟩ := v_; kernel_rfl) N_ (m, i)
theorem hk1_st_binnacleref10_Power_0 (N_ : Nat) (S_m_Abs : TS_m_Abs) (S_q127 : TS_q127) : HookFor ⟨Pg, ofList [(69, (F_m_Abs S_m_Abs)), (70, (F_q127 S_q127))], isref, N_⟩ 0 (an_q143 N_ S_m_Abs S_q127) (lp Pg 76 0) (sh_st_binnacleref10_Power_0, hk_st_binnacleref10_Power_0 N_ S_m_Abs S_q127) := by
  intro a κ h
  simp only at h
  unfold hk_st_binnacleref10_Power_0 at h
  split at h
  · exact (eq_st_binnacleref10_Power_0 _ _ _ _ _ _ _).trans h
  · cases h
theorem ho_binnacleref10_Power_0 (N_ : Nat) (S_m_Abs : TS_m_Abs) (S_q127 : TS_q127) : HookOk ⟨Pg, ofList [(69, (F_m_Abs S_m_Abs)), (70, (F_q127 S_q127))], isref, N_⟩ 0 (an_q143 N_ S_m_Abs S_q127) (lp Pg 76 0) :=
  hooks_ok [(sh_st_binnacleref10_Power_0, hk_st_binnacleref10_Power_0 N_ S_m_Abs S_q127)] (by kernel_rfl) ⟨hk1_st_binnacleref10_Power_0 _ _ _, trivial⟩
theorem eq_q143 (N_ : Nat) (S_m_Abs : TS_m_Abs) (S_q127 : TS_q127) (x : List Fl) (c_ : V -> List Blk -> Bool) : bodyV ⟨Pg, ofList [(69, (F_m_Abs S_m_Abs)), (70, (F_q127 S_q127))], isref, N_⟩ (an_q143 N_ S_m_Abs S_q127) 76 (shF_q143.args [.fls x]) [] c_ = G_q143 N_ S_m_Abs S_q127 x (fun r0 r1 => c_ (.tup [.int .i64 r0, .bool r1]) []) := by kernel_rfl
theorem good_q143 (N_ : Nat) (S_m_Abs : TS_m_Abs) (S_q127 : TS_q127) (h_m_Abs : GoodF Pg 69 (F_m_Abs S_m_Abs)) (h_q127 : GoodF Pg 70 (F_q127 S_q127)) : GoodF Pg 76 (F_q143 (G_q143 N_ S_m_Abs S_q127)) := by
  refine good_fs (cx := ⟨Pg, ofList [(69, (F_m_Abs S_m_Abs)), (70, (F_q127 S_q127))], isref, N_⟩) (ofList_cons h_m_Abs (ofList_cons h_q127 (ofList_nil _))) shF_q143 (sp_q143 (G_q143 N_ S_m_Abs S_q127)) (an_q143 N_ S_m_Abs S_q127) 1 0 (by kernel_rfl) (fun i_ hi_ => by
    match i_, hi_ with
    | 0, _ => exact ho_binnacleref10_Power_0 _ _ _
    | (q + 1), h => omega) ?_
  intro a k h
  unfold sp_q143 at h
  split at h
  · exact ⟨[], rfl, rfl, (eq_q143 _ _ _ _ _).trans h⟩
  · cases h

def an_q113 (N_ : Nat) : Nat -> Option Ann := fun b_ => none
theorem eq_q113 (N_ : Nat) (c_ : V -> List Blk -> Bool) : bodyV ⟨Pg, ofList [], isref, N_⟩ (an_q113 N_) 153 (shF_q113.args []) [] c_ = G_q113 N_ (c_ (.bool true) []) := by kernel_rfl
theorem good_q113 (N_ : Nat) : GoodF Pg 153 (F_q113 (G_q113 N_)) := by
  refine good_fs (cx := ⟨Pg, ofList [], isref, N_⟩) (ofList_nil _) shF_q113 (sp_q113 (G_q113 N_)) (an_q113 N_) 0 0 (by kernel_rfl) (fun i_ hi_ => by omega) ?_
  intro a k h
  unfold sp_q113 at h
  split at h
  · exact ⟨[], rfl, rfl, (eq_q113 _ _).trans h⟩
  · cases h

def an_q97 (N_ : Nat) : Nat -> Option Ann := fun b_ => none
theorem eq_q97 (N_ : Nat) (c_ : V -> List Blk -> Bool) : bodyV ⟨Pg, ofList [], isref, N_⟩ (an_q97 N_) 154 (shF_q97.args []) [] c_ = G_q97 N_ (c_ (.agg [.int .i64 53, .int .i64 (-1022), .int .i64 1023, .int .i64 11]) []) := by kernel_rfl
theorem good_q97 (N_ : Nat) : GoodF Pg 154 (F_q97 (G_q97 N_)) := by
  refine good_fs (cx := ⟨Pg, ofList [], isref, N_⟩) (ofList_nil _) shF_q97 (sp_q97 (G_q97 N_)) (an_q97 N_) 0 0 (by kernel_rfl) (fun i_ hi_ => by omega) ?_
  intro a k h
  unfold sp_q97 at h
  split at h
  · exact ⟨[], rfl, rfl, (eq_q97 _ _).trans h⟩
  · cases h

def sh_st_binnacleref00_cut_w_0 : StSh := ⟨[.sl 0, .any, .any, .any, .any, .any, .any, .any, .any, .any, .any, .any, .any, .any, .any, .any, .any, .any, .any, .any, .any], [some (127, 1, .ints .u32)]⟩
def sx0_st_binnacleref00_cut_w_0 : StSh := ⟨[.sl 0, .any, .any, .any, .any, .any, .any, .any, .any, .any, .any, .any, .any, .any, .any, .any, .any, .any, .any, .any, .any], [some (127, 1, .ints .u32)]⟩
def hk_st_binnacleref00_cut_w_0 (N_ : Nat) : List Atom -> K -> Bool := fun a_ κ => match a_ with
  | [.nat m_1, .nat m_2, .ints m_3] => iterG N_ (st_q220 N_ m_1 m_3 (fun r1 => κ.ext 0 (sx0_st_binnacleref00_cut_w_0.build [.nat m_1, .nat r1, .ints m_3]))) m_2
  | _ => false
def an_q22 (N_ : Nat) : Nat -> Option Ann := fun b_ => cond (b_ == 0) (some ⟨⟨[0], [(0, some 0, 0)], []⟩, [(0, ⟨[0], [], []⟩)], some ⟨[2], [], []⟩, some (mkHooks [(sh_st_binnacleref00_cut_w_0, hk_st_binnacleref00_cut_w_0 N_)])⟩) (none)
theorem eq_st_binnacleref00_cut_w_0 (N_ : Nat) (κ : K) (m_1 : Nat) (m_2 : Nat) (m_3 : List Int) : iter N_ (fun s k => codeV ⟨Pg, ofList [], isref, N_⟩ 1 (an_q22 N_) (lp Pg 147 0).2 (lp Pg 147 0).1 s (roundK Pg 1 ((an_q22 N_) (lp Pg 147 0).1) κ k)) (sh_st_binnacleref00_cut_w_0.build [.nat m_1, .nat m_2, .ints m_3]) = iterG N_ (st_q220 N_ m_1 m_3 (fun r1 => κ.ext 0 (sx0_st_binnacleref00_cut_w_0.build [.nat m_1, .nat r1, .ints m_3]))) m_2 :=
  iter_tr (fun v_ => sh_st_binnacleref00_cut_w_0.build [.nat m_1, .nat v_, .ints m_3]) (fun v_ K_ => by kernel_rfl) N_ m_2
theorem hk1_st_binnacleref00_cut_w_0 (N_ : Nat) : HookFor ⟨Pg, ofList [], isref, N_⟩ 1 (an_q22 N_) (lp Pg 147 0) (sh_st_binnacleref00_cut_w_0, hk_st_binnacleref00_cut_w_0 N_) := by
  intro a κ h
  simp only at h
  unfold hk_st_binnacleref00_cut_w_0 at h
  split at h
  · exact (eq_st_binnacleref00_cut_w_0 _ _ _ _ _).trans h
  · cases h
theorem ho_binnacleref00_cut_w_0 (N_ : Nat) : HookOk ⟨Pg, ofList [], isref, N_⟩ 1 (an_q22 N_) (lp Pg 147 0) :=
  hooks_ok [(sh_st_binnacleref00_cut_w_0, hk_st_binnacleref00_cut_w_0 N_)] (by kernel_rfl) ⟨hk1_st_binnacleref00_cut_w_0 _, trivial⟩
theorem eq_q22 (N_ : Nat) (b : List Int) (c_ : V -> List Blk -> Bool) : bodyZ ⟨Pg, ofList [], isref, N_⟩ (an_q22 N_) 147 (shF_q22.args [.ints b]) [⟨127, 1, .ints .u32 b⟩] c_ = G_q22 N_ b (fun r0 r1 => c_ (.sl 0 r0 r1) [⟨127, 1, .ints .u32 b⟩]) := by kernel_rfl
theorem good_q22 (N_ : Nat) : GoodF Pg 147 (F_q22 (G_q22 N_)) := by
  refine good_fsZ (cx := ⟨Pg, ofList [], isref, N_⟩) (ofList_nil _) shF_q22 (sp_q22 (G_q22 N_)) (an_q22 N_) 1 1 (by kernel_rfl) (fun i_ hi_ => by
    match i_, hi_ with
    | 0, _ => exact ho_binnacleref00_cut_w_0 _
    | (q + 1), h => omega) ?_
  intro a k h
  unfold sp_q22 at h
  split at h
  · exact ⟨[_], rfl, rfl, (eq_q22 _ _ _).trans h⟩
  · cases h

def an_q102 (N_ : Nat) (S_q22 : TS_q22) : Nat -> Option Ann := fun b_ => none
theorem eq_q102 (N_ : Nat) (S_q22 : TS_q22) (n : Int) (c_ : V -> List Blk -> Bool) : bodyZ ⟨Pg, ofList [(147, (F_q22 S_q22))], isref, N_⟩ (an_q102 N_ S_q22) 117 (shF_q102.args [.int n]) [] c_ = G_q102 N_ S_q22 n (fun r0 => c_ (.roi .u32 r0) []) := by kernel_rfl
theorem good_q102 (N_ : Nat) (S_q22 : TS_q22) (h_q22 : GoodF Pg 147 (F_q22 S_q22)) : GoodF Pg 117 (F_q102 (G_q102 N_ S_q22)) := by
  refine good_fsZ (cx := ⟨Pg, ofList [(147, (F_q22 S_q22))], isref, N_⟩) (ofList_cons h_q22 (ofList_nil _)) shF_q102 (sp_q102 (G_q102 N_ S_q22)) (an_q102 N_ S_q22) 0 0 (by kernel_rfl) (fun i_ hi_ => by omega) ?_
  intro a k h
  unfold sp_q102 at h
  split at h
  · exact ⟨[], rfl, rfl, (eq_q102 _ _ _ _).trans h⟩
  · cases h

def sh_st_binnacleref00_cut_0 : StSh := ⟨[.roi .u32, .any, .any, .any, .any, .any, .any, .any, .any, .any, .any, .any, .any, .any, .any, .any, .any, .any, .any, .any, .any], []⟩
def sx0_st_binnacleref00_cut_0 : StSh := ⟨[.roi .u32, .any, .any, .any, .any, .any, .any, .any, .any, .any, .any, .any, .any, .any, .any, .any, .any, .any, .any, .any, .any], []⟩
def hk_st_binnacleref00_cut_0 (N_ : Nat) : List Atom -> K -> Bool := fun a_ κ => match a_ with
  | [.ints m_1] => iterG N_ (st_z00_cut_0 N_ (fun r0 => κ.ext 0 (sx0_st_binnacleref00_cut_0.build [.ints r0]))) m_1
  | _ => false
def an_q155 (N_ : Nat) : Nat -> Option Ann := fun b_ => cond (b_ == 0) (some ⟨⟨[0], [], []⟩, [(0, ⟨[0], [], []⟩)], some ⟨[2], [], []⟩, some (mkHooks [(sh_st_binnacleref00_cut_0, hk_st_binnacleref00_cut_0 N_)])⟩) (none)
theorem eq_st_binnacleref00_cut_0 (N_ : Nat) (κ : K) (m_1 : List Int) : iter N_ (fun s k => codeV ⟨Pg, ofList [], isref, N_⟩ 0 (an_q155 N_) (lp Pg 147 0).2 (lp Pg 147 0).1 s (roundK Pg 0 ((an_q155 N_) (lp Pg 147 0).1) κ k)) (sh_st_binnacleref00_cut_0.build [.ints m_1]) = iterG N_ (st_z00_cut_0 N_ (fun r0 => κ.ext 0 (sx0_st_binnacleref00_cut_0.build [.ints r0]))) m_1 :=
  iter_tr (fun v_ => sh_st_binnacleref00_cut_0.build [.ints v_]) (fun v_ K_ => by kernel_rfl) N_ m_1
theorem hk1_st_binnacleref00_cut_0 (N_ : Nat) : HookFor ⟨Pg, ofList [], isref, N_⟩ 0 (an_q155 N_) (lp Pg 147 0) (sh_st_binnacleref00_cut_0, hk_st_binnacleref00_cut_0 N_) := by
  intro a κ h
  simp only at h
  unfold hk_st_binnacleref00_cut_0 at h
  split at h
  · exact (eq_st_binnacleref00_cut_0 _ _ _).trans h
  · cases h
theorem ho_binnacleref00_cut_0 (N_ : Nat) : HookOk ⟨Pg, ofList [], isref, N_⟩ 0 (an_q155 N_) (lp Pg 147 0) :=
  hooks_ok [(sh_st_binnacleref00_cut_0, hk_st_binnacleref00_cut_0 N_)] (by kernel_rfl) ⟨hk1_st_binnacleref00_cut_0 _, trivial⟩
theorem eq_q155 (N_ : Nat) (m : List Int) (c_ : V -> List Blk -> Bool) : bodyZ ⟨Pg, ofList [], isref, N_⟩ (an_q155 N_) 147 (shF_q155.args [.ints m]) [] c_ = G_q155 N_ m (fun r0 => c_ (.roi .u32 r0) []) := by kernel_rfl
theorem good_q155 (N_ : Nat) : GoodF Pg 147 (F_q155 (G_q155 N_)) := by
  refine good_fsZ (cx := ⟨Pg, ofList [], isref, N_⟩) (ofList_nil _) shF_q155 (sp_q155 (G_q155 N_)) (an_q155 N_) 1 0 (by kernel_rfl) (fun i_ hi_ => by
    match i_, hi_ with
    | 0, _ => exact ho_binnacleref00_cut_0 _
    | (q + 1), h => omega) ?_
  intro a k h
  unfold sp_q155 at h
  split at h
  · exact ⟨[], rfl, rfl, (eq_q155 _ _ _).trans h⟩
  · cases h

def an_q51 (N_ : Nat) (S_q155 : TS_q155) : Nat -> Option Ann := fun b_ => none
theorem eq_q51 (N_ : Nat) (S_q155 : TS_q155) (neg : Bool) (m : List Int) (b : Bool) (c_ : V -> List Blk -> Bool) : bodyZ ⟨Pg, ofList [(147, (F_q155 S_q155))], isref, N_⟩ (an_q51 N_ S_q155) 113 (shF_q51.args [.bool neg, .ints m, .bool b]) [⟨105, 1, .cells [.bool b, .nil]⟩] c_ = G_q51 N_ S_q155 neg m b (fun r0 r1 => c_ (.ptr 0 0) [⟨105, 1, .cells [.bool r0, .roi .u32 r1]⟩]) := by kernel_rfl
theorem good_q51 (N_ : Nat) (S_q155 : TS_q155) (h_q155 : GoodF Pg 147 (F_q155 S_q155)) : GoodF Pg 113 (F_q51 (G_q51 N_ S_q155)) := by
  refine good_fsZ (cx := ⟨Pg, ofList [(147, (F_q155 S_q155))], isref, N_⟩) (ofList_cons h_q155 (ofList_nil _)) shF_q51 (sp_q51 (G_q51 N_ S_q155)) (an_q51 N_ S_q155) 0 1 (by kernel_rfl) (fun i_ hi_ => by omega) ?_
  intro a k h
  unfold sp_q51 at h
  split at h
  · exact ⟨[_], rfl, rfl, (eq_q51 _ _ _ _ _ _).trans h⟩
  · cases h

def an_q73 (N_ : Nat) (S_q102 : TS_q102) (S_q51 : TS_q51) : Nat -> Option Ann := fun b_ => none
theorem eq_q73 (N_ : Nat) (S_q102 : TS_q102) (S_q51 : TS_q51) (n : Int) (b : Bool) (c_ : V -> List Blk -> Bool) : bodyZ ⟨Pg, ofList [(117, (F_q102 S_q102)), (113, (F_q51 S_q51))], isref, N_⟩ (an_q73 N_ S_q102 S_q51) 66 (shF_q73.args [.int n, .bool b]) [⟨105, 1, .cells [.bool b, .nil]⟩] c_ = G_q73 N_ S_q102 S_q51 n b (fun r0 r1 => c_ (.ptr 0 0) [⟨105, 1, .cells [.bool r0, .roi .u32 r1]⟩]) := by kernel_rfl
theorem good_q73 (N_ : Nat) (S_q102 : TS_q102) (S_q51 : TS_q51) (h_q102 : GoodF Pg 117 (F_q102 S_q102)) (h_q51 : GoodF Pg 113 (F_q51 S_q51)) : GoodF Pg 66 (F_q73 (G_q73 N_ S_q102 S_q51)) := by
  refine good_fsZ (cx := ⟨Pg, ofList [(117, (F_q102 S_q102)), (113, (F_q51 S_q51))], isref, N_⟩) (ofList_cons h_q102 (ofList_cons h_q51 (ofList_nil _))) shF_q73 (sp_q73 (G_q73 N_ S_q102 S_q51)) (an_q73 N_ S_q102 S_q51) 0 1 (by kernel_rfl) (fun i_ hi_ => by omega) ?_
  intro a k h
  unfold sp_q73 at h
  split at h
  · exact ⟨[_], rfl, rfl, (eq_q73 _ _ _ _ _ _).trans h⟩
  · cases h

def an_q62 (N_ : Nat) (S_q155 : TS_q155) : Nat -> Option Ann := fun b_ => none
theorem eq_q62 (N_ : Nat) (S_q155 : TS_q155) (neg : Bool) (m : List Int) (b : Bool) (b_1 : List Int) (c_ : V -> List Blk -> Bool) : bodyZ ⟨Pg, ofList [(147, (F_q155 S_q155))], isref, N_⟩ (an_q62 N_ S_q155) 113 (shF_q62.args [.bool neg, .ints m, .bool b, .ints b_1]) [⟨105, 1, .cells [.bool b, .roi .u32 b_1]⟩] c_ = G_q62 N_ S_q155 neg m b b_1 (fun r0 r1 => c_ (.ptr 0 0) [⟨105, 1, .cells [.bool r0, .roi .u32 r1]⟩]) := by kernel_rfl
theorem good_q62 (N_ : Nat) (S_q155 : TS_q155) (h_q155 : GoodF Pg 147 (F_q155 S_q155)) : GoodF Pg 113 (F_q62 (G_q62 N_ S_q155)) := by
  refine good_fsZ (cx := ⟨Pg, ofList [(147, (F_q155 S_q155))], isref, N_⟩) (ofList_cons h_q155 (ofList_nil _)) shF_q62 (sp_q62 (G_q62 N_ S_q155)) (an_q62 N_ S_q155) 0 1 (by kernel_rfl) (fun i_ hi_ => by omega) ?_
  intro a k h
  unfold sp_q62 at h
  split at h
  · exact ⟨[_], rfl, rfl, (eq_q62 _ _ _ _ _ _ _).trans h⟩
  · cases h

def an_q77 (N_ : Nat) (S_q102 : TS_q102) (S_q62 : TS_q62) : Nat -> Option Ann := fun b_ => none
theorem eq_q77 (N_ : Nat) (S_q102 : TS_q102) (S_q62 : TS_q62) (n : Int) (b : Bool) (b_1 : List Int) (c_ : V -> List Blk -> Bool) : bodyZ ⟨Pg, ofList [(117, (F_q102 S_q102)), (113, (F_q62 S_q62))], isref, N_⟩ (an_q77 N_ S_q102 S_q62) 66 (shF_q77.args [.int n, .bool b, .ints b_1]) [⟨105, 1, .cells [.bool b, .roi .u32 b_1]⟩] c_ = G_q77 N_ S_q102 S_q62 n b b_1 (fun r0 r1 => c_ (.ptr 0 0) [⟨105, 1, .cells [.bool r0, .roi .u32 r1]⟩]) := by kernel_rfl
theorem good_q77 (N_ : Nat) (S_q102 : TS_q102) (S_q62 : TS_q62) (h_q102 : GoodF Pg 117 (F_q102 S_q102)) (h_q62 : GoodF Pg 113 (F_q62 S_q62)) : GoodF Pg 66 (F_q77 (G_q77 N_ S_q102 S_q62)) := by
  refine good_fsZ (cx := ⟨Pg, ofList [(117, (F_q102 S_q102)), (113, (F_q62 S_q62))], isref, N_⟩) (ofList_cons h_q102 (ofList_cons h_q62 (ofList_nil _))) shF_q77 (sp_q77 (G_q77 N_ S_q102 S_q62)) (an_q77 N_ S_q102 S_q62) 0 1 (by kernel_rfl) (fun i_ hi_ => by omega) ?_
  intro a k h
  unfold sp_q77 at h
  split at h
  · exact ⟨[_], rfl, rfl, (eq_q77 _ _ _ _ _ _ _).trans h⟩
  · cases h

def an_q146 (N_ : Nat) (S_q73 : TS_q73) (S_q77 : TS_q77) : Nat -> Option Ann := fun b_ => none
theorem eq_q146 (N_ : Nat) (S_q73 : TS_q73) (S_q77 : TS_q77) (bits : Int) (c_ : V -> List Blk -> Bool) : bodyV ⟨Pg, ofList [(66, (orFs (F_q73 S_q73) (F_q77 S_q77) shF_q73))], isref, N_⟩ (an_q146 N_ S_q73 S_q77) 155 (shF_q146.args [.int bits]) [] c_ = G_q146 N_ S_q73 S_q77 bits (fun r0 => c_ (.agg [.int .i64 2, .bool false, .ptr 0 0, .int .i64 0]) [⟨105, 1, .cells [.bool r0, .nil]⟩]) (fun r0 r1 r2 => c_ (.agg [.int .i64 1, .bool r0, .ptr 0 0, .int .i64 (-1074)]) [⟨105, 1, .cells [.bool r1, .roi .u32 r2]⟩]) (fun r0 r1 r2 r3 => c_ (.agg [.int .i64 0, .bool r0, .ptr 0 0, .int .i64 r1]) [⟨105, 1, .cells [.bool r2, .roi .u32 r3]⟩]) (fun r0 r1 r2 => c_ (.agg [.int .i64 0, .bool r0, .ptr 0 0, .int .i64 (-1074)]) [⟨105, 1, .cells [.bool r1, .roi .u32 r2]⟩]) := by kernel_rfl
theorem good_q146 (N_ : Nat) (S_q73 : TS_q73) (S_q77 : TS_q77) (h_q73 : GoodF Pg 66 (F_q73 S_q73)) (h_q77 : GoodF Pg 66 (F_q77 S_q77)) : GoodF Pg 155 (F_q146 (G_q146 N_ S_q73 S_q77)) := by
  refine good_fs (cx := ⟨Pg, ofList [(66, (orFs (F_q73 S_q73) (F_q77 S_q77) shF_q73))], isref, N_⟩) (ofList_cons (good_or h_q73 h_q77) (ofList_nil _)) shF_q146 (sp_q146 (G_q146 N_ S_q73 S_q77)) (an_q146 N_ S_q73 S_q77) 0 0 (by kernel_rfl) (fun i_ hi_ => by omega) ?_
  intro a k h
  unfold sp_q146 at h
  split at h
  · exact ⟨[], rfl, rfl, (eq_q146 _ _ _ _ _).trans h⟩
  · cases h

def an_q161 (N_ : Nat) : Nat -> Option Ann := fun b_ => none
theorem eq_q161 (N_ : Nat) (c_ : V -> List Blk -> Bool) : bodyV ⟨Pg, ofList [], isref, N_⟩ (an_q161 N_) 184 (shF_q161.args []) [] c_ = G_q161 N_ (fun r0 => c_ (.int .u64 r0) []) := by kernel_rfl
theorem good_q161 (N_ : Nat) : GoodF Pg 184 (F_q161 (G_q161 N_)) := by
  refine good_fs (cx := ⟨Pg, ofList [], isref, N_⟩) (ofList_nil _) shF_q161 (sp_q161 (G_q161 N_)) (an_q161 N_) 0 0 (by kernel_rfl) (fun i_ hi_ => by omega) ?_
  intro a k h
  unfold sp_q161 at h
  split at h
  · exact ⟨[], rfl, rfl, (eq_q161 _ _).trans h⟩
  · cases h

def an_q152 (N_ : Nat) (S_q161 : TS_q161) : Nat -> Option Ann := fun b_ => none
theorem eq_q152 (N_ : Nat) (S_q161 : TS_q161) (b : Bool) (c_ : V -> List Blk -> Bool) : bodyV ⟨Pg, ofList [(184, (F_q161 S_q161))], isref, N_⟩ (an_q152 N_ S_q161) 156 (shF_q152.args [.bool b]) [⟨105, 1, .cells [.bool b, .nil]⟩] c_ = G_q152 N_ S_q161 b (fun r0 r1 => c_ (.tup [.int .u64 r0, .int .i64 r1]) [⟨105, 1, .cells [.bool b, .nil]⟩]) := by kernel_rfl
theorem good_q152 (N_ : Nat) (S_q161 : TS_q161) (h_q161 : GoodF Pg 184 (F_q161 S_q161)) : GoodF Pg 156 (F_q152 (G_q152 N_ S_q161)) := by
  refine good_fs (cx := ⟨Pg, ofList [(184, (F_q161 S_q161))], isref, N_⟩) (ofList_cons h_q161 (ofList_nil _)) shF_q152 (sp_q152 (G_q152 N_ S_q161)) (an_q152 N_ S_q161) 0 1 (by kernel_rfl) (fun i_ hi_ => by omega) ?_
  intro a k h
  unfold sp_q152 at h
  split at h
  · exact ⟨[_], rfl, rfl, (eq_q152 _ _ _ _).trans h⟩
  · cases h

def an_q65 (N_ : Nat) : Nat -> Option Ann := fun b_ => none
theorem eq_q65 (N_ : Nat) (neg : Bool) (field : Int) (frac : Int) (c_ : V -> List Blk -> Bool) : bodyV ⟨Pg, ofList [], isref, N_⟩ (an_q65 N_) 206 (shF_q65.args [.bool neg, .int field, .int frac]) [] c_ = G_q65 N_ neg field frac (fun r0 => c_ (.int .u64 r0) []) := by kernel_rfl
theorem good_q65 (N_ : Nat) : GoodF Pg 206 (F_q65 (G_q65 N_)) := by
  refine good_fs (cx := ⟨Pg, ofList [], isref, N_⟩) (ofList_nil _) shF_q65 (sp_q65 (G_q65 N_)) (an_q65 N_) 0 0 (by kernel_rfl) (fun i_ hi_ => by omega) ?_
  intro a k h
  unfold sp_q65 at h
  split at h
  · exact ⟨[], rfl, rfl, (eq_q65 _ _ _ _ _).trans h⟩
  · cases h

def an_q101 (N_ : Nat) (S_q65 : TS_q65) : Nat -> Option Ann := fun b_ => none
theorem eq_q101 (N_ : Nat) (S_q65 : TS_q65) (neg : Bool) (c_ : V -> List Blk -> Bool) : bodyV ⟨Pg, ofList [(206, (F_q65 S_q65))], isref, N_⟩ (an_q101 N_ S_q65) 185 (shF_q101.args [.bool neg]) [] c_ = G_q101 N_ S_q65 neg (fun r0 => c_ (.int .u64 r0) []) := by kernel_rfl
theorem good_q101 (N_ : Nat) (S_q65 : TS_q65) (h_q65 : GoodF Pg 206 (F_q65 S_q65)) : GoodF Pg 185 (F_q101 (G_q101 N_ S_q65)) := by
  refine good_fs (cx := ⟨Pg, ofList [(206, (F_q65 S_q65))], isref, N_⟩) (ofList_cons h_q65 (ofList_nil _)) shF_q101 (sp_q101 (G_q101 N_ S_q65)) (an_q101 N_ S_q65) 0 0 (by kernel_rfl) (fun i_ hi_ => by omega) ?_
  intro a k h
  unfold sp_q101 at h
  split at h
  · exact ⟨[], rfl, rfl, (eq_q101 _ _ _ _).trans h⟩
  · cases h

def an_q96 (N_ : Nat) : Nat -> Option Ann := fun b_ => none
theorem eq_q96 (N_ : Nat) (b : Bool) (b_1 : List Int) (c_ : V -> List Blk -> Bool) : bodyZ ⟨Pg, ofList [], isref, N_⟩ (an_q96 N_) 63 (shF_q96.args [.bool b, .ints b_1]) [⟨105, 1, .cells [.bool b, .roi .u32 b_1]⟩] c_ = G_q96 N_ b b_1 (fun r0 => c_ (.int .i64 r0) [⟨105, 1, .cells [.bool b, .roi .u32 b_1]⟩]) := by kernel_rfl
theorem good_q96 (N_ : Nat) : GoodF Pg 63 (F_q96 (G_q96 N_)) := by
  refine good_fsZ (cx := ⟨Pg, ofList [], isref, N_⟩) (ofList_nil _) shF_q96 (sp_q96 (G_q96 N_)) (an_q96 N_) 0 1 (by kernel_rfl) (fun i_ hi_ => by omega) ?_
  intro a k h
  unfold sp_q96 at h
  split at h
  · exact ⟨[_], rfl, rfl, (eq_q96 _ _ _ _).trans h⟩
  · cases h

def an_q154 (N_ : Nat) (S_q96 : TS_q96) : Nat -> Option Ann := fun b_ => none
theorem eq_q154 (N_ : Nat) (S_q96 : TS_q96) (n_0 : Int) (n_1 : Bool) (n_2 : Int) (b : Bool) (b_1 : List Int) (c_ : V -> List Blk -> Bool) : bodyV ⟨Pg, ofList [(63, (F_q96 S_q96))], isref, N_⟩ (an_q154 N_ S_q96) 186 (shF_q154.args [.int n_0, .bool n_1, .int n_2, .bool b, .ints b_1]) [⟨105, 1, .cells [.bool b, .roi .u32 b_1]⟩] c_ = G_q154 N_ S_q96 n_0 n_1 n_2 b b_1 (fun r0 => c_ (.bool r0) [⟨105, 1, .cells [.bool b, .roi .u32 b_1]⟩]) := by kernel_rfl
theorem good_q154 (N_ : Nat) (S_q96 : TS_q96) (h_q96 : GoodF Pg 63 (F_q96 S_q96)) : GoodF Pg 186 (F_q154 (G_q154 N_ S_q96)) := by
  refine good_fs (cx := ⟨Pg, ofList [(63, (F_q96 S_q96))], isref, N_⟩) (ofList_cons h_q96 (ofList_nil _)) shF_q154 (sp_q154 (G_q154 N_ S_q96)) (an_q154 N_ S_q96) 0 1 (by kernel_rfl) (fun i_ hi_ => by omega) ?_
  intro a k h
  unfold sp_q154 at h
  split at h
  · exact ⟨[_], rfl, rfl, (eq_q154 _ _ _ _ _ _ _ _).trans h⟩
  · cases h

def an_q156 (N_ : Nat) (S_q65 : TS_q65) : Nat -> Option Ann := fun b_ => none
theorem eq_q156 (N_ : Nat) (S_q65 : TS_q65) (neg : Bool) (c_ : V -> List Blk -> Bool) : bodyV ⟨Pg, ofList [(206, (F_q65 S_q65))], isref, N_⟩ (an_q156 N_ S_q65) 187 (shF_q156.args [.bool neg]) [] c_ = G_q156 N_ S_q65 neg (fun r0 => c_ (.int .u64 r0) []) := by kernel_rfl
theorem good_q156 (N_ : Nat) (S_q65 : TS_q65) (h_q65 : GoodF Pg 206 (F_q65 S_q65)) : GoodF Pg 187 (F_q156 (G_q156 N_ S_q65)) := by
  refine good_fs (cx := ⟨Pg, ofList [(206, (F_q65 S_q65))], isref, N_⟩) (ofList_cons h_q65 (ofList_nil _)) shF_q156 (sp_q156 (G_q156 N_ S_q65)) (an_q156 N_ S_q65) 0 0 (by kernel_rfl) (fun i_ hi_ => by omega) ?_
  intro a k h
  unfold sp_q156 at h
  split at h
  · exact ⟨[], rfl, rfl, (eq_q156 _ _ _ _).trans h⟩
  · cases h

def an_q117 (N_ : Nat) : Nat -> Option Ann := fun b_ => none
theorem eq_q117 (N_ : Nat) (x : Int) (c_ : V -> List Blk -> Bool) : bodyV ⟨Pg, ofList [], isref, N_⟩ (an_q117 N_) 222 (shF_q117.args [.int x]) [] c_ = G_q117 N_ x (fun r0 => c_ (.int .i64 r0) []) := by kernel_rfl
theorem good_q117 (N_ : Nat) : GoodF Pg 222 (F_q117 (G_q117 N_)) := by
  refine good_fs (cx := ⟨Pg, ofList [], isref, N_⟩) (ofList_nil _) shF_q117 (sp_q117 (G_q117 N_)) (an_q117 N_) 0 0 (by kernel_rfl) (fun i_ hi_ => by omega) ?_
  intro a k h
  unfold sp_q117 at h
  split at h
  · exact ⟨[], rfl, rfl, (eq_q117 _ _ _).trans h⟩
  · cases h

def an_q5 (N_ : Nat) (S_q117 : TS_q117) : Nat -> Option Ann := fun b_ => none
theorem eq_q5 (N_ : Nat) (S_q117 : TS_q117) (b : Bool) (b_1 : List Int) (c_ : V -> List Blk -> Bool) : bodyZ ⟨Pg, ofList [(222, (F_q117 S_q117))], isref, N_⟩ (an_q5 N_ S_q117) 207 (shF_q5.args [.bool b, .ints b_1]) [⟨105, 1, .cells [.bool b, .roi .u32 b_1]⟩] c_ = G_q5 N_ S_q117 b b_1 (fun r0 => c_ (.int .i64 r0) [⟨105, 1, .cells [.bool b, .roi .u32 b_1]⟩]) := by kernel_rfl
theorem good_q5 (N_ : Nat) (S_q117 : TS_q117) (h_q117 : GoodF Pg 222 (F_q117 S_q117)) : GoodF Pg 207 (F_q5 (G_q5 N_ S_q117)) := by
  refine good_fsZ (cx := ⟨Pg, ofList [(222, (F_q117 S_q117))], isref, N_⟩) (ofList_cons h_q117 (ofList_nil _)) shF_q5 (sp_q5 (G_q5 N_ S_q117)) (an_q5 N_ S_q117) 0 1 (by kernel_rfl) (fun i_ hi_ => by omega) ?_
  intro a k h
  unfold sp_q5 at h
  split at h
  · exact ⟨[_], rfl, rfl, (eq_q5 _ _ _ _ _).trans h⟩
  · cases h

end Go.Proofs.YtccocdgimamdhaaGreatDoor
