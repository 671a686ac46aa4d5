/-
  THE TIES: each printed meaning is what the program does (written by program).
  Conditions: none.
-/
import Derived.Test.YtldpkhfffeddiaaGreatGs
namespace Go.Proofs.YtldpkhfffeddiaaGreat
open Go Go.Mach Go.Proofs
set_option linter.unusedVariables false
set_option maxRecDepth 50000

def an_quat_From (N_ : Nat) (S_matrix_Check : TS_matrix_Check) (S_quat_From_1_p0r : TS_quat_From_1_p0r) (S_quat_finite : TS_quat_finite) (S_quat_told : TS_quat_told) (S_quat_Unit : TS_quat_Unit) : Nat → Option Ann := fun b_ => none
def ls_quat_From_0 (ds_ : List V) (ms_ : List (Option Blk)) (m_0 : Int) (m_1 : Int) (m_2 : List Fl) (k_ : Fl) (k__1 : Fl) (k__2 : Fl) (k__3 : Fl) : St := ⟨[(dq ds_ 0), (dq ds_ 1), .ptr 1 0, (dq ds_ 2), (dq ds_ 3), (dq ds_ 4), (dq ds_ 5), (dq ds_ 6), (dq ds_ 7), (dq ds_ 8), (dq ds_ 9), (dq ds_ 10), (dq ds_ 11), (dq ds_ 12), (dq ds_ 13), (dq ds_ 14), .ptr 3 0, (dq ds_ 15), (dq ds_ 16), (dq ds_ 17), (dq ds_ 18), (dq ds_ 19), (dq ds_ 20), (dq ds_ 21), (dq ds_ 22), (dq ds_ 23), (dq ds_ 24), (dq ds_ 25), (dq ds_ 26), (dq ds_ 27), (dq ds_ 28), (dq ds_ 29), (dq ds_ 30), (dq ds_ 31), (dq ds_ 32), (dq ds_ 33), (dq ds_ 34), (dq ds_ 35), (dq ds_ 36), (dq ds_ 37), (dq ds_ 38), (dq ds_ 39), (dq ds_ 40), (dq ds_ 41), (dq ds_ 42), (dq ds_ 43), (dq ds_ 44), (dq ds_ 45), (dq ds_ 46), (dq ds_ 47), (dq ds_ 48), (dq ds_ 49), (dq ds_ 50), (dq ds_ 51), (dq ds_ 52), (dq ds_ 53), (dq ds_ 54), (dq ds_ 55), (dq ds_ 56), (dq ds_ 57), (dq ds_ 58), (dq ds_ 59), (dq ds_ 60), (dq ds_ 61), (dq ds_ 62), (dq ds_ 63), (dq ds_ 64), (dq ds_ 65), (dq ds_ 66), (dq ds_ 67), (dq ds_ 68), (dq ds_ 69), (dq ds_ 70), (dq ds_ 71), (dq ds_ 72), (dq ds_ 73), (dq ds_ 74), (dq ds_ 75), (dq ds_ 76), (dq ds_ 77), (dq ds_ 78), (dq ds_ 79), (dq ds_ 80), (dq ds_ 81), (dq ds_ 82), (dq ds_ 83), (dq ds_ 84), (dq ds_ 85), (dq ds_ 86), (dq ds_ 87), (dq ds_ 88), (dq ds_ 89), (dq ds_ 90), (dq ds_ 91), (dq ds_ 92), (dq ds_ 93), (dq ds_ 94), (dq ds_ 95), (dq ds_ 96), (dq ds_ 97), (dq ds_ 98), (dq ds_ 99), (dq ds_ 100), (dq ds_ 101), (dq ds_ 102), (dq ds_ 103), (dq ds_ 104), (dq ds_ 105), (dq ds_ 106), (dq ds_ 107), (dq ds_ 108), (dq ds_ 109), (dq ds_ 110), (dq ds_ 111), (dq ds_ 112), (dq ds_ 113), (dq ds_ 114), (dq ds_ 115), (dq ds_ 116), (dq ds_ 117), (dq ds_ 118), (dq ds_ 119), (dq ds_ 120), (dq ds_ 121), (dq ds_ 122), (dq ds_ 123), (dq ds_ 124), (dq ds_ 125), (dq ds_ 126), (dq ds_ 127), (dq ds_ 128), (dq ds_ 129), (dq ds_ 130), (dq ds_ 131), (dq ds_ 132), (dq ds_ 133), (dq ds_ 134), (dq ds_ 135), (dq ds_ 136), (dq ds_ 137), (dq ds_ 138), (dq ds_ 139), (dq ds_ 140), (dq ds_ 141), (dq ds_ 142), (dq ds_ 143)], [(ms_.getD 0 none), some ⟨26, 1, .cells [.flt (some 0), .flt (some 0), .flt (some 0), .flt (some 0)]⟩, (ms_.getD 1 none), some ⟨26, 1, .cells [.flt k_, .flt k__1, .flt k__2, .flt k__3]⟩]⟩
theorem jn_quat_From_0 (N_ : Nat) (S_matrix_Check : TS_matrix_Check) (S_quat_From_1_p0r : TS_quat_From_1_p0r) (S_quat_finite : TS_quat_finite) (S_quat_told : TS_quat_told) (S_quat_Unit : TS_quat_Unit) (ds_ : List V) (ms_ : List (Option Blk)) (m_0 : Int) (m_1 : Int) (m_2 : List Fl) (k_ : Fl) (k__1 : Fl) (k__2 : Fl) (k__3 : Fl) (cont_ : V → List Blk → Bool) : codesV ⟨Tryz.prog, ofList [(36, (F_matrix_Check S_matrix_Check)), (63, (F_quat_From_1_p0r S_quat_From_1_p0r)), (64, (F_quat_finite S_quat_finite)), (65, (F_quat_told S_quat_told)), (66, (F_quat_Unit S_quat_Unit))], isref, N_⟩ 0 (an_quat_From N_ S_matrix_Check S_quat_From_1_p0r S_quat_finite S_quat_told S_quat_Unit) ((cds Tryz.prog 23).drop 17) 0 (ls_quat_From_0 ds_ ms_ m_0 m_1 m_2 k_ k__1 k__2 k__3) (finV Tryz.prog 23 0 cont_) = J_quat_From_0 N_ S_matrix_Check S_quat_From_1_p0r S_quat_finite S_quat_told S_quat_Unit m_0 m_1 m_2 k_ k__1 k__2 k__3 (fun r0 r1 r2 r3 r4 => cont_ (.tup [.agg [.flt r0, .flt r1, .flt r2, .flt r3], .int .i64 r4]) []) := by kernel_rfl
theorem hd_quat_From_w (N_ : Nat) (S_matrix_Check : TS_matrix_Check) (S_quat_From_1_p0r : TS_quat_From_1_p0r) (S_quat_finite : TS_quat_finite) (S_quat_told : TS_quat_told) (S_quat_Unit : TS_quat_Unit) (m_0 : Int) (m_1 : Int) (m_2 : List Fl) (cont_ : V → List Blk → Bool) (κn_ : St → Bool) : codesV ⟨Tryz.prog, ofList [(36, (F_matrix_Check S_matrix_Check)), (63, (F_quat_From_1_p0r S_quat_From_1_p0r)), (64, (F_quat_finite S_quat_finite)), (65, (F_quat_told S_quat_told)), (66, (F_quat_Unit S_quat_Unit))], isref, N_⟩ 0 (an_quat_From N_ S_matrix_Check S_quat_From_1_p0r S_quat_finite S_quat_told S_quat_Unit) (sg Tryz.prog 23 0 17) 0 (st0 Tryz.prog 23 (shF_quat_From.args [.int m_0, .int m_1, .fls m_2]) []) { (finV Tryz.prog 23 0 cont_) with nrm := κn_ } = (S_matrix_Check m_0 m_1 m_2 (fun (nr : Int) => (cond (nr != 0) (cont_ (.tup [.agg [.flt (some 0), .flt (some 0), .flt (some 0), .flt (some 0)], .int .i64 nr]) []) (cond ((m_0 != 3) == false) (cond (m_1 != 3) (cont_ (.tup [.agg [.flt (some 0), .flt (some 0), .flt (some 0), .flt (some 0)], .int .i64 3]) []) (S_quat_From_1_p0r 0 0 m_0 m_1 m_2 (fun (xr : Fl) => (S_quat_From_1_p0r 1 1 m_0 m_1 m_2 (fun (xr_1 : Fl) => (S_quat_From_1_p0r 2 2 m_0 m_1 m_2 (fun (xr_2 : Fl) => (S_quat_finite [(fadd (fadd xr xr_1) xr_2)] (fun (cr : Bool) => (cond (!cr) (cont_ (.tup [.agg [.flt (some 0), .flt (some 0), .flt (some 0), .flt (some 0)], .int .i64 5]) []) (S_quat_From_1_p0r 2 1 m_0 m_1 m_2 (fun (xr_3 : Fl) => (S_quat_From_1_p0r 1 2 m_0 m_1 m_2 (fun (xr_4 : Fl) => (S_quat_From_1_p0r 0 2 m_0 m_1 m_2 (fun (xr_5 : Fl) => (S_quat_From_1_p0r 2 0 m_0 m_1 m_2 (fun (xr_6 : Fl) => (S_quat_From_1_p0r 1 0 m_0 m_1 m_2 (fun (xr_7 : Fl) => (S_quat_From_1_p0r 0 1 m_0 m_1 m_2 (fun (xr_8 : Fl) => (S_quat_From_1_p0r 0 1 m_0 m_1 m_2 (fun (xr_9 : Fl) => (S_quat_From_1_p0r 1 0 m_0 m_1 m_2 (fun (xr_10 : Fl) => (S_quat_From_1_p0r 0 2 m_0 m_1 m_2 (fun (xr_11 : Fl) => (S_quat_From_1_p0r 2 0 m_0 m_1 m_2 (fun (xr_12 : Fl) => (S_quat_From_1_p0r 1 2 m_0 m_1 m_2 (fun (xr_13 : Fl) => (S_quat_From_1_p0r 2 1 m_0 m_1 m_2 (fun (xr_14 : Fl) => (cond (feq (fmm true (fmm true (fmm true (fadd (fadd xr xr_1) xr_2) xr) xr_1) xr_2) (fadd (fadd xr xr_1) xr_2)) (κn_ (ls_quat_From_0 [.agg [.int .i64 m_0, .int .i64 m_1, .rof m_2], .ptr 0 0, .int .i64 0, .int .i64 nr, .fn 63 [.ptr 0 0], .flt xr, .flt xr_1, .flt xr_2, .flt (fadd (fadd xr xr_1) xr_2), .flt (fsub xr_3 xr_4), .flt (fsub xr_5 xr_6), .flt (fsub xr_7 xr_8), .flt (fadd xr_9 xr_10), .flt (fadd xr_11 xr_12), .flt (fadd xr_13 xr_14), .flt (fmm true (fmm true (fmm true (fadd (fadd xr xr_1) xr_2) xr) xr_1) xr_2), .any, .any, .agg [.int .i64 m_0, .int .i64 m_1, .rof m_2], .int .i64 nr, .int .i64 nr, .bool false, .any, .any, .ptr 0 0, .int .i64 m_0, .bool (m_0 != 3), .bool false, .ptr 0 1, .int .i64 m_1, .bool (m_1 != 3), .bool false, .any, .fn 63 [.ptr 0 0], .fn 63 [.ptr 0 0], .flt xr, .fn 63 [.ptr 0 0], .flt xr_1, .fn 63 [.ptr 0 0], .flt xr_2, .flt xr, .flt xr_1, .flt (fadd xr xr_1), .flt xr_2, .flt (fadd (fadd xr xr_1) xr_2), .flt (fadd (fadd xr xr_1) xr_2), .slw 2, .bool cr, .bool false, .any, .fn 63 [.ptr 0 0], .flt xr_3, .fn 63 [.ptr 0 0], .flt xr_4, .flt (fsub xr_3 xr_4), .fn 63 [.ptr 0 0], .flt xr_5, .fn 63 [.ptr 0 0], .flt xr_6, .flt (fsub xr_5 xr_6), .fn 63 [.ptr 0 0], .flt xr_7, .fn 63 [.ptr 0 0], .flt xr_8, .flt (fsub xr_7 xr_8), .fn 63 [.ptr 0 0], .flt xr_9, .fn 63 [.ptr 0 0], .flt xr_10, .flt (fadd xr_9 xr_10), .fn 63 [.ptr 0 0], .flt xr_11, .fn 63 [.ptr 0 0], .flt xr_12, .flt (fadd xr_11 xr_12), .fn 63 [.ptr 0 0], .flt xr_13, .fn 63 [.ptr 0 0], .flt xr_14, .flt (fadd xr_13 xr_14), .flt (fadd (fadd xr xr_1) xr_2), .flt xr, .flt xr_1, .flt xr_2, .flt (fmm true (fmm true (fmm true (fadd (fadd xr xr_1) xr_2) xr) xr_1) xr_2), .flt (fmm true (fmm true (fmm true (fadd (fadd xr xr_1) xr_2) xr) xr_1) xr_2), .any, .any, .any, .any, .any, .any, .any, .any, .any, .any, .bool true, .flt (fadd (fadd xr xr_1) xr_2), .bool (feq (fmm true (fmm true (fmm true (fadd (fadd xr xr_1) xr_2) xr) xr_1) xr_2) (fadd (fadd xr xr_1) xr_2)), .flt (fadd (fadd xr xr_1) xr_2), .flt (fadd (some 4607182418800017408) (fadd (fadd xr xr_1) xr_2)), .flt (fsub xr_3 xr_4), .flt (fsub xr_5 xr_6), .flt (fsub xr_7 xr_8), .agg [.flt (fadd (some 4607182418800017408) (fadd (fadd xr xr_1) xr_2)), .flt (fsub xr_3 xr_4), .flt (fsub xr_5 xr_6), .flt (fsub xr_7 xr_8)], .any, .any, .any, .any, .any, .any, .any, .any, .any, .any, .any, .any, .any, .any, .any, .any, .any, .any, .any, .any, .any, .any, .any, .any, .any, .any, .any, .any, .any, .any, .any, .any, .any, .any, .any, .any, .any, .any, .any] [some ⟨46, 1, .cells [.int .i64 m_0, .int .i64 m_1, .rof m_2]⟩, some ⟨24, 1, .flts [(fadd (fadd xr xr_1) xr_2)]⟩] m_0 m_1 m_2 (fadd (some 4607182418800017408) (fadd (fadd xr xr_1) xr_2)) (fsub xr_3 xr_4) (fsub xr_5 xr_6) (fsub xr_7 xr_8))) (cond (feq (fmm true (fmm true (fmm true (fadd (fadd xr xr_1) xr_2) xr) xr_1) xr_2) xr) (κn_ (ls_quat_From_0 [.agg [.int .i64 m_0, .int .i64 m_1, .rof m_2], .ptr 0 0, .int .i64 0, .int .i64 nr, .fn 63 [.ptr 0 0], .flt xr, .flt xr_1, .flt xr_2, .flt (fadd (fadd xr xr_1) xr_2), .flt (fsub xr_3 xr_4), .flt (fsub xr_5 xr_6), .flt (fsub xr_7 xr_8), .flt (fadd xr_9 xr_10), .flt (fadd xr_11 xr_12), .flt (fadd xr_13 xr_14), .flt (fmm true (fmm true (fmm true (fadd (fadd xr xr_1) xr_2) xr) xr_1) xr_2), .any, .any, .agg [.int .i64 m_0, .int .i64 m_1, .rof m_2], .int .i64 nr, .int .i64 nr, .bool false, .any, .any, .ptr 0 0, .int .i64 m_0, .bool (m_0 != 3), .bool false, .ptr 0 1, .int .i64 m_1, .bool (m_1 != 3), .bool false, .any, .fn 63 [.ptr 0 0], .fn 63 [.ptr 0 0], .flt xr, .fn 63 [.ptr 0 0], .flt xr_1, .fn 63 [.ptr 0 0], .flt xr_2, .flt xr, .flt xr_1, .flt (fadd xr xr_1), .flt xr_2, .flt (fadd (fadd xr xr_1) xr_2), .flt (fadd (fadd xr xr_1) xr_2), .slw 2, .bool cr, .bool false, .any, .fn 63 [.ptr 0 0], .flt xr_3, .fn 63 [.ptr 0 0], .flt xr_4, .flt (fsub xr_3 xr_4), .fn 63 [.ptr 0 0], .flt xr_5, .fn 63 [.ptr 0 0], .flt xr_6, .flt (fsub xr_5 xr_6), .fn 63 [.ptr 0 0], .flt xr_7, .fn 63 [.ptr 0 0], .flt xr_8, .flt (fsub xr_7 xr_8), .fn 63 [.ptr 0 0], .flt xr_9, .fn 63 [.ptr 0 0], .flt xr_10, .flt (fadd xr_9 xr_10), .fn 63 [.ptr 0 0], .flt xr_11, .fn 63 [.ptr 0 0], .flt xr_12, .flt (fadd xr_11 xr_12), .fn 63 [.ptr 0 0], .flt xr_13, .fn 63 [.ptr 0 0], .flt xr_14, .flt (fadd xr_13 xr_14), .flt (fadd (fadd xr xr_1) xr_2), .flt xr, .flt xr_1, .flt xr_2, .flt (fmm true (fmm true (fmm true (fadd (fadd xr xr_1) xr_2) xr) xr_1) xr_2), .flt (fmm true (fmm true (fmm true (fadd (fadd xr xr_1) xr_2) xr) xr_1) xr_2), .any, .any, .any, .any, .any, .any, .any, .any, .any, .any, .bool false, .flt (fadd (fadd xr xr_1) xr_2), .bool (feq (fmm true (fmm true (fmm true (fadd (fadd xr xr_1) xr_2) xr) xr_1) xr_2) (fadd (fadd xr xr_1) xr_2)), .any, .any, .any, .any, .any, .any, .bool true, .flt xr, .bool (feq (fmm true (fmm true (fmm true (fadd (fadd xr xr_1) xr_2) xr) xr_1) xr_2) xr), .flt (fsub xr_3 xr_4), .flt xr, .flt (fadd (some 4607182418800017408) xr), .flt xr_1, .flt (fsub (fadd (some 4607182418800017408) xr) xr_1), .flt xr_2, .flt (fsub (fsub (fadd (some 4607182418800017408) xr) xr_1) xr_2), .flt (fadd xr_9 xr_10), .flt (fadd xr_11 xr_12), .agg [.flt (fsub xr_3 xr_4), .flt (fsub (fsub (fadd (some 4607182418800017408) xr) xr_1) xr_2), .flt (fadd xr_9 xr_10), .flt (fadd xr_11 xr_12)], .any, .any, .any, .any, .any, .any, .any, .any, .any, .any, .any, .any, .any, .any, .any, .any, .any, .any, .any, .any, .any, .any, .any, .any, .any, .any] [some ⟨46, 1, .cells [.int .i64 m_0, .int .i64 m_1, .rof m_2]⟩, some ⟨24, 1, .flts [(fadd (fadd xr xr_1) xr_2)]⟩] m_0 m_1 m_2 (fsub xr_3 xr_4) (fsub (fsub (fadd (some 4607182418800017408) xr) xr_1) xr_2) (fadd xr_9 xr_10) (fadd xr_11 xr_12))) (cond (feq (fmm true (fmm true (fmm true (fadd (fadd xr xr_1) xr_2) xr) xr_1) xr_2) xr_1) (κn_ (ls_quat_From_0 [.agg [.int .i64 m_0, .int .i64 m_1, .rof m_2], .ptr 0 0, .int .i64 0, .int .i64 nr, .fn 63 [.ptr 0 0], .flt xr, .flt xr_1, .flt xr_2, .flt (fadd (fadd xr xr_1) xr_2), .flt (fsub xr_3 xr_4), .flt (fsub xr_5 xr_6), .flt (fsub xr_7 xr_8), .flt (fadd xr_9 xr_10), .flt (fadd xr_11 xr_12), .flt (fadd xr_13 xr_14), .flt (fmm true (fmm true (fmm true (fadd (fadd xr xr_1) xr_2) xr) xr_1) xr_2), .any, .any, .agg [.int .i64 m_0, .int .i64 m_1, .rof m_2], .int .i64 nr, .int .i64 nr, .bool false, .any, .any, .ptr 0 0, .int .i64 m_0, .bool (m_0 != 3), .bool false, .ptr 0 1, .int .i64 m_1, .bool (m_1 != 3), .bool false, .any, .fn 63 [.ptr 0 0], .fn 63 [.ptr 0 0], .flt xr, .fn 63 [.ptr 0 0], .flt xr_1, .fn 63 [.ptr 0 0], .flt xr_2, .flt xr, .flt xr_1, .flt (fadd xr xr_1), .flt xr_2, .flt (fadd (fadd xr xr_1) xr_2), .flt (fadd (fadd xr xr_1) xr_2), .slw 2, .bool cr, .bool false, .any, .fn 63 [.ptr 0 0], .flt xr_3, .fn 63 [.ptr 0 0], .flt xr_4, .flt (fsub xr_3 xr_4), .fn 63 [.ptr 0 0], .flt xr_5, .fn 63 [.ptr 0 0], .flt xr_6, .flt (fsub xr_5 xr_6), .fn 63 [.ptr 0 0], .flt xr_7, .fn 63 [.ptr 0 0], .flt xr_8, .flt (fsub xr_7 xr_8), .fn 63 [.ptr 0 0], .flt xr_9, .fn 63 [.ptr 0 0], .flt xr_10, .flt (fadd xr_9 xr_10), .fn 63 [.ptr 0 0], .flt xr_11, .fn 63 [.ptr 0 0], .flt xr_12, .flt (fadd xr_11 xr_12), .fn 63 [.ptr 0 0], .flt xr_13, .fn 63 [.ptr 0 0], .flt xr_14, .flt (fadd xr_13 xr_14), .flt (fadd (fadd xr xr_1) xr_2), .flt xr, .flt xr_1, .flt xr_2, .flt (fmm true (fmm true (fmm true (fadd (fadd xr xr_1) xr_2) xr) xr_1) xr_2), .flt (fmm true (fmm true (fmm true (fadd (fadd xr xr_1) xr_2) xr) xr_1) xr_2), .any, .any, .any, .any, .any, .any, .any, .any, .any, .any, .bool false, .flt (fadd (fadd xr xr_1) xr_2), .bool (feq (fmm true (fmm true (fmm true (fadd (fadd xr xr_1) xr_2) xr) xr_1) xr_2) (fadd (fadd xr xr_1) xr_2)), .any, .any, .any, .any, .any, .any, .bool false, .flt xr, .bool (feq (fmm true (fmm true (fmm true (fadd (fadd xr xr_1) xr_2) xr) xr_1) xr_2) xr), .any, .any, .any, .any, .any, .any, .any, .any, .any, .any, .bool true, .flt xr_1, .bool (feq (fmm true (fmm true (fmm true (fadd (fadd xr xr_1) xr_2) xr) xr_1) xr_2) xr_1), .flt (fsub xr_5 xr_6), .flt (fadd xr_9 xr_10), .flt xr, .flt (fsub (some 4607182418800017408) xr), .flt xr_1, .flt (fadd (fsub (some 4607182418800017408) xr) xr_1), .flt xr_2, .flt (fsub (fadd (fsub (some 4607182418800017408) xr) xr_1) xr_2), .flt (fadd xr_13 xr_14), .agg [.flt (fsub xr_5 xr_6), .flt (fadd xr_9 xr_10), .flt (fsub (fadd (fsub (some 4607182418800017408) xr) xr_1) xr_2), .flt (fadd xr_13 xr_14)], .any, .any, .any, .any, .any, .any, .any, .any, .any, .any, .any, .any, .any] [some ⟨46, 1, .cells [.int .i64 m_0, .int .i64 m_1, .rof m_2]⟩, some ⟨24, 1, .flts [(fadd (fadd xr xr_1) xr_2)]⟩] m_0 m_1 m_2 (fsub xr_5 xr_6) (fadd xr_9 xr_10) (fsub (fadd (fsub (some 4607182418800017408) xr) xr_1) xr_2) (fadd xr_13 xr_14))) (κn_ (ls_quat_From_0 [.agg [.int .i64 m_0, .int .i64 m_1, .rof m_2], .ptr 0 0, .int .i64 0, .int .i64 nr, .fn 63 [.ptr 0 0], .flt xr, .flt xr_1, .flt xr_2, .flt (fadd (fadd xr xr_1) xr_2), .flt (fsub xr_3 xr_4), .flt (fsub xr_5 xr_6), .flt (fsub xr_7 xr_8), .flt (fadd xr_9 xr_10), .flt (fadd xr_11 xr_12), .flt (fadd xr_13 xr_14), .flt (fmm true (fmm true (fmm true (fadd (fadd xr xr_1) xr_2) xr) xr_1) xr_2), .any, .any, .agg [.int .i64 m_0, .int .i64 m_1, .rof m_2], .int .i64 nr, .int .i64 nr, .bool false, .any, .any, .ptr 0 0, .int .i64 m_0, .bool (m_0 != 3), .bool false, .ptr 0 1, .int .i64 m_1, .bool (m_1 != 3), .bool false, .any, .fn 63 [.ptr 0 0], .fn 63 [.ptr 0 0], .flt xr, .fn 63 [.ptr 0 0], .flt xr_1, .fn 63 [.ptr 0 0], .flt xr_2, .flt xr, .flt xr_1, .flt (fadd xr xr_1), .flt xr_2, .flt (fadd (fadd xr xr_1) xr_2), .flt (fadd (fadd xr xr_1) xr_2), .slw 2, .bool cr, .bool false, .any, .fn 63 [.ptr 0 0], .flt xr_3, .fn 63 [.ptr 0 0], .flt xr_4, .flt (fsub xr_3 xr_4), .fn 63 [.ptr 0 0], .flt xr_5, .fn 63 [.ptr 0 0], .flt xr_6, .flt (fsub xr_5 xr_6), .fn 63 [.ptr 0 0], .flt xr_7, .fn 63 [.ptr 0 0], .flt xr_8, .flt (fsub xr_7 xr_8), .fn 63 [.ptr 0 0], .flt xr_9, .fn 63 [.ptr 0 0], .flt xr_10, .flt (fadd xr_9 xr_10), .fn 63 [.ptr 0 0], .flt xr_11, .fn 63 [.ptr 0 0], .flt xr_12, .flt (fadd xr_11 xr_12), .fn 63 [.ptr 0 0], .flt xr_13, .fn 63 [.ptr 0 0], .flt xr_14, .flt (fadd xr_13 xr_14), .flt (fadd (fadd xr xr_1) xr_2), .flt xr, .flt xr_1, .flt xr_2, .flt (fmm true (fmm true (fmm true (fadd (fadd xr xr_1) xr_2) xr) xr_1) xr_2), .flt (fmm true (fmm true (fmm true (fadd (fadd xr xr_1) xr_2) xr) xr_1) xr_2), .flt (fsub xr_7 xr_8), .flt (fadd xr_11 xr_12), .flt (fadd xr_13 xr_14), .flt xr, .flt (fsub (some 4607182418800017408) xr), .flt xr_1, .flt (fsub (fsub (some 4607182418800017408) xr) xr_1), .flt xr_2, .flt (fadd (fsub (fsub (some 4607182418800017408) xr) xr_1) xr_2), .agg [.flt (fsub xr_7 xr_8), .flt (fadd xr_11 xr_12), .flt (fadd xr_13 xr_14), .flt (fadd (fsub (fsub (some 4607182418800017408) xr) xr_1) xr_2)], .bool false, .flt (fadd (fadd xr xr_1) xr_2), .bool (feq (fmm true (fmm true (fmm true (fadd (fadd xr xr_1) xr_2) xr) xr_1) xr_2) (fadd (fadd xr xr_1) xr_2)), .any, .any, .any, .any, .any, .any, .bool false, .flt xr, .bool (feq (fmm true (fmm true (fmm true (fadd (fadd xr xr_1) xr_2) xr) xr_1) xr_2) xr), .any, .any, .any, .any, .any, .any, .any, .any, .any, .any, .bool false, .flt xr_1, .bool (feq (fmm true (fmm true (fmm true (fadd (fadd xr xr_1) xr_2) xr) xr_1) xr_2) xr_1), .any, .any, .any, .any, .any, .any, .any, .any, .any, .any, .any, .any, .any, .any, .any, .any, .any, .any, .any, .any, .any, .any, .any] [some ⟨46, 1, .cells [.int .i64 m_0, .int .i64 m_1, .rof m_2]⟩, some ⟨24, 1, .flts [(fadd (fadd xr xr_1) xr_2)]⟩] m_0 m_1 m_2 (fsub xr_7 xr_8) (fadd xr_11 xr_12) (fadd xr_13 xr_14) (fadd (fsub (fsub (some 4607182418800017408) xr) xr_1) xr_2)))))))))))))))))))))))))))))))))))))))) (cont_ (.tup [.agg [.flt (some 0), .flt (some 0), .flt (some 0), .flt (some 0)], .int .i64 3]) []))))) := by kernel_rfl
theorem jn_quat_From_w (N_ : Nat) (S_matrix_Check : TS_matrix_Check) (S_quat_From_1_p0r : TS_quat_From_1_p0r) (S_quat_finite : TS_quat_finite) (S_quat_told : TS_quat_told) (S_quat_Unit : TS_quat_Unit) (m_0 : Int) (m_1 : Int) (m_2 : List Fl) (cont_ : V → List Blk → Bool) : codesV ⟨Tryz.prog, ofList [(36, (F_matrix_Check S_matrix_Check)), (63, (F_quat_From_1_p0r S_quat_From_1_p0r)), (64, (F_quat_finite S_quat_finite)), (65, (F_quat_told S_quat_told)), (66, (F_quat_Unit S_quat_Unit))], isref, N_⟩ 0 (an_quat_From N_ S_matrix_Check S_quat_From_1_p0r S_quat_finite S_quat_told S_quat_Unit) ((cds Tryz.prog 23).drop 0) 0 (st0 Tryz.prog 23 (shF_quat_From.args [.int m_0, .int m_1, .fls m_2]) []) (finV Tryz.prog 23 0 cont_) = G_quat_From N_ S_matrix_Check S_quat_From_1_p0r S_quat_finite S_quat_told S_quat_Unit m_0 m_1 m_2 (fun r0 r1 r2 r3 r4 => cont_ (.tup [.agg [.flt r0, .flt r1, .flt r2, .flt r3], .int .i64 r4]) []) := by
  rw [codesV_cut 0 17 17 rfl]
  refine (hd_quat_From_w N_ S_matrix_Check S_quat_From_1_p0r S_quat_finite S_quat_told S_quat_Unit m_0 m_1 m_2 cont_ _).trans ?_
  simp only [jn_quat_From_0]
  kernel_rfl
theorem eq_quat_From (N_ : Nat) (S_matrix_Check : TS_matrix_Check) (S_quat_From_1_p0r : TS_quat_From_1_p0r) (S_quat_finite : TS_quat_finite) (S_quat_told : TS_quat_told) (S_quat_Unit : TS_quat_Unit) (m_0 : Int) (m_1 : Int) (m_2 : List Fl) (cont_ : V → List Blk → Bool) : bodyV ⟨Tryz.prog, ofList [(36, (F_matrix_Check S_matrix_Check)), (63, (F_quat_From_1_p0r S_quat_From_1_p0r)), (64, (F_quat_finite S_quat_finite)), (65, (F_quat_told S_quat_told)), (66, (F_quat_Unit S_quat_Unit))], isref, N_⟩ (an_quat_From N_ S_matrix_Check S_quat_From_1_p0r S_quat_finite S_quat_told S_quat_Unit) 23 (shF_quat_From.args [.int m_0, .int m_1, .fls m_2]) [] cont_ = G_quat_From N_ S_matrix_Check S_quat_From_1_p0r S_quat_finite S_quat_told S_quat_Unit m_0 m_1 m_2 (fun r0 r1 r2 r3 r4 => cont_ (.tup [.agg [.flt r0, .flt r1, .flt r2, .flt r3], .int .i64 r4]) []) :=
  (bodyV_codes (by kernel_rfl)).trans (jn_quat_From_w N_ S_matrix_Check S_quat_From_1_p0r S_quat_finite S_quat_told S_quat_Unit m_0 m_1 m_2 cont_)
theorem good_quat_From (N_ : Nat) (S_matrix_Check : TS_matrix_Check) (S_quat_From_1_p0r : TS_quat_From_1_p0r) (S_quat_finite : TS_quat_finite) (S_quat_told : TS_quat_told) (S_quat_Unit : TS_quat_Unit) (h_matrix_Check : GoodF Tryz.prog 36 (F_matrix_Check S_matrix_Check)) (h_quat_From_1_p0r : GoodF Tryz.prog 63 (F_quat_From_1_p0r S_quat_From_1_p0r)) (h_quat_finite : GoodF Tryz.prog 64 (F_quat_finite S_quat_finite)) (h_quat_told : GoodF Tryz.prog 65 (F_quat_told S_quat_told)) (h_quat_Unit : GoodF Tryz.prog 66 (F_quat_Unit S_quat_Unit)) : GoodF Tryz.prog 23 (F_quat_From (G_quat_From N_ S_matrix_Check S_quat_From_1_p0r S_quat_finite S_quat_told S_quat_Unit)) := by
  refine good_fs (cx := ⟨Tryz.prog, ofList [(36, (F_matrix_Check S_matrix_Check)), (63, (F_quat_From_1_p0r S_quat_From_1_p0r)), (64, (F_quat_finite S_quat_finite)), (65, (F_quat_told S_quat_told)), (66, (F_quat_Unit S_quat_Unit))], isref, N_⟩) (ofList_cons h_matrix_Check (ofList_cons h_quat_From_1_p0r (ofList_cons h_quat_finite (ofList_cons h_quat_told (ofList_cons h_quat_Unit (ofList_nil _)))))) shF_quat_From (sp_quat_From (G_quat_From N_ S_matrix_Check S_quat_From_1_p0r S_quat_finite S_quat_told S_quat_Unit)) (an_quat_From N_ S_matrix_Check S_quat_From_1_p0r S_quat_finite S_quat_told S_quat_Unit) 0 0 (by kernel_rfl) (fun i_ hi_ => by omega) ?_
  intro a k h
  unfold sp_quat_From at h
  split at h
  · exact ⟨[], rfl, rfl, (eq_quat_From _ _ _ _ _ _ _ _ _ _).trans h⟩
  · cases h

def an_q80 (N_ : Nat) (S_q26 : TS_q26) (S_q111 : TS_q111) (S_q36 : TS_q36) (S_q52 : TS_q52) (S_q81 : TS_q81) (S_quat_From : TS_quat_From) : Nat → Option Ann := fun b_ => none
theorem eq_q80 (N_ : Nat) (S_q26 : TS_q26) (S_q111 : TS_q111) (S_q36 : TS_q36) (S_q52 : TS_q52) (S_q81 : TS_q81) (S_quat_From : TS_quat_From) (a_0 : Fl) (a_1 : Fl) (a_2 : Fl) (b_0 : Fl) (b_1 : Fl) (b_2 : Fl) (seenA_0 : Fl) (seenA_1 : Fl) (seenA_2 : Fl) (seenB_0 : Fl) (seenB_1 : Fl) (seenB_2 : Fl) (cont_ : V → List Blk → Bool) : bodyV ⟨Tryz.prog, ofList [(18, (F_q26 S_q26)), (19, (F_q111 S_q111)), (21, (F_q36 S_q36)), (20, (F_q52 S_q52)), (22, (F_q81 S_q81)), (23, (F_quat_From S_quat_From))], isref, (N_ + 24)⟩ (an_q80 (N_ + 24) S_q26 S_q111 S_q36 S_q52 S_q81 S_quat_From) 5 (shF_q80.args [.fl a_0, .fl a_1, .fl a_2, .fl b_0, .fl b_1, .fl b_2, .fl seenA_0, .fl seenA_1, .fl seenA_2, .fl seenB_0, .fl seenB_1, .fl seenB_2]) [] cont_ = G_q80 (N_ + 24) S_q26 S_q111 S_q36 S_q52 S_q81 S_quat_From a_0 a_1 a_2 b_0 b_1 b_2 seenA_0 seenA_1 seenA_2 seenB_0 seenB_1 seenB_2 (fun r0 r1 r2 r3 r4 => cont_ (.tup [.agg [.flt r0, .flt r1, .flt r2, .flt r3], .int .i64 r4]) []) := by kernel_rfl
theorem good_q80 (N_ : Nat) (S_q26 : TS_q26) (S_q111 : TS_q111) (S_q36 : TS_q36) (S_q52 : TS_q52) (S_q81 : TS_q81) (S_quat_From : TS_quat_From) (h_attitude_direction : GoodF Tryz.prog 18 (F_q26 S_q26)) (h_attitude_axes : GoodF Tryz.prog 19 (F_q111 S_q111)) (h_finite_Steps_Mul_p0 : GoodF Tryz.prog 21 (F_q36 S_q36)) (h_finite_Steps_Of_p0 : GoodF Tryz.prog 20 (F_q52 S_q52)) (h_finite_Steps_Over_p0 : GoodF Tryz.prog 22 (F_q81 S_q81)) (h_quat_From : GoodF Tryz.prog 23 (F_quat_From S_quat_From)) : GoodF Tryz.prog 5 (F_q80 (G_q80 (N_ + 24) S_q26 S_q111 S_q36 S_q52 S_q81 S_quat_From)) := by
  refine good_fs (cx := ⟨Tryz.prog, ofList [(18, (F_q26 S_q26)), (19, (F_q111 S_q111)), (21, (F_q36 S_q36)), (20, (F_q52 S_q52)), (22, (F_q81 S_q81)), (23, (F_quat_From S_quat_From))], isref, (N_ + 24)⟩) (ofList_cons h_attitude_direction (ofList_cons h_attitude_axes (ofList_cons h_finite_Steps_Mul_p0 (ofList_cons h_finite_Steps_Of_p0 (ofList_cons h_finite_Steps_Over_p0 (ofList_cons h_quat_From (ofList_nil _))))))) shF_q80 (sp_q80 (G_q80 (N_ + 24) S_q26 S_q111 S_q36 S_q52 S_q81 S_quat_From)) (an_q80 (N_ + 24) S_q26 S_q111 S_q36 S_q52 S_q81 S_quat_From) 3 0 (by kernel_rfl) (fun i_ hi_ => by
    match i_, hi_ with
    | 0, _ => exact (fun hk e => by rw [show hookOf ((an_q80 (N_ + 24) S_q26 S_q111 S_q36 S_q52 S_q81 S_quat_From) (lp Tryz.prog 5 0).1) = none from by kernel_rfl] at e; cases e)
    | 1, _ => exact (fun hk e => by rw [show hookOf ((an_q80 (N_ + 24) S_q26 S_q111 S_q36 S_q52 S_q81 S_quat_From) (lp Tryz.prog 5 1).1) = none from by kernel_rfl] at e; cases e)
    | 2, _ => exact (fun hk e => by rw [show hookOf ((an_q80 (N_ + 24) S_q26 S_q111 S_q36 S_q52 S_q81 S_quat_From) (lp Tryz.prog 5 2).1) = none from by kernel_rfl] at e; cases e)
    | (q + 3), h => omega) ?_
  intro a k h
  unfold sp_q80 at h
  split at h
  · exact ⟨[], rfl, rfl, (eq_q80 _ _ _ _ _ _ _ _ _ _ _ _ _ _ _ _ _ _ _ _).trans h⟩
  · cases h

def an_q108 (N_ : Nat) (S_q48 : TS_q48) : Nat → Option Ann := fun b_ => none
theorem eq_q108 (N_ : Nat) (S_q48 : TS_q48) (x : Fl) (cont_ : V → List Blk → Bool) : bodyV ⟨Tryz.prog, ofList [(74, (F_q48 S_q48))], isref, N_⟩ (an_q108 N_ S_q48) 175 (shF_q108.args [.fl x]) [] cont_ = G_q108 N_ S_q48 x (fun r0 => cont_ (.int .u64 r0) []) := by kernel_rfl
theorem good_q108 (N_ : Nat) (S_q48 : TS_q48) (h_math_Float64bits : GoodF Tryz.prog 74 (F_q48 S_q48)) : GoodF Tryz.prog 175 (F_q108 (G_q108 N_ S_q48)) := by
  refine good_fs (cx := ⟨Tryz.prog, ofList [(74, (F_q48 S_q48))], isref, N_⟩) (ofList_cons h_math_Float64bits (ofList_nil _)) shF_q108 (sp_q108 (G_q108 N_ S_q48)) (an_q108 N_ S_q48) 0 0 (by kernel_rfl) (fun i_ hi_ => by omega) ?_
  intro a k h
  unfold sp_q108 at h
  split at h
  · exact ⟨[], rfl, rfl, (eq_q108 _ _ _ _).trans h⟩
  · cases h

def an_q93 (N_ : Nat) (S_q108 : TS_q108) : Nat → Option Ann := fun b_ => none
theorem eq_q93 (N_ : Nat) (S_q108 : TS_q108) (x : Fl) (cont_ : V → List Blk → Bool) : bodyV ⟨Tryz.prog, ofList [(175, (F_q108 S_q108))], isref, N_⟩ (an_q93 N_ S_q108) 169 (shF_q93.args [.fl x]) [] cont_ = G_q93 N_ S_q108 x (fun r0 r1 r2 => cont_ (.tup [.bool r0, .int .i64 r1, .int .u64 r2]) []) := by kernel_rfl
theorem good_q93 (N_ : Nat) (S_q108 : TS_q108) (h_binnacleref01_Bits : GoodF Tryz.prog 175 (F_q108 S_q108)) : GoodF Tryz.prog 169 (F_q93 (G_q93 N_ S_q108)) := by
  refine good_fs (cx := ⟨Tryz.prog, ofList [(175, (F_q108 S_q108))], isref, N_⟩) (ofList_cons h_binnacleref01_Bits (ofList_nil _)) shF_q93 (sp_q93 (G_q93 N_ S_q108)) (an_q93 N_ S_q108) 0 0 (by kernel_rfl) (fun i_ hi_ => by omega) ?_
  intro a k h
  unfold sp_q93 at h
  split at h
  · exact ⟨[], rfl, rfl, (eq_q93 _ _ _ _).trans h⟩
  · cases h

def an_q67 (N_ : Nat) : Nat → Option Ann := fun b_ => none
theorem eq_q67 (N_ : Nat) (exp : Int) (frac : Int) (most : Int) (cont_ : V → List Blk → Bool) : bodyV ⟨Tryz.prog, ofList [], isref, N_⟩ (an_q67 N_) 170 (shF_q67.args [.int exp, .int frac, .int most]) [] cont_ = G_q67 N_ exp frac most (fun r0 => cont_ (.int .i64 r0) []) := by kernel_rfl
theorem good_q67 (N_ : Nat) : GoodF Tryz.prog 170 (F_q67 (G_q67 N_)) := by
  refine good_fs (cx := ⟨Tryz.prog, ofList [], isref, N_⟩) (ofList_nil _) shF_q67 (sp_q67 (G_q67 N_)) (an_q67 N_) 0 0 (by kernel_rfl) (fun i_ hi_ => by omega) ?_
  intro a k h
  unfold sp_q67 at h
  split at h
  · exact ⟨[], rfl, rfl, (eq_q67 _ _ _ _ _).trans h⟩
  · cases h

def an_q92 (N_ : Nat) (S_q93 : TS_q93) (S_q67 : TS_q67) : Nat → Option Ann := fun b_ => none
theorem eq_q92 (N_ : Nat) (S_q93 : TS_q93) (S_q67 : TS_q67) (x : Fl) (cont_ : V → List Blk → Bool) : bodyV ⟨Tryz.prog, ofList [(169, (F_q93 S_q93)), (170, (F_q67 S_q67))], isref, N_⟩ (an_q92 N_ S_q93 S_q67) 132 (shF_q92.args [.fl x]) [] cont_ = G_q92 N_ S_q93 S_q67 x (fun r0 => cont_ (.int .i64 r0) []) := by kernel_rfl
theorem good_q92 (N_ : Nat) (S_q93 : TS_q93) (S_q67 : TS_q67) (h_binnacleref01_Split : GoodF Tryz.prog 169 (F_q93 S_q93)) (h_binnacleref01_classify : GoodF Tryz.prog 170 (F_q67 S_q67)) : GoodF Tryz.prog 132 (F_q92 (G_q92 N_ S_q93 S_q67)) := by
  refine good_fs (cx := ⟨Tryz.prog, ofList [(169, (F_q93 S_q93)), (170, (F_q67 S_q67))], isref, N_⟩) (ofList_cons h_binnacleref01_Split (ofList_cons h_binnacleref01_classify (ofList_nil _))) shF_q92 (sp_q92 (G_q92 N_ S_q93 S_q67)) (an_q92 N_ S_q93 S_q67) 0 0 (by kernel_rfl) (fun i_ hi_ => by omega) ?_
  intro a k h
  unfold sp_q92 at h
  split at h
  · exact ⟨[], rfl, rfl, (eq_q92 _ _ _ _ _).trans h⟩
  · cases h

def an_q9 (N_ : Nat) (S_q92 : TS_q92) : Nat → Option Ann := fun b_ => none
theorem eq_q9 (N_ : Nat) (S_q92 : TS_q92) (x : Fl) (cont_ : V → List Blk → Bool) : bodyV ⟨Tryz.prog, ofList [(132, (F_q92 S_q92))], isref, N_⟩ (an_q9 N_ S_q92) 71 (shF_q9.args [.fl x]) [] cont_ = G_q9 N_ S_q92 x (fun r0 => cont_ (.bool r0) []) := by kernel_rfl
theorem good_q9 (N_ : Nat) (S_q92 : TS_q92) (h_binnacleref01_Class : GoodF Tryz.prog 132 (F_q92 S_q92)) : GoodF Tryz.prog 71 (F_q9 (G_q9 N_ S_q92)) := by
  refine good_fs (cx := ⟨Tryz.prog, ofList [(132, (F_q92 S_q92))], isref, N_⟩) (ofList_cons h_binnacleref01_Class (ofList_nil _)) shF_q9 (sp_q9 (G_q9 N_ S_q92)) (an_q9 N_ S_q92) 0 0 (by kernel_rfl) (fun i_ hi_ => by omega) ?_
  intro a k h
  unfold sp_q9 at h
  split at h
  · exact ⟨[], rfl, rfl, (eq_q9 _ _ _ _).trans h⟩
  · cases h

def sh_st_binnacleref01_AllFinite_0 : StSh := ⟨[.any, .any, .any, .any, .any, .rof, .int .i64, .int .i64, .any, .any, .any, .any, .any, .any, .any], []⟩
def sx0_st_binnacleref01_AllFinite_0 : StSh := ⟨[.any, .any, .bool, .any, .any, .any, .any, .any, .any, .any, .any, .any, .any, .any, .any], []⟩
def sx1_st_binnacleref01_AllFinite_0 : StSh := ⟨[.any, .any, .any, .any, .any, .any, .any, .any, .any, .any, .any, .any, .any, .any, .any], []⟩
def hk_st_binnacleref01_AllFinite_0 (N_ : Nat) (S_q9 : TS_q9) : List Atom → K → Bool := fun a_ κ => match a_ with
  | [.fls t5, .int t6, .int t7] => iterG N_ (st_q145 N_ S_q9 t5 t6 (fun r0 => κ.ret (sx0_st_binnacleref01_AllFinite_0.build [.bool r0])) (κ.ext 0 (sx1_st_binnacleref01_AllFinite_0.build []))) t7
  | _ => false
def an_q11 (N_ : Nat) (S_q9 : TS_q9) : Nat → Option Ann := fun b_ => cond (b_ == 0) (some ⟨⟨[5, 6, 7], []⟩, [(0, ⟨[], []⟩)], some ⟨[2], []⟩, some (mkHooks [(sh_st_binnacleref01_AllFinite_0, hk_st_binnacleref01_AllFinite_0 N_ S_q9)])⟩) (none)
theorem eq_st_binnacleref01_AllFinite_0 (N_ : Nat) (S_q9 : TS_q9) (κ : K) (t5 : List Fl) (t6 : Int) (t7 : Int) : iter N_ (fun s k => codeV ⟨Tryz.prog, ofList [(71, (F_q9 S_q9))], isref, N_⟩ 0 (an_q11 N_ S_q9) (lp Tryz.prog 49 0).2 (lp Tryz.prog 49 0).1 s (roundK Tryz.prog 0 ((an_q11 N_ S_q9) (lp Tryz.prog 49 0).1) κ k)) (sh_st_binnacleref01_AllFinite_0.build [.fls t5, .int t6, .int t7]) = iterG N_ (st_q145 N_ S_q9 t5 t6 (fun r0 => κ.ret (sx0_st_binnacleref01_AllFinite_0.build [.bool r0])) (κ.ext 0 (sx1_st_binnacleref01_AllFinite_0.build []))) t7 :=
  iter_tr (fun (v_ : Int) => sh_st_binnacleref01_AllFinite_0.build [.fls t5, .int t6, .int v_]) (fun v_ K_ => by kernel_rfl) N_ t7
theorem hk1_st_binnacleref01_AllFinite_0 (N_ : Nat) (S_q9 : TS_q9) : HookFor ⟨Tryz.prog, ofList [(71, (F_q9 S_q9))], isref, N_⟩ 0 (an_q11 N_ S_q9) (lp Tryz.prog 49 0) (sh_st_binnacleref01_AllFinite_0, hk_st_binnacleref01_AllFinite_0 N_ S_q9) := by
  intro a κ h
  simp only at h
  unfold hk_st_binnacleref01_AllFinite_0 at h
  split at h
  · exact (eq_st_binnacleref01_AllFinite_0 _ _ _ _ _ _).trans h
  · cases h
theorem ho_binnacleref01_AllFinite_0 (N_ : Nat) (S_q9 : TS_q9) : HookOk ⟨Tryz.prog, ofList [(71, (F_q9 S_q9))], isref, N_⟩ 0 (an_q11 N_ S_q9) (lp Tryz.prog 49 0) :=
  hooks_ok [(sh_st_binnacleref01_AllFinite_0, hk_st_binnacleref01_AllFinite_0 N_ S_q9)] (by kernel_rfl) ⟨hk1_st_binnacleref01_AllFinite_0 _ _, trivial⟩
theorem eq_q11 (N_ : Nat) (S_q9 : TS_q9) (l : List Fl) (cont_ : V → List Blk → Bool) : bodyV ⟨Tryz.prog, ofList [(71, (F_q9 S_q9))], isref, N_⟩ (an_q11 N_ S_q9) 49 (shF_q11.args [.fls l]) [] cont_ = G_q11 N_ S_q9 l (fun r0 => cont_ (.bool r0) []) := by kernel_rfl
theorem good_q11 (N_ : Nat) (S_q9 : TS_q9) (h_binnacleref01_Finite : GoodF Tryz.prog 71 (F_q9 S_q9)) : GoodF Tryz.prog 49 (F_q11 (G_q11 N_ S_q9)) := by
  refine good_fs (cx := ⟨Tryz.prog, ofList [(71, (F_q9 S_q9))], isref, N_⟩) (ofList_cons h_binnacleref01_Finite (ofList_nil _)) shF_q11 (sp_q11 (G_q11 N_ S_q9)) (an_q11 N_ S_q9) 1 0 (by kernel_rfl) (fun i_ hi_ => by
    match i_, hi_ with
    | 0, _ => exact ho_binnacleref01_AllFinite_0 _ _
    | (q + 1), h => omega) ?_
  intro a k h
  unfold sp_q11 at h
  split at h
  · exact ⟨[], rfl, rfl, (eq_q11 _ _ _ _).trans h⟩
  · cases h

def an_q15 (N_ : Nat) (S_q11 : TS_q11) : Nat → Option Ann := fun b_ => none
theorem eq_q15 (N_ : Nat) (S_q11 : TS_q11) (v_0 : Fl) (v_1 : Fl) (v_2 : Fl) (cont_ : V → List Blk → Bool) : bodyV ⟨Tryz.prog, ofList [(49, (F_q11 S_q11))], isref, N_⟩ (an_q15 N_ S_q11) 68 (shF_q15.args [.fl v_0, .fl v_1, .fl v_2]) [] cont_ = G_q15 N_ S_q11 v_0 v_1 v_2 (fun r0 => cont_ (.bool r0) []) := by kernel_rfl
theorem good_q15 (N_ : Nat) (S_q11 : TS_q11) (h_binnacleref01_AllFinite : GoodF Tryz.prog 49 (F_q11 S_q11)) : GoodF Tryz.prog 68 (F_q15 (G_q15 N_ S_q11)) := by
  refine good_fs (cx := ⟨Tryz.prog, ofList [(49, (F_q11 S_q11))], isref, N_⟩) (ofList_cons h_binnacleref01_AllFinite (ofList_nil _)) shF_q15 (sp_q15 (G_q15 N_ S_q11)) (an_q15 N_ S_q11) 0 0 (by kernel_rfl) (fun i_ hi_ => by omega) ?_
  intro a k h
  unfold sp_q15 at h
  split at h
  · exact ⟨[], rfl, rfl, (eq_q15 _ _ _ _ _ _).trans h⟩
  · cases h

def an_q21 (N_ : Nat) (S_q15 : TS_q15) : Nat → Option Ann := fun b_ => none
theorem eq_q21 (N_ : Nat) (S_q15 : TS_q15) (v_0 : Fl) (v_1 : Fl) (v_2 : Fl) (cont_ : V → List Blk → Bool) : bodyV ⟨Tryz.prog, ofList [(68, (F_q15 S_q15))], isref, N_⟩ (an_q21 N_ S_q15) 25 (shF_q21.args [.fl v_0, .fl v_1, .fl v_2]) [] cont_ = G_q21 N_ S_q15 v_0 v_1 v_2 (fun r0 => cont_ (.int .i64 r0) []) := by kernel_rfl
theorem good_q21 (N_ : Nat) (S_q15 : TS_q15) (h_binnacleref12_FiniteVec : GoodF Tryz.prog 68 (F_q15 S_q15)) : GoodF Tryz.prog 25 (F_q21 (G_q21 N_ S_q15)) := by
  refine good_fs (cx := ⟨Tryz.prog, ofList [(68, (F_q15 S_q15))], isref, N_⟩) (ofList_cons h_binnacleref12_FiniteVec (ofList_nil _)) shF_q21 (sp_q21 (G_q21 N_ S_q15)) (an_q21 N_ S_q15) 0 0 (by kernel_rfl) (fun i_ hi_ => by omega) ?_
  intro a k h
  unfold sp_q21 at h
  split at h
  · exact ⟨[], rfl, rfl, (eq_q21 _ _ _ _ _ _).trans h⟩
  · cases h

def an_q107 (N_ : Nat) (S_q11 : TS_q11) : Nat → Option Ann := fun b_ => none
theorem eq_q107 (N_ : Nat) (S_q11 : TS_q11) (x : List Fl) (cont_ : V → List Blk → Bool) : bodyV ⟨Tryz.prog, ofList [(49, (F_q11 S_q11))], isref, N_⟩ (an_q107 N_ S_q11) 168 (shF_q107.args [.fls x]) [] cont_ = G_q107 N_ S_q11 x (fun r0 => cont_ (.int .i64 r0) []) := by kernel_rfl
theorem good_q107 (N_ : Nat) (S_q11 : TS_q11) (h_binnacleref01_AllFinite : GoodF Tryz.prog 49 (F_q11 S_q11)) : GoodF Tryz.prog 168 (F_q107 (G_q107 N_ S_q11)) := by
  refine good_fs (cx := ⟨Tryz.prog, ofList [(49, (F_q11 S_q11))], isref, N_⟩) (ofList_cons h_binnacleref01_AllFinite (ofList_nil _)) shF_q107 (sp_q107 (G_q107 N_ S_q11)) (an_q107 N_ S_q11) 0 0 (by kernel_rfl) (fun i_ hi_ => by omega) ?_
  intro a k h
  unfold sp_q107 at h
  split at h
  · exact ⟨[], rfl, rfl, (eq_q107 _ _ _ _).trans h⟩
  · cases h

def sh_st_binnacleref10_Power_0 : StSh := ⟨[.rof, .any, .any, .any, .flt, .int .i64, .any, .any, .any, .any, .any, .any, .any, .any, .any, .any, .any, .any, .any, .any, .any, .any, .any, .any, .any, .any, .any, .any, .any, .any], []⟩
def sx0_st_binnacleref10_Power_0 : StSh := ⟨[.any, .any, .any, .any, .flt, .any, .any, .any, .any, .any, .any, .any, .any, .any, .any, .any, .any, .any, .any, .any, .any, .any, .any, .any, .any, .any, .any, .any, .any, .any], []⟩
def hk_st_binnacleref10_Power_0 (N_ : Nat) (S_m_Abs : TS_m_Abs) (S_q41 : TS_q41) : List Atom → K → Bool := fun a_ κ => match a_ with
  | [.fls x_1, .fl m, .int i] => iterG N_ (st_z10_Power_0 N_ S_m_Abs S_q41 x_1 (fun r0 => κ.ext 0 (sx0_st_binnacleref10_Power_0.build [.fl r0]))) (m, i)
  | _ => false
def an_q65 (N_ : Nat) (S_m_Abs : TS_m_Abs) (S_q41 : TS_q41) : Nat → Option Ann := fun b_ => cond (b_ == 0) (some ⟨⟨[0, 4, 5], []⟩, [(0, ⟨[4], []⟩)], some ⟨[2, 3], []⟩, some (mkHooks [(sh_st_binnacleref10_Power_0, hk_st_binnacleref10_Power_0 N_ S_m_Abs S_q41)])⟩) (none)
theorem eq_st_binnacleref10_Power_0 (N_ : Nat) (S_m_Abs : TS_m_Abs) (S_q41 : TS_q41) (κ : K) (x_1 : List Fl) (m : Fl) (i : Int) : iter N_ (fun s k => codeV ⟨Tryz.prog, ofList [(122, (F_m_Abs S_m_Abs)), (125, (F_q41 S_q41))], isref, N_⟩ 0 (an_q65 N_ S_m_Abs S_q41) (lp Tryz.prog 133 0).2 (lp Tryz.prog 133 0).1 s (roundK Tryz.prog 0 ((an_q65 N_ S_m_Abs S_q41) (lp Tryz.prog 133 0).1) κ k)) (sh_st_binnacleref10_Power_0.build [.fls x_1, .fl m, .int i]) = iterG N_ (st_z10_Power_0 N_ S_m_Abs S_q41 x_1 (fun r0 => κ.ext 0 (sx0_st_binnacleref10_Power_0.build [.fl r0]))) (m, i) :=
  iter_tr (fun (v_ : Fl × Int) => sh_st_binnacleref10_Power_0.build [.fls x_1, .fl v_.1, .int v_.2]) (fun v_ K_ => by obtain ⟨m, i⟩ := v_; kernel_rfl) N_ (m, i)
theorem hk1_st_binnacleref10_Power_0 (N_ : Nat) (S_m_Abs : TS_m_Abs) (S_q41 : TS_q41) : HookFor ⟨Tryz.prog, ofList [(122, (F_m_Abs S_m_Abs)), (125, (F_q41 S_q41))], isref, N_⟩ 0 (an_q65 N_ S_m_Abs S_q41) (lp Tryz.prog 133 0) (sh_st_binnacleref10_Power_0, hk_st_binnacleref10_Power_0 N_ S_m_Abs S_q41) := by
  intro a κ h
  simp only at h
  unfold hk_st_binnacleref10_Power_0 at h
  split at h
  · exact (eq_st_binnacleref10_Power_0 _ _ _ _ _ _ _).trans h
  · cases h
theorem ho_binnacleref10_Power_0 (N_ : Nat) (S_m_Abs : TS_m_Abs) (S_q41 : TS_q41) : HookOk ⟨Tryz.prog, ofList [(122, (F_m_Abs S_m_Abs)), (125, (F_q41 S_q41))], isref, N_⟩ 0 (an_q65 N_ S_m_Abs S_q41) (lp Tryz.prog 133 0) :=
  hooks_ok [(sh_st_binnacleref10_Power_0, hk_st_binnacleref10_Power_0 N_ S_m_Abs S_q41)] (by kernel_rfl) ⟨hk1_st_binnacleref10_Power_0 _ _ _, trivial⟩
theorem eq_q65 (N_ : Nat) (S_m_Abs : TS_m_Abs) (S_q41 : TS_q41) (x : List Fl) (cont_ : V → List Blk → Bool) : bodyV ⟨Tryz.prog, ofList [(122, (F_m_Abs S_m_Abs)), (125, (F_q41 S_q41))], isref, N_⟩ (an_q65 N_ S_m_Abs S_q41) 133 (shF_q65.args [.fls x]) [] cont_ = G_q65 N_ S_m_Abs S_q41 x (fun r0 r1 => cont_ (.tup [.int .i64 r0, .bool r1]) []) := by kernel_rfl
theorem good_q65 (N_ : Nat) (S_m_Abs : TS_m_Abs) (S_q41 : TS_q41) (h_math_Abs : GoodF Tryz.prog 122 (F_m_Abs S_m_Abs)) (h_math_Frexp : GoodF Tryz.prog 125 (F_q41 S_q41)) : GoodF Tryz.prog 133 (F_q65 (G_q65 N_ S_m_Abs S_q41)) := by
  refine good_fs (cx := ⟨Tryz.prog, ofList [(122, (F_m_Abs S_m_Abs)), (125, (F_q41 S_q41))], isref, N_⟩) (ofList_cons h_math_Abs (ofList_cons h_math_Frexp (ofList_nil _))) shF_q65 (sp_q65 (G_q65 N_ S_m_Abs S_q41)) (an_q65 N_ S_m_Abs S_q41) 1 0 (by kernel_rfl) (fun i_ hi_ => by
    match i_, hi_ with
    | 0, _ => exact ho_binnacleref10_Power_0 _ _ _
    | (q + 1), h => omega) ?_
  intro a k h
  unfold sp_q65 at h
  split at h
  · exact ⟨[], rfl, rfl, (eq_q65 _ _ _ _ _).trans h⟩
  · cases h

def an_q60 (N_ : Nat) : Nat → Option Ann := fun b_ => none
theorem eq_q60 (N_ : Nat) (cont_ : V → List Blk → Bool) : bodyV ⟨Tryz.prog, ofList [], isref, N_⟩ (an_q60 N_) 194 (shF_q60.args []) [] cont_ = G_q60 N_ (cont_ (.bool true) []) := by kernel_rfl
theorem good_q60 (N_ : Nat) : GoodF Tryz.prog 194 (F_q60 (G_q60 N_)) := by
  refine good_fs (cx := ⟨Tryz.prog, ofList [], isref, N_⟩) (ofList_nil _) shF_q60 (sp_q60 (G_q60 N_)) (an_q60 N_) 0 0 (by kernel_rfl) (fun i_ hi_ => by omega) ?_
  intro a k h
  unfold sp_q60 at h
  split at h
  · exact ⟨[], rfl, rfl, (eq_q60 _ _).trans h⟩
  · cases h

def an_q40 (N_ : Nat) : Nat → Option Ann := fun b_ => none
theorem eq_q40 (N_ : Nat) (cont_ : V → List Blk → Bool) : bodyV ⟨Tryz.prog, ofList [], isref, N_⟩ (an_q40 N_) 195 (shF_q40.args []) [] cont_ = G_q40 N_ (cont_ (.agg [.int .i64 53, .int .i64 (-1022), .int .i64 1023, .int .i64 11]) []) := by kernel_rfl
theorem good_q40 (N_ : Nat) : GoodF Tryz.prog 195 (F_q40 (G_q40 N_)) := by
  refine good_fs (cx := ⟨Tryz.prog, ofList [], isref, N_⟩) (ofList_nil _) shF_q40 (sp_q40 (G_q40 N_)) (an_q40 N_) 0 0 (by kernel_rfl) (fun i_ hi_ => by omega) ?_
  intro a k h
  unfold sp_q40 at h
  split at h
  · exact ⟨[], rfl, rfl, (eq_q40 _ _).trans h⟩
  · cases h

def sh_st_binnacleref00_cut_w_0 : StSh := ⟨[.sl 0, .any, .any, .any, .any, .any, .any, .any, .any, .any, .any, .any, .any, .any, .any, .any, .any, .any, .any, .any, .any], [some (260, 1, .ints .u32)]⟩
def sx0_st_binnacleref00_cut_w_0 : StSh := ⟨[.sl 0, .any, .any, .any, .any, .any, .any, .any, .any, .any, .any, .any, .any, .any, .any, .any, .any, .any, .any, .any, .any], [some (260, 1, .ints .u32)]⟩
def hk_st_binnacleref00_cut_w_0 (N_ : Nat) : List Atom → K → Bool := fun a_ κ => match a_ with
  | [.nat m_1, .nat m_2, .ints m_3] => iterG N_ (st_q144 N_ m_1 m_3 (fun r1 => κ.ext 0 (sx0_st_binnacleref00_cut_w_0.build [.nat m_1, .nat r1, .ints m_3]))) m_2
  | _ => false
def an_q8 (N_ : Nat) : Nat → Option Ann := fun b_ => cond (b_ == 0) (some ⟨⟨[0], [(0, some 0, 0)]⟩, [(0, ⟨[0], []⟩)], some ⟨[2], []⟩, some (mkHooks [(sh_st_binnacleref00_cut_w_0, hk_st_binnacleref00_cut_w_0 N_)])⟩) (none)
theorem eq_st_binnacleref00_cut_w_0 (N_ : Nat) (κ : K) (m_1 : Nat) (m_2 : Nat) (m_3 : List Int) : iter N_ (fun s k => codeV ⟨Tryz.prog, ofList [], isref, N_⟩ 1 (an_q8 N_) (lp Tryz.prog 226 0).2 (lp Tryz.prog 226 0).1 s (roundK Tryz.prog 1 ((an_q8 N_) (lp Tryz.prog 226 0).1) κ k)) (sh_st_binnacleref00_cut_w_0.build [.nat m_1, .nat m_2, .ints m_3]) = iterG N_ (st_q144 N_ m_1 m_3 (fun r1 => κ.ext 0 (sx0_st_binnacleref00_cut_w_0.build [.nat m_1, .nat r1, .ints m_3]))) m_2 :=
  iter_tr (fun (v_ : Nat) => sh_st_binnacleref00_cut_w_0.build [.nat m_1, .nat v_, .ints m_3]) (fun v_ K_ => by kernel_rfl) N_ m_2
theorem hk1_st_binnacleref00_cut_w_0 (N_ : Nat) : HookFor ⟨Tryz.prog, ofList [], isref, N_⟩ 1 (an_q8 N_) (lp Tryz.prog 226 0) (sh_st_binnacleref00_cut_w_0, hk_st_binnacleref00_cut_w_0 N_) := by
  intro a κ h
  simp only at h
  unfold hk_st_binnacleref00_cut_w_0 at h
  split at h
  · exact (eq_st_binnacleref00_cut_w_0 _ _ _ _ _).trans h
  · cases h
theorem ho_binnacleref00_cut_w_0 (N_ : Nat) : HookOk ⟨Tryz.prog, ofList [], isref, N_⟩ 1 (an_q8 N_) (lp Tryz.prog 226 0) :=
  hooks_ok [(sh_st_binnacleref00_cut_w_0, hk_st_binnacleref00_cut_w_0 N_)] (by kernel_rfl) ⟨hk1_st_binnacleref00_cut_w_0 _, trivial⟩
theorem eq_q8 (N_ : Nat) (b : List Int) (cont_ : V → List Blk → Bool) : bodyZ ⟨Tryz.prog, ofList [], isref, N_⟩ (an_q8 N_) 226 (shF_q8.args [.ints b]) [⟨260, 1, .ints .u32 b⟩] cont_ = G_q8 N_ b (fun r0 r1 => cont_ (.sl 0 r0 r1) [⟨260, 1, .ints .u32 b⟩]) := by kernel_rfl
theorem good_q8 (N_ : Nat) : GoodF Tryz.prog 226 (F_q8 (G_q8 N_)) := by
  refine good_fsZ (cx := ⟨Tryz.prog, ofList [], isref, N_⟩) (ofList_nil _) shF_q8 (sp_q8 (G_q8 N_)) (an_q8 N_) 1 1 (by kernel_rfl) (fun i_ hi_ => by
    match i_, hi_ with
    | 0, _ => exact ho_binnacleref00_cut_w_0 _
    | (q + 1), h => omega) ?_
  intro a k h
  unfold sp_q8 at h
  split at h
  · exact ⟨[_], rfl, rfl, (eq_q8 _ _ _).trans h⟩
  · cases h

def an_q49 (N_ : Nat) (S_q8 : TS_q8) : Nat → Option Ann := fun b_ => none
theorem eq_q49 (N_ : Nat) (S_q8 : TS_q8) (n : Int) (cont_ : V → List Blk → Bool) : bodyZ ⟨Tryz.prog, ofList [(226, (F_q8 S_q8))], isref, N_⟩ (an_q49 N_ S_q8) 213 (shF_q49.args [.int n]) [] cont_ = G_q49 N_ S_q8 n (fun r0 => cont_ (.roi .u32 r0) []) := by kernel_rfl
theorem good_q49 (N_ : Nat) (S_q8 : TS_q8) (h_binnacleref00_cut_w : GoodF Tryz.prog 226 (F_q8 S_q8)) : GoodF Tryz.prog 213 (F_q49 (G_q49 N_ S_q8)) := by
  refine good_fsZ (cx := ⟨Tryz.prog, ofList [(226, (F_q8 S_q8))], isref, N_⟩) (ofList_cons h_binnacleref00_cut_w (ofList_nil _)) shF_q49 (sp_q49 (G_q49 N_ S_q8)) (an_q49 N_ S_q8) 0 0 (by kernel_rfl) (fun i_ hi_ => by omega) ?_
  intro a k h
  unfold sp_q49 at h
  split at h
  · exact ⟨[], rfl, rfl, (eq_q49 _ _ _ _).trans h⟩
  · cases h

def sh_st_binnacleref00_cut_0 : StSh := ⟨[.roi .u32, .any, .any, .any, .any, .any, .any, .any, .any, .any, .any, .any, .any, .any, .any, .any, .any, .any, .any, .any, .any], []⟩
def sx0_st_binnacleref00_cut_0 : StSh := ⟨[.roi .u32, .any, .any, .any, .any, .any, .any, .any, .any, .any, .any, .any, .any, .any, .any, .any, .any, .any, .any, .any, .any], []⟩
def hk_st_binnacleref00_cut_0 (N_ : Nat) : List Atom → K → Bool := fun a_ κ => match a_ with
  | [.ints m_1] => iterG N_ (st_z00_cut_0 N_ (fun r0 => κ.ext 0 (sx0_st_binnacleref00_cut_0.build [.ints r0]))) m_1
  | _ => false
def an_q100 (N_ : Nat) : Nat → Option Ann := fun b_ => cond (b_ == 0) (some ⟨⟨[0], []⟩, [(0, ⟨[0], []⟩)], some ⟨[2], []⟩, some (mkHooks [(sh_st_binnacleref00_cut_0, hk_st_binnacleref00_cut_0 N_)])⟩) (none)
theorem eq_st_binnacleref00_cut_0 (N_ : Nat) (κ : K) (m_1 : List Int) : iter N_ (fun s k => codeV ⟨Tryz.prog, ofList [], isref, N_⟩ 0 (an_q100 N_) (lp Tryz.prog 226 0).2 (lp Tryz.prog 226 0).1 s (roundK Tryz.prog 0 ((an_q100 N_) (lp Tryz.prog 226 0).1) κ k)) (sh_st_binnacleref00_cut_0.build [.ints m_1]) = iterG N_ (st_z00_cut_0 N_ (fun r0 => κ.ext 0 (sx0_st_binnacleref00_cut_0.build [.ints r0]))) m_1 :=
  iter_tr (fun (v_ : List Int) => sh_st_binnacleref00_cut_0.build [.ints v_]) (fun v_ K_ => by kernel_rfl) N_ m_1
theorem hk1_st_binnacleref00_cut_0 (N_ : Nat) : HookFor ⟨Tryz.prog, ofList [], isref, N_⟩ 0 (an_q100 N_) (lp Tryz.prog 226 0) (sh_st_binnacleref00_cut_0, hk_st_binnacleref00_cut_0 N_) := by
  intro a κ h
  simp only at h
  unfold hk_st_binnacleref00_cut_0 at h
  split at h
  · exact (eq_st_binnacleref00_cut_0 _ _ _).trans h
  · cases h
theorem ho_binnacleref00_cut_0 (N_ : Nat) : HookOk ⟨Tryz.prog, ofList [], isref, N_⟩ 0 (an_q100 N_) (lp Tryz.prog 226 0) :=
  hooks_ok [(sh_st_binnacleref00_cut_0, hk_st_binnacleref00_cut_0 N_)] (by kernel_rfl) ⟨hk1_st_binnacleref00_cut_0 _, trivial⟩
theorem eq_q100 (N_ : Nat) (m : List Int) (cont_ : V → List Blk → Bool) : bodyZ ⟨Tryz.prog, ofList [], isref, N_⟩ (an_q100 N_) 226 (shF_q100.args [.ints m]) [] cont_ = G_q100 N_ m (fun r0 => cont_ (.roi .u32 r0) []) := by kernel_rfl
theorem good_q100 (N_ : Nat) : GoodF Tryz.prog 226 (F_q100 (G_q100 N_)) := by
  refine good_fsZ (cx := ⟨Tryz.prog, ofList [], isref, N_⟩) (ofList_nil _) shF_q100 (sp_q100 (G_q100 N_)) (an_q100 N_) 1 0 (by kernel_rfl) (fun i_ hi_ => by
    match i_, hi_ with
    | 0, _ => exact ho_binnacleref00_cut_0 _
    | (q + 1), h => omega) ?_
  intro a k h
  unfold sp_q100 at h
  split at h
  · exact ⟨[], rfl, rfl, (eq_q100 _ _ _).trans h⟩
  · cases h

def an_q13 (N_ : Nat) (S_q100 : TS_q100) : Nat → Option Ann := fun b_ => none
theorem eq_q13 (N_ : Nat) (S_q100 : TS_q100) (neg : Bool) (m : List Int) (b : Bool) (cont_ : V → List Blk → Bool) : bodyZ ⟨Tryz.prog, ofList [(226, (F_q100 S_q100))], isref, N_⟩ (an_q13 N_ S_q100) 212 (shF_q13.args [.bool neg, .ints m, .bool b]) [⟨243, 1, .cells [.bool b, .nil]⟩] cont_ = G_q13 N_ S_q100 neg m b (fun r0 r1 => cont_ (.ptr 0 0) [⟨243, 1, .cells [.bool r0, .roi .u32 r1]⟩]) := by kernel_rfl
theorem good_q13 (N_ : Nat) (S_q100 : TS_q100) (h_binnacleref00_cut : GoodF Tryz.prog 226 (F_q100 S_q100)) : GoodF Tryz.prog 212 (F_q13 (G_q13 N_ S_q100)) := by
  refine good_fsZ (cx := ⟨Tryz.prog, ofList [(226, (F_q100 S_q100))], isref, N_⟩) (ofList_cons h_binnacleref00_cut (ofList_nil _)) shF_q13 (sp_q13 (G_q13 N_ S_q100)) (an_q13 N_ S_q100) 0 1 (by kernel_rfl) (fun i_ hi_ => by omega) ?_
  intro a k h
  unfold sp_q13 at h
  split at h
  · exact ⟨[_], rfl, rfl, (eq_q13 _ _ _ _ _ _).trans h⟩
  · cases h

def an_q25 (N_ : Nat) (S_q49 : TS_q49) (S_q13 : TS_q13) : Nat → Option Ann := fun b_ => none
theorem eq_q25 (N_ : Nat) (S_q49 : TS_q49) (S_q13 : TS_q13) (n : Int) (b : Bool) (cont_ : V → List Blk → Bool) : bodyZ ⟨Tryz.prog, ofList [(213, (F_q49 S_q49)), (212, (F_q13 S_q13))], isref, N_⟩ (an_q25 N_ S_q49 S_q13) 204 (shF_q25.args [.int n, .bool b]) [⟨243, 1, .cells [.bool b, .nil]⟩] cont_ = G_q25 N_ S_q49 S_q13 n b (fun r0 r1 => cont_ (.ptr 0 0) [⟨243, 1, .cells [.bool r0, .roi .u32 r1]⟩]) := by kernel_rfl
theorem good_q25 (N_ : Nat) (S_q49 : TS_q49) (S_q13 : TS_q13) (h_binnacleref00_words : GoodF Tryz.prog 213 (F_q49 S_q49)) (h_binnacleref00_Int_put_p0n : GoodF Tryz.prog 212 (F_q13 S_q13)) : GoodF Tryz.prog 204 (F_q25 (G_q25 N_ S_q49 S_q13)) := by
  refine good_fsZ (cx := ⟨Tryz.prog, ofList [(213, (F_q49 S_q49)), (212, (F_q13 S_q13))], isref, N_⟩) (ofList_cons h_binnacleref00_words (ofList_cons h_binnacleref00_Int_put_p0n (ofList_nil _))) shF_q25 (sp_q25 (G_q25 N_ S_q49 S_q13)) (an_q25 N_ S_q49 S_q13) 0 1 (by kernel_rfl) (fun i_ hi_ => by omega) ?_
  intro a k h
  unfold sp_q25 at h
  split at h
  · exact ⟨[_], rfl, rfl, (eq_q25 _ _ _ _ _ _).trans h⟩
  · cases h

def an_q19 (N_ : Nat) (S_q100 : TS_q100) : Nat → Option Ann := fun b_ => none
theorem eq_q19 (N_ : Nat) (S_q100 : TS_q100) (neg : Bool) (m : List Int) (b : Bool) (b_1 : List Int) (cont_ : V → List Blk → Bool) : bodyZ ⟨Tryz.prog, ofList [(226, (F_q100 S_q100))], isref, N_⟩ (an_q19 N_ S_q100) 212 (shF_q19.args [.bool neg, .ints m, .bool b, .ints b_1]) [⟨243, 1, .cells [.bool b, .roi .u32 b_1]⟩] cont_ = G_q19 N_ S_q100 neg m b b_1 (fun r0 r1 => cont_ (.ptr 0 0) [⟨243, 1, .cells [.bool r0, .roi .u32 r1]⟩]) := by kernel_rfl
theorem good_q19 (N_ : Nat) (S_q100 : TS_q100) (h_binnacleref00_cut : GoodF Tryz.prog 226 (F_q100 S_q100)) : GoodF Tryz.prog 212 (F_q19 (G_q19 N_ S_q100)) := by
  refine good_fsZ (cx := ⟨Tryz.prog, ofList [(226, (F_q100 S_q100))], isref, N_⟩) (ofList_cons h_binnacleref00_cut (ofList_nil _)) shF_q19 (sp_q19 (G_q19 N_ S_q100)) (an_q19 N_ S_q100) 0 1 (by kernel_rfl) (fun i_ hi_ => by omega) ?_
  intro a k h
  unfold sp_q19 at h
  split at h
  · exact ⟨[_], rfl, rfl, (eq_q19 _ _ _ _ _ _ _).trans h⟩
  · cases h

def an_q29 (N_ : Nat) (S_q49 : TS_q49) (S_q19 : TS_q19) : Nat → Option Ann := fun b_ => none
theorem eq_q29 (N_ : Nat) (S_q49 : TS_q49) (S_q19 : TS_q19) (n : Int) (b : Bool) (b_1 : List Int) (cont_ : V → List Blk → Bool) : bodyZ ⟨Tryz.prog, ofList [(213, (F_q49 S_q49)), (212, (F_q19 S_q19))], isref, N_⟩ (an_q29 N_ S_q49 S_q19) 204 (shF_q29.args [.int n, .bool b, .ints b_1]) [⟨243, 1, .cells [.bool b, .roi .u32 b_1]⟩] cont_ = G_q29 N_ S_q49 S_q19 n b b_1 (fun r0 r1 => cont_ (.ptr 0 0) [⟨243, 1, .cells [.bool r0, .roi .u32 r1]⟩]) := by kernel_rfl
theorem good_q29 (N_ : Nat) (S_q49 : TS_q49) (S_q19 : TS_q19) (h_binnacleref00_words : GoodF Tryz.prog 213 (F_q49 S_q49)) (h_binnacleref00_Int_put_p0r : GoodF Tryz.prog 212 (F_q19 S_q19)) : GoodF Tryz.prog 204 (F_q29 (G_q29 N_ S_q49 S_q19)) := by
  refine good_fsZ (cx := ⟨Tryz.prog, ofList [(213, (F_q49 S_q49)), (212, (F_q19 S_q19))], isref, N_⟩) (ofList_cons h_binnacleref00_words (ofList_cons h_binnacleref00_Int_put_p0r (ofList_nil _))) shF_q29 (sp_q29 (G_q29 N_ S_q49 S_q19)) (an_q29 N_ S_q49 S_q19) 0 1 (by kernel_rfl) (fun i_ hi_ => by omega) ?_
  intro a k h
  unfold sp_q29 at h
  split at h
  · exact ⟨[_], rfl, rfl, (eq_q29 _ _ _ _ _ _ _).trans h⟩
  · cases h

def an_q86 (N_ : Nat) (S_q25 : TS_q25) (S_q29 : TS_q29) : Nat → Option Ann := fun b_ => none
theorem eq_q86 (N_ : Nat) (S_q25 : TS_q25) (S_q29 : TS_q29) (bits : Int) (cont_ : V → List Blk → Bool) : bodyV ⟨Tryz.prog, ofList [(204, (orFs (F_q25 S_q25) (F_q29 S_q29) shF_q25))], isref, N_⟩ (an_q86 N_ S_q25 S_q29) 196 (shF_q86.args [.int bits]) [] cont_ = G_q86 N_ S_q25 S_q29 bits (fun r0 => cont_ (.agg [.int .i64 2, .bool false, .ptr 0 0, .int .i64 0]) [⟨243, 1, .cells [.bool r0, .nil]⟩]) (fun r0 r1 r2 => cont_ (.agg [.int .i64 1, .bool r0, .ptr 0 0, .int .i64 (-1074)]) [⟨243, 1, .cells [.bool r1, .roi .u32 r2]⟩]) (fun r0 r1 r2 r3 => cont_ (.agg [.int .i64 0, .bool r0, .ptr 0 0, .int .i64 r1]) [⟨243, 1, .cells [.bool r2, .roi .u32 r3]⟩]) (fun r0 r1 r2 => cont_ (.agg [.int .i64 0, .bool r0, .ptr 0 0, .int .i64 (-1074)]) [⟨243, 1, .cells [.bool r1, .roi .u32 r2]⟩]) := by kernel_rfl
theorem good_q86 (N_ : Nat) (S_q25 : TS_q25) (S_q29 : TS_q29) (h_binnacleref00_Int_SetUint64_p0n : GoodF Tryz.prog 204 (F_q25 S_q25)) (h_binnacleref00_Int_SetUint64_p0r : GoodF Tryz.prog 204 (F_q29 S_q29)) : GoodF Tryz.prog 196 (F_q86 (G_q86 N_ S_q25 S_q29)) := by
  refine good_fs (cx := ⟨Tryz.prog, ofList [(204, (orFs (F_q25 S_q25) (F_q29 S_q29) shF_q25))], isref, N_⟩) (ofList_cons (good_or h_binnacleref00_Int_SetUint64_p0n h_binnacleref00_Int_SetUint64_p0r) (ofList_nil _)) shF_q86 (sp_q86 (G_q86 N_ S_q25 S_q29)) (an_q86 N_ S_q25 S_q29) 0 0 (by kernel_rfl) (fun i_ hi_ => by omega) ?_
  intro a k h
  unfold sp_q86 at h
  split at h
  · exact ⟨[], rfl, rfl, (eq_q86 _ _ _ _ _).trans h⟩
  · cases h

def an_q104 (N_ : Nat) : Nat → Option Ann := fun b_ => none
theorem eq_q104 (N_ : Nat) (cont_ : V → List Blk → Bool) : bodyV ⟨Tryz.prog, ofList [], isref, N_⟩ (an_q104 N_) 205 (shF_q104.args []) [] cont_ = G_q104 N_ (fun r0 => cont_ (.int .u64 r0) []) := by kernel_rfl
theorem good_q104 (N_ : Nat) : GoodF Tryz.prog 205 (F_q104 (G_q104 N_)) := by
  refine good_fs (cx := ⟨Tryz.prog, ofList [], isref, N_⟩) (ofList_nil _) shF_q104 (sp_q104 (G_q104 N_)) (an_q104 N_) 0 0 (by kernel_rfl) (fun i_ hi_ => by omega) ?_
  intro a k h
  unfold sp_q104 at h
  split at h
  · exact ⟨[], rfl, rfl, (eq_q104 _ _).trans h⟩
  · cases h

def an_q90 (N_ : Nat) (S_q104 : TS_q104) : Nat → Option Ann := fun b_ => none
theorem eq_q90 (N_ : Nat) (S_q104 : TS_q104) (b : Bool) (cont_ : V → List Blk → Bool) : bodyV ⟨Tryz.prog, ofList [(205, (F_q104 S_q104))], isref, N_⟩ (an_q90 N_ S_q104) 197 (shF_q90.args [.bool b]) [⟨243, 1, .cells [.bool b, .nil]⟩] cont_ = G_q90 N_ S_q104 b (fun r0 r1 => cont_ (.tup [.int .u64 r0, .int .i64 r1]) [⟨243, 1, .cells [.bool b, .nil]⟩]) := by kernel_rfl
theorem good_q90 (N_ : Nat) (S_q104 : TS_q104) (h_v_binnacleref02_Fmt_None : GoodF Tryz.prog 205 (F_q104 S_q104)) : GoodF Tryz.prog 197 (F_q90 (G_q90 N_ S_q104)) := by
  refine good_fs (cx := ⟨Tryz.prog, ofList [(205, (F_q104 S_q104))], isref, N_⟩) (ofList_cons h_v_binnacleref02_Fmt_None (ofList_nil _)) shF_q90 (sp_q90 (G_q90 N_ S_q104)) (an_q90 N_ S_q104) 0 1 (by kernel_rfl) (fun i_ hi_ => by omega) ?_
  intro a k h
  unfold sp_q90 at h
  split at h
  · exact ⟨[_], rfl, rfl, (eq_q90 _ _ _ _).trans h⟩
  · cases h

def an_q20 (N_ : Nat) : Nat → Option Ann := fun b_ => none
theorem eq_q20 (N_ : Nat) (neg : Bool) (field : Int) (frac : Int) (cont_ : V → List Blk → Bool) : bodyV ⟨Tryz.prog, ofList [], isref, N_⟩ (an_q20 N_) 214 (shF_q20.args [.bool neg, .int field, .int frac]) [] cont_ = G_q20 N_ neg field frac (fun r0 => cont_ (.int .u64 r0) []) := by kernel_rfl
theorem good_q20 (N_ : Nat) : GoodF Tryz.prog 214 (F_q20 (G_q20 N_)) := by
  refine good_fs (cx := ⟨Tryz.prog, ofList [], isref, N_⟩) (ofList_nil _) shF_q20 (sp_q20 (G_q20 N_)) (an_q20 N_) 0 0 (by kernel_rfl) (fun i_ hi_ => by omega) ?_
  intro a k h
  unfold sp_q20 at h
  split at h
  · exact ⟨[], rfl, rfl, (eq_q20 _ _ _ _ _).trans h⟩
  · cases h

def an_q47 (N_ : Nat) (S_q20 : TS_q20) : Nat → Option Ann := fun b_ => none
theorem eq_q47 (N_ : Nat) (S_q20 : TS_q20) (neg : Bool) (cont_ : V → List Blk → Bool) : bodyV ⟨Tryz.prog, ofList [(214, (F_q20 S_q20))], isref, N_⟩ (an_q47 N_ S_q20) 206 (shF_q47.args [.bool neg]) [] cont_ = G_q47 N_ S_q20 neg (fun r0 => cont_ (.int .u64 r0) []) := by kernel_rfl
theorem good_q47 (N_ : Nat) (S_q20 : TS_q20) (h_v_binnacleref02_Fmt_put : GoodF Tryz.prog 214 (F_q20 S_q20)) : GoodF Tryz.prog 206 (F_q47 (G_q47 N_ S_q20)) := by
  refine good_fs (cx := ⟨Tryz.prog, ofList [(214, (F_q20 S_q20))], isref, N_⟩) (ofList_cons h_v_binnacleref02_Fmt_put (ofList_nil _)) shF_q47 (sp_q47 (G_q47 N_ S_q20)) (an_q47 N_ S_q20) 0 0 (by kernel_rfl) (fun i_ hi_ => by omega) ?_
  intro a k h
  unfold sp_q47 at h
  split at h
  · exact ⟨[], rfl, rfl, (eq_q47 _ _ _ _).trans h⟩
  · cases h

def an_q44 (N_ : Nat) : Nat → Option Ann := fun b_ => none
theorem eq_q44 (N_ : Nat) (b : Bool) (b_1 : List Int) (cont_ : V → List Blk → Bool) : bodyZ ⟨Tryz.prog, ofList [], isref, N_⟩ (an_q44 N_) 215 (shF_q44.args [.bool b, .ints b_1]) [⟨243, 1, .cells [.bool b, .roi .u32 b_1]⟩] cont_ = G_q44 N_ b b_1 (fun r0 => cont_ (.int .i64 r0) [⟨243, 1, .cells [.bool b, .roi .u32 b_1]⟩]) := by kernel_rfl
theorem good_q44 (N_ : Nat) : GoodF Tryz.prog 215 (F_q44 (G_q44 N_)) := by
  refine good_fsZ (cx := ⟨Tryz.prog, ofList [], isref, N_⟩) (ofList_nil _) shF_q44 (sp_q44 (G_q44 N_)) (an_q44 N_) 0 1 (by kernel_rfl) (fun i_ hi_ => by omega) ?_
  intro a k h
  unfold sp_q44 at h
  split at h
  · exact ⟨[_], rfl, rfl, (eq_q44 _ _ _ _).trans h⟩
  · cases h

def an_q94 (N_ : Nat) (S_q44 : TS_q44) : Nat → Option Ann := fun b_ => none
theorem eq_q94 (N_ : Nat) (S_q44 : TS_q44) (n_0 : Int) (n_1 : Bool) (n_2 : Int) (b : Bool) (b_1 : List Int) (cont_ : V → List Blk → Bool) : bodyV ⟨Tryz.prog, ofList [(215, (F_q44 S_q44))], isref, N_⟩ (an_q94 N_ S_q44) 207 (shF_q94.args [.int n_0, .bool n_1, .int n_2, .bool b, .ints b_1]) [⟨243, 1, .cells [.bool b, .roi .u32 b_1]⟩] cont_ = G_q94 N_ S_q44 n_0 n_1 n_2 b b_1 (fun r0 => cont_ (.bool r0) [⟨243, 1, .cells [.bool b, .roi .u32 b_1]⟩]) := by kernel_rfl
theorem good_q94 (N_ : Nat) (S_q44 : TS_q44) (h_binnacleref00_Int_Sign_p0r : GoodF Tryz.prog 215 (F_q44 S_q44)) : GoodF Tryz.prog 207 (F_q94 (G_q94 N_ S_q44)) := by
  refine good_fs (cx := ⟨Tryz.prog, ofList [(215, (F_q44 S_q44))], isref, N_⟩) (ofList_cons h_binnacleref00_Int_Sign_p0r (ofList_nil _)) shF_q94 (sp_q94 (G_q94 N_ S_q44)) (an_q94 N_ S_q44) 0 1 (by kernel_rfl) (fun i_ hi_ => by omega) ?_
  intro a k h
  unfold sp_q94 at h
  split at h
  · exact ⟨[_], rfl, rfl, (eq_q94 _ _ _ _ _ _ _ _).trans h⟩
  · cases h

def an_q99 (N_ : Nat) (S_q20 : TS_q20) : Nat → Option Ann := fun b_ => none
theorem eq_q99 (N_ : Nat) (S_q20 : TS_q20) (neg : Bool) (cont_ : V → List Blk → Bool) : bodyV ⟨Tryz.prog, ofList [(214, (F_q20 S_q20))], isref, N_⟩ (an_q99 N_ S_q20) 208 (shF_q99.args [.bool neg]) [] cont_ = G_q99 N_ S_q20 neg (fun r0 => cont_ (.int .u64 r0) []) := by kernel_rfl
theorem good_q99 (N_ : Nat) (S_q20 : TS_q20) (h_v_binnacleref02_Fmt_put : GoodF Tryz.prog 214 (F_q20 S_q20)) : GoodF Tryz.prog 208 (F_q99 (G_q99 N_ S_q20)) := by
  refine good_fs (cx := ⟨Tryz.prog, ofList [(214, (F_q20 S_q20))], isref, N_⟩) (ofList_cons h_v_binnacleref02_Fmt_put (ofList_nil _)) shF_q99 (sp_q99 (G_q99 N_ S_q20)) (an_q99 N_ S_q20) 0 0 (by kernel_rfl) (fun i_ hi_ => by omega) ?_
  intro a k h
  unfold sp_q99 at h
  split at h
  · exact ⟨[], rfl, rfl, (eq_q99 _ _ _ _).trans h⟩
  · cases h

def an_q63 (N_ : Nat) : Nat → Option Ann := fun b_ => none
theorem eq_q63 (N_ : Nat) (x : Int) (cont_ : V → List Blk → Bool) : bodyV ⟨Tryz.prog, ofList [], isref, N_⟩ (an_q63 N_) 227 (shF_q63.args [.int x]) [] cont_ = G_q63 N_ x (fun r0 => cont_ (.int .i64 r0) []) := by kernel_rfl
theorem good_q63 (N_ : Nat) : GoodF Tryz.prog 227 (F_q63 (G_q63 N_)) := by
  refine good_fs (cx := ⟨Tryz.prog, ofList [], isref, N_⟩) (ofList_nil _) shF_q63 (sp_q63 (G_q63 N_)) (an_q63 N_) 0 0 (by kernel_rfl) (fun i_ hi_ => by omega) ?_
  intro a k h
  unfold sp_q63 at h
  split at h
  · exact ⟨[], rfl, rfl, (eq_q63 _ _ _).trans h⟩
  · cases h

def an_q1 (N_ : Nat) (S_q63 : TS_q63) : Nat → Option Ann := fun b_ => none
theorem eq_q1 (N_ : Nat) (S_q63 : TS_q63) (b : Bool) (b_1 : List Int) (cont_ : V → List Blk → Bool) : bodyZ ⟨Tryz.prog, ofList [(227, (F_q63 S_q63))], isref, N_⟩ (an_q1 N_ S_q63) 216 (shF_q1.args [.bool b, .ints b_1]) [⟨243, 1, .cells [.bool b, .roi .u32 b_1]⟩] cont_ = G_q1 N_ S_q63 b b_1 (fun r0 => cont_ (.int .i64 r0) [⟨243, 1, .cells [.bool b, .roi .u32 b_1]⟩]) := by kernel_rfl
theorem good_q1 (N_ : Nat) (S_q63 : TS_q63) (h_math_bits_Len32 : GoodF Tryz.prog 227 (F_q63 S_q63)) : GoodF Tryz.prog 216 (F_q1 (G_q1 N_ S_q63)) := by
  refine good_fsZ (cx := ⟨Tryz.prog, ofList [(227, (F_q63 S_q63))], isref, N_⟩) (ofList_cons h_math_bits_Len32 (ofList_nil _)) shF_q1 (sp_q1 (G_q1 N_ S_q63)) (an_q1 N_ S_q63) 0 1 (by kernel_rfl) (fun i_ hi_ => by omega) ?_
  intro a k h
  unfold sp_q1 at h
  split at h
  · exact ⟨[_], rfl, rfl, (eq_q1 _ _ _ _ _).trans h⟩
  · cases h

def an_q68 (N_ : Nat) (S_q8 : TS_q8) : Nat → Option Ann := fun b_ => none
theorem eq_q68 (N_ : Nat) (S_q8 : TS_q8) (neg : Bool) (b : Bool) (b_1 : List Int) (cont_ : V → List Blk → Bool) : bodyZ ⟨Tryz.prog, ofList [(226, (F_q8 S_q8))], isref, N_⟩ (an_q68 N_ S_q8) 212 (shF_q68.args [.bool neg, .bool b, .ints b_1]) [⟨243, 1, .cells [.bool b, .nil]⟩, ⟨260, 1, .ints .u32 b_1⟩] cont_ = G_q68 N_ S_q8 neg b b_1 (fun r0 r1 r2 => cont_ (.ptr 0 0) [⟨243, 1, .cells [.bool r0, .sl 1 r1 r2]⟩, ⟨260, 1, .ints .u32 b_1⟩]) := by kernel_rfl
theorem good_q68 (N_ : Nat) (S_q8 : TS_q8) (h_binnacleref00_cut_w : GoodF Tryz.prog 226 (F_q8 S_q8)) : GoodF Tryz.prog 212 (F_q68 (G_q68 N_ S_q8)) := by
  refine good_fsZ (cx := ⟨Tryz.prog, ofList [(226, (F_q8 S_q8))], isref, N_⟩) (ofList_cons h_binnacleref00_cut_w (ofList_nil _)) shF_q68 (sp_q68 (G_q68 N_ S_q8)) (an_q68 N_ S_q8) 0 2 (by kernel_rfl) (fun i_ hi_ => by omega) ?_
  intro a k h
  unfold sp_q68 at h
  split at h
  · exact ⟨[_, _], rfl, rfl, (eq_q68 _ _ _ _ _ _).trans h⟩
  · cases h

def an_q3 (N_ : Nat) (S_q68 : TS_q68) : Nat → Option Ann := fun b_ => none
theorem eq_q3 (N_ : Nat) (S_q68 : TS_q68) (b : Bool) (b_1 : Bool) (b_2 : List Int) (cont_ : V → List Blk → Bool) : bodyZ ⟨Tryz.prog, ofList [(212, (F_q68 S_q68))], isref, N_⟩ (an_q3 N_ S_q68) 217 (shF_q3.args [.bool b, .bool b_1, .ints b_2]) [⟨243, 1, .cells [.bool b, .nil]⟩, ⟨243, 1, .cells [.bool b_1, .roi .u32 b_2]⟩] cont_ = G_q3 N_ S_q68 b b_1 b_2 (fun r0 r1 => cont_ (.ptr 0 0) [⟨243, 1, .cells [.bool r0, .roi .u32 r1]⟩, ⟨243, 1, .cells [.bool b_1, .roi .u32 b_2]⟩]) := by kernel_rfl
theorem good_q3 (N_ : Nat) (S_q68 : TS_q68) (h_binnacleref00_Int_put_p0w1n : GoodF Tryz.prog 212 (F_q68 S_q68)) : GoodF Tryz.prog 217 (F_q3 (G_q3 N_ S_q68)) := by
  refine good_fsZ (cx := ⟨Tryz.prog, ofList [(212, (F_q68 S_q68))], isref, N_⟩) (ofList_cons h_binnacleref00_Int_put_p0w1n (ofList_nil _)) shF_q3 (sp_q3 (G_q3 N_ S_q68)) (an_q3 N_ S_q68) 0 2 (by kernel_rfl) (fun i_ hi_ => by omega) ?_
  intro a k h
  unfold sp_q3 at h
  split at h
  · exact ⟨[_, _], rfl, rfl, (eq_q3 _ _ _ _ _ _).trans h⟩
  · cases h

def sh_st_binnacleref00_left_0 : StSh := ⟨[.roi .u32, .any, .any, .any, .any, .int .i64, .int .u64, .slw 0, .int .i64, .any, .any, .any, .any, .any, .any, .any, .any, .any, .any, .any, .any, .any, .any, .any, .any, .any, .any, .any, .any, .any, .any, .any, .any, .any, .any, .any, .any, .any, .any, .any, .any, .any, .any, .any, .any, .any, .any, .any, .any, .any, .any, .any, .any, .any, .any, .any, .any, .any], [some (260, 1, .ints .u32)]⟩
def sx0_st_binnacleref00_left_0 : StSh := ⟨[.any, .any, .any, .any, .any, .any, .any, .slw 0, .any, .any, .any, .any, .any, .any, .any, .any, .any, .any, .any, .any, .any, .any, .any, .any, .any, .any, .any, .any, .any, .any, .any, .any, .any, .any, .any, .any, .any, .any, .any, .any, .any, .any, .any, .any, .any, .any, .any, .any, .any, .any, .any, .any, .any, .any, .any, .any, .any, .any], [some (260, 1, .ints .u32)]⟩
def hk_st_binnacleref00_left_0 (N_ : Nat) (S_q8 : TS_q8) : List Atom → K → Bool := fun a_ κ => match a_ with
  | [.ints m_1, .int w, .int s, .int i, .ints out] => iterG N_ (st_z00_left_0 N_ S_q8 m_1 w s (fun r0 => κ.ext 0 (sx0_st_binnacleref00_left_0.build [.ints r0]))) (i, out)
  | _ => false
def an_q79 (N_ : Nat) (S_q8 : TS_q8) : Nat → Option Ann := fun b_ => cond (b_ == 0) (some ⟨⟨[0, 5, 6, 7, 8], []⟩, [(0, ⟨[7], []⟩)], some ⟨[4], []⟩, some (mkHooks [(sh_st_binnacleref00_left_0, hk_st_binnacleref00_left_0 N_ S_q8)])⟩) (none)
theorem eq_st_binnacleref00_left_0 (N_ : Nat) (S_q8 : TS_q8) (κ : K) (m_1 : List Int) (w : Int) (s : Int) (i : Int) (out : List Int) : iter N_ (fun s k => codeV ⟨Tryz.prog, ofList [(226, (F_q8 S_q8))], isref, N_⟩ 0 (an_q79 N_ S_q8) (lp Tryz.prog 228 0).2 (lp Tryz.prog 228 0).1 s (roundK Tryz.prog 0 ((an_q79 N_ S_q8) (lp Tryz.prog 228 0).1) κ k)) (sh_st_binnacleref00_left_0.build [.ints m_1, .int w, .int s, .int i, .ints out]) = iterG N_ (st_z00_left_0 N_ S_q8 m_1 w s (fun r0 => κ.ext 0 (sx0_st_binnacleref00_left_0.build [.ints r0]))) (i, out) :=
  iter_tr (fun (v_ : Int × List Int) => sh_st_binnacleref00_left_0.build [.ints m_1, .int w, .int s, .int v_.1, .ints v_.2]) (fun v_ K_ => by obtain ⟨i, out⟩ := v_; kernel_rfl) N_ (i, out)
theorem hk1_st_binnacleref00_left_0 (N_ : Nat) (S_q8 : TS_q8) : HookFor ⟨Tryz.prog, ofList [(226, (F_q8 S_q8))], isref, N_⟩ 0 (an_q79 N_ S_q8) (lp Tryz.prog 228 0) (sh_st_binnacleref00_left_0, hk_st_binnacleref00_left_0 N_ S_q8) := by
  intro a κ h
  simp only at h
  unfold hk_st_binnacleref00_left_0 at h
  split at h
  · exact (eq_st_binnacleref00_left_0 _ _ _ _ _ _ _ _).trans h
  · cases h
theorem ho_binnacleref00_left_0 (N_ : Nat) (S_q8 : TS_q8) : HookOk ⟨Tryz.prog, ofList [(226, (F_q8 S_q8))], isref, N_⟩ 0 (an_q79 N_ S_q8) (lp Tryz.prog 228 0) :=
  hooks_ok [(sh_st_binnacleref00_left_0, hk_st_binnacleref00_left_0 N_ S_q8)] (by kernel_rfl) ⟨hk1_st_binnacleref00_left_0 _ _, trivial⟩
theorem eq_q79 (N_ : Nat) (S_q8 : TS_q8) (m : List Int) (n : Int) (cont_ : V → List Blk → Bool) : bodyZ ⟨Tryz.prog, ofList [(226, (F_q8 S_q8))], isref, N_⟩ (an_q79 N_ S_q8) 228 (shF_q79.args [.ints m, .int n]) [] cont_ = G_q79 N_ S_q8 m n (fun r0 => cont_ (.roi .u32 r0) []) := by kernel_rfl
theorem good_q79 (N_ : Nat) (S_q8 : TS_q8) (h_binnacleref00_cut_w : GoodF Tryz.prog 226 (F_q8 S_q8)) : GoodF Tryz.prog 228 (F_q79 (G_q79 N_ S_q8)) := by
  refine good_fsZ (cx := ⟨Tryz.prog, ofList [(226, (F_q8 S_q8))], isref, N_⟩) (ofList_cons h_binnacleref00_cut_w (ofList_nil _)) shF_q79 (sp_q79 (G_q79 N_ S_q8)) (an_q79 N_ S_q8) 1 0 (by kernel_rfl) (fun i_ hi_ => by
    match i_, hi_ with
    | 0, _ => exact ho_binnacleref00_left_0 _ _
    | (q + 1), h => omega) ?_
  intro a k h
  unfold sp_q79 at h
  split at h
  · exact ⟨[], rfl, rfl, (eq_q79 _ _ _ _ _).trans h⟩
  · cases h

def an_q5 (N_ : Nat) (S_q79 : TS_q79) (S_q19 : TS_q19) : Nat → Option Ann := fun b_ => none
theorem eq_q5 (N_ : Nat) (S_q79 : TS_q79) (S_q19 : TS_q19) (n : Int) (b : Bool) (b_1 : List Int) (cont_ : V → List Blk → Bool) : bodyZ ⟨Tryz.prog, ofList [(228, (F_q79 S_q79)), (212, (F_q19 S_q19))], isref, N_⟩ (an_q5 N_ S_q79 S_q19) 218 (shF_q5.args [.int n, .bool b, .ints b_1]) [⟨243, 1, .cells [.bool b, .roi .u32 b_1]⟩] cont_ = G_q5 N_ S_q79 S_q19 n b b_1 (fun r0 r1 => cont_ (.ptr 0 0) [⟨243, 1, .cells [.bool r0, .roi .u32 r1]⟩]) := by kernel_rfl
theorem good_q5 (N_ : Nat) (S_q79 : TS_q79) (S_q19 : TS_q19) (h_binnacleref00_left : GoodF Tryz.prog 228 (F_q79 S_q79)) (h_binnacleref00_Int_put_p0r : GoodF Tryz.prog 212 (F_q19 S_q19)) : GoodF Tryz.prog 218 (F_q5 (G_q5 N_ S_q79 S_q19)) := by
  refine good_fsZ (cx := ⟨Tryz.prog, ofList [(228, (F_q79 S_q79)), (212, (F_q19 S_q19))], isref, N_⟩) (ofList_cons h_binnacleref00_left (ofList_cons h_binnacleref00_Int_put_p0r (ofList_nil _))) shF_q5 (sp_q5 (G_q5 N_ S_q79 S_q19)) (an_q5 N_ S_q79 S_q19) 0 1 (by kernel_rfl) (fun i_ hi_ => by omega) ?_
  intro a k h
  unfold sp_q5 at h
  split at h
  · exact ⟨[_], rfl, rfl, (eq_q5 _ _ _ _ _ _ _).trans h⟩
  · cases h

def sh_st_binnacleref00_right_0 : StSh := ⟨[.roi .u32, .any, .any, .any, .any, .int .i64, .int .u64, .slw 0, .int .i64, .any, .any, .any, .any, .any, .any, .any, .any, .any, .any, .any, .any, .any, .any, .any, .any, .any, .any, .any, .any, .any, .any, .any, .any, .any, .any, .any, .any, .any, .any, .any, .any, .any, .any, .any, .any, .any, .any, .any, .any, .any, .any, .any, .any, .any, .any, .any, .any, .any, .any, .any, .any, .any, .any, .any], [some (260, 1, .ints .u32)]⟩
def sx0_st_binnacleref00_right_0 : StSh := ⟨[.any, .any, .any, .any, .any, .any, .any, .slw 0, .any, .any, .any, .any, .any, .any, .any, .any, .any, .any, .any, .any, .any, .any, .any, .any, .any, .any, .any, .any, .any, .any, .any, .any, .any, .any, .any, .any, .any, .any, .any, .any, .any, .any, .any, .any, .any, .any, .any, .any, .any, .any, .any, .any, .any, .any, .any, .any, .any, .any, .any, .any, .any, .any, .any, .any], [some (260, 1, .ints .u32)]⟩
def hk_st_binnacleref00_right_0 (N_ : Nat) (S_q8 : TS_q8) : List Atom → K → Bool := fun a_ κ => match a_ with
  | [.ints m_1, .int w, .int s, .int i, .ints out] => iterG N_ (st_z00_right_0 N_ S_q8 m_1 w s (fun r0 => κ.ext 0 (sx0_st_binnacleref00_right_0.build [.ints r0]))) (i, out)
  | _ => false
def an_q66 (N_ : Nat) (S_q8 : TS_q8) : Nat → Option Ann := fun b_ => cond (b_ == 0) (some ⟨⟨[0, 5, 6, 7, 8], []⟩, [(0, ⟨[7], []⟩)], some ⟨[4], []⟩, some (mkHooks [(sh_st_binnacleref00_right_0, hk_st_binnacleref00_right_0 N_ S_q8)])⟩) (none)
theorem eq_st_binnacleref00_right_0 (N_ : Nat) (S_q8 : TS_q8) (κ : K) (m_1 : List Int) (w : Int) (s : Int) (i : Int) (out : List Int) : iter N_ (fun s k => codeV ⟨Tryz.prog, ofList [(226, (F_q8 S_q8))], isref, N_⟩ 0 (an_q66 N_ S_q8) (lp Tryz.prog 234 0).2 (lp Tryz.prog 234 0).1 s (roundK Tryz.prog 0 ((an_q66 N_ S_q8) (lp Tryz.prog 234 0).1) κ k)) (sh_st_binnacleref00_right_0.build [.ints m_1, .int w, .int s, .int i, .ints out]) = iterG N_ (st_z00_right_0 N_ S_q8 m_1 w s (fun r0 => κ.ext 0 (sx0_st_binnacleref00_right_0.build [.ints r0]))) (i, out) :=
  iter_tr (fun (v_ : Int × List Int) => sh_st_binnacleref00_right_0.build [.ints m_1, .int w, .int s, .int v_.1, .ints v_.2]) (fun v_ K_ => by obtain ⟨i, out⟩ := v_; kernel_rfl) N_ (i, out)
theorem hk1_st_binnacleref00_right_0 (N_ : Nat) (S_q8 : TS_q8) : HookFor ⟨Tryz.prog, ofList [(226, (F_q8 S_q8))], isref, N_⟩ 0 (an_q66 N_ S_q8) (lp Tryz.prog 234 0) (sh_st_binnacleref00_right_0, hk_st_binnacleref00_right_0 N_ S_q8) := by
  intro a κ h
  simp only at h
  unfold hk_st_binnacleref00_right_0 at h
  split at h
  · exact (eq_st_binnacleref00_right_0 _ _ _ _ _ _ _ _).trans h
  · cases h
theorem ho_binnacleref00_right_0 (N_ : Nat) (S_q8 : TS_q8) : HookOk ⟨Tryz.prog, ofList [(226, (F_q8 S_q8))], isref, N_⟩ 0 (an_q66 N_ S_q8) (lp Tryz.prog 234 0) :=
  hooks_ok [(sh_st_binnacleref00_right_0, hk_st_binnacleref00_right_0 N_ S_q8)] (by kernel_rfl) ⟨hk1_st_binnacleref00_right_0 _ _, trivial⟩
theorem eq_q66 (N_ : Nat) (S_q8 : TS_q8) (m : List Int) (n : Int) (cont_ : V → List Blk → Bool) : bodyZ ⟨Tryz.prog, ofList [(226, (F_q8 S_q8))], isref, N_⟩ (an_q66 N_ S_q8) 234 (shF_q66.args [.ints m, .int n]) [] cont_ = G_q66 N_ S_q8 m n (fun r0 => cont_ (.roi .u32 r0) []) := by kernel_rfl
theorem good_q66 (N_ : Nat) (S_q8 : TS_q8) (h_binnacleref00_cut_w : GoodF Tryz.prog 226 (F_q8 S_q8)) : GoodF Tryz.prog 234 (F_q66 (G_q66 N_ S_q8)) := by
  refine good_fsZ (cx := ⟨Tryz.prog, ofList [(226, (F_q8 S_q8))], isref, N_⟩) (ofList_cons h_binnacleref00_cut_w (ofList_nil _)) shF_q66 (sp_q66 (G_q66 N_ S_q8)) (an_q66 N_ S_q8) 1 0 (by kernel_rfl) (fun i_ hi_ => by
    match i_, hi_ with
    | 0, _ => exact ho_binnacleref00_right_0 _ _
    | (q + 1), h => omega) ?_
  intro a k h
  unfold sp_q66 at h
  split at h
  · exact ⟨[], rfl, rfl, (eq_q66 _ _ _ _ _).trans h⟩
  · cases h

def sh_st_binnacleref00_minus_0 : StSh := ⟨[.roi .u32, .roi .u32, .any, .any, .any, .slw 0, .int .u64, .int .i64, .any, .any, .any, .any, .any, .any, .any, .any, .any, .any, .any, .any, .any, .any, .any, .any, .any, .any, .any, .any, .any, .any, .any, .any, .any, .any, .any, .any, .any, .any, .any, .any, .any, .any, .any, .any, .any, .any, .any, .any, .any, .any, .any, .any, .any, .any, .any, .any], [some (260, 1, .ints .u32)]⟩
def sx0_st_binnacleref00_minus_0 : StSh := ⟨[.any, .any, .any, .any, .any, .slw 0, .any, .any, .any, .any, .any, .any, .any, .any, .any, .any, .any, .any, .any, .any, .any, .any, .any, .any, .any, .any, .any, .any, .any, .any, .any, .any, .any, .any, .any, .any, .any, .any, .any, .any, .any, .any, .any, .any, .any, .any, .any, .any, .any, .any, .any, .any, .any, .any, .any, .any], [some (260, 1, .ints .u32)]⟩
def hk_st_binnacleref00_minus_0 (N_ : Nat) (S_q8 : TS_q8) : List Atom → K → Bool := fun a_ κ => match a_ with
  | [.ints a_1, .ints b_1, .int borrow, .int i, .ints out] => iterG N_ (st_z00_minus_0 N_ S_q8 a_1 b_1 (fun r0 => κ.ext 0 (sx0_st_binnacleref00_minus_0.build [.ints r0]))) (borrow, i, out)
  | _ => false
def an_q10 (N_ : Nat) (S_q8 : TS_q8) : Nat → Option Ann := fun b_ => cond (b_ == 0) (some ⟨⟨[0, 1, 5, 6, 7], []⟩, [(0, ⟨[5], []⟩)], some ⟨[4], []⟩, some (mkHooks [(sh_st_binnacleref00_minus_0, hk_st_binnacleref00_minus_0 N_ S_q8)])⟩) (none)
theorem eq_st_binnacleref00_minus_0 (N_ : Nat) (S_q8 : TS_q8) (κ : K) (a_1 : List Int) (b_1 : List Int) (borrow : Int) (i : Int) (out : List Int) : iter N_ (fun s k => codeV ⟨Tryz.prog, ofList [(226, (F_q8 S_q8))], isref, N_⟩ 0 (an_q10 N_ S_q8) (lp Tryz.prog 235 0).2 (lp Tryz.prog 235 0).1 s (roundK Tryz.prog 0 ((an_q10 N_ S_q8) (lp Tryz.prog 235 0).1) κ k)) (sh_st_binnacleref00_minus_0.build [.ints a_1, .ints b_1, .int borrow, .int i, .ints out]) = iterG N_ (st_z00_minus_0 N_ S_q8 a_1 b_1 (fun r0 => κ.ext 0 (sx0_st_binnacleref00_minus_0.build [.ints r0]))) (borrow, i, out) :=
  iter_tr (fun (v_ : Int × Int × List Int) => sh_st_binnacleref00_minus_0.build [.ints a_1, .ints b_1, .int v_.1, .int v_.2.1, .ints v_.2.2]) (fun v_ K_ => by obtain ⟨borrow, i, out⟩ := v_; kernel_rfl) N_ (borrow, i, out)
theorem hk1_st_binnacleref00_minus_0 (N_ : Nat) (S_q8 : TS_q8) : HookFor ⟨Tryz.prog, ofList [(226, (F_q8 S_q8))], isref, N_⟩ 0 (an_q10 N_ S_q8) (lp Tryz.prog 235 0) (sh_st_binnacleref00_minus_0, hk_st_binnacleref00_minus_0 N_ S_q8) := by
  intro a κ h
  simp only at h
  unfold hk_st_binnacleref00_minus_0 at h
  split at h
  · exact (eq_st_binnacleref00_minus_0 _ _ _ _ _ _ _ _).trans h
  · cases h
theorem ho_binnacleref00_minus_0 (N_ : Nat) (S_q8 : TS_q8) : HookOk ⟨Tryz.prog, ofList [(226, (F_q8 S_q8))], isref, N_⟩ 0 (an_q10 N_ S_q8) (lp Tryz.prog 235 0) :=
  hooks_ok [(sh_st_binnacleref00_minus_0, hk_st_binnacleref00_minus_0 N_ S_q8)] (by kernel_rfl) ⟨hk1_st_binnacleref00_minus_0 _ _, trivial⟩
theorem eq_q10 (N_ : Nat) (S_q8 : TS_q8) (a : List Int) (b : List Int) (cont_ : V → List Blk → Bool) : bodyZ ⟨Tryz.prog, ofList [(226, (F_q8 S_q8))], isref, N_⟩ (an_q10 N_ S_q8) 235 (shF_q10.args [.ints a, .ints b]) [] cont_ = G_q10 N_ S_q8 a b (fun r0 => cont_ (.roi .u32 r0) []) := by kernel_rfl
theorem good_q10 (N_ : Nat) (S_q8 : TS_q8) (h_binnacleref00_cut_w : GoodF Tryz.prog 226 (F_q8 S_q8)) : GoodF Tryz.prog 235 (F_q10 (G_q10 N_ S_q8)) := by
  refine good_fsZ (cx := ⟨Tryz.prog, ofList [(226, (F_q8 S_q8))], isref, N_⟩) (ofList_cons h_binnacleref00_cut_w (ofList_nil _)) shF_q10 (sp_q10 (G_q10 N_ S_q8)) (an_q10 N_ S_q8) 1 0 (by kernel_rfl) (fun i_ hi_ => by
    match i_, hi_ with
    | 0, _ => exact ho_binnacleref00_minus_0 _ _
    | (q + 1), h => omega) ?_
  intro a k h
  unfold sp_q10 at h
  split at h
  · exact ⟨[], rfl, rfl, (eq_q10 _ _ _ _ _).trans h⟩
  · cases h

end Go.Proofs.YtldpkhfffeddiaaGreat
