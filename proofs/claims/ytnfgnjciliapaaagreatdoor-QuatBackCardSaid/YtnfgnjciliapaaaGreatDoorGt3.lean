/-
  THE TIES: each printed meaning is what the program does (written by program).
  Conditions: none.
-/
import Derived.Test.YtnfgnjciliapaaaGreatDoorGs
namespace Go.Proofs.YtnfgnjciliapaaaGreatDoor
open Go Go.Mach Go.Proofs
set_option linter.unusedVariables false
set_option maxRecDepth 50000
def anZ77 (N : Nat) (SZ72 : TSZ72) (SZ27 : TSZ27) (SZ14 : TSZ14) (SZ87 : TSZ87) (SZ62 : TSZ62) : Nat -> Option Ann := fun b_ => none
def lsZ164 (d_ : List V) (u_ : List (Option Blk)) (m_0 m_1 : Int) (m_2 : List Fl) (k_ k__1 k__2 k__3 : Fl) : St := ⟨((dq d_ 0) :: ((dq d_ 1) :: (.ptr 1 0 :: (dqs d_ 2 13 (.ptr 3 0 :: (dqs d_ 15 129 [])))))), [(u_.getD 0 none), some ⟨30, 1, .cells [.flt (some 0), .flt (some 0), .flt (some 0), .flt (some 0)]⟩, (u_.getD 1 none), some ⟨30, 1, .cells [.flt k_, .flt k__1, .flt k__2, .flt k__3]⟩]⟩
theorem jnZ164 (N : Nat) (SZ72 : TSZ72) (SZ27 : TSZ27) (SZ14 : TSZ14) (SZ87 : TSZ87) (SZ62 : TSZ62) (d_ : List V) (u_ : List (Option Blk)) (m_0 m_1 : Int) (m_2 : List Fl) (k_ k__1 k__2 k__3 : Fl) (c_ : V -> List Blk -> Bool) : codesV ⟨Pg, ofList [(70, (FZ72 SZ72)), (71, (FZ27 SZ27)), (48, (FZ14 SZ14)), (72, (FZ87 SZ87)), (35, (FZ62 SZ62))], isref, N⟩ 0 (anZ77 N SZ72 SZ27 SZ14 SZ87 SZ62) ((cds Pg 30).drop 17) 0 (lsZ164 d_ u_ m_0 m_1 m_2 k_ k__1 k__2 k__3) (finV Pg 30 0 c_) = JZ164 N SZ72 SZ27 SZ14 SZ87 SZ62 m_0 m_1 m_2 k_ k__1 k__2 k__3 (fun r0 r1 r2 r3 r4 => c_ (.tup [.agg [.flt r0, .flt r1, .flt r2, .flt r3], .int .i64 r4]) []) := by kernel_rfl
theorem hd_quat_From_w (N : Nat) (SZ72 : TSZ72) (SZ27 : TSZ27) (SZ14 : TSZ14) (SZ87 : TSZ87) (SZ62 : TSZ62) (m_0 m_1 : Int) (m_2 : List Fl) (c_ : V -> List Blk -> Bool) (κn_ : St -> Bool) : codesV ⟨Pg, ofList [(70, (FZ72 SZ72)), (71, (FZ27 SZ27)), (48, (FZ14 SZ14)), (72, (FZ87 SZ87)), (35, (FZ62 SZ62))], isref, N⟩ 0 (anZ77 N SZ72 SZ27 SZ14 SZ87 SZ62) (sg Pg 30 0 17) 0 (st0 Pg 30 (shFZ77.args [.int m_0, .int m_1, .fls m_2]) []) { (finV Pg 30 0 c_) with nrm := κn_ } = (SZ72 m_0 m_1 m_2 (fun nr => (cond (nr != 0) (c_ (.tup [.agg [.flt (some 0), .flt (some 0), .flt (some 0), .flt (some 0)], .int .i64 nr]) []) (cond ((m_0 != 3) == false) (cond (m_1 != 3) (c_ (.tup [.agg [.flt (some 0), .flt (some 0), .flt (some 0), .flt (some 0)], .int .i64 3]) []) (SZ27 0 0 m_0 m_1 m_2 (fun xr => (SZ27 1 1 m_0 m_1 m_2 (fun xr_1 => (SZ27 2 2 m_0 m_1 m_2 (fun xr_2 => (SZ14 [(fadd (fadd xr xr_1) xr_2)] (fun cr => (cond (!cr) (c_ (.tup [.agg [.flt (some 0), .flt (some 0), .flt (some 0), .flt (some 0)], .int .i64 5]) []) (SZ27 2 1 m_0 m_1 m_2 (fun xr_3 => (SZ27 1 2 m_0 m_1 m_2 (fun xr_4 => (SZ27 0 2 m_0 m_1 m_2 (fun xr_5 => (SZ27 2 0 m_0 m_1 m_2 (fun xr_6 => (SZ27 1 0 m_0 m_1 m_2 (fun xr_7 => (SZ27 0 1 m_0 m_1 m_2 (fun xr_8 => (SZ27 0 1 m_0 m_1 m_2 (fun xr_9 => (SZ27 1 0 m_0 m_1 m_2 (fun xr_10 => (SZ27 0 2 m_0 m_1 m_2 (fun x11 => (SZ27 2 0 m_0 m_1 m_2 (fun x12 => (SZ27 1 2 m_0 m_1 m_2 (fun x13 => (SZ27 2 1 m_0 m_1 m_2 (fun x14 => (cond (feq (fmm true (fmm true (fmm true (fadd (fadd xr xr_1) xr_2) xr) xr_1) xr_2) (fadd (fadd xr xr_1) xr_2)) (κn_ (lsZ164 [.agg [.int .i64 m_0, .int .i64 m_1, .rof m_2], .ptr 0 0, .int .i64 0, .int .i64 nr, .fn 71 [.ptr 0 0], .flt xr, .flt xr_1, .flt xr_2, .flt (fadd (fadd xr xr_1) xr_2), .flt (fsub xr_3 xr_4), .flt (fsub xr_5 xr_6), .flt (fsub xr_7 xr_8), .flt (fadd xr_9 xr_10), .flt (fadd x11 x12), .flt (fadd x13 x14), .flt (fmm true (fmm true (fmm true (fadd (fadd xr xr_1) xr_2) xr) xr_1) xr_2), .any, .any, .agg [.int .i64 m_0, .int .i64 m_1, .rof m_2], .int .i64 nr, .int .i64 nr, .bool false, .any, .any, .ptr 0 0, .int .i64 m_0, .bool (m_0 != 3), .bool false, .ptr 0 1, .int .i64 m_1, .bool (m_1 != 3), .bool false, .any, .fn 71 [.ptr 0 0], .fn 71 [.ptr 0 0], .flt xr, .fn 71 [.ptr 0 0], .flt xr_1, .fn 71 [.ptr 0 0], .flt xr_2, .flt xr, .flt xr_1, .flt (fadd xr xr_1), .flt xr_2, .flt (fadd (fadd xr xr_1) xr_2), .flt (fadd (fadd xr xr_1) xr_2), .slw 2, .bool cr, .bool false, .any, .fn 71 [.ptr 0 0], .flt xr_3, .fn 71 [.ptr 0 0], .flt xr_4, .flt (fsub xr_3 xr_4), .fn 71 [.ptr 0 0], .flt xr_5, .fn 71 [.ptr 0 0], .flt xr_6, .flt (fsub xr_5 xr_6), .fn 71 [.ptr 0 0], .flt xr_7, .fn 71 [.ptr 0 0], .flt xr_8, .flt (fsub xr_7 xr_8), .fn 71 [.ptr 0 0], .flt xr_9, .fn 71 [.ptr 0 0], .flt xr_10, .flt (fadd xr_9 xr_10), .fn 71 [.ptr 0 0], .flt x11, .fn 71 [.ptr 0 0], .flt x12, .flt (fadd x11 x12), .fn 71 [.ptr 0 0], .flt x13, .fn 71 [.ptr 0 0], .flt x14, .flt (fadd x13 x14), .flt (fadd (fadd xr xr_1) xr_2), .flt xr, .flt xr_1, .flt xr_2, .flt (fmm true (fmm true (fmm true (fadd (fadd xr xr_1) xr_2) xr) xr_1) xr_2), .flt (fmm true (fmm true (fmm true (fadd (fadd xr xr_1) xr_2) xr) xr_1) xr_2), .any, .any, .any, .any, .any, .any, .any, .any, .any, .any, .bool true, .flt (fadd (fadd xr xr_1) xr_2), .bool (feq (fmm true (fmm true (fmm true (fadd (fadd xr xr_1) xr_2) xr) xr_1) xr_2) (fadd (fadd xr xr_1) xr_2)), .flt (fadd (fadd xr xr_1) xr_2), .flt (fadd (some 4607182418800017408) (fadd (fadd xr xr_1) xr_2)), .flt (fsub xr_3 xr_4), .flt (fsub xr_5 xr_6), .flt (fsub xr_7 xr_8), .agg [.flt (fadd (some 4607182418800017408) (fadd (fadd xr xr_1) xr_2)), .flt (fsub xr_3 xr_4), .flt (fsub xr_5 xr_6), .flt (fsub xr_7 xr_8)], .any, .any, .any, .any, .any, .any, .any, .any, .any, .any, .any, .any, .any, .any, .any, .any, .any, .any, .any, .any, .any, .any, .any, .any, .any, .any, .any, .any, .any, .any, .any, .any, .any, .any, .any, .any, .any, .any, .any] [some ⟨55, 1, .cells [.int .i64 m_0, .int .i64 m_1, .rof m_2]⟩, some ⟨28, 1, .flts [(fadd (fadd xr xr_1) xr_2)]⟩] m_0 m_1 m_2 (fadd (some 4607182418800017408) (fadd (fadd xr xr_1) xr_2)) (fsub xr_3 xr_4) (fsub xr_5 xr_6) (fsub xr_7 xr_8))) (cond (feq (fmm true (fmm true (fmm true (fadd (fadd xr xr_1) xr_2) xr) xr_1) xr_2) xr) (κn_ (lsZ164 [.agg [.int .i64 m_0, .int .i64 m_1, .rof m_2], .ptr 0 0, .int .i64 0, .int .i64 nr, .fn 71 [.ptr 0 0], .flt xr, .flt xr_1, .flt xr_2, .flt (fadd (fadd xr xr_1) xr_2), .flt (fsub xr_3 xr_4), .flt (fsub xr_5 xr_6), .flt (fsub xr_7 xr_8), .flt (fadd xr_9 xr_10), .flt (fadd x11 x12), .flt (fadd x13 x14), .flt (fmm true (fmm true (fmm true (fadd (fadd xr xr_1) xr_2) xr) xr_1) xr_2), .any, .any, .agg [.int .i64 m_0, .int .i64 m_1, .rof m_2], .int .i64 nr, .int .i64 nr, .bool false, .any, .any, .ptr 0 0, .int .i64 m_0, .bool (m_0 != 3), .bool false, .ptr 0 1, .int .i64 m_1, .bool (m_1 != 3), .bool false, .any, .fn 71 [.ptr 0 0], .fn 71 [.ptr 0 0], .flt xr, .fn 71 [.ptr 0 0], .flt xr_1, .fn 71 [.ptr 0 0], .flt xr_2, .flt xr, .flt xr_1, .flt (fadd xr xr_1), .flt xr_2, .flt (fadd (fadd xr xr_1) xr_2), .flt (fadd (fadd xr xr_1) xr_2), .slw 2, .bool cr, .bool false, .any, .fn 71 [.ptr 0 0], .flt xr_3, .fn 71 [.ptr 0 0], .flt xr_4, .flt (fsub xr_3 xr_4), .fn 71 [.ptr 0 0], .flt xr_5, .fn 71 [.ptr 0 0], .flt xr_6, .flt (fsub xr_5 xr_6), .fn 71 [.ptr 0 0], .flt xr_7, .fn 71 [.ptr 0 0], .flt xr_8, .flt (fsub xr_7 xr_8), .fn 71 [.ptr 0 0], .flt xr_9, .fn 71 [.ptr 0 0], .flt xr_10, .flt (fadd xr_9 xr_10), .fn 71 [.ptr 0 0], .flt x11, .fn 71 [.ptr 0 0], .flt x12, .flt (fadd x11 x12), .fn 71 [.ptr 0 0], .flt x13, .fn 71 [.ptr 0 0], .flt x14, .flt (fadd x13 x14), .flt (fadd (fadd xr xr_1) xr_2), .flt xr, .flt xr_1, .flt xr_2, .flt (fmm true (fmm true (fmm true (fadd (fadd xr xr_1) xr_2) xr) xr_1) xr_2), .flt (fmm true (fmm true (fmm true (fadd (fadd xr xr_1) xr_2) xr) xr_1) xr_2), .any, .any, .any, .any, .any, .any, .any, .any, .any, .any, .bool false, .flt (fadd (fadd xr xr_1) xr_2), .bool (feq (fmm true (fmm true (fmm true (fadd (fadd xr xr_1) xr_2) xr) xr_1) xr_2) (fadd (fadd xr xr_1) xr_2)), .any, .any, .any, .any, .any, .any, .bool true, .flt xr, .bool (feq (fmm true (fmm true (fmm true (fadd (fadd xr xr_1) xr_2) xr) xr_1) xr_2) xr), .flt (fsub xr_3 xr_4), .flt xr, .flt (fadd (some 4607182418800017408) xr), .flt xr_1, .flt (fsub (fadd (some 4607182418800017408) xr) xr_1), .flt xr_2, .flt (fsub (fsub (fadd (some 4607182418800017408) xr) xr_1) xr_2), .flt (fadd xr_9 xr_10), .flt (fadd x11 x12), .agg [.flt (fsub xr_3 xr_4), .flt (fsub (fsub (fadd (some 4607182418800017408) xr) xr_1) xr_2), .flt (fadd xr_9 xr_10), .flt (fadd x11 x12)], .any, .any, .any, .any, .any, .any, .any, .any, .any, .any, .any, .any, .any, .any, .any, .any, .any, .any, .any, .any, .any, .any, .any, .any, .any, .any] [some ⟨55, 1, .cells [.int .i64 m_0, .int .i64 m_1, .rof m_2]⟩, some ⟨28, 1, .flts [(fadd (fadd xr xr_1) xr_2)]⟩] m_0 m_1 m_2 (fsub xr_3 xr_4) (fsub (fsub (fadd (some 4607182418800017408) xr) xr_1) xr_2) (fadd xr_9 xr_10) (fadd x11 x12))) (cond (feq (fmm true (fmm true (fmm true (fadd (fadd xr xr_1) xr_2) xr) xr_1) xr_2) xr_1) (κn_ (lsZ164 [.agg [.int .i64 m_0, .int .i64 m_1, .rof m_2], .ptr 0 0, .int .i64 0, .int .i64 nr, .fn 71 [.ptr 0 0], .flt xr, .flt xr_1, .flt xr_2, .flt (fadd (fadd xr xr_1) xr_2), .flt (fsub xr_3 xr_4), .flt (fsub xr_5 xr_6), .flt (fsub xr_7 xr_8), .flt (fadd xr_9 xr_10), .flt (fadd x11 x12), .flt (fadd x13 x14), .flt (fmm true (fmm true (fmm true (fadd (fadd xr xr_1) xr_2) xr) xr_1) xr_2), .any, .any, .agg [.int .i64 m_0, .int .i64 m_1, .rof m_2], .int .i64 nr, .int .i64 nr, .bool false, .any, .any, .ptr 0 0, .int .i64 m_0, .bool (m_0 != 3), .bool false, .ptr 0 1, .int .i64 m_1, .bool (m_1 != 3), .bool false, .any, .fn 71 [.ptr 0 0], .fn 71 [.ptr 0 0], .flt xr, .fn 71 [.ptr 0 0], .flt xr_1, .fn 71 [.ptr 0 0], .flt xr_2, .flt xr, .flt xr_1, .flt (fadd xr xr_1), .flt xr_2, .flt (fadd (fadd xr xr_1) xr_2), .flt (fadd (fadd xr xr_1) xr_2), .slw 2, .bool cr, .bool false, .any, .fn 71 [.ptr 0 0], .flt xr_3, .fn 71 [.ptr 0 0], .flt xr_4, .flt (fsub xr_3 xr_4), .fn 71 [.ptr 0 0], .flt xr_5, .fn 71 [.ptr 0 0], .flt xr_6, .flt (fsub xr_5 xr_6), .fn 71 [.ptr 0 0], .flt xr_7, .fn 71 [.ptr 0 0], .flt xr_8, .flt (fsub xr_7 xr_8), .fn 71 [.ptr 0 0], .flt xr_9, .fn 71 [.ptr 0 0], .flt xr_10, .flt (fadd xr_9 xr_10), .fn 71 [.ptr 0 0], .flt x11, .fn 71 [.ptr 0 0], .flt x12, .flt (fadd x11 x12), .fn 71 [.ptr 0 0], .flt x13, .fn 71 [.ptr 0 0], .flt x14, .flt (fadd x13 x14), .flt (fadd (fadd xr xr_1) xr_2), .flt xr, .flt xr_1, .flt xr_2, .flt (fmm true (fmm true (fmm true (fadd (fadd xr xr_1) xr_2) xr) xr_1) xr_2), .flt (fmm true (fmm true (fmm true (fadd (fadd xr xr_1) xr_2) xr) xr_1) xr_2), .any, .any, .any, .any, .any, .any, .any, .any, .any, .any, .bool false, .flt (fadd (fadd xr xr_1) xr_2), .bool (feq (fmm true (fmm true (fmm true (fadd (fadd xr xr_1) xr_2) xr) xr_1) xr_2) (fadd (fadd xr xr_1) xr_2)), .any, .any, .any, .any, .any, .any, .bool false, .flt xr, .bool (feq (fmm true (fmm true (fmm true (fadd (fadd xr xr_1) xr_2) xr) xr_1) xr_2) xr), .any, .any, .any, .any, .any, .any, .any, .any, .any, .any, .bool true, .flt xr_1, .bool (feq (fmm true (fmm true (fmm true (fadd (fadd xr xr_1) xr_2) xr) xr_1) xr_2) xr_1), .flt (fsub xr_5 xr_6), .flt (fadd xr_9 xr_10), .flt xr, .flt (fsub (some 4607182418800017408) xr), .flt xr_1, .flt (fadd (fsub (some 4607182418800017408) xr) xr_1), .flt xr_2, .flt (fsub (fadd (fsub (some 4607182418800017408) xr) xr_1) xr_2), .flt (fadd x13 x14), .agg [.flt (fsub xr_5 xr_6), .flt (fadd xr_9 xr_10), .flt (fsub (fadd (fsub (some 4607182418800017408) xr) xr_1) xr_2), .flt (fadd x13 x14)], .any, .any, .any, .any, .any, .any, .any, .any, .any, .any, .any, .any, .any] [some ⟨55, 1, .cells [.int .i64 m_0, .int .i64 m_1, .rof m_2]⟩, some ⟨28, 1, .flts [(fadd (fadd xr xr_1) xr_2)]⟩] m_0 m_1 m_2 (fsub xr_5 xr_6) (fadd xr_9 xr_10) (fsub (fadd (fsub (some 4607182418800017408) xr) xr_1) xr_2) (fadd x13 x14))) (κn_ (lsZ164 [.agg [.int .i64 m_0, .int .i64 m_1, .rof m_2], .ptr 0 0, .int .i64 0, .int .i64 nr, .fn 71 [.ptr 0 0], .flt xr, .flt xr_1, .flt xr_2, .flt (fadd (fadd xr xr_1) xr_2), .flt (fsub xr_3 xr_4), .flt (fsub xr_5 xr_6), .flt (fsub xr_7 xr_8), .flt (fadd xr_9 xr_10), .flt (fadd x11 x12), .flt (fadd x13 x14), .flt (fmm true (fmm true (fmm true (fadd (fadd xr xr_1) xr_2) xr) xr_1) xr_2), .any, .any, .agg [.int .i64 m_0, .int .i64 m_1, .rof m_2], .int .i64 nr, .int .i64 nr, .bool false, .any, .any, .ptr 0 0, .int .i64 m_0, .bool (m_0 != 3), .bool false, .ptr 0 1, .int .i64 m_1, .bool (m_1 != 3), .bool false, .any, .fn 71 [.ptr 0 0], .fn 71 [.ptr 0 0], .flt xr, .fn 71 [.ptr 0 0], .flt xr_1, .fn 71 [.ptr 0 0], .flt xr_2, .flt xr, .flt xr_1, .flt (fadd xr xr_1), .flt xr_2, .flt (fadd (fadd xr xr_1) xr_2), .flt (fadd (fadd xr xr_1) xr_2), .slw 2, .bool cr, .bool false, .any, .fn 71 [.ptr 0 0], .flt xr_3, .fn 71 [.ptr 0 0], .flt xr_4, .flt (fsub xr_3 xr_4), .fn 71 [.ptr 0 0], .flt xr_5, .fn 71 [.ptr 0 0], .flt xr_6, .flt (fsub xr_5 xr_6), .fn 71 [.ptr 0 0], .flt xr_7, .fn 71 [.ptr 0 0], .flt xr_8, .flt (fsub xr_7 xr_8), .fn 71 [.ptr 0 0], .flt xr_9, .fn 71 [.ptr 0 0], .flt xr_10, .flt (fadd xr_9 xr_10), .fn 71 [.ptr 0 0], .flt x11, .fn 71 [.ptr 0 0], .flt x12, .flt (fadd x11 x12), .fn 71 [.ptr 0 0], .flt x13, .fn 71 [.ptr 0 0], .flt x14, .flt (fadd x13 x14), .flt (fadd (fadd xr xr_1) xr_2), .flt xr, .flt xr_1, .flt xr_2, .flt (fmm true (fmm true (fmm true (fadd (fadd xr xr_1) xr_2) xr) xr_1) xr_2), .flt (fmm true (fmm true (fmm true (fadd (fadd xr xr_1) xr_2) xr) xr_1) xr_2), .flt (fsub xr_7 xr_8), .flt (fadd x11 x12), .flt (fadd x13 x14), .flt xr, .flt (fsub (some 4607182418800017408) xr), .flt xr_1, .flt (fsub (fsub (some 4607182418800017408) xr) xr_1), .flt xr_2, .flt (fadd (fsub (fsub (some 4607182418800017408) xr) xr_1) xr_2), .agg [.flt (fsub xr_7 xr_8), .flt (fadd x11 x12), .flt (fadd x13 x14), .flt (fadd (fsub (fsub (some 4607182418800017408) xr) xr_1) xr_2)], .bool false, .flt (fadd (fadd xr xr_1) xr_2), .bool (feq (fmm true (fmm true (fmm true (fadd (fadd xr xr_1) xr_2) xr) xr_1) xr_2) (fadd (fadd xr xr_1) xr_2)), .any, .any, .any, .any, .any, .any, .bool false, .flt xr, .bool (feq (fmm true (fmm true (fmm true (fadd (fadd xr xr_1) xr_2) xr) xr_1) xr_2) xr), .any, .any, .any, .any, .any, .any, .any, .any, .any, .any, .bool false, .flt xr_1, .bool (feq (fmm true (fmm true (fmm true (fadd (fadd xr xr_1) xr_2) xr) xr_1) xr_2) xr_1), .any, .any, .any, .any, .any, .any, .any, .any, .any, .any, .any, .any, .any, .any, .any, .any, .any, .any, .any, .any, .any, .any, .any] [some ⟨55, 1, .cells [.int .i64 m_0, .int .i64 m_1, .rof m_2]⟩, some ⟨28, 1, .flts [(fadd (fadd xr xr_1) xr_2)]⟩] m_0 m_1 m_2 (fsub xr_7 xr_8) (fadd x11 x12) (fadd x13 x14) (fadd (fsub (fsub (some 4607182418800017408) xr) xr_1) xr_2)))))))))))))))))))))))))))))))))))))))) (c_ (.tup [.agg [.flt (some 0), .flt (some 0), .flt (some 0), .flt (some 0)], .int .i64 3]) []))))) := by kernel_rfl
theorem jn_quat_From_w (N : Nat) (SZ72 : TSZ72) (SZ27 : TSZ27) (SZ14 : TSZ14) (SZ87 : TSZ87) (SZ62 : TSZ62) (m_0 m_1 : Int) (m_2 : List Fl) (c_ : V -> List Blk -> Bool) : codesV ⟨Pg, ofList [(70, (FZ72 SZ72)), (71, (FZ27 SZ27)), (48, (FZ14 SZ14)), (72, (FZ87 SZ87)), (35, (FZ62 SZ62))], isref, N⟩ 0 (anZ77 N SZ72 SZ27 SZ14 SZ87 SZ62) ((cds Pg 30).drop 0) 0 (st0 Pg 30 (shFZ77.args [.int m_0, .int m_1, .fls m_2]) []) (finV Pg 30 0 c_) = GZ77 N SZ72 SZ27 SZ14 SZ87 SZ62 m_0 m_1 m_2 (fun r0 r1 r2 r3 r4 => c_ (.tup [.agg [.flt r0, .flt r1, .flt r2, .flt r3], .int .i64 r4]) []) := by
 rw [codesV_cut 0 17 17 rfl]
 refine (hd_quat_From_w N SZ72 SZ27 SZ14 SZ87 SZ62 m_0 m_1 m_2 c_ _).trans ?_
 simp only [jnZ164]
 kernel_rfl
theorem eqZ77 (N : Nat) (SZ72 : TSZ72) (SZ27 : TSZ27) (SZ14 : TSZ14) (SZ87 : TSZ87) (SZ62 : TSZ62) (m_0 m_1 : Int) (m_2 : List Fl) (c_ : V -> List Blk -> Bool) : bodyV ⟨Pg, ofList [(70, (FZ72 SZ72)), (71, (FZ27 SZ27)), (48, (FZ14 SZ14)), (72, (FZ87 SZ87)), (35, (FZ62 SZ62))], isref, N⟩ (anZ77 N SZ72 SZ27 SZ14 SZ87 SZ62) 30 (shFZ77.args [.int m_0, .int m_1, .fls m_2]) [] c_ = GZ77 N SZ72 SZ27 SZ14 SZ87 SZ62 m_0 m_1 m_2 (fun r0 r1 r2 r3 r4 => c_ (.tup [.agg [.flt r0, .flt r1, .flt r2, .flt r3], .int .i64 r4]) []) :=
 (bodyV_codes (by kernel_rfl)).trans (jn_quat_From_w N SZ72 SZ27 SZ14 SZ87 SZ62 m_0 m_1 m_2 c_)
theorem goodZ77 (N : Nat) (SZ72 : TSZ72) (SZ27 : TSZ27) (SZ14 : TSZ14) (SZ87 : TSZ87) (SZ62 : TSZ62) (hZ72 : GoodF Pg 70 (FZ72 SZ72)) (hZ27 : GoodF Pg 71 (FZ27 SZ27)) (hZ14 : GoodF Pg 48 (FZ14 SZ14)) (hZ87 : GoodF Pg 72 (FZ87 SZ87)) (hZ62 : GoodF Pg 35 (FZ62 SZ62)) : GoodF Pg 30 (FZ77 (GZ77 N SZ72 SZ27 SZ14 SZ87 SZ62)) := by
 refine good_fs (cx := ⟨Pg, ofList [(70, (FZ72 SZ72)), (71, (FZ27 SZ27)), (48, (FZ14 SZ14)), (72, (FZ87 SZ87)), (35, (FZ62 SZ62))], isref, N⟩) (ofList_cons hZ72 (ofList_cons hZ27 (ofList_cons hZ14 (ofList_cons hZ87 (ofList_cons hZ62 (ofList_nil _)))))) shFZ77 (spZ77 (GZ77 N SZ72 SZ27 SZ14 SZ87 SZ62)) (anZ77 N SZ72 SZ27 SZ14 SZ87 SZ62) 0 0 (by kernel_rfl) (fun i_ hi_ => by omega) ?_
 intro a k h
 unfold spZ77 at h
 split at h
 ·exact ⟨[], rfl, rfl, (eqZ77 _ _ _ _ _ _ _ _ _ _).trans h⟩
 ·cases h
def anZ132 (N : Nat) (SZ10 : TSZ10) : Nat -> Option Ann := fun b_ => none
theorem eqZ132 (N : Nat) (SZ10 : TSZ10) (q_0 q_1 q_2 q_3 : Fl) (c_ : V -> List Blk -> Bool) : bodyV ⟨Pg, ofList [(42, (FZ10 SZ10))], isref, N⟩ (anZ132 N SZ10) 23 (shFZ132.args [.fl q_0, .fl q_1, .fl q_2, .fl q_3]) [] c_ = GZ132 N SZ10 q_0 q_1 q_2 q_3 (fun r0 r1 r2 r3 r4 => c_ (.tup [.agg [.flt r0, .flt r1, .flt r2, .flt r3], .int .i64 r4]) []) := by kernel_rfl
theorem goodZ132 (N : Nat) (SZ10 : TSZ10) (hZ10 : GoodF Pg 42 (FZ10 SZ10)) : GoodF Pg 23 (FZ132 (GZ132 N SZ10)) := by
 refine good_fs (cx := ⟨Pg, ofList [(42, (FZ10 SZ10))], isref, N⟩) (ofList_cons hZ10 (ofList_nil _)) shFZ132 (spZ132 (GZ132 N SZ10)) (anZ132 N SZ10) 0 0 (by kernel_rfl) (fun i_ hi_ => by omega) ?_
 intro a k h
 unfold spZ132 at h
 split at h
 ·exact ⟨[], rfl, rfl, (eqZ132 _ _ _ _ _ _ _).trans h⟩
 ·cases h
def anZ149 (N : Nat) (SZ66 : TSZ66) : Nat -> Option Ann := fun b_ => none
theorem eqZ149 (N : Nat) (SZ66 : TSZ66) (x : List Fl) (c_ : V -> List Blk -> Bool) : bodyV ⟨Pg, ofList [(84, (FZ66 SZ66))], isref, N⟩ (anZ149 N SZ66) 119 (shFZ149.args [.fls x]) [] c_ = GZ149 N SZ66 x (fun r0 => c_ (.int .i64 r0) []) := by kernel_rfl
theorem goodZ149 (N : Nat) (SZ66 : TSZ66) (hZ66 : GoodF Pg 84 (FZ66 SZ66)) : GoodF Pg 119 (FZ149 (GZ149 N SZ66)) := by
 refine good_fs (cx := ⟨Pg, ofList [(84, (FZ66 SZ66))], isref, N⟩) (ofList_cons hZ66 (ofList_nil _)) shFZ149 (spZ149 (GZ149 N SZ66)) (anZ149 N SZ66) 0 0 (by kernel_rfl) (fun i_ hi_ => by omega) ?_
 intro a k h
 unfold spZ149 at h
 split at h
 ·exact ⟨[], rfl, rfl, (eqZ149 _ _ _ _).trans h⟩
 ·cases h
def sh_st_qr_power_0 : StSh := ⟨(.rof :: (.any :: (.any :: (.any :: (.flt :: (sqs 4 (.int .i64 :: (.int .i64 :: (sqs 19 []))))))))), []⟩
def sx0_st_qr_power_0 : StSh := ⟨(sqs 4 (.flt :: (sqs 25 []))), []⟩
def hk_st_qr_power_0 (N : Nat) (S_m_Abs : TS_m_Abs) (SZ108 : TSZ108) : List Atom -> K -> Bool := fun a_ κ => match a_ with
 | [.fls x_1, .fl most, .int t9, .int t10] => iterG N (st_qr_power_0 N S_m_Abs SZ108 x_1 t9 (fun r0 => κ.ext 0 (sx0_st_qr_power_0.build [.fl r0]))) (most, t10)
 | _ => false
def anZ136 (N : Nat) (S_m_Abs : TS_m_Abs) (SZ108 : TSZ108) : Nat -> Option Ann := fun b_ => cond (b_ == 0) (some ⟨⟨[0, 4, 9, 10], [], []⟩, [(0, ⟨[4], [], []⟩)], some ⟨[2, 3], [], []⟩, some (mkHooks [(sh_st_qr_power_0, hk_st_qr_power_0 N S_m_Abs SZ108)])⟩) (none)
theorem eq_st_qr_power_0 (N : Nat) (S_m_Abs : TS_m_Abs) (SZ108 : TSZ108) (κ : K) (x_1 : List Fl) (most : Fl) (t9 t10 : Int) : iter N (fun s k => codeV ⟨Pg, ofList [(47, (F_m_Abs S_m_Abs)), (75, (FZ108 SZ108))], isref, N⟩ 0 (anZ136 N S_m_Abs SZ108) (lp Pg 152 0).2 (lp Pg 152 0).1 s (roundK Pg 0 ((anZ136 N S_m_Abs SZ108) (lp Pg 152 0).1) κ k)) (sh_st_qr_power_0.build [.fls x_1, .fl most, .int t9, .int t10]) = iterG N (st_qr_power_0 N S_m_Abs SZ108 x_1 t9 (fun r0 => κ.ext 0 (sx0_st_qr_power_0.build [.fl r0]))) (most, t10) :=
 iter_tr (fun (v_ : Fl × Int) => sh_st_qr_power_0.build [.fls x_1, .fl v_.1, .int t9, .int v_.2]) (fun v_ K_ => by obtain ⟨most, t10⟩ := v_; kernel_rfl) N (most, t10)
theorem hk1_st_qr_power_0 (N : Nat) (S_m_Abs : TS_m_Abs) (SZ108 : TSZ108) : HookFor ⟨Pg, ofList [(47, (F_m_Abs S_m_Abs)), (75, (FZ108 SZ108))], isref, N⟩ 0 (anZ136 N S_m_Abs SZ108) (lp Pg 152 0) (sh_st_qr_power_0, hk_st_qr_power_0 N S_m_Abs SZ108) := by
 intro a κ h
 simp only at h
 unfold hk_st_qr_power_0 at h
 split at h
 ·exact (eq_st_qr_power_0 _ _ _ _ _ _ _ _).trans h
 ·cases h
theorem ho_qr_power_0 (N : Nat) (S_m_Abs : TS_m_Abs) (SZ108 : TSZ108) : HookOk ⟨Pg, ofList [(47, (F_m_Abs S_m_Abs)), (75, (FZ108 SZ108))], isref, N⟩ 0 (anZ136 N S_m_Abs SZ108) (lp Pg 152 0) :=
 hooks_ok [(sh_st_qr_power_0, hk_st_qr_power_0 N S_m_Abs SZ108)] (by kernel_rfl) ⟨hk1_st_qr_power_0 _ _ _, trivial⟩
theorem eqZ136 (N : Nat) (S_m_Abs : TS_m_Abs) (SZ108 : TSZ108) (x : List Fl) (c_ : V -> List Blk -> Bool) : bodyV ⟨Pg, ofList [(47, (F_m_Abs S_m_Abs)), (75, (FZ108 SZ108))], isref, N⟩ (anZ136 N S_m_Abs SZ108) 152 (shFZ136.args [.fls x]) [] c_ = GZ136 N S_m_Abs SZ108 x (fun r0 r1 => c_ (.tup [.int .i64 r0, .bool r1]) []) := by kernel_rfl
theorem goodZ136 (N : Nat) (S_m_Abs : TS_m_Abs) (SZ108 : TSZ108) (h_m_Abs : GoodF Pg 47 (F_m_Abs S_m_Abs)) (hZ108 : GoodF Pg 75 (FZ108 SZ108)) : GoodF Pg 152 (FZ136 (GZ136 N S_m_Abs SZ108)) := by
 refine good_fs (cx := ⟨Pg, ofList [(47, (F_m_Abs S_m_Abs)), (75, (FZ108 SZ108))], isref, N⟩) (ofList_cons h_m_Abs (ofList_cons hZ108 (ofList_nil _))) shFZ136 (spZ136 (GZ136 N S_m_Abs SZ108)) (anZ136 N S_m_Abs SZ108) 1 0 (by kernel_rfl) (fun i_ hi_ => by
  match i_, hi_ with
  | 0, _ => exact ho_qr_power_0 _ _ _
  | (q + 1), h => omega) ?_
 intro a k h
 unfold spZ136 at h
 split at h
 ·exact ⟨[], rfl, rfl, (eqZ136 _ _ _ _ _).trans h⟩
 ·cases h
def sh_st_qr_scaled_0 : StSh := ⟨(.rof :: (.int .i64 :: (sqs 4 (.slw 0 :: (.flt :: (sqs 5 (.int .i64 :: (.int .i64 :: (sqs 27 []))))))))), [some (28, 1, .flts)]⟩
def sx0_st_qr_scaled_0 : StSh := ⟨(sqs 6 (.slw 0 :: (.flt :: (sqs 34 [])))), [some (28, 1, .flts)]⟩
def hk_st_qr_scaled_0 (N : Nat) (SZ48 : TSZ48) (SZ138 : TSZ138) : List Atom -> K -> Bool := fun a_ κ => match a_ with
 | [.fls x_1, .int k__1, .fl s, .int t13, .int t14, .fls y] => iterG N (st_qr_scaled_0 N SZ48 SZ138 x_1 k__1 t13 (fun r0 r1 => κ.ext 0 (sx0_st_qr_scaled_0.build [.fl r0, .fls r1]))) (s, t14, y)
 | _ => false
def anZ124 (N : Nat) (SZ48 : TSZ48) (SZ138 : TSZ138) : Nat -> Option Ann := fun b_ => cond (b_ == 0) (some ⟨⟨[0, 1, 6, 7, 13, 14], [], []⟩, [(0, ⟨[6, 7], [], []⟩)], some ⟨[4, 5], [], []⟩, some (mkHooks [(sh_st_qr_scaled_0, hk_st_qr_scaled_0 N SZ48 SZ138)])⟩) (none)
theorem eq_st_qr_scaled_0 (N : Nat) (SZ48 : TSZ48) (SZ138 : TSZ138) (κ : K) (x_1 : List Fl) (k__1 : Int) (s : Fl) (t13 t14 : Int) (y : List Fl) : iter N (fun s k => codeV ⟨Pg, ofList [(26, (FZ48 SZ48)), (76, (FZ138 SZ138))], isref, N⟩ 0 (anZ124 N SZ48 SZ138) (lp Pg 153 0).2 (lp Pg 153 0).1 s (roundK Pg 0 ((anZ124 N SZ48 SZ138) (lp Pg 153 0).1) κ k)) (sh_st_qr_scaled_0.build [.fls x_1, .int k__1, .fl s, .int t13, .int t14, .fls y]) = iterG N (st_qr_scaled_0 N SZ48 SZ138 x_1 k__1 t13 (fun r0 r1 => κ.ext 0 (sx0_st_qr_scaled_0.build [.fl r0, .fls r1]))) (s, t14, y) :=
 iter_tr (fun (v_ : Fl × Int × List Fl) => sh_st_qr_scaled_0.build [.fls x_1, .int k__1, .fl v_.1, .int t13, .int v_.2.1, .fls v_.2.2]) (fun v_ K_ => by obtain ⟨s, t14, y⟩ := v_; kernel_rfl) N (s, t14, y)
theorem hk1_st_qr_scaled_0 (N : Nat) (SZ48 : TSZ48) (SZ138 : TSZ138) : HookFor ⟨Pg, ofList [(26, (FZ48 SZ48)), (76, (FZ138 SZ138))], isref, N⟩ 0 (anZ124 N SZ48 SZ138) (lp Pg 153 0) (sh_st_qr_scaled_0, hk_st_qr_scaled_0 N SZ48 SZ138) := by
 intro a κ h
 simp only at h
 unfold hk_st_qr_scaled_0 at h
 split at h
 ·exact (eq_st_qr_scaled_0 _ _ _ _ _ _ _ _ _ _).trans h
 ·cases h
theorem ho_qr_scaled_0 (N : Nat) (SZ48 : TSZ48) (SZ138 : TSZ138) : HookOk ⟨Pg, ofList [(26, (FZ48 SZ48)), (76, (FZ138 SZ138))], isref, N⟩ 0 (anZ124 N SZ48 SZ138) (lp Pg 153 0) :=
 hooks_ok [(sh_st_qr_scaled_0, hk_st_qr_scaled_0 N SZ48 SZ138)] (by kernel_rfl) ⟨hk1_st_qr_scaled_0 _ _ _, trivial⟩
theorem eqZ124 (N : Nat) (SZ48 : TSZ48) (SZ138 : TSZ138) (x : List Fl) (k_ : Int) (c_ : V -> List Blk -> Bool) : bodyV ⟨Pg, ofList [(26, (FZ48 SZ48)), (76, (FZ138 SZ138))], isref, N⟩ (anZ124 N SZ48 SZ138) 153 (shFZ124.args [.fls x, .int k_]) [] c_ = GZ124 N SZ48 SZ138 x k_ (fun r0 r1 => c_ (.tup [.slw 0, .flt r0]) [⟨28, 1, .flts r1⟩]) := by kernel_rfl
theorem goodZ124 (N : Nat) (SZ48 : TSZ48) (SZ138 : TSZ138) (hZ48 : GoodF Pg 26 (FZ48 SZ48)) (hZ138 : GoodF Pg 76 (FZ138 SZ138)) : GoodF Pg 153 (FZ124 (GZ124 N SZ48 SZ138)) := by
 refine good_fs (cx := ⟨Pg, ofList [(26, (FZ48 SZ48)), (76, (FZ138 SZ138))], isref, N⟩) (ofList_cons hZ48 (ofList_cons hZ138 (ofList_nil _))) shFZ124 (spZ124 (GZ124 N SZ48 SZ138)) (anZ124 N SZ48 SZ138) 1 0 (by kernel_rfl) (fun i_ hi_ => by
  match i_, hi_ with
  | 0, _ => exact ho_qr_scaled_0 _ _ _
  | (q + 1), h => omega) ?_
 intro a k h
 unfold spZ124 at h
 split at h
 ·exact ⟨[], rfl, rfl, (eqZ124 _ _ _ _ _ _).trans h⟩
 ·cases h
def anZ123 (N : Nat) (SZ136 : TSZ136) (SZ124 : TSZ124) (SZ48 : TSZ48) : Nat -> Option Ann := fun b_ => none
theorem eqZ123 (N : Nat) (SZ136 : TSZ136) (SZ124 : TSZ124) (SZ48 : TSZ48) (x : List Fl) (c_ : V -> List Blk -> Bool) : bodyV ⟨Pg, ofList [(152, (FZ136 SZ136)), (153, (FZ124 SZ124)), (26, (FZ48 SZ48))], isref, N⟩ (anZ123 N SZ136 SZ124 SZ48) 120 (shFZ123.args [.fls x]) [] c_ = GZ123 N SZ136 SZ124 SZ48 x (fun r0 => c_ (.flt r0) []) := by kernel_rfl
theorem goodZ123 (N : Nat) (SZ136 : TSZ136) (SZ124 : TSZ124) (SZ48 : TSZ48) (hZ136 : GoodF Pg 152 (FZ136 SZ136)) (hZ124 : GoodF Pg 153 (FZ124 SZ124)) (hZ48 : GoodF Pg 26 (FZ48 SZ48)) : GoodF Pg 120 (FZ123 (GZ123 N SZ136 SZ124 SZ48)) := by
 refine good_fs (cx := ⟨Pg, ofList [(152, (FZ136 SZ136)), (153, (FZ124 SZ124)), (26, (FZ48 SZ48))], isref, N⟩) (ofList_cons hZ136 (ofList_cons hZ124 (ofList_cons hZ48 (ofList_nil _)))) shFZ123 (spZ123 (GZ123 N SZ136 SZ124 SZ48)) (anZ123 N SZ136 SZ124 SZ48) 0 0 (by kernel_rfl) (fun i_ hi_ => by omega) ?_
 intro a k h
 unfold spZ123 at h
 split at h
 ·exact ⟨[], rfl, rfl, (eqZ123 _ _ _ _ _ _).trans h⟩
 ·cases h
def anZ130 (N : Nat) : Nat -> Option Ann := fun b_ => none
theorem eqZ130 (N : Nat) (x : Fl) (c_ : V -> List Blk -> Bool) : bodyV ⟨Pg, ofList [], isref, N⟩ (anZ130 N) 121 (shFZ130.args [.fl x]) [] c_ = GZ130 N x (fun r0 => c_ (.bool r0) []) := by kernel_rfl
theorem goodZ130 (N : Nat) : GoodF Pg 121 (FZ130 (GZ130 N)) := by
 refine good_fs (cx := ⟨Pg, ofList [], isref, N⟩) (ofList_nil _) shFZ130 (spZ130 (GZ130 N)) (anZ130 N) 0 0 (by kernel_rfl) (fun i_ hi_ => by omega) ?_
 intro a k h
 unfold spZ130 at h
 split at h
 ·exact ⟨[], rfl, rfl, (eqZ130 _ _ _).trans h⟩
 ·cases h
def anZ120 (N : Nat) (SZ149 : TSZ149) (SZ123 : TSZ123) (SZ130 : TSZ130) : Nat -> Option Ann := fun b_ => none
theorem eqZ120 (N : Nat) (SZ149 : TSZ149) (SZ123 : TSZ123) (SZ130 : TSZ130) (x : List Fl) (c_ : V -> List Blk -> Bool) : bodyV ⟨Pg, ofList [(119, (FZ149 SZ149)), (120, (FZ123 SZ123)), (121, (FZ130 SZ130))], isref, N⟩ (anZ120 N SZ149 SZ123 SZ130) 73 (shFZ120.args [.fls x]) [] c_ = GZ120 N SZ149 SZ123 SZ130 x (fun r0 r1 => c_ (.tup [.flt r0, .int .i64 r1]) []) := by kernel_rfl
theorem goodZ120 (N : Nat) (SZ149 : TSZ149) (SZ123 : TSZ123) (SZ130 : TSZ130) (hZ149 : GoodF Pg 119 (FZ149 SZ149)) (hZ123 : GoodF Pg 120 (FZ123 SZ123)) (hZ130 : GoodF Pg 121 (FZ130 SZ130)) : GoodF Pg 73 (FZ120 (GZ120 N SZ149 SZ123 SZ130)) := by
 refine good_fs (cx := ⟨Pg, ofList [(119, (FZ149 SZ149)), (120, (FZ123 SZ123)), (121, (FZ130 SZ130))], isref, N⟩) (ofList_cons hZ149 (ofList_cons hZ123 (ofList_cons hZ130 (ofList_nil _)))) shFZ120 (spZ120 (GZ120 N SZ149 SZ123 SZ130)) (anZ120 N SZ149 SZ123 SZ130) 0 0 (by kernel_rfl) (fun i_ hi_ => by omega) ?_
 intro a k h
 unfold spZ120 at h
 split at h
 ·exact ⟨[], rfl, rfl, (eqZ120 _ _ _ _ _ _).trans h⟩
 ·cases h
def anZ68 (N : Nat) (SZ79 : TSZ79) (SZ132 : TSZ132) (SZ118 : TSZ118) (SZ120 : TSZ120) : Nat -> Option Ann := fun b_ => none
theorem eqZ68 (N : Nat) (SZ79 : TSZ79) (SZ132 : TSZ132) (SZ118 : TSZ118) (SZ120 : TSZ120) (a_0 a_1 a_2 a_3 b_0 b_1 b_2 b_3 : Fl) (c_ : V -> List Blk -> Bool) : bodyV ⟨Pg, ofList [(42, (FZ79 SZ79)), (23, (FZ132 SZ132)), (40, (FZ118 SZ118)), (73, (FZ120 SZ120))], isref, N⟩ (anZ68 N SZ79 SZ132 SZ118 SZ120) 31 (shFZ68.args [.fl a_0, .fl a_1, .fl a_2, .fl a_3, .fl b_0, .fl b_1, .fl b_2, .fl b_3]) [] c_ = GZ68 N SZ79 SZ132 SZ118 SZ120 a_0 a_1 a_2 a_3 b_0 b_1 b_2 b_3 (fun r0 r1 => c_ (.tup [.flt r0, .int .i64 r1]) []) := by kernel_rfl
theorem goodZ68 (N : Nat) (SZ79 : TSZ79) (SZ132 : TSZ132) (SZ118 : TSZ118) (SZ120 : TSZ120) (hZ79 : GoodF Pg 42 (FZ79 SZ79)) (hZ132 : GoodF Pg 23 (FZ132 SZ132)) (hZ118 : GoodF Pg 40 (FZ118 SZ118)) (hZ120 : GoodF Pg 73 (FZ120 SZ120)) : GoodF Pg 31 (FZ68 (GZ68 N SZ79 SZ132 SZ118 SZ120)) := by
 refine good_fs (cx := ⟨Pg, ofList [(42, (FZ79 SZ79)), (23, (FZ132 SZ132)), (40, (FZ118 SZ118)), (73, (FZ120 SZ120))], isref, N⟩) (ofList_cons hZ79 (ofList_cons hZ132 (ofList_cons hZ118 (ofList_cons hZ120 (ofList_nil _))))) shFZ68 (spZ68 (GZ68 N SZ79 SZ132 SZ118 SZ120)) (anZ68 N SZ79 SZ132 SZ118 SZ120) 0 0 (by kernel_rfl) (fun i_ hi_ => by omega) ?_
 intro a k h
 unfold spZ68 at h
 split at h
 ·exact ⟨[], rfl, rfl, (eqZ68 _ _ _ _ _ _ _ _ _ _ _ _ _ _).trans h⟩
 ·cases h
def anZ23 (N : Nat) (S_m_Abs : TS_m_Abs) (SZ48 : TSZ48) : Nat -> Option Ann := fun b_ => none
theorem eqZ23 (N : Nat) (S_m_Abs : TS_m_Abs) (SZ48 : TSZ48) (v_0 v_1 v_2 : Fl) (c_ : V -> List Blk -> Bool) : bodyV ⟨Pg, ofList [(47, (F_m_Abs S_m_Abs)), (26, (FZ48 SZ48))], isref, (N + 24)⟩ (anZ23 (N + 24) S_m_Abs SZ48) 12 (shFZ23.args [.fl v_0, .fl v_1, .fl v_2]) [] c_ = GZ23 (N + 24) S_m_Abs SZ48 v_0 v_1 v_2 (fun r0 => c_ (.bool r0) []) := by kernel_rfl
theorem goodZ23 (N : Nat) (S_m_Abs : TS_m_Abs) (SZ48 : TSZ48) (h_m_Abs : GoodF Pg 47 (F_m_Abs S_m_Abs)) (hZ48 : GoodF Pg 26 (FZ48 SZ48)) : GoodF Pg 12 (FZ23 (GZ23 (N + 24) S_m_Abs SZ48)) := by
 refine good_fs (cx := ⟨Pg, ofList [(47, (F_m_Abs S_m_Abs)), (26, (FZ48 SZ48))], isref, (N + 24)⟩) (ofList_cons h_m_Abs (ofList_cons hZ48 (ofList_nil _))) shFZ23 (spZ23 (GZ23 (N + 24) S_m_Abs SZ48)) (anZ23 (N + 24) S_m_Abs SZ48) 1 0 (by kernel_rfl) (fun i_ hi_ => by
  match i_, hi_ with
  | 0, _ => exact (fun hk e => by rw [show hookOf ((anZ23 (N + 24) S_m_Abs SZ48) (lp Pg 12 0).1) = none from by kernel_rfl] at e; cases e)
  | (q + 1), h => omega) ?_
 intro a k h
 unfold spZ23 at h
 split at h
 ·exact ⟨[], rfl, rfl, (eqZ23 _ _ _ _ _ _ _).trans h⟩
 ·cases h
def anZ57 (N : Nat) (SZ62 : TSZ62) : Nat -> Option Ann := fun b_ => none
theorem eqZ57 (N : Nat) (SZ62 : TSZ62) (v_0 v_1 v_2 : Fl) (c_ : V -> List Blk -> Bool) : bodyV ⟨Pg, ofList [(35, (FZ62 SZ62))], isref, N⟩ (anZ57 N SZ62) 32 (shFZ57.args [.fl v_0, .fl v_1, .fl v_2]) [] c_ = GZ57 N SZ62 v_0 v_1 v_2 (fun r0 r1 r2 r3 r4 => c_ (.tup [.agg [.flt r0, .flt r1, .flt r2, .flt r3], .int .i64 r4]) []) := by kernel_rfl
theorem goodZ57 (N : Nat) (SZ62 : TSZ62) (hZ62 : GoodF Pg 35 (FZ62 SZ62)) : GoodF Pg 32 (FZ57 (GZ57 N SZ62)) := by
 refine good_fs (cx := ⟨Pg, ofList [(35, (FZ62 SZ62))], isref, N⟩) (ofList_cons hZ62 (ofList_nil _)) shFZ57 (spZ57 (GZ57 N SZ62)) (anZ57 N SZ62) 0 0 (by kernel_rfl) (fun i_ hi_ => by omega) ?_
 intro a k h
 unfold spZ57 at h
 split at h
 ·exact ⟨[], rfl, rfl, (eqZ57 _ _ _ _ _ _).trans h⟩
 ·cases h
def anZ69 (N : Nat) (SZ10 : TSZ10) (SZ14 : TSZ14) (SZ110 : TSZ110) : Nat -> Option Ann := fun b_ => none
theorem eqZ69 (N : Nat) (SZ10 : TSZ10) (SZ14 : TSZ14) (SZ110 : TSZ110) (q_0 q_1 q_2 q_3 : Fl) (c_ : V -> List Blk -> Bool) : bodyV ⟨Pg, ofList [(42, (FZ10 SZ10)), (48, (FZ14 SZ14)), (50, (FZ110 SZ110))], isref, N⟩ (anZ69 N SZ10 SZ14 SZ110) 33 (shFZ69.args [.fl q_0, .fl q_1, .fl q_2, .fl q_3]) [] c_ = GZ69 N SZ10 SZ14 SZ110 q_0 q_1 q_2 q_3 (fun r0 r1 r2 r3 => c_ (.tup [.agg [.flt r0, .flt r1, .flt r2], .int .i64 r3]) []) := by kernel_rfl
theorem goodZ69 (N : Nat) (SZ10 : TSZ10) (SZ14 : TSZ14) (SZ110 : TSZ110) (hZ10 : GoodF Pg 42 (FZ10 SZ10)) (hZ14 : GoodF Pg 48 (FZ14 SZ14)) (hZ110 : GoodF Pg 50 (FZ110 SZ110)) : GoodF Pg 33 (FZ69 (GZ69 N SZ10 SZ14 SZ110)) := by
 refine good_fs (cx := ⟨Pg, ofList [(42, (FZ10 SZ10)), (48, (FZ14 SZ14)), (50, (FZ110 SZ110))], isref, N⟩) (ofList_cons hZ10 (ofList_cons hZ14 (ofList_cons hZ110 (ofList_nil _)))) shFZ69 (spZ69 (GZ69 N SZ10 SZ14 SZ110)) (anZ69 N SZ10 SZ14 SZ110) 0 0 (by kernel_rfl) (fun i_ hi_ => by omega) ?_
 intro a k h
 unfold spZ69 at h
 split at h
 ·exact ⟨[], rfl, rfl, (eqZ69 _ _ _ _ _ _ _ _ _).trans h⟩
 ·cases h
def anZ144 (N : Nat) (SZ106 : TSZ106) : Nat -> Option Ann := fun b_ => none
theorem eqZ144 (N : Nat) (SZ106 : TSZ106) (x : Fl) (c_ : V -> List Blk -> Bool) : bodyV ⟨Pg, ofList [(95, (FZ106 SZ106))], isref, N⟩ (anZ144 N SZ106) 151 (shFZ144.args [.fl x]) [] c_ = GZ144 N SZ106 x (fun r0 => c_ (.int .u64 r0) []) := by kernel_rfl
theorem goodZ144 (N : Nat) (SZ106 : TSZ106) (hZ106 : GoodF Pg 95 (FZ106 SZ106)) : GoodF Pg 151 (FZ144 (GZ144 N SZ106)) := by
 refine good_fs (cx := ⟨Pg, ofList [(95, (FZ106 SZ106))], isref, N⟩) (ofList_cons hZ106 (ofList_nil _)) shFZ144 (spZ144 (GZ144 N SZ106)) (anZ144 N SZ106) 0 0 (by kernel_rfl) (fun i_ hi_ => by omega) ?_
 intro a k h
 unfold spZ144 at h
 split at h
 ·exact ⟨[], rfl, rfl, (eqZ144 _ _ _ _).trans h⟩
 ·cases h
def anZ105 (N : Nat) (SZ144 : TSZ144) : Nat -> Option Ann := fun b_ => none
theorem eqZ105 (N : Nat) (SZ144 : TSZ144) (x : Fl) (c_ : V -> List Blk -> Bool) : bodyV ⟨Pg, ofList [(151, (FZ144 SZ144))], isref, N⟩ (anZ105 N SZ144) 115 (shFZ105.args [.fl x]) [] c_ = GZ105 N SZ144 x (fun r0 r1 r2 => c_ (.tup [.bool r0, .int .i64 r1, .int .u64 r2]) []) := by kernel_rfl
theorem goodZ105 (N : Nat) (SZ144 : TSZ144) (hZ144 : GoodF Pg 151 (FZ144 SZ144)) : GoodF Pg 115 (FZ105 (GZ105 N SZ144)) := by
 refine good_fs (cx := ⟨Pg, ofList [(151, (FZ144 SZ144))], isref, N⟩) (ofList_cons hZ144 (ofList_nil _)) shFZ105 (spZ105 (GZ105 N SZ144)) (anZ105 N SZ144) 0 0 (by kernel_rfl) (fun i_ hi_ => by omega) ?_
 intro a k h
 unfold spZ105 at h
 split at h
 ·exact ⟨[], rfl, rfl, (eqZ105 _ _ _ _).trans h⟩
 ·cases h
def sh_st_binnacleref01_odd_0 : StSh := ⟨(.int .u64 :: (.int .i64 :: (sqs 15 []))), []⟩
def sx0_st_binnacleref01_odd_0 : StSh := ⟨(.int .u64 :: (.int .i64 :: (sqs 15 []))), []⟩
def hk_st_binnacleref01_odd_0 (N : Nat) : List Atom -> K -> Bool := fun a_ κ => match a_ with
 | [.int m_1, .int e_1] => iterG N (st_z01_odd_0 N (fun r0 r1 => κ.ext 0 (sx0_st_binnacleref01_odd_0.build [.int r0, .int r1]))) (m_1, e_1)
 | _ => false
def anZ131 (N : Nat) : Nat -> Option Ann := fun b_ => cond (b_ == 0) (some ⟨⟨[0, 1], [], []⟩, [(0, ⟨[0, 1], [], []⟩)], some ⟨[4, 5], [], []⟩, some (mkHooks [(sh_st_binnacleref01_odd_0, hk_st_binnacleref01_odd_0 N)])⟩) (none)
theorem eq_st_binnacleref01_odd_0 (N : Nat) (κ : K) (m_1 e_1 : Int) : iter N (fun s k => codeV ⟨Pg, ofList [], isref, N⟩ 0 (anZ131 N) (lp Pg 116 0).2 (lp Pg 116 0).1 s (roundK Pg 0 ((anZ131 N) (lp Pg 116 0).1) κ k)) (sh_st_binnacleref01_odd_0.build [.int m_1, .int e_1]) = iterG N (st_z01_odd_0 N (fun r0 r1 => κ.ext 0 (sx0_st_binnacleref01_odd_0.build [.int r0, .int r1]))) (m_1, e_1) :=
 iter_tr (fun (v_ : Int × Int) => sh_st_binnacleref01_odd_0.build [.int v_.1, .int v_.2]) (fun v_ K_ => by obtain ⟨m_1, e_1⟩ := v_; kernel_rfl) N (m_1, e_1)
theorem hk1_st_binnacleref01_odd_0 (N : Nat) : HookFor ⟨Pg, ofList [], isref, N⟩ 0 (anZ131 N) (lp Pg 116 0) (sh_st_binnacleref01_odd_0, hk_st_binnacleref01_odd_0 N) := by
 intro a κ h
 simp only at h
 unfold hk_st_binnacleref01_odd_0 at h
 split at h
 ·exact (eq_st_binnacleref01_odd_0 _ _ _ _).trans h
 ·cases h
theorem ho_binnacleref01_odd_0 (N : Nat) : HookOk ⟨Pg, ofList [], isref, N⟩ 0 (anZ131 N) (lp Pg 116 0) :=
 hooks_ok [(sh_st_binnacleref01_odd_0, hk_st_binnacleref01_odd_0 N)] (by kernel_rfl) ⟨hk1_st_binnacleref01_odd_0 _, trivial⟩
theorem eqZ131 (N : Nat) (m e : Int) (c_ : V -> List Blk -> Bool) : bodyV ⟨Pg, ofList [], isref, N⟩ (anZ131 N) 116 (shFZ131.args [.int m, .int e]) [] c_ = GZ131 N m e (fun r0 r1 => c_ (.tup [.int .u64 r0, .int .i64 r1]) []) := by kernel_rfl
theorem goodZ131 (N : Nat) : GoodF Pg 116 (FZ131 (GZ131 N)) := by
 refine good_fs (cx := ⟨Pg, ofList [], isref, N⟩) (ofList_nil _) shFZ131 (spZ131 (GZ131 N)) (anZ131 N) 1 0 (by kernel_rfl) (fun i_ hi_ => by
  match i_, hi_ with
  | 0, _ => exact ho_binnacleref01_odd_0 _
  | (q + 1), h => omega) ?_
 intro a k h
 unfold spZ131 at h
 split at h
 ·exact ⟨[], rfl, rfl, (eqZ131 _ _ _ _).trans h⟩
 ·cases h
def anZ125 (N : Nat) (SZ105 : TSZ105) (SZ131 : TSZ131) : Nat -> Option Ann := fun b_ => none
def lsZ171 (d_ : List V) (u_ : List (Option Blk)) (x : Fl) (neg : Bool) (e f : Int) : St := ⟨((dq d_ 0) :: ((dq d_ 1) :: (.ptr 0 0 :: ((dq d_ 2) :: (.bool neg :: (.int .i64 e :: (.int .u64 f :: (dqs d_ 3 28 [])))))))), [some ⟨108, 1, .cells [.bool false, .int .u64 0, .int .i64 0]⟩]⟩
theorem jnZ171 (N : Nat) (SZ105 : TSZ105) (SZ131 : TSZ131) (d_ : List V) (u_ : List (Option Blk)) (x : Fl) (neg : Bool) (e f : Int) (c_ : V -> List Blk -> Bool) : codesV ⟨Pg, ofList [(115, (FZ105 SZ105)), (116, (FZ131 SZ131))], isref, N⟩ 0 (anZ125 N SZ105 SZ131) ((cds Pg 66).drop 6) 0 (lsZ171 d_ u_ x neg e f) (finV Pg 66 0 c_) = JZ171 N SZ105 SZ131 x neg e f (fun r0 r1 r2 r3 => c_ (.tup [.agg [.bool r0, .int .u64 r1, .int .i64 r2], .int .i64 r3]) []) := by kernel_rfl
theorem hd_z01_Parts_w (N : Nat) (SZ105 : TSZ105) (SZ131 : TSZ131) (x : Fl) (c_ : V -> List Blk -> Bool) (κn_ : St -> Bool) : codesV ⟨Pg, ofList [(115, (FZ105 SZ105)), (116, (FZ131 SZ131))], isref, N⟩ 0 (anZ125 N SZ105 SZ131) (sg Pg 66 0 6) 0 (st0 Pg 66 (shFZ125.args [.fl x]) []) { (finV Pg 66 0 c_) with nrm := κn_ } = (SZ105 x (fun cr nr nr_1 => (cond (nr == 2047) (c_ (.tup [.agg [.bool false, .int .u64 0, .int .i64 0], .int .i64 4]) []) (cond (decide (nr > 0)) ((fits .i64 (nr - 1)) && (κn_ (lsZ171 [.flt x, .any, .int .i64 0, .any, .any, .tup [.bool cr, .int .i64 nr, .int .u64 nr_1], .flt x, .tup [.bool cr, .int .i64 nr, .int .u64 nr_1], .bool cr, .int .i64 nr, .int .u64 nr_1, .int .i64 nr, .bool false, .any, .int .i64 nr, .bool true, .int .u64 nr_1, .int .u64 (IntKind.wrap .u64 (nr_1 + 4503599627370496)), .int .i64 nr, .int .i64 (nr - 1), .any, .any, .any, .any, .any, .any, .any, .any, .any, .any, .any] [] x cr (nr - 1) (IntKind.wrap .u64 (nr_1 + 4503599627370496))))) (κn_ (lsZ171 [.flt x, .any, .int .i64 0, .any, .any, .tup [.bool cr, .int .i64 nr, .int .u64 nr_1], .flt x, .tup [.bool cr, .int .i64 nr, .int .u64 nr_1], .bool cr, .int .i64 nr, .int .u64 nr_1, .int .i64 nr, .bool false, .any, .int .i64 nr, .bool false, .any, .any, .any, .any, .any, .any, .any, .any, .any, .any, .any, .any, .any, .any, .any] [] x cr nr nr_1)))))) := by kernel_rfl
theorem jn_z01_Parts_w (N : Nat) (SZ105 : TSZ105) (SZ131 : TSZ131) (x : Fl) (c_ : V -> List Blk -> Bool) : codesV ⟨Pg, ofList [(115, (FZ105 SZ105)), (116, (FZ131 SZ131))], isref, N⟩ 0 (anZ125 N SZ105 SZ131) ((cds Pg 66).drop 0) 0 (st0 Pg 66 (shFZ125.args [.fl x]) []) (finV Pg 66 0 c_) = GZ125 N SZ105 SZ131 x (fun r0 r1 r2 r3 => c_ (.tup [.agg [.bool r0, .int .u64 r1, .int .i64 r2], .int .i64 r3]) []) := by
 rw [codesV_cut 0 6 6 rfl]
 refine (hd_z01_Parts_w N SZ105 SZ131 x c_ _).trans ?_
 simp only [jnZ171]
 kernel_rfl
theorem eqZ125 (N : Nat) (SZ105 : TSZ105) (SZ131 : TSZ131) (x : Fl) (c_ : V -> List Blk -> Bool) : bodyV ⟨Pg, ofList [(115, (FZ105 SZ105)), (116, (FZ131 SZ131))], isref, N⟩ (anZ125 N SZ105 SZ131) 66 (shFZ125.args [.fl x]) [] c_ = GZ125 N SZ105 SZ131 x (fun r0 r1 r2 r3 => c_ (.tup [.agg [.bool r0, .int .u64 r1, .int .i64 r2], .int .i64 r3]) []) :=
 (bodyV_codes (by kernel_rfl)).trans (jn_z01_Parts_w N SZ105 SZ131 x c_)
theorem goodZ125 (N : Nat) (SZ105 : TSZ105) (SZ131 : TSZ131) (hZ105 : GoodF Pg 115 (FZ105 SZ105)) (hZ131 : GoodF Pg 116 (FZ131 SZ131)) : GoodF Pg 66 (FZ125 (GZ125 N SZ105 SZ131)) := by
 refine good_fs (cx := ⟨Pg, ofList [(115, (FZ105 SZ105)), (116, (FZ131 SZ131))], isref, N⟩) (ofList_cons hZ105 (ofList_cons hZ131 (ofList_nil _))) shFZ125 (spZ125 (GZ125 N SZ105 SZ131)) (anZ125 N SZ105 SZ131) 0 0 (by kernel_rfl) (fun i_ hi_ => by omega) ?_
 intro a k h
 unfold spZ125 at h
 split at h
 ·exact ⟨[], rfl, rfl, (eqZ125 _ _ _ _ _).trans h⟩
 ·cases h
def sh_st_binnacleref00_cut_w_0 : StSh := ⟨(.sl 0 :: (sqs 20 [])), [some (87, 1, .ints .u32)]⟩
def sx0_st_binnacleref00_cut_w_0 : StSh := ⟨(.sl 0 :: (sqs 20 [])), [some (87, 1, .ints .u32)]⟩
def hk_st_binnacleref00_cut_w_0 (N : Nat) : List Atom -> K -> Bool := fun a_ κ => match a_ with
 | [.nat m_1, .nat m_2, .ints m_3] => iterG N (stZ181 N m_1 m_3 (fun r1 => κ.ext 0 (sx0_st_binnacleref00_cut_w_0.build [.nat m_1, .nat r1, .ints m_3]))) m_2
 | _ => false
def anZ13 (N : Nat) : Nat -> Option Ann := fun b_ => cond (b_ == 0) (some ⟨⟨[0], [(0, some 0, 0)], []⟩, [(0, ⟨[0], [], []⟩)], some ⟨[2], [], []⟩, some (mkHooks [(sh_st_binnacleref00_cut_w_0, hk_st_binnacleref00_cut_w_0 N)])⟩) (none)
theorem eq_st_binnacleref00_cut_w_0 (N : Nat) (κ : K) (m_1 m_2 : Nat) (m_3 : List Int) : iter N (fun s k => codeV ⟨Pg, ofList [], isref, N⟩ 1 (anZ13 N) (lp Pg 147 0).2 (lp Pg 147 0).1 s (roundK Pg 1 ((anZ13 N) (lp Pg 147 0).1) κ k)) (sh_st_binnacleref00_cut_w_0.build [.nat m_1, .nat m_2, .ints m_3]) = iterG N (stZ181 N m_1 m_3 (fun r1 => κ.ext 0 (sx0_st_binnacleref00_cut_w_0.build [.nat m_1, .nat r1, .ints m_3]))) m_2 :=
 iter_tr (fun v_ => sh_st_binnacleref00_cut_w_0.build [.nat m_1, .nat v_, .ints m_3]) (fun v_ K_ => by kernel_rfl) N m_2
theorem hk1_st_binnacleref00_cut_w_0 (N : Nat) : HookFor ⟨Pg, ofList [], isref, N⟩ 1 (anZ13 N) (lp Pg 147 0) (sh_st_binnacleref00_cut_w_0, hk_st_binnacleref00_cut_w_0 N) := by
 intro a κ h
 simp only at h
 unfold hk_st_binnacleref00_cut_w_0 at h
 split at h
 ·exact (eq_st_binnacleref00_cut_w_0 _ _ _ _ _).trans h
 ·cases h
theorem ho_binnacleref00_cut_w_0 (N : Nat) : HookOk ⟨Pg, ofList [], isref, N⟩ 1 (anZ13 N) (lp Pg 147 0) :=
 hooks_ok [(sh_st_binnacleref00_cut_w_0, hk_st_binnacleref00_cut_w_0 N)] (by kernel_rfl) ⟨hk1_st_binnacleref00_cut_w_0 _, trivial⟩
theorem eqZ13 (N : Nat) (b : List Int) (c_ : V -> List Blk -> Bool) : bodyZ ⟨Pg, ofList [], isref, N⟩ (anZ13 N) 147 (shFZ13.args [.ints b]) [⟨87, 1, .ints .u32 b⟩] c_ = GZ13 N b (fun r0 r1 => c_ (.sl 0 r0 r1) [⟨87, 1, .ints .u32 b⟩]) := by kernel_rfl
theorem goodZ13 (N : Nat) : GoodF Pg 147 (FZ13 (GZ13 N)) := by
 refine good_fsZ (cx := ⟨Pg, ofList [], isref, N⟩) (ofList_nil _) shFZ13 (spZ13 (GZ13 N)) (anZ13 N) 1 1 (by kernel_rfl) (fun i_ hi_ => by
  match i_, hi_ with
  | 0, _ => exact ho_binnacleref00_cut_w_0 _
  | (q + 1), h => omega) ?_
 intro a k h
 unfold spZ13 at h
 split at h
 ·exact ⟨[_], rfl, rfl, (eqZ13 _ _ _).trans h⟩
 ·cases h
def anZ104 (N : Nat) (SZ13 : TSZ13) : Nat -> Option Ann := fun b_ => none
theorem eqZ104 (N : Nat) (SZ13 : TSZ13) (n : Int) (c_ : V -> List Blk -> Bool) : bodyZ ⟨Pg, ofList [(147, (FZ13 SZ13))], isref, N⟩ (anZ104 N SZ13) 117 (shFZ104.args [.int n]) [] c_ = GZ104 N SZ13 n (fun r0 => c_ (.roi .u32 r0) []) := by kernel_rfl
theorem goodZ104 (N : Nat) (SZ13 : TSZ13) (hZ13 : GoodF Pg 147 (FZ13 SZ13)) : GoodF Pg 117 (FZ104 (GZ104 N SZ13)) := by
 refine good_fsZ (cx := ⟨Pg, ofList [(147, (FZ13 SZ13))], isref, N⟩) (ofList_cons hZ13 (ofList_nil _)) shFZ104 (spZ104 (GZ104 N SZ13)) (anZ104 N SZ13) 0 0 (by kernel_rfl) (fun i_ hi_ => by omega) ?_
 intro a k h
 unfold spZ104 at h
 split at h
 ·exact ⟨[], rfl, rfl, (eqZ104 _ _ _ _).trans h⟩
 ·cases h
def sh_st_binnacleref00_cut_0 : StSh := ⟨(.roi .u32 :: (sqs 20 [])), []⟩
def sx0_st_binnacleref00_cut_0 : StSh := ⟨(.roi .u32 :: (sqs 20 [])), []⟩
def hk_st_binnacleref00_cut_0 (N : Nat) : List Atom -> K -> Bool := fun a_ κ => match a_ with
 | [.ints m_1] => iterG N (st_z00_cut_0 N (fun r0 => κ.ext 0 (sx0_st_binnacleref00_cut_0.build [.ints r0]))) m_1
 | _ => false
def anZ148 (N : Nat) : Nat -> Option Ann := fun b_ => cond (b_ == 0) (some ⟨⟨[0], [], []⟩, [(0, ⟨[0], [], []⟩)], some ⟨[2], [], []⟩, some (mkHooks [(sh_st_binnacleref00_cut_0, hk_st_binnacleref00_cut_0 N)])⟩) (none)
theorem eq_st_binnacleref00_cut_0 (N : Nat) (κ : K) (m_1 : List Int) : iter N (fun s k => codeV ⟨Pg, ofList [], isref, N⟩ 0 (anZ148 N) (lp Pg 147 0).2 (lp Pg 147 0).1 s (roundK Pg 0 ((anZ148 N) (lp Pg 147 0).1) κ k)) (sh_st_binnacleref00_cut_0.build [.ints m_1]) = iterG N (st_z00_cut_0 N (fun r0 => κ.ext 0 (sx0_st_binnacleref00_cut_0.build [.ints r0]))) m_1 :=
 iter_tr (fun v_ => sh_st_binnacleref00_cut_0.build [.ints v_]) (fun v_ K_ => by kernel_rfl) N m_1
theorem hk1_st_binnacleref00_cut_0 (N : Nat) : HookFor ⟨Pg, ofList [], isref, N⟩ 0 (anZ148 N) (lp Pg 147 0) (sh_st_binnacleref00_cut_0, hk_st_binnacleref00_cut_0 N) := by
 intro a κ h
 simp only at h
 unfold hk_st_binnacleref00_cut_0 at h
 split at h
 ·exact (eq_st_binnacleref00_cut_0 _ _ _).trans h
 ·cases h
theorem ho_binnacleref00_cut_0 (N : Nat) : HookOk ⟨Pg, ofList [], isref, N⟩ 0 (anZ148 N) (lp Pg 147 0) :=
 hooks_ok [(sh_st_binnacleref00_cut_0, hk_st_binnacleref00_cut_0 N)] (by kernel_rfl) ⟨hk1_st_binnacleref00_cut_0 _, trivial⟩
theorem eqZ148 (N : Nat) (m : List Int) (c_ : V -> List Blk -> Bool) : bodyZ ⟨Pg, ofList [], isref, N⟩ (anZ148 N) 147 (shFZ148.args [.ints m]) [] c_ = GZ148 N m (fun r0 => c_ (.roi .u32 r0) []) := by kernel_rfl
theorem goodZ148 (N : Nat) : GoodF Pg 147 (FZ148 (GZ148 N)) := by
 refine good_fsZ (cx := ⟨Pg, ofList [], isref, N⟩) (ofList_nil _) shFZ148 (spZ148 (GZ148 N)) (anZ148 N) 1 0 (by kernel_rfl) (fun i_ hi_ => by
  match i_, hi_ with
  | 0, _ => exact ho_binnacleref00_cut_0 _
  | (q + 1), h => omega) ?_
 intro a k h
 unfold spZ148 at h
 split at h
 ·exact ⟨[], rfl, rfl, (eqZ148 _ _ _).trans h⟩
 ·cases h
def anZ44 (N : Nat) (SZ148 : TSZ148) : Nat -> Option Ann := fun b_ => none
theorem eqZ44 (N : Nat) (SZ148 : TSZ148) (neg : Bool) (m : List Int) (b : Bool) (c_ : V -> List Blk -> Bool) : bodyZ ⟨Pg, ofList [(147, (FZ148 SZ148))], isref, N⟩ (anZ44 N SZ148) 99 (shFZ44.args [.bool neg, .ints m, .bool b]) [⟨98, 1, .cells [.bool b, .nil]⟩] c_ = GZ44 N SZ148 neg m b (fun r0 r1 => c_ (.ptr 0 0) [⟨98, 1, .cells [.bool r0, .roi .u32 r1]⟩]) := by kernel_rfl
theorem goodZ44 (N : Nat) (SZ148 : TSZ148) (hZ148 : GoodF Pg 147 (FZ148 SZ148)) : GoodF Pg 99 (FZ44 (GZ44 N SZ148)) := by
 refine good_fsZ (cx := ⟨Pg, ofList [(147, (FZ148 SZ148))], isref, N⟩) (ofList_cons hZ148 (ofList_nil _)) shFZ44 (spZ44 (GZ44 N SZ148)) (anZ44 N SZ148) 0 1 (by kernel_rfl) (fun i_ hi_ => by omega) ?_
 intro a k h
 unfold spZ44 at h
 split at h
 ·exact ⟨[_], rfl, rfl, (eqZ44 _ _ _ _ _ _).trans h⟩
 ·cases h
def anZ71 (N : Nat) (SZ104 : TSZ104) (SZ44 : TSZ44) : Nat -> Option Ann := fun b_ => none
theorem eqZ71 (N : Nat) (SZ104 : TSZ104) (SZ44 : TSZ44) (n : Int) (b : Bool) (c_ : V -> List Blk -> Bool) : bodyZ ⟨Pg, ofList [(117, (FZ104 SZ104)), (99, (FZ44 SZ44))], isref, N⟩ (anZ71 N SZ104 SZ44) 67 (shFZ71.args [.int n, .bool b]) [⟨98, 1, .cells [.bool b, .nil]⟩] c_ = GZ71 N SZ104 SZ44 n b (fun r0 r1 => c_ (.ptr 0 0) [⟨98, 1, .cells [.bool r0, .roi .u32 r1]⟩]) := by kernel_rfl
theorem goodZ71 (N : Nat) (SZ104 : TSZ104) (SZ44 : TSZ44) (hZ104 : GoodF Pg 117 (FZ104 SZ104)) (hZ44 : GoodF Pg 99 (FZ44 SZ44)) : GoodF Pg 67 (FZ71 (GZ71 N SZ104 SZ44)) := by
 refine good_fsZ (cx := ⟨Pg, ofList [(117, (FZ104 SZ104)), (99, (FZ44 SZ44))], isref, N⟩) (ofList_cons hZ104 (ofList_cons hZ44 (ofList_nil _))) shFZ71 (spZ71 (GZ71 N SZ104 SZ44)) (anZ71 N SZ104 SZ44) 0 1 (by kernel_rfl) (fun i_ hi_ => by omega) ?_
 intro a k h
 unfold spZ71 at h
 split at h
 ·exact ⟨[_], rfl, rfl, (eqZ71 _ _ _ _ _ _).trans h⟩
 ·cases h
def anZ101 (N : Nat) (SZ13 : TSZ13) : Nat -> Option Ann := fun b_ => none
theorem eqZ101 (N : Nat) (SZ13 : TSZ13) (neg b : Bool) (b_1 b_2 : List Int) (c_ : V -> List Blk -> Bool) : bodyZ ⟨Pg, ofList [(147, (FZ13 SZ13))], isref, N⟩ (anZ101 N SZ13) 99 (shFZ101.args [.bool neg, .bool b, .ints b_1, .ints b_2]) [⟨98, 1, .cells [.bool b, .roi .u32 b_1]⟩, ⟨87, 1, .ints .u32 b_2⟩] c_ = GZ101 N SZ13 neg b b_1 b_2 (fun r0 r1 r2 => c_ (.ptr 0 0) [⟨98, 1, .cells [.bool r0, .sl 1 r1 r2]⟩, ⟨87, 1, .ints .u32 b_2⟩]) := by kernel_rfl
theorem goodZ101 (N : Nat) (SZ13 : TSZ13) (hZ13 : GoodF Pg 147 (FZ13 SZ13)) : GoodF Pg 99 (FZ101 (GZ101 N SZ13)) := by
 refine good_fsZ (cx := ⟨Pg, ofList [(147, (FZ13 SZ13))], isref, N⟩) (ofList_cons hZ13 (ofList_nil _)) shFZ101 (spZ101 (GZ101 N SZ13)) (anZ101 N SZ13) 0 2 (by kernel_rfl) (fun i_ hi_ => by omega) ?_
 intro a k h
 unfold spZ101 at h
 split at h
 ·exact ⟨[_, _], rfl, rfl, (eqZ101 _ _ _ _ _ _ _).trans h⟩
 ·cases h
def anZ99 (N : Nat) (SZ101 : TSZ101) : Nat -> Option Ann := fun b_ => none
theorem eqZ99 (N : Nat) (SZ101 : TSZ101) (b : Bool) (b_1 : List Int) (c_ : V -> List Blk -> Bool) : bodyZ ⟨Pg, ofList [(99, (FZ101 SZ101))], isref, N⟩ (anZ99 N SZ101) 55 (shFZ99.args [.bool b, .ints b_1]) [⟨98, 1, .cells [.bool b, .roi .u32 b_1]⟩] c_ = GZ99 N SZ101 b b_1 (fun r0 r1 => c_ (.ptr 0 0) [⟨98, 1, .cells [.bool r0, .roi .u32 r1]⟩]) := by kernel_rfl
theorem goodZ99 (N : Nat) (SZ101 : TSZ101) (hZ101 : GoodF Pg 99 (FZ101 SZ101)) : GoodF Pg 55 (FZ99 (GZ99 N SZ101)) := by
 refine good_fsZ (cx := ⟨Pg, ofList [(99, (FZ101 SZ101))], isref, N⟩) (ofList_cons hZ101 (ofList_nil _)) shFZ99 (spZ99 (GZ99 N SZ101)) (anZ99 N SZ101) 0 1 (by kernel_rfl) (fun i_ hi_ => by omega) ?_
 intro a k h
 unfold spZ99 at h
 split at h
 ·exact ⟨[_], rfl, rfl, (eqZ99 _ _ _ _ _).trans h⟩
 ·cases h
def anZ59 (N : Nat) (SZ125 : TSZ125) (SZ71 : TSZ71) (SZ99 : TSZ99) : Nat -> Option Ann := fun b_ => none
theorem eqZ59 (N : Nat) (SZ125 : TSZ125) (SZ71 : TSZ71) (SZ99 : TSZ99) (x : Fl) (c_ : V -> List Blk -> Bool) : bodyV ⟨Pg, ofList [(66, (FZ125 SZ125)), (67, (FZ71 SZ71)), (55, (FZ99 SZ99))], isref, N⟩ (anZ59 N SZ125 SZ71 SZ99) 28 (shFZ59.args [.fl x]) [] c_ = GZ59 N SZ125 SZ71 SZ99 x (fun r0 r1 r2 => c_ (.agg [.ptr 0 0, .int .i64 r0]) [⟨98, 1, .cells [.bool r1, .roi .u32 r2]⟩]) := by kernel_rfl
theorem goodZ59 (N : Nat) (SZ125 : TSZ125) (SZ71 : TSZ71) (SZ99 : TSZ99) (hZ125 : GoodF Pg 66 (FZ125 SZ125)) (hZ71 : GoodF Pg 67 (FZ71 SZ71)) (hZ99 : GoodF Pg 55 (FZ99 SZ99)) : GoodF Pg 28 (FZ59 (GZ59 N SZ125 SZ71 SZ99)) := by
 refine good_fs (cx := ⟨Pg, ofList [(66, (FZ125 SZ125)), (67, (FZ71 SZ71)), (55, (FZ99 SZ99))], isref, N⟩) (ofList_cons hZ125 (ofList_cons hZ71 (ofList_cons hZ99 (ofList_nil _)))) shFZ59 (spZ59 (GZ59 N SZ125 SZ71 SZ99)) (anZ59 N SZ125 SZ71 SZ99) 0 0 (by kernel_rfl) (fun i_ hi_ => by omega) ?_
 intro a k h
 unfold spZ59 at h
 split at h
 ·exact ⟨[], rfl, rfl, (eqZ59 _ _ _ _ _ _).trans h⟩
 ·cases h
def anZ80 (N : Nat) (SZ13 : TSZ13) : Nat -> Option Ann := fun b_ => none
theorem eqZ80 (N : Nat) (SZ13 : TSZ13) (neg b : Bool) (b_1 : List Int) (c_ : V -> List Blk -> Bool) : bodyZ ⟨Pg, ofList [(147, (FZ13 SZ13))], isref, N⟩ (anZ80 N SZ13) 99 (shFZ80.args [.bool neg, .bool b, .ints b_1]) [⟨98, 1, .cells [.bool b, .nil]⟩, ⟨87, 1, .ints .u32 b_1⟩] c_ = GZ80 N SZ13 neg b b_1 (fun r0 r1 r2 => c_ (.ptr 0 0) [⟨98, 1, .cells [.bool r0, .sl 1 r1 r2]⟩, ⟨87, 1, .ints .u32 b_1⟩]) := by kernel_rfl
theorem goodZ80 (N : Nat) (SZ13 : TSZ13) (hZ13 : GoodF Pg 147 (FZ13 SZ13)) : GoodF Pg 99 (FZ80 (GZ80 N SZ13)) := by
 refine good_fsZ (cx := ⟨Pg, ofList [(147, (FZ13 SZ13))], isref, N⟩) (ofList_cons hZ13 (ofList_nil _)) shFZ80 (spZ80 (GZ80 N SZ13)) (anZ80 N SZ13) 0 2 (by kernel_rfl) (fun i_ hi_ => by omega) ?_
 intro a k h
 unfold spZ80 at h
 split at h
 ·exact ⟨[_, _], rfl, rfl, (eqZ80 _ _ _ _ _ _).trans h⟩
 ·cases h
def anZ94 (N : Nat) (SZ80 : TSZ80) : Nat -> Option Ann := fun b_ => none
theorem eqZ94 (N : Nat) (SZ80 : TSZ80) (b b_1 : Bool) (b_2 : List Int) (c_ : V -> List Blk -> Bool) : bodyZ ⟨Pg, ofList [(99, (FZ80 SZ80))], isref, N⟩ (anZ94 N SZ80) 55 (shFZ94.args [.bool b, .bool b_1, .ints b_2]) [⟨98, 1, .cells [.bool b, .nil]⟩, ⟨98, 1, .cells [.bool b_1, .roi .u32 b_2]⟩] c_ = GZ94 N SZ80 b b_1 b_2 (fun r0 r1 => c_ (.ptr 0 0) [⟨98, 1, .cells [.bool r0, .roi .u32 r1]⟩, ⟨98, 1, .cells [.bool b_1, .roi .u32 b_2]⟩]) := by kernel_rfl
theorem goodZ94 (N : Nat) (SZ80 : TSZ80) (hZ80 : GoodF Pg 99 (FZ80 SZ80)) : GoodF Pg 55 (FZ94 (GZ94 N SZ80)) := by
 refine good_fsZ (cx := ⟨Pg, ofList [(99, (FZ80 SZ80))], isref, N⟩) (ofList_cons hZ80 (ofList_nil _)) shFZ94 (spZ94 (GZ94 N SZ80)) (anZ94 N SZ80) 0 2 (by kernel_rfl) (fun i_ hi_ => by omega) ?_
 intro a k h
 unfold spZ94 at h
 split at h
 ·exact ⟨[_, _], rfl, rfl, (eqZ94 _ _ _ _ _ _).trans h⟩
 ·cases h
def anZ6 (N : Nat) (SZ94 : TSZ94) : Nat -> Option Ann := fun b_ => none
theorem eqZ6 (N : Nat) (SZ94 : TSZ94) (x : Int) (b : Bool) (b_1 : List Int) (c_ : V -> List Blk -> Bool) : bodyV ⟨Pg, ofList [(55, (FZ94 SZ94))], isref, N⟩ (anZ6 N SZ94) 17 (shFZ6.args [.int x, .bool b, .ints b_1]) [⟨98, 1, .cells [.bool b, .roi .u32 b_1]⟩] c_ = GZ6 N SZ94 x b b_1 (fun r3 r4 => c_ (.agg [.ptr 1 0, .int .i64 x]) [⟨98, 1, .cells [.bool b, .roi .u32 b_1]⟩, ⟨98, 1, .cells [.bool r3, .roi .u32 r4]⟩]) := by kernel_rfl
theorem goodZ6 (N : Nat) (SZ94 : TSZ94) (hZ94 : GoodF Pg 55 (FZ94 SZ94)) : GoodF Pg 17 (FZ6 (GZ6 N SZ94)) := by
 refine good_fs (cx := ⟨Pg, ofList [(55, (FZ94 SZ94))], isref, N⟩) (ofList_cons hZ94 (ofList_nil _)) shFZ6 (spZ6 (GZ6 N SZ94)) (anZ6 N SZ94) 0 1 (by kernel_rfl) (fun i_ hi_ => by omega) ?_
 intro a k h
 unfold spZ6 at h
 split at h
 ·exact ⟨[_], rfl, rfl, (eqZ6 _ _ _ _ _ _).trans h⟩
 ·cases h
def anZ82 (N : Nat) : Nat -> Option Ann := fun b_ => none
theorem eqZ82 (N : Nat) (b : Bool) (b_1 : List Int) (c_ : V -> List Blk -> Bool) : bodyZ ⟨Pg, ofList [], isref, N⟩ (anZ82 N) 52 (shFZ82.args [.bool b, .ints b_1]) [⟨98, 1, .cells [.bool b, .roi .u32 b_1]⟩] c_ = GZ82 N b b_1 (fun r0 => c_ (.int .i64 r0) [⟨98, 1, .cells [.bool b, .roi .u32 b_1]⟩]) := by kernel_rfl
theorem goodZ82 (N : Nat) : GoodF Pg 52 (FZ82 (GZ82 N)) := by
 refine good_fsZ (cx := ⟨Pg, ofList [], isref, N⟩) (ofList_nil _) shFZ82 (spZ82 (GZ82 N)) (anZ82 N) 0 1 (by kernel_rfl) (fun i_ hi_ => by omega) ?_
 intro a k h
 unfold spZ82 at h
 split at h
 ·exact ⟨[_], rfl, rfl, (eqZ82 _ _ _ _).trans h⟩
 ·cases h
def sh_st_binnacleref00_left_0 : StSh := ⟨(.roi .u32 :: (sqs 4 (.int .i64 :: (.int .u64 :: (.slw 0 :: (.int .i64 :: (sqs 49 []))))))), [some (87, 1, .ints .u32)]⟩
def sx0_st_binnacleref00_left_0 : StSh := ⟨(sqs 7 (.slw 0 :: (sqs 50 []))), [some (87, 1, .ints .u32)]⟩
def hk_st_binnacleref00_left_0 (N : Nat) (SZ13 : TSZ13) : List Atom -> K -> Bool := fun a_ κ => match a_ with
 | [.ints m_1, .int w, .int s, .int i, .ints out] => iterG N (st_z00_left_0 N SZ13 m_1 w s (fun r0 => κ.ext 0 (sx0_st_binnacleref00_left_0.build [.ints r0]))) (i, out)
 | _ => false
def anZ141 (N : Nat) (SZ13 : TSZ13) : Nat -> Option Ann := fun b_ => cond (b_ == 0) (some ⟨⟨[0, 5, 6, 7, 8], [], []⟩, [(0, ⟨[7], [], []⟩)], some ⟨[4], [], []⟩, some (mkHooks [(sh_st_binnacleref00_left_0, hk_st_binnacleref00_left_0 N SZ13)])⟩) (none)
theorem eq_st_binnacleref00_left_0 (N : Nat) (SZ13 : TSZ13) (κ : K) (m_1 : List Int) (w s i : Int) (out : List Int) : iter N (fun s k => codeV ⟨Pg, ofList [(147, (FZ13 SZ13))], isref, N⟩ 0 (anZ141 N SZ13) (lp Pg 146 0).2 (lp Pg 146 0).1 s (roundK Pg 0 ((anZ141 N SZ13) (lp Pg 146 0).1) κ k)) (sh_st_binnacleref00_left_0.build [.ints m_1, .int w, .int s, .int i, .ints out]) = iterG N (st_z00_left_0 N SZ13 m_1 w s (fun r0 => κ.ext 0 (sx0_st_binnacleref00_left_0.build [.ints r0]))) (i, out) :=
 iter_tr (fun (v_ : Int × List Int) => sh_st_binnacleref00_left_0.build [.ints m_1, .int w, .int s, .int v_.1, .ints v_.2]) (fun v_ K_ => by obtain ⟨i, out⟩ := v_; kernel_rfl) N (i, out)
theorem hk1_st_binnacleref00_left_0 (N : Nat) (SZ13 : TSZ13) : HookFor ⟨Pg, ofList [(147, (FZ13 SZ13))], isref, N⟩ 0 (anZ141 N SZ13) (lp Pg 146 0) (sh_st_binnacleref00_left_0, hk_st_binnacleref00_left_0 N SZ13) := by
 intro a κ h
 simp only at h
 unfold hk_st_binnacleref00_left_0 at h
 split at h
 ·exact (eq_st_binnacleref00_left_0 _ _ _ _ _ _ _ _).trans h
 ·cases h
theorem ho_binnacleref00_left_0 (N : Nat) (SZ13 : TSZ13) : HookOk ⟨Pg, ofList [(147, (FZ13 SZ13))], isref, N⟩ 0 (anZ141 N SZ13) (lp Pg 146 0) :=
 hooks_ok [(sh_st_binnacleref00_left_0, hk_st_binnacleref00_left_0 N SZ13)] (by kernel_rfl) ⟨hk1_st_binnacleref00_left_0 _ _, trivial⟩
theorem eqZ141 (N : Nat) (SZ13 : TSZ13) (m : List Int) (n : Int) (c_ : V -> List Blk -> Bool) : bodyZ ⟨Pg, ofList [(147, (FZ13 SZ13))], isref, N⟩ (anZ141 N SZ13) 146 (shFZ141.args [.ints m, .int n]) [] c_ = GZ141 N SZ13 m n (fun r0 => c_ (.roi .u32 r0) []) := by kernel_rfl
theorem goodZ141 (N : Nat) (SZ13 : TSZ13) (hZ13 : GoodF Pg 147 (FZ13 SZ13)) : GoodF Pg 146 (FZ141 (GZ141 N SZ13)) := by
 refine good_fsZ (cx := ⟨Pg, ofList [(147, (FZ13 SZ13))], isref, N⟩) (ofList_cons hZ13 (ofList_nil _)) shFZ141 (spZ141 (GZ141 N SZ13)) (anZ141 N SZ13) 1 0 (by kernel_rfl) (fun i_ hi_ => by
  match i_, hi_ with
  | 0, _ => exact ho_binnacleref00_left_0 _ _
  | (q + 1), h => omega) ?_
 intro a k h
 unfold spZ141 at h
 split at h
 ·exact ⟨[], rfl, rfl, (eqZ141 _ _ _ _ _).trans h⟩
 ·cases h
def anZ93 (N : Nat) (SZ141 : TSZ141) (SZ44 : TSZ44) : Nat -> Option Ann := fun b_ => none
theorem eqZ93 (N : Nat) (SZ141 : TSZ141) (SZ44 : TSZ44) (n : Int) (b b_1 : Bool) (b_2 : List Int) (c_ : V -> List Blk -> Bool) : bodyZ ⟨Pg, ofList [(146, (FZ141 SZ141)), (99, (FZ44 SZ44))], isref, N⟩ (anZ93 N SZ141 SZ44) 98 (shFZ93.args [.int n, .bool b, .bool b_1, .ints b_2]) [⟨98, 1, .cells [.bool b, .nil]⟩, ⟨98, 1, .cells [.bool b_1, .roi .u32 b_2]⟩] c_ = GZ93 N SZ141 SZ44 n b b_1 b_2 (fun r0 r1 => c_ (.ptr 0 0) [⟨98, 1, .cells [.bool r0, .roi .u32 r1]⟩, ⟨98, 1, .cells [.bool b_1, .roi .u32 b_2]⟩]) := by kernel_rfl
theorem goodZ93 (N : Nat) (SZ141 : TSZ141) (SZ44 : TSZ44) (hZ141 : GoodF Pg 146 (FZ141 SZ141)) (hZ44 : GoodF Pg 99 (FZ44 SZ44)) : GoodF Pg 98 (FZ93 (GZ93 N SZ141 SZ44)) := by
 refine good_fsZ (cx := ⟨Pg, ofList [(146, (FZ141 SZ141)), (99, (FZ44 SZ44))], isref, N⟩) (ofList_cons hZ141 (ofList_cons hZ44 (ofList_nil _))) shFZ93 (spZ93 (GZ93 N SZ141 SZ44)) (anZ93 N SZ141 SZ44) 0 2 (by kernel_rfl) (fun i_ hi_ => by omega) ?_
 intro a k h
 unfold spZ93 at h
 split at h
 ·exact ⟨[_, _], rfl, rfl, (eqZ93 _ _ _ _ _ _ _ _).trans h⟩
 ·cases h
def anZ52 (N : Nat) (SZ93 : TSZ93) : Nat -> Option Ann := fun b_ => none
theorem eqZ52 (N : Nat) (SZ93 : TSZ93) (x e : Int) (b : Bool) (b_1 : List Int) (c_ : V -> List Blk -> Bool) : bodyV ⟨Pg, ofList [(98, (FZ93 SZ93))], isref, N⟩ (anZ52 N SZ93) 54 (shFZ52.args [.int x, .int e, .bool b, .ints b_1]) [⟨98, 1, .cells [.bool b, .roi .u32 b_1]⟩] c_ = GZ52 N SZ93 x e b b_1 (c_ (.agg [.ptr 0 0, .int .i64 x]) [⟨98, 1, .cells [.bool b, .roi .u32 b_1]⟩]) (fun r3 r4 => c_ (.agg [.ptr 1 0, .int .i64 e]) [⟨98, 1, .cells [.bool b, .roi .u32 b_1]⟩, ⟨98, 1, .cells [.bool r3, .roi .u32 r4]⟩]) := by kernel_rfl
theorem goodZ52 (N : Nat) (SZ93 : TSZ93) (hZ93 : GoodF Pg 98 (FZ93 SZ93)) : GoodF Pg 54 (FZ52 (GZ52 N SZ93)) := by
 refine good_fs (cx := ⟨Pg, ofList [(98, (FZ93 SZ93))], isref, N⟩) (ofList_cons hZ93 (ofList_nil _)) shFZ52 (spZ52 (GZ52 N SZ93)) (anZ52 N SZ93) 0 1 (by kernel_rfl) (fun i_ hi_ => by omega) ?_
 intro a k h
 unfold spZ52 at h
 split at h
 ·exact ⟨[_], rfl, rfl, (eqZ52 _ _ _ _ _ _ _).trans h⟩
 ·cases h
def sh_st_binnacleref00_plus_0 : StSh := ⟨(.roi .u32 :: (.roi .u32 :: (sqs 4 (.slw 0 :: (.int .u64 :: (.int .i64 :: (sqs 52 []))))))), [some (87, 1, .ints .u32)]⟩
def sx0_st_binnacleref00_plus_0 : StSh := ⟨(.roi .u32 :: (sqs 5 (.slw 0 :: (.int .u64 :: (sqs 53 []))))), [some (87, 1, .ints .u32)]⟩
def hk_st_binnacleref00_plus_0 (N : Nat) (SZ13 : TSZ13) : List Atom -> K -> Bool := fun a_ κ => match a_ with
 | [.ints a_1, .ints b_1, .int carry, .int i, .ints out] => iterG N (st_z00_plus_0 N SZ13 a_1 b_1 (fun r1 r2 => κ.ext 0 (sx0_st_binnacleref00_plus_0.build [.ints a_1, .int r1, .ints r2]))) (carry, i, out)
 | _ => false
def anZ142 (N : Nat) (SZ13 : TSZ13) : Nat -> Option Ann := fun b_ => cond (b_ == 0) (some ⟨⟨[0, 1, 6, 7, 8], [], []⟩, [(0, ⟨[0, 6, 7], [], []⟩)], some ⟨[4], [], []⟩, some (mkHooks [(sh_st_binnacleref00_plus_0, hk_st_binnacleref00_plus_0 N SZ13)])⟩) (none)
theorem eq_st_binnacleref00_plus_0 (N : Nat) (SZ13 : TSZ13) (κ : K) (a_1 b_1 : List Int) (carry i : Int) (out : List Int) : iter N (fun s k => codeV ⟨Pg, ofList [(147, (FZ13 SZ13))], isref, N⟩ 0 (anZ142 N SZ13) (lp Pg 143 0).2 (lp Pg 143 0).1 s (roundK Pg 0 ((anZ142 N SZ13) (lp Pg 143 0).1) κ k)) (sh_st_binnacleref00_plus_0.build [.ints a_1, .ints b_1, .int carry, .int i, .ints out]) = iterG N (st_z00_plus_0 N SZ13 a_1 b_1 (fun r1 r2 => κ.ext 0 (sx0_st_binnacleref00_plus_0.build [.ints a_1, .int r1, .ints r2]))) (carry, i, out) :=
 iter_tr (fun (v_ : Int × Int × List Int) => sh_st_binnacleref00_plus_0.build [.ints a_1, .ints b_1, .int v_.1, .int v_.2.1, .ints v_.2.2]) (fun v_ K_ => by obtain ⟨carry, i, out⟩ := v_; kernel_rfl) N (carry, i, out)
theorem hk1_st_binnacleref00_plus_0 (N : Nat) (SZ13 : TSZ13) : HookFor ⟨Pg, ofList [(147, (FZ13 SZ13))], isref, N⟩ 0 (anZ142 N SZ13) (lp Pg 143 0) (sh_st_binnacleref00_plus_0, hk_st_binnacleref00_plus_0 N SZ13) := by
 intro a κ h
 simp only at h
 unfold hk_st_binnacleref00_plus_0 at h
 split at h
 ·exact (eq_st_binnacleref00_plus_0 _ _ _ _ _ _ _ _).trans h
 ·cases h
theorem ho_binnacleref00_plus_0 (N : Nat) (SZ13 : TSZ13) : HookOk ⟨Pg, ofList [(147, (FZ13 SZ13))], isref, N⟩ 0 (anZ142 N SZ13) (lp Pg 143 0) :=
 hooks_ok [(sh_st_binnacleref00_plus_0, hk_st_binnacleref00_plus_0 N SZ13)] (by kernel_rfl) ⟨hk1_st_binnacleref00_plus_0 _ _, trivial⟩
theorem eqZ142 (N : Nat) (SZ13 : TSZ13) (a b : List Int) (c_ : V -> List Blk -> Bool) : bodyZ ⟨Pg, ofList [(147, (FZ13 SZ13))], isref, N⟩ (anZ142 N SZ13) 143 (shFZ142.args [.ints a, .ints b]) [] c_ = GZ142 N SZ13 a b (fun r0 => c_ (.roi .u32 r0) []) := by kernel_rfl
theorem goodZ142 (N : Nat) (SZ13 : TSZ13) (hZ13 : GoodF Pg 147 (FZ13 SZ13)) : GoodF Pg 143 (FZ142 (GZ142 N SZ13)) := by
 refine good_fsZ (cx := ⟨Pg, ofList [(147, (FZ13 SZ13))], isref, N⟩) (ofList_cons hZ13 (ofList_nil _)) shFZ142 (spZ142 (GZ142 N SZ13)) (anZ142 N SZ13) 1 0 (by kernel_rfl) (fun i_ hi_ => by
  match i_, hi_ with
  | 0, _ => exact ho_binnacleref00_plus_0 _ _
  | (q + 1), h => omega) ?_
 intro a k h
 unfold spZ142 at h
 split at h
 ·exact ⟨[], rfl, rfl, (eqZ142 _ _ _ _ _).trans h⟩
 ·cases h
def sh_st_binnacleref00_compare_0 : StSh := ⟨(.roi .u32 :: (.roi .u32 :: (.any :: (.any :: (.any :: (.int .i64 :: (sqs 35 []))))))), []⟩
def sx0_st_binnacleref00_compare_0 : StSh := ⟨(sqs 4 (.int .i64 :: (sqs 36 []))), []⟩
def sx1_st_binnacleref00_compare_0 : StSh := ⟨(sqs 41 []), []⟩
def hk_st_binnacleref00_compare_0 (N : Nat) : List Atom -> K -> Bool := fun a_ κ => match a_ with
 | [.ints a_1, .ints b_1, .int i] => iterG N (stZ173 N a_1 b_1 (fun r0 => κ.ret (sx0_st_binnacleref00_compare_0.build [.int r0])) (κ.ext 0 (sx1_st_binnacleref00_compare_0.build []))) i
 | _ => false
def anZ103 (N : Nat) : Nat -> Option Ann := fun b_ => cond (b_ == 0) (some ⟨⟨[0, 1, 5], [], []⟩, [(0, ⟨[], [], []⟩)], some ⟨[4], [], []⟩, some (mkHooks [(sh_st_binnacleref00_compare_0, hk_st_binnacleref00_compare_0 N)])⟩) (none)
theorem eq_st_binnacleref00_compare_0 (N : Nat) (κ : K) (a_1 b_1 : List Int) (i : Int) : iter N (fun s k => codeV ⟨Pg, ofList [], isref, N⟩ 0 (anZ103 N) (lp Pg 144 0).2 (lp Pg 144 0).1 s (roundK Pg 0 ((anZ103 N) (lp Pg 144 0).1) κ k)) (sh_st_binnacleref00_compare_0.build [.ints a_1, .ints b_1, .int i]) = iterG N (stZ173 N a_1 b_1 (fun r0 => κ.ret (sx0_st_binnacleref00_compare_0.build [.int r0])) (κ.ext 0 (sx1_st_binnacleref00_compare_0.build []))) i :=
 iter_tr (fun v_ => sh_st_binnacleref00_compare_0.build [.ints a_1, .ints b_1, .int v_]) (fun v_ K_ => by kernel_rfl) N i
theorem hk1_st_binnacleref00_compare_0 (N : Nat) : HookFor ⟨Pg, ofList [], isref, N⟩ 0 (anZ103 N) (lp Pg 144 0) (sh_st_binnacleref00_compare_0, hk_st_binnacleref00_compare_0 N) := by
 intro a κ h
 simp only at h
 unfold hk_st_binnacleref00_compare_0 at h
 split at h
 ·exact (eq_st_binnacleref00_compare_0 _ _ _ _ _).trans h
 ·cases h
theorem ho_binnacleref00_compare_0 (N : Nat) : HookOk ⟨Pg, ofList [], isref, N⟩ 0 (anZ103 N) (lp Pg 144 0) :=
 hooks_ok [(sh_st_binnacleref00_compare_0, hk_st_binnacleref00_compare_0 N)] (by kernel_rfl) ⟨hk1_st_binnacleref00_compare_0 _, trivial⟩
theorem eqZ103 (N : Nat) (a b : List Int) (c_ : V -> List Blk -> Bool) : bodyZ ⟨Pg, ofList [], isref, N⟩ (anZ103 N) 144 (shFZ103.args [.ints a, .ints b]) [] c_ = GZ103 N a b (fun r0 => c_ (.int .i64 r0) []) := by kernel_rfl
theorem goodZ103 (N : Nat) : GoodF Pg 144 (FZ103 (GZ103 N)) := by
 refine good_fsZ (cx := ⟨Pg, ofList [], isref, N⟩) (ofList_nil _) shFZ103 (spZ103 (GZ103 N)) (anZ103 N) 1 0 (by kernel_rfl) (fun i_ hi_ => by
  match i_, hi_ with
  | 0, _ => exact ho_binnacleref00_compare_0 _
  | (q + 1), h => omega) ?_
 intro a k h
 unfold spZ103 at h
 split at h
 ·exact ⟨[], rfl, rfl, (eqZ103 _ _ _ _).trans h⟩
 ·cases h
end Go.Proofs.YtnfgnjciliapaaaGreatDoor
