/-
  THE TIES: each printed meaning is what the program does (written by program).
  Conditions: none.
-/
import Derived.Test.YtccocdgimamdhaaGreatDoorGs
namespace Go.Proofs.YtccocdgimamdhaaGreatDoor
open Go Go.Mach Go.Proofs
set_option linter.unusedVariables false
set_option maxRecDepth 50000

def sh_st_v_dyad_exact_halve_p0r_0 : StSh := ⟨[.any, .any, .ptr 1 0, .ptr 2 0, .int .i64, .any, .any, .any, .any, .any, .any, .any, .any, .any, .any, .any, .any, .any, .any, .any, .any, .any, .any, .any, .any, .any, .any, .any, .any, .any, .any, .any, .any], [some (164, 1, .cells [.bool, .roi .u64]), some (166, 1, .cells [.val, .int .i64]), some (164, 1, .cells [.bool, .roi .u64])]⟩
def sx0_st_v_dyad_exact_halve_p0r_0 : StSh := ⟨[.any, .any, .ptr 1 0, .ptr 2 0, .int .i64, .any, .any, .any, .any, .any, .any, .any, .any, .any, .any, .any, .any, .any, .any, .any, .any, .any, .any, .any, .any, .any, .any, .any, .any, .any, .any, .any, .any], [some (164, 1, .cells [.bool, .roi .u64]), some (166, 1, .cells [.val, .int .i64]), some (164, 1, .cells [.bool, .roi .u64])]⟩
def hk_st_v_dyad_exact_halve_p0r_0 (N_ : Nat) (S_q39 : TS_q39) (S_q4 : TS_q4) (S_q58 : TS_q58) (S_q11 : TS_q11) (S_q17 : TS_q17) : List Atom -> K -> Bool := fun a_ κ => match a_ with
  | [.int e, .bool b0, .ints b0_1, .val t2, .int t2_1, .bool n, .ints n_1] => iterG N_ (st_q216 N_ S_q39 S_q4 S_q58 S_q11 S_q17 b0 b0_1 t2 t2_1 (fun r0 r5 r6 => κ.ext 0 (sx0_st_v_dyad_exact_halve_p0r_0.build [.int r0, .bool b0, .ints b0_1, .val t2, .int t2_1, .bool r5, .ints r6]))) (e, n, n_1)
  | _ => false
def an_q24 (N_ : Nat) (S_q39 : TS_q39) (S_q4 : TS_q4) (S_q58 : TS_q58) (S_q11 : TS_q11) (S_q17 : TS_q17) : Nat -> Option Ann := fun b_ => cond (b_ == 0) (some ⟨⟨[2, 3, 4], [], []⟩, [(0, ⟨[2, 3, 4], [], []⟩)], some ⟨[2], [], []⟩, some (mkHooks [(sh_st_v_dyad_exact_halve_p0r_0, hk_st_v_dyad_exact_halve_p0r_0 N_ S_q39 S_q4 S_q58 S_q11 S_q17)])⟩) (none)
theorem eq_st_v_dyad_exact_halve_p0r_0 (N_ : Nat) (S_q39 : TS_q39) (S_q4 : TS_q4) (S_q58 : TS_q58) (S_q11 : TS_q11) (S_q17 : TS_q17) (κ : K) (e : Int) (b0 : Bool) (b0_1 : List Int) (t2 : Value) (t2_1 : Int) (n : Bool) (n_1 : List Int) : iter N_ (fun s k => codeV ⟨Pg, ofList [(195, (F_q39 S_q39)), (134, (F_q4 S_q4)), (196, (F_q58 S_q58)), (197, (F_q11 S_q11)), (167, (F_q17 S_q17))], isref, N_⟩ 1 (an_q24 N_ S_q39 S_q4 S_q58 S_q11 S_q17) (lp Pg 163 0).2 (lp Pg 163 0).1 s (roundK Pg 1 ((an_q24 N_ S_q39 S_q4 S_q58 S_q11 S_q17) (lp Pg 163 0).1) κ k)) (sh_st_v_dyad_exact_halve_p0r_0.build [.int e, .bool b0, .ints b0_1, .val t2, .int t2_1, .bool n, .ints n_1]) = iterG N_ (st_q216 N_ S_q39 S_q4 S_q58 S_q11 S_q17 b0 b0_1 t2 t2_1 (fun r0 r5 r6 => κ.ext 0 (sx0_st_v_dyad_exact_halve_p0r_0.build [.int r0, .bool b0, .ints b0_1, .val t2, .int t2_1, .bool r5, .ints r6]))) (e, n, n_1) :=
  iter_tr (fun (v_ : Int × Bool × List Int) => sh_st_v_dyad_exact_halve_p0r_0.build [.int v_.1, .bool b0, .ints b0_1, .val t2, .int t2_1, .bool v_.2.1, .ints v_.2.2]) (fun v_ K_ => by obtain ⟨e, n, n_1⟩ := v_; kernel_rfl) N_ (e, n, n_1)
theorem hk1_st_v_dyad_exact_halve_p0r_0 (N_ : Nat) (S_q39 : TS_q39) (S_q4 : TS_q4) (S_q58 : TS_q58) (S_q11 : TS_q11) (S_q17 : TS_q17) : HookFor ⟨Pg, ofList [(195, (F_q39 S_q39)), (134, (F_q4 S_q4)), (196, (F_q58 S_q58)), (197, (F_q11 S_q11)), (167, (F_q17 S_q17))], isref, N_⟩ 1 (an_q24 N_ S_q39 S_q4 S_q58 S_q11 S_q17) (lp Pg 163 0) (sh_st_v_dyad_exact_halve_p0r_0, hk_st_v_dyad_exact_halve_p0r_0 N_ S_q39 S_q4 S_q58 S_q11 S_q17) := by
  intro a κ h
  simp only at h
  unfold hk_st_v_dyad_exact_halve_p0r_0 at h
  split at h
  · exact (eq_st_v_dyad_exact_halve_p0r_0 _ _ _ _ _ _ _ _ _ _ _ _ _ _).trans h
  · cases h
theorem ho_v_dyad_exact_halve_p0r_0 (N_ : Nat) (S_q39 : TS_q39) (S_q4 : TS_q4) (S_q58 : TS_q58) (S_q11 : TS_q11) (S_q17 : TS_q17) : HookOk ⟨Pg, ofList [(195, (F_q39 S_q39)), (134, (F_q4 S_q4)), (196, (F_q58 S_q58)), (197, (F_q11 S_q11)), (167, (F_q17 S_q17))], isref, N_⟩ 1 (an_q24 N_ S_q39 S_q4 S_q58 S_q11 S_q17) (lp Pg 163 0) :=
  hooks_ok [(sh_st_v_dyad_exact_halve_p0r_0, hk_st_v_dyad_exact_halve_p0r_0 N_ S_q39 S_q4 S_q58 S_q11 S_q17)] (by kernel_rfl) ⟨hk1_st_v_dyad_exact_halve_p0r_0 _ _ _ _ _ _, trivial⟩
theorem eq_q24 (N_ : Nat) (S_q39 : TS_q39) (S_q4 : TS_q4) (S_q58 : TS_q58) (S_q11 : TS_q11) (S_q17 : TS_q17) (x : Int) (b : Bool) (b_1 : List Int) (c_ : V -> List Blk -> Bool) : bodyV ⟨Pg, ofList [(195, (F_q39 S_q39)), (134, (F_q4 S_q4)), (196, (F_q58 S_q58)), (197, (F_q11 S_q11)), (167, (F_q17 S_q17))], isref, N_⟩ (an_q24 N_ S_q39 S_q4 S_q58 S_q11 S_q17) 163 (shF_q24.args [.int x, .bool b, .ints b_1]) [⟨164, 1, .cells [.bool b, .roi .u64 b_1]⟩] c_ = G_q24 N_ S_q39 S_q4 S_q58 S_q11 S_q17 x b b_1 (fun r0 r3 r4 => c_ (.agg [.ptr 1 0, .int .i64 r0]) [⟨164, 1, .cells [.bool b, .roi .u64 b_1]⟩, ⟨164, 1, .cells [.bool r3, .roi .u64 r4]⟩]) := by kernel_rfl
theorem good_q24 (N_ : Nat) (S_q39 : TS_q39) (S_q4 : TS_q4) (S_q58 : TS_q58) (S_q11 : TS_q11) (S_q17 : TS_q17) (h_q39 : GoodF Pg 195 (F_q39 S_q39)) (h_q4 : GoodF Pg 134 (F_q4 S_q4)) (h_q58 : GoodF Pg 196 (F_q58 S_q58)) (h_q11 : GoodF Pg 197 (F_q11 S_q11)) (h_q17 : GoodF Pg 167 (F_q17 S_q17)) : GoodF Pg 163 (F_q24 (G_q24 N_ S_q39 S_q4 S_q58 S_q11 S_q17)) := by
  refine good_fs (cx := ⟨Pg, ofList [(195, (F_q39 S_q39)), (134, (F_q4 S_q4)), (196, (F_q58 S_q58)), (197, (F_q11 S_q11)), (167, (F_q17 S_q17))], isref, N_⟩) (ofList_cons h_q39 (ofList_cons h_q4 (ofList_cons h_q58 (ofList_cons h_q11 (ofList_cons h_q17 (ofList_nil _)))))) shF_q24 (sp_q24 (G_q24 N_ S_q39 S_q4 S_q58 S_q11 S_q17)) (an_q24 N_ S_q39 S_q4 S_q58 S_q11 S_q17) 1 1 (by kernel_rfl) (fun i_ hi_ => by
    match i_, hi_ with
    | 0, _ => exact ho_v_dyad_exact_halve_p0r_0 _ _ _ _ _ _
    | (q + 1), h => omega) ?_
  intro a k h
  unfold sp_q24 at h
  split at h
  · exact ⟨[_], rfl, rfl, (eq_q24 _ _ _ _ _ _ _ _ _ _).trans h⟩
  · cases h

def an_q117 (N_ : Nat) : Nat -> Option Ann := fun b_ => none
def ls_q200 (d_ : List V) (u_ : List (Option Blk)) (x : Int) (x_2 : Int) (n_1 : Int) : St := ⟨[.int .u64 x_2, (dq d_ 0), .int .i64 n_1, (dq d_ 1), (dq d_ 2), (dq d_ 3), (dq d_ 4), (dq d_ 5), (dq d_ 6), (dq d_ 7), (dq d_ 8), (dq d_ 9), (dq d_ 10), (dq d_ 11), (dq d_ 12), (dq d_ 13), (dq d_ 14), (dq d_ 15), (dq d_ 16), (dq d_ 17), (dq d_ 18), (dq d_ 19), (dq d_ 20), (dq d_ 21), (dq d_ 22)], []⟩
def ls_q194 (d_ : List V) (u_ : List (Option Blk)) (x : Int) (x_1 : Int) (n : Int) : St := ⟨[.int .u64 x_1, (dq d_ 0), .int .i64 n, (dq d_ 1), (dq d_ 2), (dq d_ 3), (dq d_ 4), (dq d_ 5), (dq d_ 6), (dq d_ 7), (dq d_ 8), (dq d_ 9), (dq d_ 10), (dq d_ 11), (dq d_ 12), (dq d_ 13), (dq d_ 14), (dq d_ 15), (dq d_ 16), (dq d_ 17), (dq d_ 18), (dq d_ 19), (dq d_ 20), (dq d_ 21), (dq d_ 22)], []⟩
theorem jn_q200 (N_ : Nat) (d_ : List V) (u_ : List (Option Blk)) (x : Int) (x_2 : Int) (n_1 : Int) (c_ : V -> List Blk -> Bool) : codesV ⟨Pg, ofList [], isref, N_⟩ 0 (an_q117 N_) ((cds Pg 220).drop 5) 0 (ls_q200 d_ u_ x x_2 n_1) (finV Pg 220 0 c_) = J_q200 N_ x x_2 n_1 (fun r0 => c_ (.int .i64 r0) []) := by kernel_rfl
theorem hd_q194 (N_ : Nat) (d_ : List V) (u_ : List (Option Blk)) (x : Int) (x_1 : Int) (n : Int) (c_ : V -> List Blk -> Bool) (κn_ : St -> Bool) : codesV ⟨Pg, ofList [], isref, N_⟩ 0 (an_q117 N_) (sg Pg 220 3 2) 0 (ls_q194 d_ u_ x x_1 n) { (finV Pg 220 0 c_) with nrm := κn_ } = (cond (decide (x_1 >= 65536)) ((fits .i64 (n + 16)) && (κn_ (ls_q200 (dqs d_ 0 5 [.int .u64 x_1, .bool true, .int .u64 x_1, .int .u64 (Int.fdiv x_1 (2 ^ 16)), .int .i64 n, .int .i64 (n + 16), (dq d_ 11), (dq d_ 12), (dq d_ 13), (dq d_ 14), (dq d_ 15), (dq d_ 16), (dq d_ 17), (dq d_ 18), (dq d_ 19), (dq d_ 20), (dq d_ 21), (dq d_ 22)]) [] x (Int.fdiv x_1 (2 ^ 16)) (n + 16)))) (κn_ (ls_q200 (dqs d_ 0 5 [.int .u64 x_1, .bool false, (dq d_ 7), (dq d_ 8), (dq d_ 9), (dq d_ 10), (dq d_ 11), (dq d_ 12), (dq d_ 13), (dq d_ 14), (dq d_ 15), (dq d_ 16), (dq d_ 17), (dq d_ 18), (dq d_ 19), (dq d_ 20), (dq d_ 21), (dq d_ 22)]) [] x x_1 n))) := by kernel_rfl
theorem jn_q194 (N_ : Nat) (d_ : List V) (u_ : List (Option Blk)) (x : Int) (x_1 : Int) (n : Int) (c_ : V -> List Blk -> Bool) : codesV ⟨Pg, ofList [], isref, N_⟩ 0 (an_q117 N_) ((cds Pg 220).drop 3) 0 (ls_q194 d_ u_ x x_1 n) (finV Pg 220 0 c_) = J_q194 N_ x x_1 n (fun r0 => c_ (.int .i64 r0) []) := by
  rw [codesV_cut 3 2 5 rfl]
  refine (hd_q194 N_ d_ u_ x x_1 n c_ _).trans ?_
  simp only [jn_q200]
  kernel_rfl
theorem hd_m_bits_Len64_w (N_ : Nat) (x : Int) (c_ : V -> List Blk -> Bool) (κn_ : St -> Bool) : codesV ⟨Pg, ofList [], isref, N_⟩ 0 (an_q117 N_) (sg Pg 220 0 3) 0 (st0 Pg 220 (shF_q117.args [.int x]) []) { (finV Pg 220 0 c_) with nrm := κn_ } = (cond (decide (x >= 4294967296)) (κn_ (ls_q194 [.any, .int .u64 x, .bool true, .int .u64 x, .int .u64 (Int.fdiv x (2 ^ 32)), .any, .any, .any, .any, .any, .any, .any, .any, .any, .any, .any, .any, .any, .any, .any, .any, .any, .any] [] x (Int.fdiv x (2 ^ 32)) 32)) (κn_ (ls_q194 [.any, .int .u64 x, .bool false, .any, .any, .any, .any, .any, .any, .any, .any, .any, .any, .any, .any, .any, .any, .any, .any, .any, .any, .any, .any] [] x x 0))) := by kernel_rfl
theorem jn_m_bits_Len64_w (N_ : Nat) (x : Int) (c_ : V -> List Blk -> Bool) : codesV ⟨Pg, ofList [], isref, N_⟩ 0 (an_q117 N_) ((cds Pg 220).drop 0) 0 (st0 Pg 220 (shF_q117.args [.int x]) []) (finV Pg 220 0 c_) = G_q117 N_ x (fun r0 => c_ (.int .i64 r0) []) := by
  rw [codesV_cut 0 3 3 rfl]
  refine (hd_m_bits_Len64_w N_ x c_ _).trans ?_
  simp only [jn_q194]
  kernel_rfl
theorem eq_q117 (N_ : Nat) (x : Int) (c_ : V -> List Blk -> Bool) : bodyV ⟨Pg, ofList [], isref, N_⟩ (an_q117 N_) 220 (shF_q117.args [.int x]) [] c_ = G_q117 N_ x (fun r0 => c_ (.int .i64 r0) []) :=
  (bodyV_codes (by kernel_rfl)).trans (jn_m_bits_Len64_w N_ x c_)
theorem good_q117 (N_ : Nat) : GoodF Pg 220 (F_q117 (G_q117 N_)) := by
  refine good_fs (cx := ⟨Pg, ofList [], isref, N_⟩) (ofList_nil _) shF_q117 (sp_q117 (G_q117 N_)) (an_q117 N_) 0 0 (by kernel_rfl) (fun i_ hi_ => by omega) ?_
  intro a k h
  unfold sp_q117 at h
  split at h
  · exact ⟨[], rfl, rfl, (eq_q117 _ _ _).trans h⟩
  · cases h

def an_q151 (N_ : Nat) (S_q117 : TS_q117) : Nat -> Option Ann := fun b_ => none
theorem eq_q151 (N_ : Nat) (S_q117 : TS_q117) (x : List Int) (c_ : V -> List Blk -> Bool) : bodyZ ⟨Pg, ofList [(220, (F_q117 S_q117))], isref, N_⟩ (an_q151 N_ S_q117) 198 (shF_q151.args [.ints x]) [] c_ = G_q151 N_ S_q117 x (fun r0 => c_ (.int .i64 r0) []) := by kernel_rfl
theorem good_q151 (N_ : Nat) (S_q117 : TS_q117) (h_q117 : GoodF Pg 220 (F_q117 S_q117)) : GoodF Pg 198 (F_q151 (G_q151 N_ S_q117)) := by
  refine good_fsZ (cx := ⟨Pg, ofList [(220, (F_q117 S_q117))], isref, N_⟩) (ofList_cons h_q117 (ofList_nil _)) shF_q151 (sp_q151 (G_q151 N_ S_q117)) (an_q151 N_ S_q117) 0 0 (by kernel_rfl) (fun i_ hi_ => by omega) ?_
  intro a k h
  unfold sp_q151 at h
  split at h
  · exact ⟨[], rfl, rfl, (eq_q151 _ _ _ _).trans h⟩
  · cases h

def an_q38 (N_ : Nat) (S_q151 : TS_q151) : Nat -> Option Ann := fun b_ => none
theorem eq_q38 (N_ : Nat) (S_q151 : TS_q151) (b : Bool) (b_1 : List Int) (c_ : V -> List Blk -> Bool) : bodyZ ⟨Pg, ofList [(198, (F_q151 S_q151))], isref, N_⟩ (an_q38 N_ S_q151) 164 (shF_q38.args [.bool b, .ints b_1]) [⟨164, 1, .cells [.bool b, .roi .u64 b_1]⟩] c_ = G_q38 N_ S_q151 b b_1 (fun r0 => c_ (.int .i64 r0) [⟨164, 1, .cells [.bool b, .roi .u64 b_1]⟩]) := by kernel_rfl
theorem good_q38 (N_ : Nat) (S_q151 : TS_q151) (h_q151 : GoodF Pg 198 (F_q151 S_q151)) : GoodF Pg 164 (F_q38 (G_q38 N_ S_q151)) := by
  refine good_fsZ (cx := ⟨Pg, ofList [(198, (F_q151 S_q151))], isref, N_⟩) (ofList_cons h_q151 (ofList_nil _)) shF_q38 (sp_q38 (G_q38 N_ S_q151)) (an_q38 N_ S_q151) 0 1 (by kernel_rfl) (fun i_ hi_ => by omega) ?_
  intro a k h
  unfold sp_q38 at h
  split at h
  · exact ⟨[_], rfl, rfl, (eq_q38 _ _ _ _ _).trans h⟩
  · cases h

def an_q61 (N_ : Nat) (S_q150 : TS_q150) (S_q0 : TS_q0) : Nat -> Option Ann := fun b_ => none
theorem eq_q61 (N_ : Nat) (S_q150 : TS_q150) (S_q0 : TS_q0) (n : Int) (b : Bool) (c_ : V -> List Blk -> Bool) : bodyZ ⟨Pg, ofList [(193, (F_q150 S_q150)), (170, (F_q0 S_q0))], isref, N_⟩ (an_q61 N_ S_q150 S_q0) 199 (shF_q61.args [.int n, .bool b]) [⟨164, 1, .cells [.bool b, .nil]⟩] c_ = G_q61 N_ S_q150 S_q0 n b (fun r0 r1 => c_ (.ptr 0 0) [⟨164, 1, .cells [.bool r0, .roi .u64 r1]⟩]) := by kernel_rfl
theorem good_q61 (N_ : Nat) (S_q150 : TS_q150) (S_q0 : TS_q0) (h_q150 : GoodF Pg 193 (F_q150 S_q150)) (h_q0 : GoodF Pg 170 (F_q0 S_q0)) : GoodF Pg 199 (F_q61 (G_q61 N_ S_q150 S_q0)) := by
  refine good_fsZ (cx := ⟨Pg, ofList [(193, (F_q150 S_q150)), (170, (F_q0 S_q0))], isref, N_⟩) (ofList_cons h_q150 (ofList_cons h_q0 (ofList_nil _))) shF_q61 (sp_q61 (G_q61 N_ S_q150 S_q0)) (an_q61 N_ S_q150 S_q0) 0 1 (by kernel_rfl) (fun i_ hi_ => by omega) ?_
  intro a k h
  unfold sp_q61 at h
  split at h
  · exact ⟨[_], rfl, rfl, (eq_q61 _ _ _ _ _ _).trans h⟩
  · cases h

def an_q65 (N_ : Nat) (S_q61 : TS_q61) : Nat -> Option Ann := fun b_ => none
theorem eq_q65 (N_ : Nat) (S_q61 : TS_q61) (n : Int) (c_ : V -> List Blk -> Bool) : bodyZ ⟨Pg, ofList [(199, (F_q61 S_q61))], isref, N_⟩ (an_q65 N_ S_q61) 165 (shF_q65.args [.int n]) [] c_ = G_q65 N_ S_q61 n (fun r0 r1 => c_ (.ptr 0 0) [⟨164, 1, .cells [.bool r0, .roi .u64 r1]⟩]) := by kernel_rfl
theorem good_q65 (N_ : Nat) (S_q61 : TS_q61) (h_q61 : GoodF Pg 199 (F_q61 S_q61)) : GoodF Pg 165 (F_q65 (G_q65 N_ S_q61)) := by
  refine good_fsZ (cx := ⟨Pg, ofList [(199, (F_q61 S_q61))], isref, N_⟩) (ofList_cons h_q61 (ofList_nil _)) shF_q65 (sp_q65 (G_q65 N_ S_q61)) (an_q65 N_ S_q61) 0 0 (by kernel_rfl) (fun i_ hi_ => by omega) ?_
  intro a k h
  unfold sp_q65 at h
  split at h
  · exact ⟨[], rfl, rfl, (eq_q65 _ _ _ _).trans h⟩
  · cases h

def an_q37 (N_ : Nat) (S_q85 : TS_q85) (S_q0 : TS_q0) : Nat -> Option Ann := fun b_ => none
theorem eq_q37 (N_ : Nat) (S_q85 : TS_q85) (S_q0 : TS_q0) (b : Bool) (b_1 : Bool) (b_2 : List Int) (c_ : V -> List Blk -> Bool) : bodyZ ⟨Pg, ofList [(171, (F_q85 S_q85)), (170, (F_q0 S_q0))], isref, N_⟩ (an_q37 N_ S_q85 S_q0) 166 (shF_q37.args [.bool b, .bool b_1, .ints b_2]) [⟨164, 1, .cells [.bool b, .nil]⟩, ⟨164, 1, .cells [.bool b_1, .roi .u64 b_2]⟩] c_ = G_q37 N_ S_q85 S_q0 b b_1 b_2 (fun r0 r1 => c_ (.ptr 0 0) [⟨164, 1, .cells [.bool r0, .roi .u64 r1]⟩, ⟨164, 1, .cells [.bool b_1, .roi .u64 b_2]⟩]) := by kernel_rfl
theorem good_q37 (N_ : Nat) (S_q85 : TS_q85) (S_q0 : TS_q0) (h_q85 : GoodF Pg 171 (F_q85 S_q85)) (h_q0 : GoodF Pg 170 (F_q0 S_q0)) : GoodF Pg 166 (F_q37 (G_q37 N_ S_q85 S_q0)) := by
  refine good_fsZ (cx := ⟨Pg, ofList [(171, (F_q85 S_q85)), (170, (F_q0 S_q0))], isref, N_⟩) (ofList_cons h_q85 (ofList_cons h_q0 (ofList_nil _))) shF_q37 (sp_q37 (G_q37 N_ S_q85 S_q0)) (an_q37 N_ S_q85 S_q0) 0 2 (by kernel_rfl) (fun i_ hi_ => by omega) ?_
  intro a k h
  unfold sp_q37 at h
  split at h
  · exact ⟨[_, _], rfl, rfl, (eq_q37 _ _ _ _ _ _ _).trans h⟩
  · cases h

def an_q41 (N_ : Nat) : Nat -> Option Ann := fun b_ => none
theorem eq_q41 (N_ : Nat) (neg : Bool) (abs_0 : Nat) (abs_1 : Nat) (b : Bool) (b_1 : List Int) (c_ : V -> List Blk -> Bool) : bodyZ ⟨Pg, ofList [], isref, N_⟩ (an_q41 N_) 170 (shF_q41.args [.bool neg, .nat abs_0, .nat abs_1, .bool b, .ints b_1]) [⟨164, 1, .cells [.bool b, .nil]⟩, ⟨41, 1, .ints .u64 b_1⟩] c_ = G_q41 N_ neg abs_0 abs_1 b b_1 (fun r0 => c_ (.ptr 0 0) [⟨164, 1, .cells [.bool r0, .sl 1 abs_0 abs_1]⟩, ⟨41, 1, .ints .u64 b_1⟩]) := by kernel_rfl
theorem good_q41 (N_ : Nat) : GoodF Pg 170 (F_q41 (G_q41 N_)) := by
  refine good_fsZ (cx := ⟨Pg, ofList [], isref, N_⟩) (ofList_nil _) shF_q41 (sp_q41 (G_q41 N_)) (an_q41 N_) 0 2 (by kernel_rfl) (fun i_ hi_ => by omega) ?_
  intro a k h
  unfold sp_q41 at h
  split at h
  · exact ⟨[_, _], rfl, rfl, (eq_q41 _ _ _ _ _ _ _).trans h⟩
  · cases h

def sh_st_big_Int_And_p0p1p2nrr_0 : StSh := ⟨[.ptr 0 0, .ptr 1 0, .ptr 2 0, .any, .any, .any, .any, .slw 3, .any, .any, .any, .any, .any, .any, .any, .any, .any, .any, .any, .any, .any, .any, .int .i64, .int .i64, .any, .any, .any, .any, .any, .any, .any, .any, .any, .any, .any, .any, .any, .any, .any, .any, .any, .any, .any, .any, .any, .any, .any, .any, .any], [some (164, 1, .cells [.bool, .nil]), some (164, 1, .cells [.bool, .roi .u64]), some (164, 1, .cells [.bool, .roi .u64]), some (41, 1, .ints .u64)]⟩
def sx0_st_big_Int_And_p0p1p2nrr_0 : StSh := ⟨[.ptr 0 0, .any, .any, .any, .any, .any, .any, .slw 3, .any, .any, .any, .any, .any, .any, .any, .any, .any, .any, .any, .any, .any, .any, .any, .any, .any, .any, .any, .any, .any, .any, .any, .any, .any, .any, .any, .any, .any, .any, .any, .any, .any, .any, .any, .any, .any, .any, .any, .any, .any], [some (164, 1, .cells [.bool, .nil]), some (164, 1, .cells [.bool, .roi .u64]), some (164, 1, .cells [.bool, .roi .u64]), some (41, 1, .ints .u64)]⟩
def hk_st_big_Int_And_p0p1p2nrr_0 (N_ : Nat) (S_q1 : TS_q1) (S_q41 : TS_q41) : List Atom -> K -> Bool := fun a_ κ => match a_ with
  | [.int t22, .int t23, .bool z, .bool x, .ints x_1, .bool y, .ints y_1, .ints r] => iterG N_ (st_q222 N_ S_q1 S_q41 t22 z x x_1 y y_1 (fun r5 => κ.ext 0 (sx0_st_big_Int_And_p0p1p2nrr_0.build [.bool z, .bool x, .ints x_1, .bool y, .ints y_1, .ints r5]))) (t23, r)
  | _ => false
def an_q25 (N_ : Nat) (S_q1 : TS_q1) (S_q41 : TS_q41) : Nat -> Option Ann := fun b_ => cond (b_ == 0) (some ⟨⟨[0, 1, 2, 7, 22, 23], [], []⟩, [(0, ⟨[0, 7], [], []⟩)], some ⟨[6], [], []⟩, some (mkHooks [(sh_st_big_Int_And_p0p1p2nrr_0, hk_st_big_Int_And_p0p1p2nrr_0 N_ S_q1 S_q41)])⟩) (none)
theorem eq_st_big_Int_And_p0p1p2nrr_0 (N_ : Nat) (S_q1 : TS_q1) (S_q41 : TS_q41) (κ : K) (t22 : Int) (t23 : Int) (z : Bool) (x : Bool) (x_1 : List Int) (y : Bool) (y_1 : List Int) (r : List Int) : iter N_ (fun s k => codeV ⟨Pg, ofList [(202, (F_q1 S_q1)), (170, (F_q41 S_q41))], isref, N_⟩ 3 (an_q25 N_ S_q1 S_q41) (lp Pg 168 0).2 (lp Pg 168 0).1 s (roundK Pg 3 ((an_q25 N_ S_q1 S_q41) (lp Pg 168 0).1) κ k)) (sh_st_big_Int_And_p0p1p2nrr_0.build [.int t22, .int t23, .bool z, .bool x, .ints x_1, .bool y, .ints y_1, .ints r]) = iterG N_ (st_q222 N_ S_q1 S_q41 t22 z x x_1 y y_1 (fun r5 => κ.ext 0 (sx0_st_big_Int_And_p0p1p2nrr_0.build [.bool z, .bool x, .ints x_1, .bool y, .ints y_1, .ints r5]))) (t23, r) :=
  iter_tr (fun (v_ : Int × List Int) => sh_st_big_Int_And_p0p1p2nrr_0.build [.int t22, .int v_.1, .bool z, .bool x, .ints x_1, .bool y, .ints y_1, .ints v_.2]) (fun v_ K_ => by obtain ⟨t23, r⟩ := v_; kernel_rfl) N_ (t23, r)
theorem hk1_st_big_Int_And_p0p1p2nrr_0 (N_ : Nat) (S_q1 : TS_q1) (S_q41 : TS_q41) : HookFor ⟨Pg, ofList [(202, (F_q1 S_q1)), (170, (F_q41 S_q41))], isref, N_⟩ 3 (an_q25 N_ S_q1 S_q41) (lp Pg 168 0) (sh_st_big_Int_And_p0p1p2nrr_0, hk_st_big_Int_And_p0p1p2nrr_0 N_ S_q1 S_q41) := by
  intro a κ h
  simp only at h
  unfold hk_st_big_Int_And_p0p1p2nrr_0 at h
  split at h
  · exact (eq_st_big_Int_And_p0p1p2nrr_0 _ _ _ _ _ _ _ _ _ _ _ _).trans h
  · cases h
theorem ho_big_Int_And_p0p1p2nrr_0 (N_ : Nat) (S_q1 : TS_q1) (S_q41 : TS_q41) : HookOk ⟨Pg, ofList [(202, (F_q1 S_q1)), (170, (F_q41 S_q41))], isref, N_⟩ 3 (an_q25 N_ S_q1 S_q41) (lp Pg 168 0) :=
  hooks_ok [(sh_st_big_Int_And_p0p1p2nrr_0, hk_st_big_Int_And_p0p1p2nrr_0 N_ S_q1 S_q41)] (by kernel_rfl) ⟨hk1_st_big_Int_And_p0p1p2nrr_0 _ _ _, trivial⟩
theorem eq_q25 (N_ : Nat) (S_q1 : TS_q1) (S_q41 : TS_q41) (b : Bool) (b_1 : Bool) (b_2 : List Int) (b_3 : Bool) (b_4 : List Int) (c_ : V -> List Blk -> Bool) : bodyZ ⟨Pg, ofList [(202, (F_q1 S_q1)), (170, (F_q41 S_q41))], isref, N_⟩ (an_q25 N_ S_q1 S_q41) 168 (shF_q25.args [.bool b, .bool b_1, .ints b_2, .bool b_3, .ints b_4]) [⟨164, 1, .cells [.bool b, .nil]⟩, ⟨164, 1, .cells [.bool b_1, .roi .u64 b_2]⟩, ⟨164, 1, .cells [.bool b_3, .roi .u64 b_4]⟩] c_ = G_q25 N_ S_q1 S_q41 b b_1 b_2 b_3 b_4 (fun r0 r1 => c_ (.ptr 0 0) [⟨164, 1, .cells [.bool r0, .roi .u64 r1]⟩, ⟨164, 1, .cells [.bool b_1, .roi .u64 b_2]⟩, ⟨164, 1, .cells [.bool b_3, .roi .u64 b_4]⟩]) := by kernel_rfl
theorem good_q25 (N_ : Nat) (S_q1 : TS_q1) (S_q41 : TS_q41) (h_q1 : GoodF Pg 202 (F_q1 S_q1)) (h_q41 : GoodF Pg 170 (F_q41 S_q41)) : GoodF Pg 168 (F_q25 (G_q25 N_ S_q1 S_q41)) := by
  refine good_fsZ (cx := ⟨Pg, ofList [(202, (F_q1 S_q1)), (170, (F_q41 S_q41))], isref, N_⟩) (ofList_cons h_q1 (ofList_cons h_q41 (ofList_nil _))) shF_q25 (sp_q25 (G_q25 N_ S_q1 S_q41)) (an_q25 N_ S_q1 S_q41) 1 3 (by kernel_rfl) (fun i_ hi_ => by
    match i_, hi_ with
    | 0, _ => exact ho_big_Int_And_p0p1p2nrr_0 _ _ _
    | (q + 1), h => omega) ?_
  intro a k h
  unfold sp_q25 at h
  split at h
  · exact ⟨[_, _, _], rfl, rfl, (eq_q25 _ _ _ _ _ _ _ _ _).trans h⟩
  · cases h

def an_q187 (N_ : Nat) (S_q18 : TS_q18) : Nat -> Option Ann := fun b_ => none
theorem eq_q187 (N_ : Nat) (S_q18 : TS_q18) (x : List Int) (c_ : V -> List Blk -> Bool) : bodyZ ⟨Pg, ofList [(205, (F_q18 S_q18))], isref, N_⟩ (an_q187 N_ S_q18) 203 (shF_q187.args [.ints x]) [] c_ = G_q187 N_ S_q18 x (fun r0 => c_ (.int .u64 r0) []) := by kernel_rfl
theorem good_q187 (N_ : Nat) (S_q18 : TS_q18) (h_q18 : GoodF Pg 205 (F_q18 S_q18)) : GoodF Pg 203 (F_q187 (G_q187 N_ S_q18)) := by
  refine good_fsZ (cx := ⟨Pg, ofList [(205, (F_q18 S_q18))], isref, N_⟩) (ofList_cons h_q18 (ofList_nil _)) shF_q187 (sp_q187 (G_q187 N_ S_q18)) (an_q187 N_ S_q18) 0 0 (by kernel_rfl) (fun i_ hi_ => by omega) ?_
  intro a k h
  unfold sp_q187 at h
  split at h
  · exact ⟨[], rfl, rfl, (eq_q187 _ _ _ _).trans h⟩
  · cases h

def an_q40 (N_ : Nat) (S_q187 : TS_q187) : Nat -> Option Ann := fun b_ => none
theorem eq_q40 (N_ : Nat) (S_q187 : TS_q187) (b : Bool) (b_1 : List Int) (c_ : V -> List Blk -> Bool) : bodyZ ⟨Pg, ofList [(203, (F_q187 S_q187))], isref, N_⟩ (an_q40 N_ S_q187) 169 (shF_q40.args [.bool b, .ints b_1]) [⟨164, 1, .cells [.bool b, .roi .u64 b_1]⟩] c_ = G_q40 N_ S_q187 b b_1 (fun r0 => c_ (.int .u64 r0) [⟨164, 1, .cells [.bool b, .roi .u64 b_1]⟩]) := by kernel_rfl
theorem good_q40 (N_ : Nat) (S_q187 : TS_q187) (h_q187 : GoodF Pg 203 (F_q187 S_q187)) : GoodF Pg 169 (F_q40 (G_q40 N_ S_q187)) := by
  refine good_fsZ (cx := ⟨Pg, ofList [(203, (F_q187 S_q187))], isref, N_⟩) (ofList_cons h_q187 (ofList_nil _)) shF_q40 (sp_q40 (G_q40 N_ S_q187)) (an_q40 N_ S_q187) 0 1 (by kernel_rfl) (fun i_ hi_ => by omega) ?_
  intro a k h
  unfold sp_q40 at h
  split at h
  · exact ⟨[_], rfl, rfl, (eq_q40 _ _ _ _ _).trans h⟩
  · cases h

def sh_st_v_dyad_exact_put_p0r_0 : StSh := ⟨[.any, .any, .ptr 1 0, .any, .ptr 2 0, .ptr 3 0, .ptr 4 0, .any, .any, .any, .any, .any, .any, .any, .any, .any, .any, .any, .any, .any, .any, .any, .any, .any, .any, .any, .any, .any, .any, .any, .any, .any, .any, .any, .any, .any, .any, .any, .any, .any, .any, .any, .any, .any, .any, .any, .any, .any, .any, .any, .any, .any, .any, .any, .any, .any, .any, .any, .any], [some (164, 1, .cells [.bool, .roi .u64]), some (124, 1, .cells [.bool, .nil, .int .i64]), some (124, 1, .cells [.bool, .slw 5, .int .i64]), some (164, 1, .cells [.bool, .roi .u64]), some (164, 1, .cells [.bool, .roi .u64]), some (127, 1, .ints .u32)]⟩
def sx0_st_v_dyad_exact_put_p0r_0 : StSh := ⟨[.any, .any, .ptr 1 0, .any, .ptr 2 0, .any, .any, .any, .any, .any, .any, .any, .any, .any, .any, .any, .any, .any, .any, .any, .any, .any, .any, .any, .any, .any, .any, .any, .any, .any, .any, .any, .any, .any, .any, .any, .any, .any, .any, .any, .any, .any, .any, .any, .any, .any, .any, .any, .any, .any, .any, .any, .any, .any, .any, .any, .any, .any, .any], [some (164, 1, .cells [.bool, .roi .u64]), some (124, 1, .cells [.bool, .nil, .int .i64]), some (124, 1, .cells [.bool, .slw 3, .int .i64]), some (127, 1, .ints .u32)]⟩
def hk_st_v_dyad_exact_put_p0r_0 (N_ : Nat) (S_q24 : TS_q24) (S_q4 : TS_q4) (S_q38 : TS_q38) (S_q65 : TS_q65) (S_q37 : TS_q37) (S_q25 : TS_q25) (S_q40 : TS_q40) (S_q17 : TS_q17) : List Atom -> K -> Bool := fun a_ κ => match a_ with
  | [.bool b0_2, .ints b0_3, .bool t2_2, .int t2_3, .bool d_2, .int d_3, .bool mask_2, .ints mask_3, .bool m_2, .ints m_3, .ints b5] => iterG N_ (st_q223 N_ S_q24 S_q4 S_q38 S_q65 S_q37 S_q25 S_q40 S_q17 b0_2 b0_3 t2_2 t2_3 d_2 d_3 mask_2 mask_3 (fun r6 => κ.ext 0 (sx0_st_v_dyad_exact_put_p0r_0.build [.bool b0_2, .ints b0_3, .bool t2_2, .int t2_3, .bool d_2, .int d_3, .ints r6]))) (m_2, m_3, b5)
  | _ => false
def an_q16 (N_ : Nat) (S_q24 : TS_q24) (S_q4 : TS_q4) (S_q38 : TS_q38) (S_q65 : TS_q65) (S_q37 : TS_q37) (S_q25 : TS_q25) (S_q40 : TS_q40) (S_q17 : TS_q17) : Nat -> Option Ann := fun b_ => cond (b_ == 0) (some ⟨⟨[2, 4, 5, 6], [(4, some 1, 127)], []⟩, [(0, ⟨[2, 4], [], []⟩)], some ⟨[2, 3], [], []⟩, some (mkHooks [(sh_st_v_dyad_exact_put_p0r_0, hk_st_v_dyad_exact_put_p0r_0 N_ S_q24 S_q4 S_q38 S_q65 S_q37 S_q25 S_q40 S_q17)])⟩) (none)
theorem eq_st_v_dyad_exact_put_p0r_0 (N_ : Nat) (S_q24 : TS_q24) (S_q4 : TS_q4) (S_q38 : TS_q38) (S_q65 : TS_q65) (S_q37 : TS_q37) (S_q25 : TS_q25) (S_q40 : TS_q40) (S_q17 : TS_q17) (κ : K) (b0_2 : Bool) (b0_3 : List Int) (t2_2 : Bool) (t2_3 : Int) (d_2 : Bool) (d_3 : Int) (mask_2 : Bool) (mask_3 : List Int) (m_2 : Bool) (m_3 : List Int) (b5 : List Int) : iter N_ (fun s k => codeV ⟨Pg, ofList [(163, (F_q24 S_q24)), (134, (F_q4 S_q4)), (164, (F_q38 S_q38)), (165, (F_q65 S_q65)), (166, (F_q37 S_q37)), (168, (F_q25 S_q25)), (169, (F_q40 S_q40)), (167, (F_q17 S_q17))], isref, N_⟩ 1 (an_q16 N_ S_q24 S_q4 S_q38 S_q65 S_q37 S_q25 S_q40 S_q17) (lp Pg 128 0).2 (lp Pg 128 0).1 s (roundK Pg 1 ((an_q16 N_ S_q24 S_q4 S_q38 S_q65 S_q37 S_q25 S_q40 S_q17) (lp Pg 128 0).1) κ k)) (sh_st_v_dyad_exact_put_p0r_0.build [.bool b0_2, .ints b0_3, .bool t2_2, .int t2_3, .bool d_2, .int d_3, .bool mask_2, .ints mask_3, .bool m_2, .ints m_3, .ints b5]) = iterG N_ (st_q223 N_ S_q24 S_q4 S_q38 S_q65 S_q37 S_q25 S_q40 S_q17 b0_2 b0_3 t2_2 t2_3 d_2 d_3 mask_2 mask_3 (fun r6 => κ.ext 0 (sx0_st_v_dyad_exact_put_p0r_0.build [.bool b0_2, .ints b0_3, .bool t2_2, .int t2_3, .bool d_2, .int d_3, .ints r6]))) (m_2, m_3, b5) :=
  iter_tr (fun (v_ : Bool × List Int × List Int) => sh_st_v_dyad_exact_put_p0r_0.build [.bool b0_2, .ints b0_3, .bool t2_2, .int t2_3, .bool d_2, .int d_3, .bool mask_2, .ints mask_3, .bool v_.1, .ints v_.2.1, .ints v_.2.2]) (fun v_ K_ => by obtain ⟨m_2, m_3, b5⟩ := v_; kernel_rfl) N_ (m_2, m_3, b5)
theorem hk1_st_v_dyad_exact_put_p0r_0 (N_ : Nat) (S_q24 : TS_q24) (S_q4 : TS_q4) (S_q38 : TS_q38) (S_q65 : TS_q65) (S_q37 : TS_q37) (S_q25 : TS_q25) (S_q40 : TS_q40) (S_q17 : TS_q17) : HookFor ⟨Pg, ofList [(163, (F_q24 S_q24)), (134, (F_q4 S_q4)), (164, (F_q38 S_q38)), (165, (F_q65 S_q65)), (166, (F_q37 S_q37)), (168, (F_q25 S_q25)), (169, (F_q40 S_q40)), (167, (F_q17 S_q17))], isref, N_⟩ 1 (an_q16 N_ S_q24 S_q4 S_q38 S_q65 S_q37 S_q25 S_q40 S_q17) (lp Pg 128 0) (sh_st_v_dyad_exact_put_p0r_0, hk_st_v_dyad_exact_put_p0r_0 N_ S_q24 S_q4 S_q38 S_q65 S_q37 S_q25 S_q40 S_q17) := by
  intro a κ h
  simp only at h
  unfold hk_st_v_dyad_exact_put_p0r_0 at h
  split at h
  · exact (eq_st_v_dyad_exact_put_p0r_0 _ _ _ _ _ _ _ _ _ _ _ _ _ _ _ _ _ _ _ _ _).trans h
  · cases h
theorem ho_v_dyad_exact_put_p0r_0 (N_ : Nat) (S_q24 : TS_q24) (S_q4 : TS_q4) (S_q38 : TS_q38) (S_q65 : TS_q65) (S_q37 : TS_q37) (S_q25 : TS_q25) (S_q40 : TS_q40) (S_q17 : TS_q17) : HookOk ⟨Pg, ofList [(163, (F_q24 S_q24)), (134, (F_q4 S_q4)), (164, (F_q38 S_q38)), (165, (F_q65 S_q65)), (166, (F_q37 S_q37)), (168, (F_q25 S_q25)), (169, (F_q40 S_q40)), (167, (F_q17 S_q17))], isref, N_⟩ 1 (an_q16 N_ S_q24 S_q4 S_q38 S_q65 S_q37 S_q25 S_q40 S_q17) (lp Pg 128 0) :=
  hooks_ok [(sh_st_v_dyad_exact_put_p0r_0, hk_st_v_dyad_exact_put_p0r_0 N_ S_q24 S_q4 S_q38 S_q65 S_q37 S_q25 S_q40 S_q17)] (by kernel_rfl) ⟨hk1_st_v_dyad_exact_put_p0r_0 _ _ _ _ _ _ _ _ _, trivial⟩
theorem eq_q16 (N_ : Nat) (S_q24 : TS_q24) (S_q4 : TS_q4) (S_q38 : TS_q38) (S_q65 : TS_q65) (S_q37 : TS_q37) (S_q25 : TS_q25) (S_q40 : TS_q40) (S_q17 : TS_q17) (x : Int) (b : Bool) (b_1 : List Int) (c_ : V -> List Blk -> Bool) : bodyV ⟨Pg, ofList [(163, (F_q24 S_q24)), (134, (F_q4 S_q4)), (164, (F_q38 S_q38)), (165, (F_q65 S_q65)), (166, (F_q37 S_q37)), (168, (F_q25 S_q25)), (169, (F_q40 S_q40)), (167, (F_q17 S_q17))], isref, N_⟩ (an_q16 N_ S_q24 S_q4 S_q38 S_q65 S_q37 S_q25 S_q40 S_q17) 128 (shF_q16.args [.int x, .bool b, .ints b_1]) [⟨164, 1, .cells [.bool b, .roi .u64 b_1]⟩] c_ = G_q16 N_ S_q24 S_q4 S_q38 S_q65 S_q37 S_q25 S_q40 S_q17 x b b_1 (fun r0 r1 r2 => c_ (.tup [.agg [.bool r0, .nil, .int .i64 r1], .int .i64 r2]) [⟨164, 1, .cells [.bool b, .roi .u64 b_1]⟩]) (fun r0 r1 r2 r5 => c_ (.tup [.agg [.bool r0, .slw 1, .int .i64 r1], .int .i64 r2]) [⟨164, 1, .cells [.bool b, .roi .u64 b_1]⟩, ⟨127, 1, .ints .u32 r5⟩]) := by kernel_rfl
theorem good_q16 (N_ : Nat) (S_q24 : TS_q24) (S_q4 : TS_q4) (S_q38 : TS_q38) (S_q65 : TS_q65) (S_q37 : TS_q37) (S_q25 : TS_q25) (S_q40 : TS_q40) (S_q17 : TS_q17) (h_q24 : GoodF Pg 163 (F_q24 S_q24)) (h_q4 : GoodF Pg 134 (F_q4 S_q4)) (h_q38 : GoodF Pg 164 (F_q38 S_q38)) (h_q65 : GoodF Pg 165 (F_q65 S_q65)) (h_q37 : GoodF Pg 166 (F_q37 S_q37)) (h_q25 : GoodF Pg 168 (F_q25 S_q25)) (h_q40 : GoodF Pg 169 (F_q40 S_q40)) (h_q17 : GoodF Pg 167 (F_q17 S_q17)) : GoodF Pg 128 (F_q16 (G_q16 N_ S_q24 S_q4 S_q38 S_q65 S_q37 S_q25 S_q40 S_q17)) := by
  refine good_fs (cx := ⟨Pg, ofList [(163, (F_q24 S_q24)), (134, (F_q4 S_q4)), (164, (F_q38 S_q38)), (165, (F_q65 S_q65)), (166, (F_q37 S_q37)), (168, (F_q25 S_q25)), (169, (F_q40 S_q40)), (167, (F_q17 S_q17))], isref, N_⟩) (ofList_cons h_q24 (ofList_cons h_q4 (ofList_cons h_q38 (ofList_cons h_q65 (ofList_cons h_q37 (ofList_cons h_q25 (ofList_cons h_q40 (ofList_cons h_q17 (ofList_nil _))))))))) shF_q16 (sp_q16 (G_q16 N_ S_q24 S_q4 S_q38 S_q65 S_q37 S_q25 S_q40 S_q17)) (an_q16 N_ S_q24 S_q4 S_q38 S_q65 S_q37 S_q25 S_q40 S_q17) 1 1 (by kernel_rfl) (fun i_ hi_ => by
    match i_, hi_ with
    | 0, _ => exact ho_v_dyad_exact_put_p0r_0 _ _ _ _ _ _ _ _ _
    | (q + 1), h => omega) ?_
  intro a k h
  unfold sp_q16 at h
  split at h
  · exact ⟨[_], rfl, rfl, (eq_q16 _ _ _ _ _ _ _ _ _ _ _ _ _).trans h⟩
  · cases h

def sh_st_dyad_Dot_0 : StSh := ⟨[.any, .rof, .any, .any, .ptr 0 0, .any, .ptr 1 0, .any, .any, .any, .any, .any, .any, .any, .any, .any, .any, .any, .any, .any, .any, .any, .any, .any, .any, .any, .rof, .int .i64, .int .i64, .any, .any, .any, .any, .any, .any, .any, .any, .any, .any, .any, .any, .any, .any, .any, .any, .any, .any, .any], [some (124, 1, .cells [.bool, .nil, .int .i64]), some (166, 1, .cells [.ptr 2 0, .int .i64]), some (164, 1, .cells [.bool, .roi .u64])]⟩
def sx0_st_dyad_Dot_0 : StSh := ⟨[.any, .any, .any, .any, .ptr 0 0, .any, .ptr 1 0, .any, .any, .any, .any, .any, .any, .any, .any, .any, .any, .any, .any, .any, .any, .any, .any, .any, .any, .any, .any, .any, .any, .any, .any, .any, .any, .any, .any, .any, .any, .any, .any, .any, .any, .any, .any, .any, .any, .any, .any, .any], [some (124, 1, .cells [.bool, .nil, .int .i64]), some (166, 1, .cells [.ptr 2 0, .int .i64]), some (164, 1, .cells [.bool, .roi .u64])]⟩
def hk_st_dyad_Dot_0 (N_ : Nat) (S_q97 : TS_q97) (S_q171 : TS_q171) (S_q20 : TS_q20) (S_q19 : TS_q19) (S_q3 : TS_q3) (S_q16 : TS_q16) : List Atom -> K -> Bool := fun a_ κ => match a_ with
  | [.fls b_2, .fls t26_1, .int t27_1, .int t28_1, .bool t4_2, .int t4_3, .int s_1, .bool b2_1, .ints b2_2] => iterG N_ (st_dyad_Dot_0 N_ S_q97 S_q171 S_q20 S_q19 S_q3 S_q16 b_2 t26_1 t27_1 t4_2 t4_3 (fun r2 r3 r4 => κ.ext 0 (sx0_st_dyad_Dot_0.build [.bool t4_2, .int t4_3, .int r2, .bool r3, .ints r4]))) (t28_1, s_1, b2_1, b2_2)
  | _ => false
def an_q94 (N_ : Nat) (S_q97 : TS_q97) (S_q171 : TS_q171) (S_q20 : TS_q20) (S_q19 : TS_q19) (S_q3 : TS_q3) (S_q16 : TS_q16) : Nat -> Option Ann := fun b_ => cond (b_ == 0) (some ⟨⟨[1, 4, 6, 26, 27, 28], [], [(2, 1, some .u64)]⟩, [(0, ⟨[4, 6], [], []⟩)], some ⟨[4, 5], [], []⟩, some (mkHooks [(sh_st_dyad_Dot_0, hk_st_dyad_Dot_0 N_ S_q97 S_q171 S_q20 S_q19 S_q3 S_q16)])⟩) (none)
theorem eq_st_dyad_Dot_0 (N_ : Nat) (S_q97 : TS_q97) (S_q171 : TS_q171) (S_q20 : TS_q20) (S_q19 : TS_q19) (S_q3 : TS_q3) (S_q16 : TS_q16) (κ : K) (b_2 : List Fl) (t26_1 : List Fl) (t27_1 : Int) (t28_1 : Int) (t4_2 : Bool) (t4_3 : Int) (s_1 : Int) (b2_1 : Bool) (b2_2 : List Int) : iter N_ (fun s k => codeV ⟨Pg, ofList [(124, (F_q97 S_q97)), (126, (F_q171 S_q171)), (127, (F_q20 S_q20)), (125, (orFs (F_q19 S_q19) (F_q3 S_q3) shF_q19)), (128, (F_q16 S_q16))], isref, N_⟩ 0 (an_q94 N_ S_q97 S_q171 S_q20 S_q19 S_q3 S_q16) (lp Pg 79 0).2 (lp Pg 79 0).1 s (roundK Pg 0 ((an_q94 N_ S_q97 S_q171 S_q20 S_q19 S_q3 S_q16) (lp Pg 79 0).1) κ k)) (sh_st_dyad_Dot_0.build [.fls b_2, .fls t26_1, .int t27_1, .int t28_1, .bool t4_2, .int t4_3, .int s_1, .bool b2_1, .ints b2_2]) = iterG N_ (st_dyad_Dot_0 N_ S_q97 S_q171 S_q20 S_q19 S_q3 S_q16 b_2 t26_1 t27_1 t4_2 t4_3 (fun r2 r3 r4 => κ.ext 0 (sx0_st_dyad_Dot_0.build [.bool t4_2, .int t4_3, .int r2, .bool r3, .ints r4]))) (t28_1, s_1, b2_1, b2_2) :=
  iter_tr (fun (v_ : Int × Int × Bool × List Int) => sh_st_dyad_Dot_0.build [.fls b_2, .fls t26_1, .int t27_1, .int v_.1, .bool t4_2, .int t4_3, .int v_.2.1, .bool v_.2.2.1, .ints v_.2.2.2]) (fun v_ K_ => by obtain ⟨t28_1, s_1, b2_1, b2_2⟩ := v_; kernel_rfl) N_ (t28_1, s_1, b2_1, b2_2)
theorem hk1_st_dyad_Dot_0 (N_ : Nat) (S_q97 : TS_q97) (S_q171 : TS_q171) (S_q20 : TS_q20) (S_q19 : TS_q19) (S_q3 : TS_q3) (S_q16 : TS_q16) : HookFor ⟨Pg, ofList [(124, (F_q97 S_q97)), (126, (F_q171 S_q171)), (127, (F_q20 S_q20)), (125, (orFs (F_q19 S_q19) (F_q3 S_q3) shF_q19)), (128, (F_q16 S_q16))], isref, N_⟩ 0 (an_q94 N_ S_q97 S_q171 S_q20 S_q19 S_q3 S_q16) (lp Pg 79 0) (sh_st_dyad_Dot_0, hk_st_dyad_Dot_0 N_ S_q97 S_q171 S_q20 S_q19 S_q3 S_q16) := by
  intro a κ h
  simp only at h
  unfold hk_st_dyad_Dot_0 at h
  split at h
  · exact (eq_st_dyad_Dot_0 _ _ _ _ _ _ _ _ _ _ _ _ _ _ _ _ _).trans h
  · cases h
theorem ho_dyad_Dot_0 (N_ : Nat) (S_q97 : TS_q97) (S_q171 : TS_q171) (S_q20 : TS_q20) (S_q19 : TS_q19) (S_q3 : TS_q3) (S_q16 : TS_q16) : HookOk ⟨Pg, ofList [(124, (F_q97 S_q97)), (126, (F_q171 S_q171)), (127, (F_q20 S_q20)), (125, (orFs (F_q19 S_q19) (F_q3 S_q3) shF_q19)), (128, (F_q16 S_q16))], isref, N_⟩ 0 (an_q94 N_ S_q97 S_q171 S_q20 S_q19 S_q3 S_q16) (lp Pg 79 0) :=
  hooks_ok [(sh_st_dyad_Dot_0, hk_st_dyad_Dot_0 N_ S_q97 S_q171 S_q20 S_q19 S_q3 S_q16)] (by kernel_rfl) ⟨hk1_st_dyad_Dot_0 _ _ _ _ _ _ _, trivial⟩
theorem eq_q94 (N_ : Nat) (S_q97 : TS_q97) (S_q171 : TS_q171) (S_q20 : TS_q20) (S_q19 : TS_q19) (S_q3 : TS_q3) (S_q16 : TS_q16) (a : List Fl) (b : List Fl) (c_ : V -> List Blk -> Bool) : bodyV ⟨Pg, ofList [(124, (F_q97 S_q97)), (126, (F_q171 S_q171)), (127, (F_q20 S_q20)), (125, (orFs (F_q19 S_q19) (F_q3 S_q3) shF_q19)), (128, (F_q16 S_q16))], isref, N_⟩ (an_q94 N_ S_q97 S_q171 S_q20 S_q19 S_q3 S_q16) 79 (shF_q94.args [.fls a, .fls b]) [] c_ = G_q94 N_ S_q97 S_q171 S_q20 S_q19 S_q3 S_q16 a b (fun r0 r1 r2 => c_ (.tup [.agg [.bool r0, .nil, .int .i64 r1], .int .i64 r2]) []) (fun r0 r1 r2 r3 => c_ (.tup [.agg [.bool r0, .slw 0, .int .i64 r1], .int .i64 r2]) [⟨127, 1, .ints .u32 r3⟩]) := by kernel_rfl
theorem good_q94 (N_ : Nat) (S_q97 : TS_q97) (S_q171 : TS_q171) (S_q20 : TS_q20) (S_q19 : TS_q19) (S_q3 : TS_q3) (S_q16 : TS_q16) (h_q97 : GoodF Pg 124 (F_q97 S_q97)) (h_q171 : GoodF Pg 126 (F_q171 S_q171)) (h_q20 : GoodF Pg 127 (F_q20 S_q20)) (h_q19 : GoodF Pg 125 (F_q19 S_q19)) (h_q3 : GoodF Pg 125 (F_q3 S_q3)) (h_q16 : GoodF Pg 128 (F_q16 S_q16)) : GoodF Pg 79 (F_q94 (G_q94 N_ S_q97 S_q171 S_q20 S_q19 S_q3 S_q16)) := by
  refine good_fs (cx := ⟨Pg, ofList [(124, (F_q97 S_q97)), (126, (F_q171 S_q171)), (127, (F_q20 S_q20)), (125, (orFs (F_q19 S_q19) (F_q3 S_q3) shF_q19)), (128, (F_q16 S_q16))], isref, N_⟩) (ofList_cons h_q97 (ofList_cons h_q171 (ofList_cons h_q20 (ofList_cons (good_or h_q19 h_q3) (ofList_cons h_q16 (ofList_nil _)))))) shF_q94 (sp_q94 (G_q94 N_ S_q97 S_q171 S_q20 S_q19 S_q3 S_q16)) (an_q94 N_ S_q97 S_q171 S_q20 S_q19 S_q3 S_q16) 1 0 (by kernel_rfl) (fun i_ hi_ => by
    match i_, hi_ with
    | 0, _ => exact ho_dyad_Dot_0 _ _ _ _ _ _ _
    | (q + 1), h => omega) ?_
  intro a k h
  unfold sp_q94 at h
  split at h
  · exact ⟨[], rfl, rfl, (eq_q94 _ _ _ _ _ _ _ _ _ _).trans h⟩
  · cases h

def an_q149 (N_ : Nat) : Nat -> Option Ann := fun b_ => none
theorem eq_q149 (N_ : Nat) (d_0 : Bool) (d_1 : List Int) (d_2 : Int) (c_ : V -> List Blk -> Bool) : bodyV ⟨Pg, ofList [], isref, N_⟩ (an_q149 N_) 132 (shF_q149.args [.bool d_0, .ints d_1, .int d_2]) [] c_ = G_q149 N_ d_0 d_1 d_2 (fun r0 => c_ (.bool r0) []) := by kernel_rfl
theorem good_q149 (N_ : Nat) : GoodF Pg 132 (F_q149 (G_q149 N_)) := by
  refine good_fs (cx := ⟨Pg, ofList [], isref, N_⟩) (ofList_nil _) shF_q149 (sp_q149 (G_q149 N_)) (an_q149 N_) 0 0 (by kernel_rfl) (fun i_ hi_ => by omega) ?_
  intro a k h
  unfold sp_q149 at h
  split at h
  · exact ⟨[], rfl, rfl, (eq_q149 _ _ _ _ _).trans h⟩
  · cases h

def an_q44 (N_ : Nat) (S_q124 : TS_q124) (S_q0 : TS_q0) : Nat -> Option Ann := fun b_ => none
theorem eq_q44 (N_ : Nat) (S_q124 : TS_q124) (S_q0 : TS_q0) (n : Int) (b : Bool) (c_ : V -> List Blk -> Bool) : bodyZ ⟨Pg, ofList [(204, (F_q124 S_q124)), (170, (F_q0 S_q0))], isref, N_⟩ (an_q44 N_ S_q124 S_q0) 172 (shF_q44.args [.int n, .bool b]) [⟨164, 1, .cells [.bool b, .nil]⟩] c_ = G_q44 N_ S_q124 S_q0 n b (fun r0 r1 => c_ (.ptr 0 0) [⟨164, 1, .cells [.bool r0, .roi .u64 r1]⟩]) := by kernel_rfl
theorem good_q44 (N_ : Nat) (S_q124 : TS_q124) (S_q0 : TS_q0) (h_q124 : GoodF Pg 204 (F_q124 S_q124)) (h_q0 : GoodF Pg 170 (F_q0 S_q0)) : GoodF Pg 172 (F_q44 (G_q44 N_ S_q124 S_q0)) := by
  refine good_fsZ (cx := ⟨Pg, ofList [(204, (F_q124 S_q124)), (170, (F_q0 S_q0))], isref, N_⟩) (ofList_cons h_q124 (ofList_cons h_q0 (ofList_nil _))) shF_q44 (sp_q44 (G_q44 N_ S_q124 S_q0)) (an_q44 N_ S_q124 S_q0) 0 1 (by kernel_rfl) (fun i_ hi_ => by omega) ?_
  intro a k h
  unfold sp_q44 at h
  split at h
  · exact ⟨[_], rfl, rfl, (eq_q44 _ _ _ _ _ _).trans h⟩
  · cases h

def an_q42 (N_ : Nat) : Nat -> Option Ann := fun b_ => none
theorem eq_q42 (N_ : Nat) (neg : Bool) (abs_0 : Nat) (abs_1 : Nat) (b : Bool) (b_1 : List Int) (b_2 : List Int) (c_ : V -> List Blk -> Bool) : bodyZ ⟨Pg, ofList [], isref, N_⟩ (an_q42 N_) 170 (shF_q42.args [.bool neg, .nat abs_0, .nat abs_1, .bool b, .ints b_1, .ints b_2]) [⟨164, 1, .cells [.bool b, .roi .u64 b_1]⟩, ⟨41, 1, .ints .u64 b_2⟩] c_ = G_q42 N_ neg abs_0 abs_1 b b_1 b_2 (fun r0 => c_ (.ptr 0 0) [⟨164, 1, .cells [.bool r0, .sl 1 abs_0 abs_1]⟩, ⟨41, 1, .ints .u64 b_2⟩]) := by kernel_rfl
theorem good_q42 (N_ : Nat) : GoodF Pg 170 (F_q42 (G_q42 N_)) := by
  refine good_fsZ (cx := ⟨Pg, ofList [], isref, N_⟩) (ofList_nil _) shF_q42 (sp_q42 (G_q42 N_)) (an_q42 N_) 0 2 (by kernel_rfl) (fun i_ hi_ => by omega) ?_
  intro a k h
  unfold sp_q42 at h
  split at h
  · exact ⟨[_, _], rfl, rfl, (eq_q42 _ _ _ _ _ _ _ _).trans h⟩
  · cases h

def sh_st_big_Int_Or_p0p0p1rr_0 : StSh := ⟨[.ptr 0 0, .ptr 0 0, .ptr 1 0, .any, .any, .any, .any, .slw 2, .any, .any, .any, .any, .any, .any, .any, .any, .any, .any, .any, .any, .any, .any, .int .i64, .int .i64, .any, .any, .any, .any, .any, .any, .any, .any, .any, .any, .any, .any, .any, .any, .any, .any, .any, .any, .any, .any, .any, .any, .any], [some (164, 1, .cells [.bool, .roi .u64]), some (164, 1, .cells [.bool, .roi .u64]), some (41, 1, .ints .u64)]⟩
def sx0_st_big_Int_Or_p0p0p1rr_0 : StSh := ⟨[.ptr 0 0, .any, .any, .any, .any, .any, .any, .slw 2, .any, .any, .any, .any, .any, .any, .any, .any, .any, .any, .any, .any, .any, .any, .any, .any, .any, .any, .any, .any, .any, .any, .any, .any, .any, .any, .any, .any, .any, .any, .any, .any, .any, .any, .any, .any, .any, .any, .any], [some (164, 1, .cells [.bool, .roi .u64]), some (164, 1, .cells [.bool, .roi .u64]), some (41, 1, .ints .u64)]⟩
def hk_st_big_Int_Or_p0p0p1rr_0 (N_ : Nat) (S_q18 : TS_q18) (S_q1 : TS_q1) (S_q42 : TS_q42) : List Atom -> K -> Bool := fun a_ κ => match a_ with
  | [.int t22, .int t23, .bool z, .ints z_1, .bool y, .ints y_1, .ints r] => iterG N_ (st_q224 N_ S_q18 S_q1 S_q42 t22 z z_1 y y_1 (fun r4 => κ.ext 0 (sx0_st_big_Int_Or_p0p0p1rr_0.build [.bool z, .ints z_1, .bool y, .ints y_1, .ints r4]))) (t23, r)
  | _ => false
def an_q31 (N_ : Nat) (S_q18 : TS_q18) (S_q1 : TS_q1) (S_q42 : TS_q42) : Nat -> Option Ann := fun b_ => cond (b_ == 0) (some ⟨⟨[0, 1, 2, 7, 22, 23], [], []⟩, [(0, ⟨[0, 7], [], []⟩)], some ⟨[6], [], []⟩, some (mkHooks [(sh_st_big_Int_Or_p0p0p1rr_0, hk_st_big_Int_Or_p0p0p1rr_0 N_ S_q18 S_q1 S_q42)])⟩) (none)
theorem eq_st_big_Int_Or_p0p0p1rr_0 (N_ : Nat) (S_q18 : TS_q18) (S_q1 : TS_q1) (S_q42 : TS_q42) (κ : K) (t22 : Int) (t23 : Int) (z : Bool) (z_1 : List Int) (y : Bool) (y_1 : List Int) (r : List Int) : iter N_ (fun s k => codeV ⟨Pg, ofList [(205, (F_q18 S_q18)), (202, (F_q1 S_q1)), (170, (F_q42 S_q42))], isref, N_⟩ 2 (an_q31 N_ S_q18 S_q1 S_q42) (lp Pg 173 0).2 (lp Pg 173 0).1 s (roundK Pg 2 ((an_q31 N_ S_q18 S_q1 S_q42) (lp Pg 173 0).1) κ k)) (sh_st_big_Int_Or_p0p0p1rr_0.build [.int t22, .int t23, .bool z, .ints z_1, .bool y, .ints y_1, .ints r]) = iterG N_ (st_q224 N_ S_q18 S_q1 S_q42 t22 z z_1 y y_1 (fun r4 => κ.ext 0 (sx0_st_big_Int_Or_p0p0p1rr_0.build [.bool z, .ints z_1, .bool y, .ints y_1, .ints r4]))) (t23, r) :=
  iter_tr (fun (v_ : Int × List Int) => sh_st_big_Int_Or_p0p0p1rr_0.build [.int t22, .int v_.1, .bool z, .ints z_1, .bool y, .ints y_1, .ints v_.2]) (fun v_ K_ => by obtain ⟨t23, r⟩ := v_; kernel_rfl) N_ (t23, r)
theorem hk1_st_big_Int_Or_p0p0p1rr_0 (N_ : Nat) (S_q18 : TS_q18) (S_q1 : TS_q1) (S_q42 : TS_q42) : HookFor ⟨Pg, ofList [(205, (F_q18 S_q18)), (202, (F_q1 S_q1)), (170, (F_q42 S_q42))], isref, N_⟩ 2 (an_q31 N_ S_q18 S_q1 S_q42) (lp Pg 173 0) (sh_st_big_Int_Or_p0p0p1rr_0, hk_st_big_Int_Or_p0p0p1rr_0 N_ S_q18 S_q1 S_q42) := by
  intro a κ h
  simp only at h
  unfold hk_st_big_Int_Or_p0p0p1rr_0 at h
  split at h
  · exact (eq_st_big_Int_Or_p0p0p1rr_0 _ _ _ _ _ _ _ _ _ _ _ _).trans h
  · cases h
theorem ho_big_Int_Or_p0p0p1rr_0 (N_ : Nat) (S_q18 : TS_q18) (S_q1 : TS_q1) (S_q42 : TS_q42) : HookOk ⟨Pg, ofList [(205, (F_q18 S_q18)), (202, (F_q1 S_q1)), (170, (F_q42 S_q42))], isref, N_⟩ 2 (an_q31 N_ S_q18 S_q1 S_q42) (lp Pg 173 0) :=
  hooks_ok [(sh_st_big_Int_Or_p0p0p1rr_0, hk_st_big_Int_Or_p0p0p1rr_0 N_ S_q18 S_q1 S_q42)] (by kernel_rfl) ⟨hk1_st_big_Int_Or_p0p0p1rr_0 _ _ _ _, trivial⟩
theorem eq_q31 (N_ : Nat) (S_q18 : TS_q18) (S_q1 : TS_q1) (S_q42 : TS_q42) (b : Bool) (b_1 : List Int) (b_2 : Bool) (b_3 : List Int) (c_ : V -> List Blk -> Bool) : bodyZ ⟨Pg, ofList [(205, (F_q18 S_q18)), (202, (F_q1 S_q1)), (170, (F_q42 S_q42))], isref, N_⟩ (an_q31 N_ S_q18 S_q1 S_q42) 173 (shF_q31.args [.bool b, .ints b_1, .bool b_2, .ints b_3]) [⟨164, 1, .cells [.bool b, .roi .u64 b_1]⟩, ⟨164, 1, .cells [.bool b_2, .roi .u64 b_3]⟩] c_ = G_q31 N_ S_q18 S_q1 S_q42 b b_1 b_2 b_3 (fun r0 r1 => c_ (.ptr 0 0) [⟨164, 1, .cells [.bool r0, .roi .u64 r1]⟩, ⟨164, 1, .cells [.bool b_2, .roi .u64 b_3]⟩]) := by kernel_rfl
theorem good_q31 (N_ : Nat) (S_q18 : TS_q18) (S_q1 : TS_q1) (S_q42 : TS_q42) (h_q18 : GoodF Pg 205 (F_q18 S_q18)) (h_q1 : GoodF Pg 202 (F_q1 S_q1)) (h_q42 : GoodF Pg 170 (F_q42 S_q42)) : GoodF Pg 173 (F_q31 (G_q31 N_ S_q18 S_q1 S_q42)) := by
  refine good_fsZ (cx := ⟨Pg, ofList [(205, (F_q18 S_q18)), (202, (F_q1 S_q1)), (170, (F_q42 S_q42))], isref, N_⟩) (ofList_cons h_q18 (ofList_cons h_q1 (ofList_cons h_q42 (ofList_nil _)))) shF_q31 (sp_q31 (G_q31 N_ S_q18 S_q1 S_q42)) (an_q31 N_ S_q18 S_q1 S_q42) 1 2 (by kernel_rfl) (fun i_ hi_ => by
    match i_, hi_ with
    | 0, _ => exact ho_big_Int_Or_p0p0p1rr_0 _ _ _ _
    | (q + 1), h => omega) ?_
  intro a k h
  unfold sp_q31 at h
  split at h
  · exact ⟨[_, _], rfl, rfl, (eq_q31 _ _ _ _ _ _ _ _ _).trans h⟩
  · cases h

def an_q48 (N_ : Nat) (S_q124 : TS_q124) (S_q32 : TS_q32) : Nat -> Option Ann := fun b_ => none
theorem eq_q48 (N_ : Nat) (S_q124 : TS_q124) (S_q32 : TS_q32) (n : Int) (b : Bool) (b_1 : List Int) (c_ : V -> List Blk -> Bool) : bodyZ ⟨Pg, ofList [(204, (F_q124 S_q124)), (170, (F_q32 S_q32))], isref, N_⟩ (an_q48 N_ S_q124 S_q32) 172 (shF_q48.args [.int n, .bool b, .ints b_1]) [⟨164, 1, .cells [.bool b, .roi .u64 b_1]⟩] c_ = G_q48 N_ S_q124 S_q32 n b b_1 (fun r0 r1 => c_ (.ptr 0 0) [⟨164, 1, .cells [.bool r0, .roi .u64 r1]⟩]) := by kernel_rfl
theorem good_q48 (N_ : Nat) (S_q124 : TS_q124) (S_q32 : TS_q32) (h_q124 : GoodF Pg 204 (F_q124 S_q124)) (h_q32 : GoodF Pg 170 (F_q32 S_q32)) : GoodF Pg 172 (F_q48 (G_q48 N_ S_q124 S_q32)) := by
  refine good_fsZ (cx := ⟨Pg, ofList [(204, (F_q124 S_q124)), (170, (F_q32 S_q32))], isref, N_⟩) (ofList_cons h_q124 (ofList_cons h_q32 (ofList_nil _))) shF_q48 (sp_q48 (G_q48 N_ S_q124 S_q32)) (an_q48 N_ S_q124 S_q32) 0 1 (by kernel_rfl) (fun i_ hi_ => by omega) ?_
  intro a k h
  unfold sp_q48 at h
  split at h
  · exact ⟨[_], rfl, rfl, (eq_q48 _ _ _ _ _ _ _).trans h⟩
  · cases h

def sh_st_dyad_take_0 : StSh := ⟨[.any, .ptr 0 0, .ptr 1 0, .ptr 2 0, .int .i64, .any, .any, .any, .any, .any, .any, .any, .any, .any, .any, .any, .any, .any, .any, .any, .any, .any, .any, .any, .any, .any, .any, .any, .any, .any, .any, .any, .any, .any, .any, .any], [some (124, 1, .cells [.bool, .roi .u32, .int .i64]), some (166, 1, .cells [.val, .int .i64]), some (164, 1, .cells [.bool, .roi .u64])]⟩
def sx0_st_dyad_take_0 : StSh := ⟨[.any, .ptr 0 0, .ptr 1 0, .ptr 2 0, .any, .any, .any, .any, .any, .any, .any, .any, .any, .any, .any, .any, .any, .any, .any, .any, .any, .any, .any, .any, .any, .any, .any, .any, .any, .any, .any, .any, .any, .any, .any, .any], [some (124, 1, .cells [.bool, .roi .u32, .int .i64]), some (166, 1, .cells [.val, .int .i64]), some (164, 1, .cells [.bool, .roi .u64])]⟩
def hk_st_dyad_take_0 (N_ : Nat) (S_q44 : TS_q44) (S_q65 : TS_q65) (S_q31 : TS_q31) (S_q48 : TS_q48) (S_q26 : TS_q26) : List Atom -> K -> Bool := fun a_ κ => match a_ with
  | [.int i_1, .bool d_3, .ints d_4, .int d_5, .val t2_2, .int t2_3, .bool n_1, .ints n_2] => iterG N_ (st_dyad_take_0 N_ S_q44 S_q65 S_q31 S_q48 S_q26 d_3 d_4 d_5 t2_2 t2_3 (fun r5 r6 => κ.ext 0 (sx0_st_dyad_take_0.build [.bool d_3, .ints d_4, .int d_5, .val t2_2, .int t2_3, .bool r5, .ints r6]))) (i_1, n_1, n_2)
  | _ => false
def an_q130 (N_ : Nat) (S_q44 : TS_q44) (S_q65 : TS_q65) (S_q31 : TS_q31) (S_q48 : TS_q48) (S_q26 : TS_q26) : Nat -> Option Ann := fun b_ => cond (b_ == 0) (some ⟨⟨[1, 2, 3, 4], [], [(2, 1, some .u64)]⟩, [(0, ⟨[1, 2, 3], [], []⟩)], some ⟨[2], [], []⟩, some (mkHooks [(sh_st_dyad_take_0, hk_st_dyad_take_0 N_ S_q44 S_q65 S_q31 S_q48 S_q26)])⟩) (none)
theorem eq_st_dyad_take_0 (N_ : Nat) (S_q44 : TS_q44) (S_q65 : TS_q65) (S_q31 : TS_q31) (S_q48 : TS_q48) (S_q26 : TS_q26) (κ : K) (i_1 : Int) (d_3 : Bool) (d_4 : List Int) (d_5 : Int) (t2_2 : Value) (t2_3 : Int) (n_1 : Bool) (n_2 : List Int) : iter N_ (fun s k => codeV ⟨Pg, ofList [(172, (orFs (F_q44 S_q44) (F_q48 S_q48) shF_q44)), (165, (F_q65 S_q65)), (173, (F_q31 S_q31)), (131, (F_q26 S_q26))], isref, N_⟩ 0 (an_q130 N_ S_q44 S_q65 S_q31 S_q48 S_q26) (lp Pg 133 0).2 (lp Pg 133 0).1 s (roundK Pg 0 ((an_q130 N_ S_q44 S_q65 S_q31 S_q48 S_q26) (lp Pg 133 0).1) κ k)) (sh_st_dyad_take_0.build [.int i_1, .bool d_3, .ints d_4, .int d_5, .val t2_2, .int t2_3, .bool n_1, .ints n_2]) = iterG N_ (st_dyad_take_0 N_ S_q44 S_q65 S_q31 S_q48 S_q26 d_3 d_4 d_5 t2_2 t2_3 (fun r5 r6 => κ.ext 0 (sx0_st_dyad_take_0.build [.bool d_3, .ints d_4, .int d_5, .val t2_2, .int t2_3, .bool r5, .ints r6]))) (i_1, n_1, n_2) :=
  iter_tr (fun (v_ : Int × Bool × List Int) => sh_st_dyad_take_0.build [.int v_.1, .bool d_3, .ints d_4, .int d_5, .val t2_2, .int t2_3, .bool v_.2.1, .ints v_.2.2]) (fun v_ K_ => by obtain ⟨i_1, n_1, n_2⟩ := v_; kernel_rfl) N_ (i_1, n_1, n_2)
theorem hk1_st_dyad_take_0 (N_ : Nat) (S_q44 : TS_q44) (S_q65 : TS_q65) (S_q31 : TS_q31) (S_q48 : TS_q48) (S_q26 : TS_q26) : HookFor ⟨Pg, ofList [(172, (orFs (F_q44 S_q44) (F_q48 S_q48) shF_q44)), (165, (F_q65 S_q65)), (173, (F_q31 S_q31)), (131, (F_q26 S_q26))], isref, N_⟩ 0 (an_q130 N_ S_q44 S_q65 S_q31 S_q48 S_q26) (lp Pg 133 0) (sh_st_dyad_take_0, hk_st_dyad_take_0 N_ S_q44 S_q65 S_q31 S_q48 S_q26) := by
  intro a κ h
  simp only at h
  unfold hk_st_dyad_take_0 at h
  split at h
  · exact (eq_st_dyad_take_0 _ _ _ _ _ _ _ _ _ _ _ _ _ _ _).trans h
  · cases h
theorem ho_dyad_take_0 (N_ : Nat) (S_q44 : TS_q44) (S_q65 : TS_q65) (S_q31 : TS_q31) (S_q48 : TS_q48) (S_q26 : TS_q26) : HookOk ⟨Pg, ofList [(172, (orFs (F_q44 S_q44) (F_q48 S_q48) shF_q44)), (165, (F_q65 S_q65)), (173, (F_q31 S_q31)), (131, (F_q26 S_q26))], isref, N_⟩ 0 (an_q130 N_ S_q44 S_q65 S_q31 S_q48 S_q26) (lp Pg 133 0) :=
  hooks_ok [(sh_st_dyad_take_0, hk_st_dyad_take_0 N_ S_q44 S_q65 S_q31 S_q48 S_q26)] (by kernel_rfl) ⟨hk1_st_dyad_take_0 _ _ _ _ _ _, trivial⟩
theorem eq_q130 (N_ : Nat) (S_q44 : TS_q44) (S_q65 : TS_q65) (S_q31 : TS_q31) (S_q48 : TS_q48) (S_q26 : TS_q26) (d_0 : Bool) (d_1 : List Int) (d_2 : Int) (c_ : V -> List Blk -> Bool) : bodyV ⟨Pg, ofList [(172, (orFs (F_q44 S_q44) (F_q48 S_q48) shF_q44)), (165, (F_q65 S_q65)), (173, (F_q31 S_q31)), (131, (F_q26 S_q26))], isref, N_⟩ (an_q130 N_ S_q44 S_q65 S_q31 S_q48 S_q26) 133 (shF_q130.args [.bool d_0, .ints d_1, .int d_2]) [] c_ = G_q130 N_ S_q44 S_q65 S_q31 S_q48 S_q26 d_0 d_1 d_2 (fun r1 r2 => c_ (.agg [.ptr 0 0, .int .i64 d_2]) [⟨164, 1, .cells [.bool r1, .roi .u64 r2]⟩]) := by kernel_rfl
theorem good_q130 (N_ : Nat) (S_q44 : TS_q44) (S_q65 : TS_q65) (S_q31 : TS_q31) (S_q48 : TS_q48) (S_q26 : TS_q26) (h_q44 : GoodF Pg 172 (F_q44 S_q44)) (h_q65 : GoodF Pg 165 (F_q65 S_q65)) (h_q31 : GoodF Pg 173 (F_q31 S_q31)) (h_q48 : GoodF Pg 172 (F_q48 S_q48)) (h_q26 : GoodF Pg 131 (F_q26 S_q26)) : GoodF Pg 133 (F_q130 (G_q130 N_ S_q44 S_q65 S_q31 S_q48 S_q26)) := by
  refine good_fs (cx := ⟨Pg, ofList [(172, (orFs (F_q44 S_q44) (F_q48 S_q48) shF_q44)), (165, (F_q65 S_q65)), (173, (F_q31 S_q31)), (131, (F_q26 S_q26))], isref, N_⟩) (ofList_cons (good_or h_q44 h_q48) (ofList_cons h_q65 (ofList_cons h_q31 (ofList_cons h_q26 (ofList_nil _))))) shF_q130 (sp_q130 (G_q130 N_ S_q44 S_q65 S_q31 S_q48 S_q26)) (an_q130 N_ S_q44 S_q65 S_q31 S_q48 S_q26) 1 0 (by kernel_rfl) (fun i_ hi_ => by
    match i_, hi_ with
    | 0, _ => exact ho_dyad_take_0 _ _ _ _ _ _
    | (q + 1), h => omega) ?_
  intro a k h
  unfold sp_q130 at h
  split at h
  · exact ⟨[], rfl, rfl, (eq_q130 _ _ _ _ _ _ _ _ _ _).trans h⟩
  · cases h

def an_q45 (N_ : Nat) (S_q85 : TS_q85) (S_q0 : TS_q0) : Nat -> Option Ann := fun b_ => none
theorem eq_q45 (N_ : Nat) (S_q85 : TS_q85) (S_q0 : TS_q0) (b : Bool) (b_1 : Bool) (b_2 : List Int) (c_ : V -> List Blk -> Bool) : bodyZ ⟨Pg, ofList [(171, (F_q85 S_q85)), (170, (F_q0 S_q0))], isref, N_⟩ (an_q45 N_ S_q85 S_q0) 131 (shF_q45.args [.bool b, .bool b_1, .ints b_2]) [⟨164, 1, .cells [.bool b, .nil]⟩, ⟨164, 1, .cells [.bool b_1, .roi .u64 b_2]⟩] c_ = G_q45 N_ S_q85 S_q0 b b_1 b_2 (fun r0 r1 => c_ (.ptr 0 0) [⟨164, 1, .cells [.bool r0, .roi .u64 r1]⟩, ⟨164, 1, .cells [.bool b_1, .roi .u64 b_2]⟩]) := by kernel_rfl
theorem good_q45 (N_ : Nat) (S_q85 : TS_q85) (S_q0 : TS_q0) (h_q85 : GoodF Pg 171 (F_q85 S_q85)) (h_q0 : GoodF Pg 170 (F_q0 S_q0)) : GoodF Pg 131 (F_q45 (G_q45 N_ S_q85 S_q0)) := by
  refine good_fsZ (cx := ⟨Pg, ofList [(171, (F_q85 S_q85)), (170, (F_q0 S_q0))], isref, N_⟩) (ofList_cons h_q85 (ofList_cons h_q0 (ofList_nil _))) shF_q45 (sp_q45 (G_q45 N_ S_q85 S_q0)) (an_q45 N_ S_q85 S_q0) 0 2 (by kernel_rfl) (fun i_ hi_ => by omega) ?_
  intro a k h
  unfold sp_q45 at h
  split at h
  · exact ⟨[_, _], rfl, rfl, (eq_q45 _ _ _ _ _ _ _).trans h⟩
  · cases h

def an_q78 (N_ : Nat) (S_q45 : TS_q45) (S_q3 : TS_q3) : Nat -> Option Ann := fun b_ => none
theorem eq_q78 (N_ : Nat) (S_q45 : TS_q45) (S_q3 : TS_q3) (x : Int) (y : Int) (b : Bool) (b_1 : List Int) (b_2 : Bool) (b_3 : List Int) (c_ : V -> List Blk -> Bool) : bodyV ⟨Pg, ofList [(131, (F_q45 S_q45)), (125, (F_q3 S_q3))], isref, N_⟩ (an_q78 N_ S_q45 S_q3) 130 (shF_q78.args [.int x, .int y, .bool b, .ints b_1, .bool b_2, .ints b_3]) [⟨164, 1, .cells [.bool b, .roi .u64 b_1]⟩, ⟨164, 1, .cells [.bool b_2, .roi .u64 b_3]⟩] c_ = G_q78 N_ S_q45 S_q3 x y b b_1 b_2 b_3 (fun r0 r5 r6 => c_ (.agg [.ptr 2 0, .int .i64 r0]) [⟨164, 1, .cells [.bool b, .roi .u64 b_1]⟩, ⟨164, 1, .cells [.bool b_2, .roi .u64 b_3]⟩, ⟨164, 1, .cells [.bool r5, .roi .u64 r6]⟩]) (c_ (.agg [.ptr 0 0, .int .i64 x]) [⟨164, 1, .cells [.bool b, .roi .u64 b_1]⟩, ⟨164, 1, .cells [.bool b_2, .roi .u64 b_3]⟩]) := by kernel_rfl
theorem good_q78 (N_ : Nat) (S_q45 : TS_q45) (S_q3 : TS_q3) (h_q45 : GoodF Pg 131 (F_q45 S_q45)) (h_q3 : GoodF Pg 125 (F_q3 S_q3)) : GoodF Pg 130 (F_q78 (G_q78 N_ S_q45 S_q3)) := by
  refine good_fs (cx := ⟨Pg, ofList [(131, (F_q45 S_q45)), (125, (F_q3 S_q3))], isref, N_⟩) (ofList_cons h_q45 (ofList_cons h_q3 (ofList_nil _))) shF_q78 (sp_q78 (G_q78 N_ S_q45 S_q3)) (an_q78 N_ S_q45 S_q3) 0 2 (by kernel_rfl) (fun i_ hi_ => by omega) ?_
  intro a k h
  unfold sp_q78 at h
  split at h
  · exact ⟨[_, _], rfl, rfl, (eq_q78 _ _ _ _ _ _ _ _ _ _).trans h⟩
  · cases h

def an_q137 (N_ : Nat) (S_q149 : TS_q149) (S_q130 : TS_q130) (S_q78 : TS_q78) (S_q16 : TS_q16) : Nat -> Option Ann := fun b_ => none
theorem eq_q137 (N_ : Nat) (S_q149 : TS_q149) (S_q130 : TS_q130) (S_q78 : TS_q78) (S_q16 : TS_q16) (a_0 : Bool) (a_1 : List Int) (a_2 : Int) (b_0 : Bool) (b_1 : List Int) (b_2 : Int) (c_ : V -> List Blk -> Bool) : bodyV ⟨Pg, ofList [(132, (F_q149 S_q149)), (133, (F_q130 S_q130)), (130, (F_q78 S_q78)), (128, (F_q16 S_q16))], isref, N_⟩ (an_q137 N_ S_q149 S_q130 S_q78 S_q16) 129 (shF_q137.args [.bool a_0, .ints a_1, .int a_2, .bool b_0, .ints b_1, .int b_2]) [] c_ = G_q137 N_ S_q149 S_q130 S_q78 S_q16 a_0 a_1 a_2 b_0 b_1 b_2 (fun r0 r1 r2 => c_ (.tup [.agg [.bool r0, .nil, .int .i64 r1], .int .i64 r2]) []) (fun r0 r1 r2 r3 => c_ (.tup [.agg [.bool r0, .slw 0, .int .i64 r1], .int .i64 r2]) [⟨127, 1, .ints .u32 r3⟩]) := by kernel_rfl
theorem good_q137 (N_ : Nat) (S_q149 : TS_q149) (S_q130 : TS_q130) (S_q78 : TS_q78) (S_q16 : TS_q16) (h_q149 : GoodF Pg 132 (F_q149 S_q149)) (h_q130 : GoodF Pg 133 (F_q130 S_q130)) (h_q78 : GoodF Pg 130 (F_q78 S_q78)) (h_q16 : GoodF Pg 128 (F_q16 S_q16)) : GoodF Pg 129 (F_q137 (G_q137 N_ S_q149 S_q130 S_q78 S_q16)) := by
  refine good_fs (cx := ⟨Pg, ofList [(132, (F_q149 S_q149)), (133, (F_q130 S_q130)), (130, (F_q78 S_q78)), (128, (F_q16 S_q16))], isref, N_⟩) (ofList_cons h_q149 (ofList_cons h_q130 (ofList_cons h_q78 (ofList_cons h_q16 (ofList_nil _))))) shF_q137 (sp_q137 (G_q137 N_ S_q149 S_q130 S_q78 S_q16)) (an_q137 N_ S_q149 S_q130 S_q78 S_q16) 0 0 (by kernel_rfl) (fun i_ hi_ => by omega) ?_
  intro a k h
  unfold sp_q137 at h
  split at h
  · exact ⟨[], rfl, rfl, (eq_q137 _ _ _ _ _ _ _ _ _ _ _ _).trans h⟩
  · cases h

def an_q96 (N_ : Nat) (S_q137 : TS_q137) : Nat -> Option Ann := fun b_ => none
theorem eq_q96 (N_ : Nat) (S_q137 : TS_q137) (a_0 : Bool) (a_1 : List Int) (a_2 : Int) (b_0 : Bool) (b_1 : List Int) (b_2 : Int) (c_ : V -> List Blk -> Bool) : bodyV ⟨Pg, ofList [(129, (F_q137 S_q137))], isref, N_⟩ (an_q96 N_ S_q137) 80 (shF_q96.args [.bool a_0, .ints a_1, .int a_2, .bool b_0, .ints b_1, .int b_2]) [] c_ = G_q96 N_ S_q137 a_0 a_1 a_2 b_0 b_1 b_2 (fun r0 r1 r2 => c_ (.tup [.agg [.bool r0, .nil, .int .i64 r1], .int .i64 r2]) []) (fun r0 r1 r2 r3 => c_ (.tup [.agg [.bool r0, .slw 0, .int .i64 r1], .int .i64 r2]) [⟨127, 1, .ints .u32 r3⟩]) := by kernel_rfl
theorem good_q96 (N_ : Nat) (S_q137 : TS_q137) (h_q137 : GoodF Pg 129 (F_q137 S_q137)) : GoodF Pg 80 (F_q96 (G_q96 N_ S_q137)) := by
  refine good_fs (cx := ⟨Pg, ofList [(129, (F_q137 S_q137))], isref, N_⟩) (ofList_cons h_q137 (ofList_nil _)) shF_q96 (sp_q96 (G_q96 N_ S_q137)) (an_q96 N_ S_q137) 0 0 (by kernel_rfl) (fun i_ hi_ => by omega) ?_
  intro a k h
  unfold sp_q96 at h
  split at h
  · exact ⟨[], rfl, rfl, (eq_q96 _ _ _ _ _ _ _ _ _).trans h⟩
  · cases h

def an_q43 (N_ : Nat) (S_q149 : TS_q149) (S_q130 : TS_q130) (S_q45 : TS_q45) (S_q3 : TS_q3) (S_q4 : TS_q4) : Nat -> Option Ann := fun b_ => none
theorem eq_q43 (N_ : Nat) (S_q149 : TS_q149) (S_q130 : TS_q130) (S_q45 : TS_q45) (S_q3 : TS_q3) (S_q4 : TS_q4) (a_0 : Bool) (a_1 : List Int) (a_2 : Int) (b_0 : Bool) (b_1 : List Int) (b_2 : Int) (c_ : V -> List Blk -> Bool) : bodyV ⟨Pg, ofList [(132, (F_q149 S_q149)), (133, (F_q130 S_q130)), (131, (F_q45 S_q45)), (125, (F_q3 S_q3)), (134, (F_q4 S_q4))], isref, N_⟩ (an_q43 N_ S_q149 S_q130 S_q45 S_q3 S_q4) 81 (shF_q43.args [.bool a_0, .ints a_1, .int a_2, .bool b_0, .ints b_1, .int b_2]) [] c_ = G_q43 N_ S_q149 S_q130 S_q45 S_q3 S_q4 a_0 a_1 a_2 b_0 b_1 b_2 (fun r0 r1 => c_ (.tup [.int .i64 r0, .int .i64 r1]) []) := by kernel_rfl
theorem good_q43 (N_ : Nat) (S_q149 : TS_q149) (S_q130 : TS_q130) (S_q45 : TS_q45) (S_q3 : TS_q3) (S_q4 : TS_q4) (h_q149 : GoodF Pg 132 (F_q149 S_q149)) (h_q130 : GoodF Pg 133 (F_q130 S_q130)) (h_q45 : GoodF Pg 131 (F_q45 S_q45)) (h_q3 : GoodF Pg 125 (F_q3 S_q3)) (h_q4 : GoodF Pg 134 (F_q4 S_q4)) : GoodF Pg 81 (F_q43 (G_q43 N_ S_q149 S_q130 S_q45 S_q3 S_q4)) := by
  refine good_fs (cx := ⟨Pg, ofList [(132, (F_q149 S_q149)), (133, (F_q130 S_q130)), (131, (F_q45 S_q45)), (125, (F_q3 S_q3)), (134, (F_q4 S_q4))], isref, N_⟩) (ofList_cons h_q149 (ofList_cons h_q130 (ofList_cons h_q45 (ofList_cons h_q3 (ofList_cons h_q4 (ofList_nil _)))))) shF_q43 (sp_q43 (G_q43 N_ S_q149 S_q130 S_q45 S_q3 S_q4)) (an_q43 N_ S_q149 S_q130 S_q45 S_q3 S_q4) 0 0 (by kernel_rfl) (fun i_ hi_ => by omega) ?_
  intro a k h
  unfold sp_q43 at h
  split at h
  · exact ⟨[], rfl, rfl, (eq_q43 _ _ _ _ _ _ _ _ _ _ _ _ _).trans h⟩
  · cases h

end Go.Proofs.YtccocdgimamdhaaGreatDoor
