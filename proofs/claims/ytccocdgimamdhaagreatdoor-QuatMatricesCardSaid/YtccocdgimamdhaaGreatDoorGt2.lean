/-
  THE TIES: each printed meaning is what the program does (written by program).
  Conditions: none.
-/
import Derived.Test.YtccocdgimamdhaaGreatDoorGs
namespace Go.Proofs.YtccocdgimamdhaaGreatDoor
open Go Go.Mach Go.Proofs
set_option linter.unusedVariables false
set_option maxRecDepth 50000

def an_q16 (N_ : Nat) (S_q144 : TS_q144) (S_q157 : TS_q157) (S_q34 : TS_q34) : Nat -> Option Ann := fun b_ => none
theorem eq_q16 (N_ : Nat) (S_q144 : TS_q144) (S_q157 : TS_q157) (S_q34 : TS_q34) (n : Int) (b : Bool) (b_1 : List Int) (c_ : V -> List Blk -> Bool) : bodyZ ⟨Pg, ofList [(200, (F_q144 S_q144)), (201, (F_q157 S_q157)), (170, (F_q34 S_q34))], isref, N_⟩ (an_q16 N_ S_q144 S_q157 S_q34) 167 (shF_q16.args [.int n, .bool b, .ints b_1]) [⟨164, 1, .cells [.bool b, .roi .u64 b_1]⟩] c_ = G_q16 N_ S_q144 S_q157 S_q34 n b b_1 (fun r0 r1 => c_ (.ptr 0 0) [⟨164, 1, .cells [.bool r0, .roi .u64 r1]⟩]) := by kernel_rfl
theorem good_q16 (N_ : Nat) (S_q144 : TS_q144) (S_q157 : TS_q157) (S_q34 : TS_q34) (h_q144 : GoodF Pg 200 (F_q144 S_q144)) (h_q157 : GoodF Pg 201 (F_q157 S_q157)) (h_q34 : GoodF Pg 170 (F_q34 S_q34)) : GoodF Pg 167 (F_q16 (G_q16 N_ S_q144 S_q157 S_q34)) := by
  refine good_fsZ (cx := ⟨Pg, ofList [(200, (F_q144 S_q144)), (201, (F_q157 S_q157)), (170, (F_q34 S_q34))], isref, N_⟩) (ofList_cons h_q144 (ofList_cons h_q157 (ofList_cons h_q34 (ofList_nil _)))) shF_q16 (sp_q16 (G_q16 N_ S_q144 S_q157 S_q34)) (an_q16 N_ S_q144 S_q157 S_q34) 0 1 (by kernel_rfl) (fun i_ hi_ => by omega) ?_
  intro a k h
  unfold sp_q16 at h
  split at h
  · exact ⟨[_], rfl, rfl, (eq_q16 _ _ _ _ _ _ _ _).trans h⟩
  · cases h

def sh_st_v_dyad_exact_halve_p0r_0 : StSh := ⟨[.any, .any, .ptr 1 0, .ptr 2 0, .int .i64, .any, .any, .any, .any, .any, .any, .any, .any, .any, .any, .any, .any, .any, .any, .any, .any, .any, .any, .any, .any, .any, .any, .any, .any, .any, .any, .any, .any], [some (164, 1, .cells [.bool, .roi .u64]), some (166, 1, .cells [.val, .int .i64]), some (164, 1, .cells [.bool, .roi .u64])]⟩
def sx0_st_v_dyad_exact_halve_p0r_0 : StSh := ⟨[.any, .any, .ptr 1 0, .ptr 2 0, .int .i64, .any, .any, .any, .any, .any, .any, .any, .any, .any, .any, .any, .any, .any, .any, .any, .any, .any, .any, .any, .any, .any, .any, .any, .any, .any, .any, .any, .any], [some (164, 1, .cells [.bool, .roi .u64]), some (166, 1, .cells [.val, .int .i64]), some (164, 1, .cells [.bool, .roi .u64])]⟩
def hk_st_v_dyad_exact_halve_p0r_0 (N_ : Nat) (S_q40 : TS_q40) (S_q4 : TS_q4) (S_q56 : TS_q56) (S_q11 : TS_q11) (S_q16 : TS_q16) : List Atom -> K -> Bool := fun a_ κ => match a_ with
  | [.int e, .bool b0, .ints b0_1, .val t2, .int t2_1, .bool n, .ints n_1] => iterG N_ (st_q210 N_ S_q40 S_q4 S_q56 S_q11 S_q16 b0 b0_1 t2 t2_1 (fun r0 r5 r6 => κ.ext 0 (sx0_st_v_dyad_exact_halve_p0r_0.build [.int r0, .bool b0, .ints b0_1, .val t2, .int t2_1, .bool r5, .ints r6]))) (e, n, n_1)
  | _ => false
def an_q26 (N_ : Nat) (S_q40 : TS_q40) (S_q4 : TS_q4) (S_q56 : TS_q56) (S_q11 : TS_q11) (S_q16 : TS_q16) : Nat -> Option Ann := fun b_ => cond (b_ == 0) (some ⟨⟨[2, 3, 4], [], []⟩, [(0, ⟨[2, 3, 4], [], []⟩)], some ⟨[2], [], []⟩, some (mkHooks [(sh_st_v_dyad_exact_halve_p0r_0, hk_st_v_dyad_exact_halve_p0r_0 N_ S_q40 S_q4 S_q56 S_q11 S_q16)])⟩) (none)
theorem eq_st_v_dyad_exact_halve_p0r_0 (N_ : Nat) (S_q40 : TS_q40) (S_q4 : TS_q4) (S_q56 : TS_q56) (S_q11 : TS_q11) (S_q16 : TS_q16) (κ : K) (e : Int) (b0 : Bool) (b0_1 : List Int) (t2 : Value) (t2_1 : Int) (n : Bool) (n_1 : List Int) : iter N_ (fun s k => codeV ⟨Pg, ofList [(195, (F_q40 S_q40)), (134, (F_q4 S_q4)), (196, (F_q56 S_q56)), (197, (F_q11 S_q11)), (167, (F_q16 S_q16))], isref, N_⟩ 1 (an_q26 N_ S_q40 S_q4 S_q56 S_q11 S_q16) (lp Pg 163 0).2 (lp Pg 163 0).1 s (roundK Pg 1 ((an_q26 N_ S_q40 S_q4 S_q56 S_q11 S_q16) (lp Pg 163 0).1) κ k)) (sh_st_v_dyad_exact_halve_p0r_0.build [.int e, .bool b0, .ints b0_1, .val t2, .int t2_1, .bool n, .ints n_1]) = iterG N_ (st_q210 N_ S_q40 S_q4 S_q56 S_q11 S_q16 b0 b0_1 t2 t2_1 (fun r0 r5 r6 => κ.ext 0 (sx0_st_v_dyad_exact_halve_p0r_0.build [.int r0, .bool b0, .ints b0_1, .val t2, .int t2_1, .bool r5, .ints r6]))) (e, n, n_1) :=
  iter_tr (fun (v_ : Int × Bool × List Int) => sh_st_v_dyad_exact_halve_p0r_0.build [.int v_.1, .bool b0, .ints b0_1, .val t2, .int t2_1, .bool v_.2.1, .ints v_.2.2]) (fun v_ K_ => by obtain ⟨e, n, n_1⟩ := v_; kernel_rfl) N_ (e, n, n_1)
theorem hk1_st_v_dyad_exact_halve_p0r_0 (N_ : Nat) (S_q40 : TS_q40) (S_q4 : TS_q4) (S_q56 : TS_q56) (S_q11 : TS_q11) (S_q16 : TS_q16) : HookFor ⟨Pg, ofList [(195, (F_q40 S_q40)), (134, (F_q4 S_q4)), (196, (F_q56 S_q56)), (197, (F_q11 S_q11)), (167, (F_q16 S_q16))], isref, N_⟩ 1 (an_q26 N_ S_q40 S_q4 S_q56 S_q11 S_q16) (lp Pg 163 0) (sh_st_v_dyad_exact_halve_p0r_0, hk_st_v_dyad_exact_halve_p0r_0 N_ S_q40 S_q4 S_q56 S_q11 S_q16) := by
  intro a κ h
  simp only at h
  unfold hk_st_v_dyad_exact_halve_p0r_0 at h
  split at h
  · exact (eq_st_v_dyad_exact_halve_p0r_0 _ _ _ _ _ _ _ _ _ _ _ _ _ _).trans h
  · cases h
theorem ho_v_dyad_exact_halve_p0r_0 (N_ : Nat) (S_q40 : TS_q40) (S_q4 : TS_q4) (S_q56 : TS_q56) (S_q11 : TS_q11) (S_q16 : TS_q16) : HookOk ⟨Pg, ofList [(195, (F_q40 S_q40)), (134, (F_q4 S_q4)), (196, (F_q56 S_q56)), (197, (F_q11 S_q11)), (167, (F_q16 S_q16))], isref, N_⟩ 1 (an_q26 N_ S_q40 S_q4 S_q56 S_q11 S_q16) (lp Pg 163 0) :=
  hooks_ok [(sh_st_v_dyad_exact_halve_p0r_0, hk_st_v_dyad_exact_halve_p0r_0 N_ S_q40 S_q4 S_q56 S_q11 S_q16)] (by kernel_rfl) ⟨hk1_st_v_dyad_exact_halve_p0r_0 _ _ _ _ _ _, trivial⟩
theorem eq_q26 (N_ : Nat) (S_q40 : TS_q40) (S_q4 : TS_q4) (S_q56 : TS_q56) (S_q11 : TS_q11) (S_q16 : TS_q16) (x : Int) (b : Bool) (b_1 : List Int) (c_ : V -> List Blk -> Bool) : bodyV ⟨Pg, ofList [(195, (F_q40 S_q40)), (134, (F_q4 S_q4)), (196, (F_q56 S_q56)), (197, (F_q11 S_q11)), (167, (F_q16 S_q16))], isref, N_⟩ (an_q26 N_ S_q40 S_q4 S_q56 S_q11 S_q16) 163 (shF_q26.args [.int x, .bool b, .ints b_1]) [⟨164, 1, .cells [.bool b, .roi .u64 b_1]⟩] c_ = G_q26 N_ S_q40 S_q4 S_q56 S_q11 S_q16 x b b_1 (fun r0 r3 r4 => c_ (.agg [.ptr 1 0, .int .i64 r0]) [⟨164, 1, .cells [.bool b, .roi .u64 b_1]⟩, ⟨164, 1, .cells [.bool r3, .roi .u64 r4]⟩]) := by kernel_rfl
theorem good_q26 (N_ : Nat) (S_q40 : TS_q40) (S_q4 : TS_q4) (S_q56 : TS_q56) (S_q11 : TS_q11) (S_q16 : TS_q16) (h_q40 : GoodF Pg 195 (F_q40 S_q40)) (h_q4 : GoodF Pg 134 (F_q4 S_q4)) (h_q56 : GoodF Pg 196 (F_q56 S_q56)) (h_q11 : GoodF Pg 197 (F_q11 S_q11)) (h_q16 : GoodF Pg 167 (F_q16 S_q16)) : GoodF Pg 163 (F_q26 (G_q26 N_ S_q40 S_q4 S_q56 S_q11 S_q16)) := by
  refine good_fs (cx := ⟨Pg, ofList [(195, (F_q40 S_q40)), (134, (F_q4 S_q4)), (196, (F_q56 S_q56)), (197, (F_q11 S_q11)), (167, (F_q16 S_q16))], isref, N_⟩) (ofList_cons h_q40 (ofList_cons h_q4 (ofList_cons h_q56 (ofList_cons h_q11 (ofList_cons h_q16 (ofList_nil _)))))) shF_q26 (sp_q26 (G_q26 N_ S_q40 S_q4 S_q56 S_q11 S_q16)) (an_q26 N_ S_q40 S_q4 S_q56 S_q11 S_q16) 1 1 (by kernel_rfl) (fun i_ hi_ => by
    match i_, hi_ with
    | 0, _ => exact ho_v_dyad_exact_halve_p0r_0 _ _ _ _ _ _
    | (q + 1), h => omega) ?_
  intro a k h
  unfold sp_q26 at h
  split at h
  · exact ⟨[_], rfl, rfl, (eq_q26 _ _ _ _ _ _ _ _ _ _).trans h⟩
  · cases h

def an_q112 (N_ : Nat) : Nat -> Option Ann := fun b_ => none
def ls_q193 (d_ : List V) (u_ : List (Option Blk)) (x : Int) (x_2 : Int) (n_1 : Int) : St := ⟨[.int .u64 x_2, (dq d_ 0), .int .i64 n_1, (dq d_ 1), (dq d_ 2), (dq d_ 3), (dq d_ 4), (dq d_ 5), (dq d_ 6), (dq d_ 7), (dq d_ 8), (dq d_ 9), (dq d_ 10), (dq d_ 11), (dq d_ 12), (dq d_ 13), (dq d_ 14), (dq d_ 15), (dq d_ 16), (dq d_ 17), (dq d_ 18), (dq d_ 19), (dq d_ 20), (dq d_ 21), (dq d_ 22)], []⟩
def ls_q186 (d_ : List V) (u_ : List (Option Blk)) (x : Int) (x_1 : Int) (n : Int) : St := ⟨[.int .u64 x_1, (dq d_ 0), .int .i64 n, (dq d_ 1), (dq d_ 2), (dq d_ 3), (dq d_ 4), (dq d_ 5), (dq d_ 6), (dq d_ 7), (dq d_ 8), (dq d_ 9), (dq d_ 10), (dq d_ 11), (dq d_ 12), (dq d_ 13), (dq d_ 14), (dq d_ 15), (dq d_ 16), (dq d_ 17), (dq d_ 18), (dq d_ 19), (dq d_ 20), (dq d_ 21), (dq d_ 22)], []⟩
theorem jn_q193 (N_ : Nat) (d_ : List V) (u_ : List (Option Blk)) (x : Int) (x_2 : Int) (n_1 : Int) (c_ : V -> List Blk -> Bool) : codesV ⟨Pg, ofList [], isref, N_⟩ 0 (an_q112 N_) ((cds Pg 220).drop 5) 0 (ls_q193 d_ u_ x x_2 n_1) (finV Pg 220 0 c_) = J_q193 N_ x x_2 n_1 (fun r0 => c_ (.int .i64 r0) []) := by kernel_rfl
theorem hd_q186 (N_ : Nat) (d_ : List V) (u_ : List (Option Blk)) (x : Int) (x_1 : Int) (n : Int) (c_ : V -> List Blk -> Bool) (κn_ : St -> Bool) : codesV ⟨Pg, ofList [], isref, N_⟩ 0 (an_q112 N_) (sg Pg 220 3 2) 0 (ls_q186 d_ u_ x x_1 n) { (finV Pg 220 0 c_) with nrm := κn_ } = (cond (decide (x_1 >= 65536)) ((fits .i64 (n + 16)) && (κn_ (ls_q193 (dqs d_ 0 5 [.int .u64 x_1, .bool true, .int .u64 x_1, .int .u64 (Int.fdiv x_1 (2 ^ 16)), .int .i64 n, .int .i64 (n + 16), (dq d_ 11), (dq d_ 12), (dq d_ 13), (dq d_ 14), (dq d_ 15), (dq d_ 16), (dq d_ 17), (dq d_ 18), (dq d_ 19), (dq d_ 20), (dq d_ 21), (dq d_ 22)]) [] x (Int.fdiv x_1 (2 ^ 16)) (n + 16)))) (κn_ (ls_q193 (dqs d_ 0 5 [.int .u64 x_1, .bool false, (dq d_ 7), (dq d_ 8), (dq d_ 9), (dq d_ 10), (dq d_ 11), (dq d_ 12), (dq d_ 13), (dq d_ 14), (dq d_ 15), (dq d_ 16), (dq d_ 17), (dq d_ 18), (dq d_ 19), (dq d_ 20), (dq d_ 21), (dq d_ 22)]) [] x x_1 n))) := by kernel_rfl
theorem jn_q186 (N_ : Nat) (d_ : List V) (u_ : List (Option Blk)) (x : Int) (x_1 : Int) (n : Int) (c_ : V -> List Blk -> Bool) : codesV ⟨Pg, ofList [], isref, N_⟩ 0 (an_q112 N_) ((cds Pg 220).drop 3) 0 (ls_q186 d_ u_ x x_1 n) (finV Pg 220 0 c_) = J_q186 N_ x x_1 n (fun r0 => c_ (.int .i64 r0) []) := by
  rw [codesV_cut 3 2 5 rfl]
  refine (hd_q186 N_ d_ u_ x x_1 n c_ _).trans ?_
  simp only [jn_q193]
  kernel_rfl
theorem hd_m_bits_Len64_w (N_ : Nat) (x : Int) (c_ : V -> List Blk -> Bool) (κn_ : St -> Bool) : codesV ⟨Pg, ofList [], isref, N_⟩ 0 (an_q112 N_) (sg Pg 220 0 3) 0 (st0 Pg 220 (shF_q112.args [.int x]) []) { (finV Pg 220 0 c_) with nrm := κn_ } = (cond (decide (x >= 4294967296)) (κn_ (ls_q186 [.any, .int .u64 x, .bool true, .int .u64 x, .int .u64 (Int.fdiv x (2 ^ 32)), .any, .any, .any, .any, .any, .any, .any, .any, .any, .any, .any, .any, .any, .any, .any, .any, .any, .any] [] x (Int.fdiv x (2 ^ 32)) 32)) (κn_ (ls_q186 [.any, .int .u64 x, .bool false, .any, .any, .any, .any, .any, .any, .any, .any, .any, .any, .any, .any, .any, .any, .any, .any, .any, .any, .any, .any] [] x x 0))) := by kernel_rfl
theorem jn_m_bits_Len64_w (N_ : Nat) (x : Int) (c_ : V -> List Blk -> Bool) : codesV ⟨Pg, ofList [], isref, N_⟩ 0 (an_q112 N_) ((cds Pg 220).drop 0) 0 (st0 Pg 220 (shF_q112.args [.int x]) []) (finV Pg 220 0 c_) = G_q112 N_ x (fun r0 => c_ (.int .i64 r0) []) := by
  rw [codesV_cut 0 3 3 rfl]
  refine (hd_m_bits_Len64_w N_ x c_ _).trans ?_
  simp only [jn_q186]
  kernel_rfl
theorem eq_q112 (N_ : Nat) (x : Int) (c_ : V -> List Blk -> Bool) : bodyV ⟨Pg, ofList [], isref, N_⟩ (an_q112 N_) 220 (shF_q112.args [.int x]) [] c_ = G_q112 N_ x (fun r0 => c_ (.int .i64 r0) []) :=
  (bodyV_codes (by kernel_rfl)).trans (jn_m_bits_Len64_w N_ x c_)
theorem good_q112 (N_ : Nat) : GoodF Pg 220 (F_q112 (G_q112 N_)) := by
  refine good_fs (cx := ⟨Pg, ofList [], isref, N_⟩) (ofList_nil _) shF_q112 (sp_q112 (G_q112 N_)) (an_q112 N_) 0 0 (by kernel_rfl) (fun i_ hi_ => by omega) ?_
  intro a k h
  unfold sp_q112 at h
  split at h
  · exact ⟨[], rfl, rfl, (eq_q112 _ _ _).trans h⟩
  · cases h

def an_q142 (N_ : Nat) (S_q112 : TS_q112) : Nat -> Option Ann := fun b_ => none
theorem eq_q142 (N_ : Nat) (S_q112 : TS_q112) (x : List Int) (c_ : V -> List Blk -> Bool) : bodyZ ⟨Pg, ofList [(220, (F_q112 S_q112))], isref, N_⟩ (an_q142 N_ S_q112) 198 (shF_q142.args [.ints x]) [] c_ = G_q142 N_ S_q112 x (fun r0 => c_ (.int .i64 r0) []) := by kernel_rfl
theorem good_q142 (N_ : Nat) (S_q112 : TS_q112) (h_q112 : GoodF Pg 220 (F_q112 S_q112)) : GoodF Pg 198 (F_q142 (G_q142 N_ S_q112)) := by
  refine good_fsZ (cx := ⟨Pg, ofList [(220, (F_q112 S_q112))], isref, N_⟩) (ofList_cons h_q112 (ofList_nil _)) shF_q142 (sp_q142 (G_q142 N_ S_q112)) (an_q142 N_ S_q112) 0 0 (by kernel_rfl) (fun i_ hi_ => by omega) ?_
  intro a k h
  unfold sp_q142 at h
  split at h
  · exact ⟨[], rfl, rfl, (eq_q142 _ _ _ _).trans h⟩
  · cases h

def an_q39 (N_ : Nat) (S_q142 : TS_q142) : Nat -> Option Ann := fun b_ => none
theorem eq_q39 (N_ : Nat) (S_q142 : TS_q142) (b : Bool) (b_1 : List Int) (c_ : V -> List Blk -> Bool) : bodyZ ⟨Pg, ofList [(198, (F_q142 S_q142))], isref, N_⟩ (an_q39 N_ S_q142) 164 (shF_q39.args [.bool b, .ints b_1]) [⟨164, 1, .cells [.bool b, .roi .u64 b_1]⟩] c_ = G_q39 N_ S_q142 b b_1 (fun r0 => c_ (.int .i64 r0) [⟨164, 1, .cells [.bool b, .roi .u64 b_1]⟩]) := by kernel_rfl
theorem good_q39 (N_ : Nat) (S_q142 : TS_q142) (h_q142 : GoodF Pg 198 (F_q142 S_q142)) : GoodF Pg 164 (F_q39 (G_q39 N_ S_q142)) := by
  refine good_fsZ (cx := ⟨Pg, ofList [(198, (F_q142 S_q142))], isref, N_⟩) (ofList_cons h_q142 (ofList_nil _)) shF_q39 (sp_q39 (G_q39 N_ S_q142)) (an_q39 N_ S_q142) 0 1 (by kernel_rfl) (fun i_ hi_ => by omega) ?_
  intro a k h
  unfold sp_q39 at h
  split at h
  · exact ⟨[_], rfl, rfl, (eq_q39 _ _ _ _ _).trans h⟩
  · cases h

def an_q60 (N_ : Nat) (S_q141 : TS_q141) (S_q0 : TS_q0) : Nat -> Option Ann := fun b_ => none
theorem eq_q60 (N_ : Nat) (S_q141 : TS_q141) (S_q0 : TS_q0) (n : Int) (b : Bool) (c_ : V -> List Blk -> Bool) : bodyZ ⟨Pg, ofList [(193, (F_q141 S_q141)), (170, (F_q0 S_q0))], isref, N_⟩ (an_q60 N_ S_q141 S_q0) 199 (shF_q60.args [.int n, .bool b]) [⟨164, 1, .cells [.bool b, .nil]⟩] c_ = G_q60 N_ S_q141 S_q0 n b (fun r0 r1 => c_ (.ptr 0 0) [⟨164, 1, .cells [.bool r0, .roi .u64 r1]⟩]) := by kernel_rfl
theorem good_q60 (N_ : Nat) (S_q141 : TS_q141) (S_q0 : TS_q0) (h_q141 : GoodF Pg 193 (F_q141 S_q141)) (h_q0 : GoodF Pg 170 (F_q0 S_q0)) : GoodF Pg 199 (F_q60 (G_q60 N_ S_q141 S_q0)) := by
  refine good_fsZ (cx := ⟨Pg, ofList [(193, (F_q141 S_q141)), (170, (F_q0 S_q0))], isref, N_⟩) (ofList_cons h_q141 (ofList_cons h_q0 (ofList_nil _))) shF_q60 (sp_q60 (G_q60 N_ S_q141 S_q0)) (an_q60 N_ S_q141 S_q0) 0 1 (by kernel_rfl) (fun i_ hi_ => by omega) ?_
  intro a k h
  unfold sp_q60 at h
  split at h
  · exact ⟨[_], rfl, rfl, (eq_q60 _ _ _ _ _ _).trans h⟩
  · cases h

def an_q63 (N_ : Nat) (S_q60 : TS_q60) : Nat -> Option Ann := fun b_ => none
theorem eq_q63 (N_ : Nat) (S_q60 : TS_q60) (n : Int) (c_ : V -> List Blk -> Bool) : bodyZ ⟨Pg, ofList [(199, (F_q60 S_q60))], isref, N_⟩ (an_q63 N_ S_q60) 165 (shF_q63.args [.int n]) [] c_ = G_q63 N_ S_q60 n (fun r0 r1 => c_ (.ptr 0 0) [⟨164, 1, .cells [.bool r0, .roi .u64 r1]⟩]) := by kernel_rfl
theorem good_q63 (N_ : Nat) (S_q60 : TS_q60) (h_q60 : GoodF Pg 199 (F_q60 S_q60)) : GoodF Pg 165 (F_q63 (G_q63 N_ S_q60)) := by
  refine good_fsZ (cx := ⟨Pg, ofList [(199, (F_q60 S_q60))], isref, N_⟩) (ofList_cons h_q60 (ofList_nil _)) shF_q63 (sp_q63 (G_q63 N_ S_q60)) (an_q63 N_ S_q60) 0 0 (by kernel_rfl) (fun i_ hi_ => by omega) ?_
  intro a k h
  unfold sp_q63 at h
  split at h
  · exact ⟨[], rfl, rfl, (eq_q63 _ _ _ _).trans h⟩
  · cases h

def an_q38 (N_ : Nat) (S_q82 : TS_q82) (S_q0 : TS_q0) : Nat -> Option Ann := fun b_ => none
theorem eq_q38 (N_ : Nat) (S_q82 : TS_q82) (S_q0 : TS_q0) (b : Bool) (b_1 : Bool) (b_2 : List Int) (c_ : V -> List Blk -> Bool) : bodyZ ⟨Pg, ofList [(171, (F_q82 S_q82)), (170, (F_q0 S_q0))], isref, N_⟩ (an_q38 N_ S_q82 S_q0) 166 (shF_q38.args [.bool b, .bool b_1, .ints b_2]) [⟨164, 1, .cells [.bool b, .nil]⟩, ⟨164, 1, .cells [.bool b_1, .roi .u64 b_2]⟩] c_ = G_q38 N_ S_q82 S_q0 b b_1 b_2 (fun r0 r1 => c_ (.ptr 0 0) [⟨164, 1, .cells [.bool r0, .roi .u64 r1]⟩, ⟨164, 1, .cells [.bool b_1, .roi .u64 b_2]⟩]) := by kernel_rfl
theorem good_q38 (N_ : Nat) (S_q82 : TS_q82) (S_q0 : TS_q0) (h_q82 : GoodF Pg 171 (F_q82 S_q82)) (h_q0 : GoodF Pg 170 (F_q0 S_q0)) : GoodF Pg 166 (F_q38 (G_q38 N_ S_q82 S_q0)) := by
  refine good_fsZ (cx := ⟨Pg, ofList [(171, (F_q82 S_q82)), (170, (F_q0 S_q0))], isref, N_⟩) (ofList_cons h_q82 (ofList_cons h_q0 (ofList_nil _))) shF_q38 (sp_q38 (G_q38 N_ S_q82 S_q0)) (an_q38 N_ S_q82 S_q0) 0 2 (by kernel_rfl) (fun i_ hi_ => by omega) ?_
  intro a k h
  unfold sp_q38 at h
  split at h
  · exact ⟨[_, _], rfl, rfl, (eq_q38 _ _ _ _ _ _ _).trans h⟩
  · cases h

def an_q42 (N_ : Nat) : Nat -> Option Ann := fun b_ => none
theorem eq_q42 (N_ : Nat) (neg : Bool) (abs_0 : Nat) (abs_1 : Nat) (b : Bool) (b_1 : List Int) (c_ : V -> List Blk -> Bool) : bodyZ ⟨Pg, ofList [], isref, N_⟩ (an_q42 N_) 170 (shF_q42.args [.bool neg, .nat abs_0, .nat abs_1, .bool b, .ints b_1]) [⟨164, 1, .cells [.bool b, .nil]⟩, ⟨41, 1, .ints .u64 b_1⟩] c_ = G_q42 N_ neg abs_0 abs_1 b b_1 (fun r0 => c_ (.ptr 0 0) [⟨164, 1, .cells [.bool r0, .sl 1 abs_0 abs_1]⟩, ⟨41, 1, .ints .u64 b_1⟩]) := by kernel_rfl
theorem good_q42 (N_ : Nat) : GoodF Pg 170 (F_q42 (G_q42 N_)) := by
  refine good_fsZ (cx := ⟨Pg, ofList [], isref, N_⟩) (ofList_nil _) shF_q42 (sp_q42 (G_q42 N_)) (an_q42 N_) 0 2 (by kernel_rfl) (fun i_ hi_ => by omega) ?_
  intro a k h
  unfold sp_q42 at h
  split at h
  · exact ⟨[_, _], rfl, rfl, (eq_q42 _ _ _ _ _ _ _).trans h⟩
  · cases h

def sh_st_big_Int_And_p0p1p2nrr_0 : StSh := ⟨[.ptr 0 0, .ptr 1 0, .ptr 2 0, .any, .any, .any, .any, .slw 3, .any, .any, .any, .any, .any, .any, .any, .any, .any, .any, .any, .any, .any, .any, .int .i64, .int .i64, .any, .any, .any, .any, .any, .any, .any, .any, .any, .any, .any, .any, .any, .any, .any, .any, .any, .any, .any, .any, .any, .any, .any, .any, .any], [some (164, 1, .cells [.bool, .nil]), some (164, 1, .cells [.bool, .roi .u64]), some (164, 1, .cells [.bool, .roi .u64]), some (41, 1, .ints .u64)]⟩
def sx0_st_big_Int_And_p0p1p2nrr_0 : StSh := ⟨[.ptr 0 0, .any, .any, .any, .any, .any, .any, .slw 3, .any, .any, .any, .any, .any, .any, .any, .any, .any, .any, .any, .any, .any, .any, .any, .any, .any, .any, .any, .any, .any, .any, .any, .any, .any, .any, .any, .any, .any, .any, .any, .any, .any, .any, .any, .any, .any, .any, .any, .any, .any], [some (164, 1, .cells [.bool, .nil]), some (164, 1, .cells [.bool, .roi .u64]), some (164, 1, .cells [.bool, .roi .u64]), some (41, 1, .ints .u64)]⟩
def hk_st_big_Int_And_p0p1p2nrr_0 (N_ : Nat) (S_q1 : TS_q1) (S_q42 : TS_q42) : List Atom -> K -> Bool := fun a_ κ => match a_ with
  | [.int t22, .int t23, .bool z, .bool x, .ints x_1, .bool y, .ints y_1, .ints r] => iterG N_ (st_q216 N_ S_q1 S_q42 t22 z x x_1 y y_1 (fun r5 => κ.ext 0 (sx0_st_big_Int_And_p0p1p2nrr_0.build [.bool z, .bool x, .ints x_1, .bool y, .ints y_1, .ints r5]))) (t23, r)
  | _ => false
def an_q27 (N_ : Nat) (S_q1 : TS_q1) (S_q42 : TS_q42) : Nat -> Option Ann := fun b_ => cond (b_ == 0) (some ⟨⟨[0, 1, 2, 7, 22, 23], [], []⟩, [(0, ⟨[0, 7], [], []⟩)], some ⟨[6], [], []⟩, some (mkHooks [(sh_st_big_Int_And_p0p1p2nrr_0, hk_st_big_Int_And_p0p1p2nrr_0 N_ S_q1 S_q42)])⟩) (none)
theorem eq_st_big_Int_And_p0p1p2nrr_0 (N_ : Nat) (S_q1 : TS_q1) (S_q42 : TS_q42) (κ : K) (t22 : Int) (t23 : Int) (z : Bool) (x : Bool) (x_1 : List Int) (y : Bool) (y_1 : List Int) (r : List Int) : iter N_ (fun s k => codeV ⟨Pg, ofList [(202, (F_q1 S_q1)), (170, (F_q42 S_q42))], isref, N_⟩ 3 (an_q27 N_ S_q1 S_q42) (lp Pg 168 0).2 (lp Pg 168 0).1 s (roundK Pg 3 ((an_q27 N_ S_q1 S_q42) (lp Pg 168 0).1) κ k)) (sh_st_big_Int_And_p0p1p2nrr_0.build [.int t22, .int t23, .bool z, .bool x, .ints x_1, .bool y, .ints y_1, .ints r]) = iterG N_ (st_q216 N_ S_q1 S_q42 t22 z x x_1 y y_1 (fun r5 => κ.ext 0 (sx0_st_big_Int_And_p0p1p2nrr_0.build [.bool z, .bool x, .ints x_1, .bool y, .ints y_1, .ints r5]))) (t23, r) :=
  iter_tr (fun (v_ : Int × List Int) => sh_st_big_Int_And_p0p1p2nrr_0.build [.int t22, .int v_.1, .bool z, .bool x, .ints x_1, .bool y, .ints y_1, .ints v_.2]) (fun v_ K_ => by obtain ⟨t23, r⟩ := v_; kernel_rfl) N_ (t23, r)
theorem hk1_st_big_Int_And_p0p1p2nrr_0 (N_ : Nat) (S_q1 : TS_q1) (S_q42 : TS_q42) : HookFor ⟨Pg, ofList [(202, (F_q1 S_q1)), (170, (F_q42 S_q42))], isref, N_⟩ 3 (an_q27 N_ S_q1 S_q42) (lp Pg 168 0) (sh_st_big_Int_And_p0p1p2nrr_0, hk_st_big_Int_And_p0p1p2nrr_0 N_ S_q1 S_q42) := by
  intro a κ h
  simp only at h
  unfold hk_st_big_Int_And_p0p1p2nrr_0 at h
  split at h
  · exact (eq_st_big_Int_And_p0p1p2nrr_0 _ _ _ _ _ _ _ _ _ _ _ _).trans h
  · cases h
theorem ho_big_Int_And_p0p1p2nrr_0 (N_ : Nat) (S_q1 : TS_q1) (S_q42 : TS_q42) : HookOk ⟨Pg, ofList [(202, (F_q1 S_q1)), (170, (F_q42 S_q42))], isref, N_⟩ 3 (an_q27 N_ S_q1 S_q42) (lp Pg 168 0) :=
  hooks_ok [(sh_st_big_Int_And_p0p1p2nrr_0, hk_st_big_Int_And_p0p1p2nrr_0 N_ S_q1 S_q42)] (by kernel_rfl) ⟨hk1_st_big_Int_And_p0p1p2nrr_0 _ _ _, trivial⟩
theorem eq_q27 (N_ : Nat) (S_q1 : TS_q1) (S_q42 : TS_q42) (b : Bool) (b_1 : Bool) (b_2 : List Int) (b_3 : Bool) (b_4 : List Int) (c_ : V -> List Blk -> Bool) : bodyZ ⟨Pg, ofList [(202, (F_q1 S_q1)), (170, (F_q42 S_q42))], isref, N_⟩ (an_q27 N_ S_q1 S_q42) 168 (shF_q27.args [.bool b, .bool b_1, .ints b_2, .bool b_3, .ints b_4]) [⟨164, 1, .cells [.bool b, .nil]⟩, ⟨164, 1, .cells [.bool b_1, .roi .u64 b_2]⟩, ⟨164, 1, .cells [.bool b_3, .roi .u64 b_4]⟩] c_ = G_q27 N_ S_q1 S_q42 b b_1 b_2 b_3 b_4 (fun r0 r1 => c_ (.ptr 0 0) [⟨164, 1, .cells [.bool r0, .roi .u64 r1]⟩, ⟨164, 1, .cells [.bool b_1, .roi .u64 b_2]⟩, ⟨164, 1, .cells [.bool b_3, .roi .u64 b_4]⟩]) := by kernel_rfl
theorem good_q27 (N_ : Nat) (S_q1 : TS_q1) (S_q42 : TS_q42) (h_q1 : GoodF Pg 202 (F_q1 S_q1)) (h_q42 : GoodF Pg 170 (F_q42 S_q42)) : GoodF Pg 168 (F_q27 (G_q27 N_ S_q1 S_q42)) := by
  refine good_fsZ (cx := ⟨Pg, ofList [(202, (F_q1 S_q1)), (170, (F_q42 S_q42))], isref, N_⟩) (ofList_cons h_q1 (ofList_cons h_q42 (ofList_nil _))) shF_q27 (sp_q27 (G_q27 N_ S_q1 S_q42)) (an_q27 N_ S_q1 S_q42) 1 3 (by kernel_rfl) (fun i_ hi_ => by
    match i_, hi_ with
    | 0, _ => exact ho_big_Int_And_p0p1p2nrr_0 _ _ _
    | (q + 1), h => omega) ?_
  intro a k h
  unfold sp_q27 at h
  split at h
  · exact ⟨[_, _, _], rfl, rfl, (eq_q27 _ _ _ _ _ _ _ _ _).trans h⟩
  · cases h

def an_q179 (N_ : Nat) (S_q17 : TS_q17) : Nat -> Option Ann := fun b_ => none
theorem eq_q179 (N_ : Nat) (S_q17 : TS_q17) (x : List Int) (c_ : V -> List Blk -> Bool) : bodyZ ⟨Pg, ofList [(205, (F_q17 S_q17))], isref, N_⟩ (an_q179 N_ S_q17) 203 (shF_q179.args [.ints x]) [] c_ = G_q179 N_ S_q17 x (fun r0 => c_ (.int .u64 r0) []) := by kernel_rfl
theorem good_q179 (N_ : Nat) (S_q17 : TS_q17) (h_q17 : GoodF Pg 205 (F_q17 S_q17)) : GoodF Pg 203 (F_q179 (G_q179 N_ S_q17)) := by
  refine good_fsZ (cx := ⟨Pg, ofList [(205, (F_q17 S_q17))], isref, N_⟩) (ofList_cons h_q17 (ofList_nil _)) shF_q179 (sp_q179 (G_q179 N_ S_q17)) (an_q179 N_ S_q17) 0 0 (by kernel_rfl) (fun i_ hi_ => by omega) ?_
  intro a k h
  unfold sp_q179 at h
  split at h
  · exact ⟨[], rfl, rfl, (eq_q179 _ _ _ _).trans h⟩
  · cases h

def an_q41 (N_ : Nat) (S_q179 : TS_q179) : Nat -> Option Ann := fun b_ => none
theorem eq_q41 (N_ : Nat) (S_q179 : TS_q179) (b : Bool) (b_1 : List Int) (c_ : V -> List Blk -> Bool) : bodyZ ⟨Pg, ofList [(203, (F_q179 S_q179))], isref, N_⟩ (an_q41 N_ S_q179) 169 (shF_q41.args [.bool b, .ints b_1]) [⟨164, 1, .cells [.bool b, .roi .u64 b_1]⟩] c_ = G_q41 N_ S_q179 b b_1 (fun r0 => c_ (.int .u64 r0) [⟨164, 1, .cells [.bool b, .roi .u64 b_1]⟩]) := by kernel_rfl
theorem good_q41 (N_ : Nat) (S_q179 : TS_q179) (h_q179 : GoodF Pg 203 (F_q179 S_q179)) : GoodF Pg 169 (F_q41 (G_q41 N_ S_q179)) := by
  refine good_fsZ (cx := ⟨Pg, ofList [(203, (F_q179 S_q179))], isref, N_⟩) (ofList_cons h_q179 (ofList_nil _)) shF_q41 (sp_q41 (G_q41 N_ S_q179)) (an_q41 N_ S_q179) 0 1 (by kernel_rfl) (fun i_ hi_ => by omega) ?_
  intro a k h
  unfold sp_q41 at h
  split at h
  · exact ⟨[_], rfl, rfl, (eq_q41 _ _ _ _ _).trans h⟩
  · cases h

def sh_st_v_dyad_exact_put_p0r_0 : StSh := ⟨[.any, .any, .ptr 1 0, .any, .ptr 2 0, .ptr 3 0, .ptr 4 0, .any, .any, .any, .any, .any, .any, .any, .any, .any, .any, .any, .any, .any, .any, .any, .any, .any, .any, .any, .any, .any, .any, .any, .any, .any, .any, .any, .any, .any, .any, .any, .any, .any, .any, .any, .any, .any, .any, .any, .any, .any, .any, .any, .any, .any, .any, .any, .any, .any, .any, .any, .any], [some (164, 1, .cells [.bool, .roi .u64]), some (124, 1, .cells [.bool, .nil, .int .i64]), some (124, 1, .cells [.bool, .slw 5, .int .i64]), some (164, 1, .cells [.bool, .roi .u64]), some (164, 1, .cells [.bool, .roi .u64]), some (127, 1, .ints .u32)]⟩
def sx0_st_v_dyad_exact_put_p0r_0 : StSh := ⟨[.any, .any, .ptr 1 0, .any, .ptr 2 0, .any, .any, .any, .any, .any, .any, .any, .any, .any, .any, .any, .any, .any, .any, .any, .any, .any, .any, .any, .any, .any, .any, .any, .any, .any, .any, .any, .any, .any, .any, .any, .any, .any, .any, .any, .any, .any, .any, .any, .any, .any, .any, .any, .any, .any, .any, .any, .any, .any, .any, .any, .any, .any, .any], [some (164, 1, .cells [.bool, .roi .u64]), some (124, 1, .cells [.bool, .nil, .int .i64]), some (124, 1, .cells [.bool, .slw 3, .int .i64]), some (127, 1, .ints .u32)]⟩
def hk_st_v_dyad_exact_put_p0r_0 (N_ : Nat) (S_q26 : TS_q26) (S_q4 : TS_q4) (S_q39 : TS_q39) (S_q63 : TS_q63) (S_q38 : TS_q38) (S_q27 : TS_q27) (S_q41 : TS_q41) (S_q16 : TS_q16) : List Atom -> K -> Bool := fun a_ κ => match a_ with
  | [.bool b0_2, .ints b0_3, .bool t2_2, .int t2_3, .bool d_2, .int d_3, .bool mask_2, .ints mask_3, .bool m_2, .ints m_3, .ints b5] => iterG N_ (st_q217 N_ S_q26 S_q4 S_q39 S_q63 S_q38 S_q27 S_q41 S_q16 b0_2 b0_3 t2_2 t2_3 d_2 d_3 mask_2 mask_3 (fun r6 => κ.ext 0 (sx0_st_v_dyad_exact_put_p0r_0.build [.bool b0_2, .ints b0_3, .bool t2_2, .int t2_3, .bool d_2, .int d_3, .ints r6]))) (m_2, m_3, b5)
  | _ => false
def an_q14 (N_ : Nat) (S_q26 : TS_q26) (S_q4 : TS_q4) (S_q39 : TS_q39) (S_q63 : TS_q63) (S_q38 : TS_q38) (S_q27 : TS_q27) (S_q41 : TS_q41) (S_q16 : TS_q16) : Nat -> Option Ann := fun b_ => cond (b_ == 0) (some ⟨⟨[2, 4, 5, 6], [(4, some 1, 127)], []⟩, [(0, ⟨[2, 4], [], []⟩)], some ⟨[2, 3], [], []⟩, some (mkHooks [(sh_st_v_dyad_exact_put_p0r_0, hk_st_v_dyad_exact_put_p0r_0 N_ S_q26 S_q4 S_q39 S_q63 S_q38 S_q27 S_q41 S_q16)])⟩) (none)
theorem eq_st_v_dyad_exact_put_p0r_0 (N_ : Nat) (S_q26 : TS_q26) (S_q4 : TS_q4) (S_q39 : TS_q39) (S_q63 : TS_q63) (S_q38 : TS_q38) (S_q27 : TS_q27) (S_q41 : TS_q41) (S_q16 : TS_q16) (κ : K) (b0_2 : Bool) (b0_3 : List Int) (t2_2 : Bool) (t2_3 : Int) (d_2 : Bool) (d_3 : Int) (mask_2 : Bool) (mask_3 : List Int) (m_2 : Bool) (m_3 : List Int) (b5 : List Int) : iter N_ (fun s k => codeV ⟨Pg, ofList [(163, (F_q26 S_q26)), (134, (F_q4 S_q4)), (164, (F_q39 S_q39)), (165, (F_q63 S_q63)), (166, (F_q38 S_q38)), (168, (F_q27 S_q27)), (169, (F_q41 S_q41)), (167, (F_q16 S_q16))], isref, N_⟩ 1 (an_q14 N_ S_q26 S_q4 S_q39 S_q63 S_q38 S_q27 S_q41 S_q16) (lp Pg 128 0).2 (lp Pg 128 0).1 s (roundK Pg 1 ((an_q14 N_ S_q26 S_q4 S_q39 S_q63 S_q38 S_q27 S_q41 S_q16) (lp Pg 128 0).1) κ k)) (sh_st_v_dyad_exact_put_p0r_0.build [.bool b0_2, .ints b0_3, .bool t2_2, .int t2_3, .bool d_2, .int d_3, .bool mask_2, .ints mask_3, .bool m_2, .ints m_3, .ints b5]) = iterG N_ (st_q217 N_ S_q26 S_q4 S_q39 S_q63 S_q38 S_q27 S_q41 S_q16 b0_2 b0_3 t2_2 t2_3 d_2 d_3 mask_2 mask_3 (fun r6 => κ.ext 0 (sx0_st_v_dyad_exact_put_p0r_0.build [.bool b0_2, .ints b0_3, .bool t2_2, .int t2_3, .bool d_2, .int d_3, .ints r6]))) (m_2, m_3, b5) :=
  iter_tr (fun (v_ : Bool × List Int × List Int) => sh_st_v_dyad_exact_put_p0r_0.build [.bool b0_2, .ints b0_3, .bool t2_2, .int t2_3, .bool d_2, .int d_3, .bool mask_2, .ints mask_3, .bool v_.1, .ints v_.2.1, .ints v_.2.2]) (fun v_ K_ => by obtain ⟨m_2, m_3, b5⟩ := v_; kernel_rfl) N_ (m_2, m_3, b5)
theorem hk1_st_v_dyad_exact_put_p0r_0 (N_ : Nat) (S_q26 : TS_q26) (S_q4 : TS_q4) (S_q39 : TS_q39) (S_q63 : TS_q63) (S_q38 : TS_q38) (S_q27 : TS_q27) (S_q41 : TS_q41) (S_q16 : TS_q16) : HookFor ⟨Pg, ofList [(163, (F_q26 S_q26)), (134, (F_q4 S_q4)), (164, (F_q39 S_q39)), (165, (F_q63 S_q63)), (166, (F_q38 S_q38)), (168, (F_q27 S_q27)), (169, (F_q41 S_q41)), (167, (F_q16 S_q16))], isref, N_⟩ 1 (an_q14 N_ S_q26 S_q4 S_q39 S_q63 S_q38 S_q27 S_q41 S_q16) (lp Pg 128 0) (sh_st_v_dyad_exact_put_p0r_0, hk_st_v_dyad_exact_put_p0r_0 N_ S_q26 S_q4 S_q39 S_q63 S_q38 S_q27 S_q41 S_q16) := by
  intro a κ h
  simp only at h
  unfold hk_st_v_dyad_exact_put_p0r_0 at h
  split at h
  · exact (eq_st_v_dyad_exact_put_p0r_0 _ _ _ _ _ _ _ _ _ _ _ _ _ _ _ _ _ _ _ _ _).trans h
  · cases h
theorem ho_v_dyad_exact_put_p0r_0 (N_ : Nat) (S_q26 : TS_q26) (S_q4 : TS_q4) (S_q39 : TS_q39) (S_q63 : TS_q63) (S_q38 : TS_q38) (S_q27 : TS_q27) (S_q41 : TS_q41) (S_q16 : TS_q16) : HookOk ⟨Pg, ofList [(163, (F_q26 S_q26)), (134, (F_q4 S_q4)), (164, (F_q39 S_q39)), (165, (F_q63 S_q63)), (166, (F_q38 S_q38)), (168, (F_q27 S_q27)), (169, (F_q41 S_q41)), (167, (F_q16 S_q16))], isref, N_⟩ 1 (an_q14 N_ S_q26 S_q4 S_q39 S_q63 S_q38 S_q27 S_q41 S_q16) (lp Pg 128 0) :=
  hooks_ok [(sh_st_v_dyad_exact_put_p0r_0, hk_st_v_dyad_exact_put_p0r_0 N_ S_q26 S_q4 S_q39 S_q63 S_q38 S_q27 S_q41 S_q16)] (by kernel_rfl) ⟨hk1_st_v_dyad_exact_put_p0r_0 _ _ _ _ _ _ _ _ _, trivial⟩
theorem eq_q14 (N_ : Nat) (S_q26 : TS_q26) (S_q4 : TS_q4) (S_q39 : TS_q39) (S_q63 : TS_q63) (S_q38 : TS_q38) (S_q27 : TS_q27) (S_q41 : TS_q41) (S_q16 : TS_q16) (x : Int) (b : Bool) (b_1 : List Int) (c_ : V -> List Blk -> Bool) : bodyV ⟨Pg, ofList [(163, (F_q26 S_q26)), (134, (F_q4 S_q4)), (164, (F_q39 S_q39)), (165, (F_q63 S_q63)), (166, (F_q38 S_q38)), (168, (F_q27 S_q27)), (169, (F_q41 S_q41)), (167, (F_q16 S_q16))], isref, N_⟩ (an_q14 N_ S_q26 S_q4 S_q39 S_q63 S_q38 S_q27 S_q41 S_q16) 128 (shF_q14.args [.int x, .bool b, .ints b_1]) [⟨164, 1, .cells [.bool b, .roi .u64 b_1]⟩] c_ = G_q14 N_ S_q26 S_q4 S_q39 S_q63 S_q38 S_q27 S_q41 S_q16 x b b_1 (fun r0 r1 r2 => c_ (.tup [.agg [.bool r0, .nil, .int .i64 r1], .int .i64 r2]) [⟨164, 1, .cells [.bool b, .roi .u64 b_1]⟩]) (fun r0 r1 r2 r5 => c_ (.tup [.agg [.bool r0, .slw 1, .int .i64 r1], .int .i64 r2]) [⟨164, 1, .cells [.bool b, .roi .u64 b_1]⟩, ⟨127, 1, .ints .u32 r5⟩]) := by kernel_rfl
theorem good_q14 (N_ : Nat) (S_q26 : TS_q26) (S_q4 : TS_q4) (S_q39 : TS_q39) (S_q63 : TS_q63) (S_q38 : TS_q38) (S_q27 : TS_q27) (S_q41 : TS_q41) (S_q16 : TS_q16) (h_q26 : GoodF Pg 163 (F_q26 S_q26)) (h_q4 : GoodF Pg 134 (F_q4 S_q4)) (h_q39 : GoodF Pg 164 (F_q39 S_q39)) (h_q63 : GoodF Pg 165 (F_q63 S_q63)) (h_q38 : GoodF Pg 166 (F_q38 S_q38)) (h_q27 : GoodF Pg 168 (F_q27 S_q27)) (h_q41 : GoodF Pg 169 (F_q41 S_q41)) (h_q16 : GoodF Pg 167 (F_q16 S_q16)) : GoodF Pg 128 (F_q14 (G_q14 N_ S_q26 S_q4 S_q39 S_q63 S_q38 S_q27 S_q41 S_q16)) := by
  refine good_fs (cx := ⟨Pg, ofList [(163, (F_q26 S_q26)), (134, (F_q4 S_q4)), (164, (F_q39 S_q39)), (165, (F_q63 S_q63)), (166, (F_q38 S_q38)), (168, (F_q27 S_q27)), (169, (F_q41 S_q41)), (167, (F_q16 S_q16))], isref, N_⟩) (ofList_cons h_q26 (ofList_cons h_q4 (ofList_cons h_q39 (ofList_cons h_q63 (ofList_cons h_q38 (ofList_cons h_q27 (ofList_cons h_q41 (ofList_cons h_q16 (ofList_nil _))))))))) shF_q14 (sp_q14 (G_q14 N_ S_q26 S_q4 S_q39 S_q63 S_q38 S_q27 S_q41 S_q16)) (an_q14 N_ S_q26 S_q4 S_q39 S_q63 S_q38 S_q27 S_q41 S_q16) 1 1 (by kernel_rfl) (fun i_ hi_ => by
    match i_, hi_ with
    | 0, _ => exact ho_v_dyad_exact_put_p0r_0 _ _ _ _ _ _ _ _ _
    | (q + 1), h => omega) ?_
  intro a k h
  unfold sp_q14 at h
  split at h
  · exact ⟨[_], rfl, rfl, (eq_q14 _ _ _ _ _ _ _ _ _ _ _ _ _).trans h⟩
  · cases h

def sh_st_dyad_Dot_0 : StSh := ⟨[.any, .rof, .any, .any, .ptr 0 0, .any, .ptr 1 0, .any, .any, .any, .any, .any, .any, .any, .any, .any, .any, .any, .any, .any, .any, .any, .any, .any, .any, .any, .rof, .int .i64, .int .i64, .any, .any, .any, .any, .any, .any, .any, .any, .any, .any, .any, .any, .any, .any, .any, .any, .any, .any, .any], [some (124, 1, .cells [.bool, .nil, .int .i64]), some (166, 1, .cells [.ptr 2 0, .int .i64]), some (164, 1, .cells [.bool, .roi .u64])]⟩
def sx0_st_dyad_Dot_0 : StSh := ⟨[.any, .any, .any, .any, .ptr 0 0, .any, .ptr 1 0, .any, .any, .any, .any, .any, .any, .any, .any, .any, .any, .any, .any, .any, .any, .any, .any, .any, .any, .any, .any, .any, .any, .any, .any, .any, .any, .any, .any, .any, .any, .any, .any, .any, .any, .any, .any, .any, .any, .any, .any, .any], [some (124, 1, .cells [.bool, .nil, .int .i64]), some (166, 1, .cells [.ptr 2 0, .int .i64]), some (164, 1, .cells [.bool, .roi .u64])]⟩
def hk_st_dyad_Dot_0 (N_ : Nat) (S_q93 : TS_q93) (S_q158 : TS_q158) (S_q19 : TS_q19) (S_q18 : TS_q18) (S_q3 : TS_q3) (S_q14 : TS_q14) : List Atom -> K -> Bool := fun a_ κ => match a_ with
  | [.fls b_2, .fls t26_1, .int t27_1, .int t28_1, .bool t4_2, .int t4_3, .int s_1, .bool b2_1, .ints b2_2] => iterG N_ (st_dyad_Dot_0 N_ S_q93 S_q158 S_q19 S_q18 S_q3 S_q14 b_2 t26_1 t27_1 t4_2 t4_3 (fun r2 r3 r4 => κ.ext 0 (sx0_st_dyad_Dot_0.build [.bool t4_2, .int t4_3, .int r2, .bool r3, .ints r4]))) (t28_1, s_1, b2_1, b2_2)
  | _ => false
def an_q91 (N_ : Nat) (S_q93 : TS_q93) (S_q158 : TS_q158) (S_q19 : TS_q19) (S_q18 : TS_q18) (S_q3 : TS_q3) (S_q14 : TS_q14) : Nat -> Option Ann := fun b_ => cond (b_ == 0) (some ⟨⟨[1, 4, 6, 26, 27, 28], [], [(2, 1, some .u64)]⟩, [(0, ⟨[4, 6], [], []⟩)], some ⟨[4, 5], [], []⟩, some (mkHooks [(sh_st_dyad_Dot_0, hk_st_dyad_Dot_0 N_ S_q93 S_q158 S_q19 S_q18 S_q3 S_q14)])⟩) (none)
theorem eq_st_dyad_Dot_0 (N_ : Nat) (S_q93 : TS_q93) (S_q158 : TS_q158) (S_q19 : TS_q19) (S_q18 : TS_q18) (S_q3 : TS_q3) (S_q14 : TS_q14) (κ : K) (b_2 : List Fl) (t26_1 : List Fl) (t27_1 : Int) (t28_1 : Int) (t4_2 : Bool) (t4_3 : Int) (s_1 : Int) (b2_1 : Bool) (b2_2 : List Int) : iter N_ (fun s k => codeV ⟨Pg, ofList [(124, (F_q93 S_q93)), (126, (F_q158 S_q158)), (127, (F_q19 S_q19)), (125, (orFs (F_q18 S_q18) (F_q3 S_q3) shF_q18)), (128, (F_q14 S_q14))], isref, N_⟩ 0 (an_q91 N_ S_q93 S_q158 S_q19 S_q18 S_q3 S_q14) (lp Pg 79 0).2 (lp Pg 79 0).1 s (roundK Pg 0 ((an_q91 N_ S_q93 S_q158 S_q19 S_q18 S_q3 S_q14) (lp Pg 79 0).1) κ k)) (sh_st_dyad_Dot_0.build [.fls b_2, .fls t26_1, .int t27_1, .int t28_1, .bool t4_2, .int t4_3, .int s_1, .bool b2_1, .ints b2_2]) = iterG N_ (st_dyad_Dot_0 N_ S_q93 S_q158 S_q19 S_q18 S_q3 S_q14 b_2 t26_1 t27_1 t4_2 t4_3 (fun r2 r3 r4 => κ.ext 0 (sx0_st_dyad_Dot_0.build [.bool t4_2, .int t4_3, .int r2, .bool r3, .ints r4]))) (t28_1, s_1, b2_1, b2_2) :=
  iter_tr (fun (v_ : Int × Int × Bool × List Int) => sh_st_dyad_Dot_0.build [.fls b_2, .fls t26_1, .int t27_1, .int v_.1, .bool t4_2, .int t4_3, .int v_.2.1, .bool v_.2.2.1, .ints v_.2.2.2]) (fun v_ K_ => by obtain ⟨t28_1, s_1, b2_1, b2_2⟩ := v_; kernel_rfl) N_ (t28_1, s_1, b2_1, b2_2)
theorem hk1_st_dyad_Dot_0 (N_ : Nat) (S_q93 : TS_q93) (S_q158 : TS_q158) (S_q19 : TS_q19) (S_q18 : TS_q18) (S_q3 : TS_q3) (S_q14 : TS_q14) : HookFor ⟨Pg, ofList [(124, (F_q93 S_q93)), (126, (F_q158 S_q158)), (127, (F_q19 S_q19)), (125, (orFs (F_q18 S_q18) (F_q3 S_q3) shF_q18)), (128, (F_q14 S_q14))], isref, N_⟩ 0 (an_q91 N_ S_q93 S_q158 S_q19 S_q18 S_q3 S_q14) (lp Pg 79 0) (sh_st_dyad_Dot_0, hk_st_dyad_Dot_0 N_ S_q93 S_q158 S_q19 S_q18 S_q3 S_q14) := by
  intro a κ h
  simp only at h
  unfold hk_st_dyad_Dot_0 at h
  split at h
  · exact (eq_st_dyad_Dot_0 _ _ _ _ _ _ _ _ _ _ _ _ _ _ _ _ _).trans h
  · cases h
theorem ho_dyad_Dot_0 (N_ : Nat) (S_q93 : TS_q93) (S_q158 : TS_q158) (S_q19 : TS_q19) (S_q18 : TS_q18) (S_q3 : TS_q3) (S_q14 : TS_q14) : HookOk ⟨Pg, ofList [(124, (F_q93 S_q93)), (126, (F_q158 S_q158)), (127, (F_q19 S_q19)), (125, (orFs (F_q18 S_q18) (F_q3 S_q3) shF_q18)), (128, (F_q14 S_q14))], isref, N_⟩ 0 (an_q91 N_ S_q93 S_q158 S_q19 S_q18 S_q3 S_q14) (lp Pg 79 0) :=
  hooks_ok [(sh_st_dyad_Dot_0, hk_st_dyad_Dot_0 N_ S_q93 S_q158 S_q19 S_q18 S_q3 S_q14)] (by kernel_rfl) ⟨hk1_st_dyad_Dot_0 _ _ _ _ _ _ _, trivial⟩
theorem eq_q91 (N_ : Nat) (S_q93 : TS_q93) (S_q158 : TS_q158) (S_q19 : TS_q19) (S_q18 : TS_q18) (S_q3 : TS_q3) (S_q14 : TS_q14) (a : List Fl) (b : List Fl) (c_ : V -> List Blk -> Bool) : bodyV ⟨Pg, ofList [(124, (F_q93 S_q93)), (126, (F_q158 S_q158)), (127, (F_q19 S_q19)), (125, (orFs (F_q18 S_q18) (F_q3 S_q3) shF_q18)), (128, (F_q14 S_q14))], isref, N_⟩ (an_q91 N_ S_q93 S_q158 S_q19 S_q18 S_q3 S_q14) 79 (shF_q91.args [.fls a, .fls b]) [] c_ = G_q91 N_ S_q93 S_q158 S_q19 S_q18 S_q3 S_q14 a b (fun r0 r1 r2 => c_ (.tup [.agg [.bool r0, .nil, .int .i64 r1], .int .i64 r2]) []) (fun r0 r1 r2 r3 => c_ (.tup [.agg [.bool r0, .slw 0, .int .i64 r1], .int .i64 r2]) [⟨127, 1, .ints .u32 r3⟩]) := by kernel_rfl
theorem good_q91 (N_ : Nat) (S_q93 : TS_q93) (S_q158 : TS_q158) (S_q19 : TS_q19) (S_q18 : TS_q18) (S_q3 : TS_q3) (S_q14 : TS_q14) (h_q93 : GoodF Pg 124 (F_q93 S_q93)) (h_q158 : GoodF Pg 126 (F_q158 S_q158)) (h_q19 : GoodF Pg 127 (F_q19 S_q19)) (h_q18 : GoodF Pg 125 (F_q18 S_q18)) (h_q3 : GoodF Pg 125 (F_q3 S_q3)) (h_q14 : GoodF Pg 128 (F_q14 S_q14)) : GoodF Pg 79 (F_q91 (G_q91 N_ S_q93 S_q158 S_q19 S_q18 S_q3 S_q14)) := by
  refine good_fs (cx := ⟨Pg, ofList [(124, (F_q93 S_q93)), (126, (F_q158 S_q158)), (127, (F_q19 S_q19)), (125, (orFs (F_q18 S_q18) (F_q3 S_q3) shF_q18)), (128, (F_q14 S_q14))], isref, N_⟩) (ofList_cons h_q93 (ofList_cons h_q158 (ofList_cons h_q19 (ofList_cons (good_or h_q18 h_q3) (ofList_cons h_q14 (ofList_nil _)))))) shF_q91 (sp_q91 (G_q91 N_ S_q93 S_q158 S_q19 S_q18 S_q3 S_q14)) (an_q91 N_ S_q93 S_q158 S_q19 S_q18 S_q3 S_q14) 1 0 (by kernel_rfl) (fun i_ hi_ => by
    match i_, hi_ with
    | 0, _ => exact ho_dyad_Dot_0 _ _ _ _ _ _ _
    | (q + 1), h => omega) ?_
  intro a k h
  unfold sp_q91 at h
  split at h
  · exact ⟨[], rfl, rfl, (eq_q91 _ _ _ _ _ _ _ _ _ _).trans h⟩
  · cases h

def an_q139 (N_ : Nat) : Nat -> Option Ann := fun b_ => none
theorem eq_q139 (N_ : Nat) (d_0 : Bool) (d_1 : List Int) (d_2 : Int) (c_ : V -> List Blk -> Bool) : bodyV ⟨Pg, ofList [], isref, N_⟩ (an_q139 N_) 132 (shF_q139.args [.bool d_0, .ints d_1, .int d_2]) [] c_ = G_q139 N_ d_0 d_1 d_2 (fun r0 => c_ (.bool r0) []) := by kernel_rfl
theorem good_q139 (N_ : Nat) : GoodF Pg 132 (F_q139 (G_q139 N_)) := by
  refine good_fs (cx := ⟨Pg, ofList [], isref, N_⟩) (ofList_nil _) shF_q139 (sp_q139 (G_q139 N_)) (an_q139 N_) 0 0 (by kernel_rfl) (fun i_ hi_ => by omega) ?_
  intro a k h
  unfold sp_q139 at h
  split at h
  · exact ⟨[], rfl, rfl, (eq_q139 _ _ _ _ _).trans h⟩
  · cases h

def an_q45 (N_ : Nat) (S_q116 : TS_q116) (S_q0 : TS_q0) : Nat -> Option Ann := fun b_ => none
theorem eq_q45 (N_ : Nat) (S_q116 : TS_q116) (S_q0 : TS_q0) (n : Int) (b : Bool) (c_ : V -> List Blk -> Bool) : bodyZ ⟨Pg, ofList [(204, (F_q116 S_q116)), (170, (F_q0 S_q0))], isref, N_⟩ (an_q45 N_ S_q116 S_q0) 172 (shF_q45.args [.int n, .bool b]) [⟨164, 1, .cells [.bool b, .nil]⟩] c_ = G_q45 N_ S_q116 S_q0 n b (fun r0 r1 => c_ (.ptr 0 0) [⟨164, 1, .cells [.bool r0, .roi .u64 r1]⟩]) := by kernel_rfl
theorem good_q45 (N_ : Nat) (S_q116 : TS_q116) (S_q0 : TS_q0) (h_q116 : GoodF Pg 204 (F_q116 S_q116)) (h_q0 : GoodF Pg 170 (F_q0 S_q0)) : GoodF Pg 172 (F_q45 (G_q45 N_ S_q116 S_q0)) := by
  refine good_fsZ (cx := ⟨Pg, ofList [(204, (F_q116 S_q116)), (170, (F_q0 S_q0))], isref, N_⟩) (ofList_cons h_q116 (ofList_cons h_q0 (ofList_nil _))) shF_q45 (sp_q45 (G_q45 N_ S_q116 S_q0)) (an_q45 N_ S_q116 S_q0) 0 1 (by kernel_rfl) (fun i_ hi_ => by omega) ?_
  intro a k h
  unfold sp_q45 at h
  split at h
  · exact ⟨[_], rfl, rfl, (eq_q45 _ _ _ _ _ _).trans h⟩
  · cases h

def an_q43 (N_ : Nat) : Nat -> Option Ann := fun b_ => none
theorem eq_q43 (N_ : Nat) (neg : Bool) (abs_0 : Nat) (abs_1 : Nat) (b : Bool) (b_1 : List Int) (b_2 : List Int) (c_ : V -> List Blk -> Bool) : bodyZ ⟨Pg, ofList [], isref, N_⟩ (an_q43 N_) 170 (shF_q43.args [.bool neg, .nat abs_0, .nat abs_1, .bool b, .ints b_1, .ints b_2]) [⟨164, 1, .cells [.bool b, .roi .u64 b_1]⟩, ⟨41, 1, .ints .u64 b_2⟩] c_ = G_q43 N_ neg abs_0 abs_1 b b_1 b_2 (fun r0 => c_ (.ptr 0 0) [⟨164, 1, .cells [.bool r0, .sl 1 abs_0 abs_1]⟩, ⟨41, 1, .ints .u64 b_2⟩]) := by kernel_rfl
theorem good_q43 (N_ : Nat) : GoodF Pg 170 (F_q43 (G_q43 N_)) := by
  refine good_fsZ (cx := ⟨Pg, ofList [], isref, N_⟩) (ofList_nil _) shF_q43 (sp_q43 (G_q43 N_)) (an_q43 N_) 0 2 (by kernel_rfl) (fun i_ hi_ => by omega) ?_
  intro a k h
  unfold sp_q43 at h
  split at h
  · exact ⟨[_, _], rfl, rfl, (eq_q43 _ _ _ _ _ _ _ _).trans h⟩
  · cases h

def sh_st_big_Int_Or_p0p0p1rr_0 : StSh := ⟨[.ptr 0 0, .ptr 0 0, .ptr 1 0, .any, .any, .any, .any, .slw 2, .any, .any, .any, .any, .any, .any, .any, .any, .any, .any, .any, .any, .any, .any, .int .i64, .int .i64, .any, .any, .any, .any, .any, .any, .any, .any, .any, .any, .any, .any, .any, .any, .any, .any, .any, .any, .any, .any, .any, .any, .any], [some (164, 1, .cells [.bool, .roi .u64]), some (164, 1, .cells [.bool, .roi .u64]), some (41, 1, .ints .u64)]⟩
def sx0_st_big_Int_Or_p0p0p1rr_0 : StSh := ⟨[.ptr 0 0, .any, .any, .any, .any, .any, .any, .slw 2, .any, .any, .any, .any, .any, .any, .any, .any, .any, .any, .any, .any, .any, .any, .any, .any, .any, .any, .any, .any, .any, .any, .any, .any, .any, .any, .any, .any, .any, .any, .any, .any, .any, .any, .any, .any, .any, .any, .any], [some (164, 1, .cells [.bool, .roi .u64]), some (164, 1, .cells [.bool, .roi .u64]), some (41, 1, .ints .u64)]⟩
def hk_st_big_Int_Or_p0p0p1rr_0 (N_ : Nat) (S_q17 : TS_q17) (S_q1 : TS_q1) (S_q43 : TS_q43) : List Atom -> K -> Bool := fun a_ κ => match a_ with
  | [.int t22, .int t23, .bool z, .ints z_1, .bool y, .ints y_1, .ints r] => iterG N_ (st_q218 N_ S_q17 S_q1 S_q43 t22 z z_1 y y_1 (fun r4 => κ.ext 0 (sx0_st_big_Int_Or_p0p0p1rr_0.build [.bool z, .ints z_1, .bool y, .ints y_1, .ints r4]))) (t23, r)
  | _ => false
def an_q33 (N_ : Nat) (S_q17 : TS_q17) (S_q1 : TS_q1) (S_q43 : TS_q43) : Nat -> Option Ann := fun b_ => cond (b_ == 0) (some ⟨⟨[0, 1, 2, 7, 22, 23], [], []⟩, [(0, ⟨[0, 7], [], []⟩)], some ⟨[6], [], []⟩, some (mkHooks [(sh_st_big_Int_Or_p0p0p1rr_0, hk_st_big_Int_Or_p0p0p1rr_0 N_ S_q17 S_q1 S_q43)])⟩) (none)
theorem eq_st_big_Int_Or_p0p0p1rr_0 (N_ : Nat) (S_q17 : TS_q17) (S_q1 : TS_q1) (S_q43 : TS_q43) (κ : K) (t22 : Int) (t23 : Int) (z : Bool) (z_1 : List Int) (y : Bool) (y_1 : List Int) (r : List Int) : iter N_ (fun s k => codeV ⟨Pg, ofList [(205, (F_q17 S_q17)), (202, (F_q1 S_q1)), (170, (F_q43 S_q43))], isref, N_⟩ 2 (an_q33 N_ S_q17 S_q1 S_q43) (lp Pg 173 0).2 (lp Pg 173 0).1 s (roundK Pg 2 ((an_q33 N_ S_q17 S_q1 S_q43) (lp Pg 173 0).1) κ k)) (sh_st_big_Int_Or_p0p0p1rr_0.build [.int t22, .int t23, .bool z, .ints z_1, .bool y, .ints y_1, .ints r]) = iterG N_ (st_q218 N_ S_q17 S_q1 S_q43 t22 z z_1 y y_1 (fun r4 => κ.ext 0 (sx0_st_big_Int_Or_p0p0p1rr_0.build [.bool z, .ints z_1, .bool y, .ints y_1, .ints r4]))) (t23, r) :=
  iter_tr (fun (v_ : Int × List Int) => sh_st_big_Int_Or_p0p0p1rr_0.build [.int t22, .int v_.1, .bool z, .ints z_1, .bool y, .ints y_1, .ints v_.2]) (fun v_ K_ => by obtain ⟨t23, r⟩ := v_; kernel_rfl) N_ (t23, r)
theorem hk1_st_big_Int_Or_p0p0p1rr_0 (N_ : Nat) (S_q17 : TS_q17) (S_q1 : TS_q1) (S_q43 : TS_q43) : HookFor ⟨Pg, ofList [(205, (F_q17 S_q17)), (202, (F_q1 S_q1)), (170, (F_q43 S_q43))], isref, N_⟩ 2 (an_q33 N_ S_q17 S_q1 S_q43) (lp Pg 173 0) (sh_st_big_Int_Or_p0p0p1rr_0, hk_st_big_Int_Or_p0p0p1rr_0 N_ S_q17 S_q1 S_q43) := by
  intro a κ h
  simp only at h
  unfold hk_st_big_Int_Or_p0p0p1rr_0 at h
  split at h
  · exact (eq_st_big_Int_Or_p0p0p1rr_0 _ _ _ _ _ _ _ _ _ _ _ _).trans h
  · cases h
theorem ho_big_Int_Or_p0p0p1rr_0 (N_ : Nat) (S_q17 : TS_q17) (S_q1 : TS_q1) (S_q43 : TS_q43) : HookOk ⟨Pg, ofList [(205, (F_q17 S_q17)), (202, (F_q1 S_q1)), (170, (F_q43 S_q43))], isref, N_⟩ 2 (an_q33 N_ S_q17 S_q1 S_q43) (lp Pg 173 0) :=
  hooks_ok [(sh_st_big_Int_Or_p0p0p1rr_0, hk_st_big_Int_Or_p0p0p1rr_0 N_ S_q17 S_q1 S_q43)] (by kernel_rfl) ⟨hk1_st_big_Int_Or_p0p0p1rr_0 _ _ _ _, trivial⟩
theorem eq_q33 (N_ : Nat) (S_q17 : TS_q17) (S_q1 : TS_q1) (S_q43 : TS_q43) (b : Bool) (b_1 : List Int) (b_2 : Bool) (b_3 : List Int) (c_ : V -> List Blk -> Bool) : bodyZ ⟨Pg, ofList [(205, (F_q17 S_q17)), (202, (F_q1 S_q1)), (170, (F_q43 S_q43))], isref, N_⟩ (an_q33 N_ S_q17 S_q1 S_q43) 173 (shF_q33.args [.bool b, .ints b_1, .bool b_2, .ints b_3]) [⟨164, 1, .cells [.bool b, .roi .u64 b_1]⟩, ⟨164, 1, .cells [.bool b_2, .roi .u64 b_3]⟩] c_ = G_q33 N_ S_q17 S_q1 S_q43 b b_1 b_2 b_3 (fun r0 r1 => c_ (.ptr 0 0) [⟨164, 1, .cells [.bool r0, .roi .u64 r1]⟩, ⟨164, 1, .cells [.bool b_2, .roi .u64 b_3]⟩]) := by kernel_rfl
theorem good_q33 (N_ : Nat) (S_q17 : TS_q17) (S_q1 : TS_q1) (S_q43 : TS_q43) (h_q17 : GoodF Pg 205 (F_q17 S_q17)) (h_q1 : GoodF Pg 202 (F_q1 S_q1)) (h_q43 : GoodF Pg 170 (F_q43 S_q43)) : GoodF Pg 173 (F_q33 (G_q33 N_ S_q17 S_q1 S_q43)) := by
  refine good_fsZ (cx := ⟨Pg, ofList [(205, (F_q17 S_q17)), (202, (F_q1 S_q1)), (170, (F_q43 S_q43))], isref, N_⟩) (ofList_cons h_q17 (ofList_cons h_q1 (ofList_cons h_q43 (ofList_nil _)))) shF_q33 (sp_q33 (G_q33 N_ S_q17 S_q1 S_q43)) (an_q33 N_ S_q17 S_q1 S_q43) 1 2 (by kernel_rfl) (fun i_ hi_ => by
    match i_, hi_ with
    | 0, _ => exact ho_big_Int_Or_p0p0p1rr_0 _ _ _ _
    | (q + 1), h => omega) ?_
  intro a k h
  unfold sp_q33 at h
  split at h
  · exact ⟨[_, _], rfl, rfl, (eq_q33 _ _ _ _ _ _ _ _ _).trans h⟩
  · cases h

def an_q47 (N_ : Nat) (S_q116 : TS_q116) (S_q34 : TS_q34) : Nat -> Option Ann := fun b_ => none
theorem eq_q47 (N_ : Nat) (S_q116 : TS_q116) (S_q34 : TS_q34) (n : Int) (b : Bool) (b_1 : List Int) (c_ : V -> List Blk -> Bool) : bodyZ ⟨Pg, ofList [(204, (F_q116 S_q116)), (170, (F_q34 S_q34))], isref, N_⟩ (an_q47 N_ S_q116 S_q34) 172 (shF_q47.args [.int n, .bool b, .ints b_1]) [⟨164, 1, .cells [.bool b, .roi .u64 b_1]⟩] c_ = G_q47 N_ S_q116 S_q34 n b b_1 (fun r0 r1 => c_ (.ptr 0 0) [⟨164, 1, .cells [.bool r0, .roi .u64 r1]⟩]) := by kernel_rfl
theorem good_q47 (N_ : Nat) (S_q116 : TS_q116) (S_q34 : TS_q34) (h_q116 : GoodF Pg 204 (F_q116 S_q116)) (h_q34 : GoodF Pg 170 (F_q34 S_q34)) : GoodF Pg 172 (F_q47 (G_q47 N_ S_q116 S_q34)) := by
  refine good_fsZ (cx := ⟨Pg, ofList [(204, (F_q116 S_q116)), (170, (F_q34 S_q34))], isref, N_⟩) (ofList_cons h_q116 (ofList_cons h_q34 (ofList_nil _))) shF_q47 (sp_q47 (G_q47 N_ S_q116 S_q34)) (an_q47 N_ S_q116 S_q34) 0 1 (by kernel_rfl) (fun i_ hi_ => by omega) ?_
  intro a k h
  unfold sp_q47 at h
  split at h
  · exact ⟨[_], rfl, rfl, (eq_q47 _ _ _ _ _ _ _).trans h⟩
  · cases h

def sh_st_dyad_take_0 : StSh := ⟨[.any, .ptr 0 0, .ptr 1 0, .ptr 2 0, .int .i64, .any, .any, .any, .any, .any, .any, .any, .any, .any, .any, .any, .any, .any, .any, .any, .any, .any, .any, .any, .any, .any, .any, .any, .any, .any, .any, .any, .any, .any, .any, .any], [some (124, 1, .cells [.bool, .roi .u32, .int .i64]), some (166, 1, .cells [.val, .int .i64]), some (164, 1, .cells [.bool, .roi .u64])]⟩
def sx0_st_dyad_take_0 : StSh := ⟨[.any, .ptr 0 0, .ptr 1 0, .ptr 2 0, .any, .any, .any, .any, .any, .any, .any, .any, .any, .any, .any, .any, .any, .any, .any, .any, .any, .any, .any, .any, .any, .any, .any, .any, .any, .any, .any, .any, .any, .any, .any, .any], [some (124, 1, .cells [.bool, .roi .u32, .int .i64]), some (166, 1, .cells [.val, .int .i64]), some (164, 1, .cells [.bool, .roi .u64])]⟩
def hk_st_dyad_take_0 (N_ : Nat) (S_q45 : TS_q45) (S_q63 : TS_q63) (S_q33 : TS_q33) (S_q47 : TS_q47) (S_q28 : TS_q28) : List Atom -> K -> Bool := fun a_ κ => match a_ with
  | [.int i_1, .bool d_3, .ints d_4, .int d_5, .val t2_2, .int t2_3, .bool n_1, .ints n_2] => iterG N_ (st_dyad_take_0 N_ S_q45 S_q63 S_q33 S_q47 S_q28 d_3 d_4 d_5 t2_2 t2_3 (fun r5 r6 => κ.ext 0 (sx0_st_dyad_take_0.build [.bool d_3, .ints d_4, .int d_5, .val t2_2, .int t2_3, .bool r5, .ints r6]))) (i_1, n_1, n_2)
  | _ => false
def an_q122 (N_ : Nat) (S_q45 : TS_q45) (S_q63 : TS_q63) (S_q33 : TS_q33) (S_q47 : TS_q47) (S_q28 : TS_q28) : Nat -> Option Ann := fun b_ => cond (b_ == 0) (some ⟨⟨[1, 2, 3, 4], [], [(2, 1, some .u64)]⟩, [(0, ⟨[1, 2, 3], [], []⟩)], some ⟨[2], [], []⟩, some (mkHooks [(sh_st_dyad_take_0, hk_st_dyad_take_0 N_ S_q45 S_q63 S_q33 S_q47 S_q28)])⟩) (none)
theorem eq_st_dyad_take_0 (N_ : Nat) (S_q45 : TS_q45) (S_q63 : TS_q63) (S_q33 : TS_q33) (S_q47 : TS_q47) (S_q28 : TS_q28) (κ : K) (i_1 : Int) (d_3 : Bool) (d_4 : List Int) (d_5 : Int) (t2_2 : Value) (t2_3 : Int) (n_1 : Bool) (n_2 : List Int) : iter N_ (fun s k => codeV ⟨Pg, ofList [(172, (orFs (F_q45 S_q45) (F_q47 S_q47) shF_q45)), (165, (F_q63 S_q63)), (173, (F_q33 S_q33)), (131, (F_q28 S_q28))], isref, N_⟩ 0 (an_q122 N_ S_q45 S_q63 S_q33 S_q47 S_q28) (lp Pg 133 0).2 (lp Pg 133 0).1 s (roundK Pg 0 ((an_q122 N_ S_q45 S_q63 S_q33 S_q47 S_q28) (lp Pg 133 0).1) κ k)) (sh_st_dyad_take_0.build [.int i_1, .bool d_3, .ints d_4, .int d_5, .val t2_2, .int t2_3, .bool n_1, .ints n_2]) = iterG N_ (st_dyad_take_0 N_ S_q45 S_q63 S_q33 S_q47 S_q28 d_3 d_4 d_5 t2_2 t2_3 (fun r5 r6 => κ.ext 0 (sx0_st_dyad_take_0.build [.bool d_3, .ints d_4, .int d_5, .val t2_2, .int t2_3, .bool r5, .ints r6]))) (i_1, n_1, n_2) :=
  iter_tr (fun (v_ : Int × Bool × List Int) => sh_st_dyad_take_0.build [.int v_.1, .bool d_3, .ints d_4, .int d_5, .val t2_2, .int t2_3, .bool v_.2.1, .ints v_.2.2]) (fun v_ K_ => by obtain ⟨i_1, n_1, n_2⟩ := v_; kernel_rfl) N_ (i_1, n_1, n_2)
theorem hk1_st_dyad_take_0 (N_ : Nat) (S_q45 : TS_q45) (S_q63 : TS_q63) (S_q33 : TS_q33) (S_q47 : TS_q47) (S_q28 : TS_q28) : HookFor ⟨Pg, ofList [(172, (orFs (F_q45 S_q45) (F_q47 S_q47) shF_q45)), (165, (F_q63 S_q63)), (173, (F_q33 S_q33)), (131, (F_q28 S_q28))], isref, N_⟩ 0 (an_q122 N_ S_q45 S_q63 S_q33 S_q47 S_q28) (lp Pg 133 0) (sh_st_dyad_take_0, hk_st_dyad_take_0 N_ S_q45 S_q63 S_q33 S_q47 S_q28) := by
  intro a κ h
  simp only at h
  unfold hk_st_dyad_take_0 at h
  split at h
  · exact (eq_st_dyad_take_0 _ _ _ _ _ _ _ _ _ _ _ _ _ _ _).trans h
  · cases h
theorem ho_dyad_take_0 (N_ : Nat) (S_q45 : TS_q45) (S_q63 : TS_q63) (S_q33 : TS_q33) (S_q47 : TS_q47) (S_q28 : TS_q28) : HookOk ⟨Pg, ofList [(172, (orFs (F_q45 S_q45) (F_q47 S_q47) shF_q45)), (165, (F_q63 S_q63)), (173, (F_q33 S_q33)), (131, (F_q28 S_q28))], isref, N_⟩ 0 (an_q122 N_ S_q45 S_q63 S_q33 S_q47 S_q28) (lp Pg 133 0) :=
  hooks_ok [(sh_st_dyad_take_0, hk_st_dyad_take_0 N_ S_q45 S_q63 S_q33 S_q47 S_q28)] (by kernel_rfl) ⟨hk1_st_dyad_take_0 _ _ _ _ _ _, trivial⟩
theorem eq_q122 (N_ : Nat) (S_q45 : TS_q45) (S_q63 : TS_q63) (S_q33 : TS_q33) (S_q47 : TS_q47) (S_q28 : TS_q28) (d_0 : Bool) (d_1 : List Int) (d_2 : Int) (c_ : V -> List Blk -> Bool) : bodyV ⟨Pg, ofList [(172, (orFs (F_q45 S_q45) (F_q47 S_q47) shF_q45)), (165, (F_q63 S_q63)), (173, (F_q33 S_q33)), (131, (F_q28 S_q28))], isref, N_⟩ (an_q122 N_ S_q45 S_q63 S_q33 S_q47 S_q28) 133 (shF_q122.args [.bool d_0, .ints d_1, .int d_2]) [] c_ = G_q122 N_ S_q45 S_q63 S_q33 S_q47 S_q28 d_0 d_1 d_2 (fun r1 r2 => c_ (.agg [.ptr 0 0, .int .i64 d_2]) [⟨164, 1, .cells [.bool r1, .roi .u64 r2]⟩]) := by kernel_rfl
theorem good_q122 (N_ : Nat) (S_q45 : TS_q45) (S_q63 : TS_q63) (S_q33 : TS_q33) (S_q47 : TS_q47) (S_q28 : TS_q28) (h_q45 : GoodF Pg 172 (F_q45 S_q45)) (h_q63 : GoodF Pg 165 (F_q63 S_q63)) (h_q33 : GoodF Pg 173 (F_q33 S_q33)) (h_q47 : GoodF Pg 172 (F_q47 S_q47)) (h_q28 : GoodF Pg 131 (F_q28 S_q28)) : GoodF Pg 133 (F_q122 (G_q122 N_ S_q45 S_q63 S_q33 S_q47 S_q28)) := by
  refine good_fs (cx := ⟨Pg, ofList [(172, (orFs (F_q45 S_q45) (F_q47 S_q47) shF_q45)), (165, (F_q63 S_q63)), (173, (F_q33 S_q33)), (131, (F_q28 S_q28))], isref, N_⟩) (ofList_cons (good_or h_q45 h_q47) (ofList_cons h_q63 (ofList_cons h_q33 (ofList_cons h_q28 (ofList_nil _))))) shF_q122 (sp_q122 (G_q122 N_ S_q45 S_q63 S_q33 S_q47 S_q28)) (an_q122 N_ S_q45 S_q63 S_q33 S_q47 S_q28) 1 0 (by kernel_rfl) (fun i_ hi_ => by
    match i_, hi_ with
    | 0, _ => exact ho_dyad_take_0 _ _ _ _ _ _
    | (q + 1), h => omega) ?_
  intro a k h
  unfold sp_q122 at h
  split at h
  · exact ⟨[], rfl, rfl, (eq_q122 _ _ _ _ _ _ _ _ _ _).trans h⟩
  · cases h

def an_q46 (N_ : Nat) (S_q82 : TS_q82) (S_q0 : TS_q0) : Nat -> Option Ann := fun b_ => none
theorem eq_q46 (N_ : Nat) (S_q82 : TS_q82) (S_q0 : TS_q0) (b : Bool) (b_1 : Bool) (b_2 : List Int) (c_ : V -> List Blk -> Bool) : bodyZ ⟨Pg, ofList [(171, (F_q82 S_q82)), (170, (F_q0 S_q0))], isref, N_⟩ (an_q46 N_ S_q82 S_q0) 131 (shF_q46.args [.bool b, .bool b_1, .ints b_2]) [⟨164, 1, .cells [.bool b, .nil]⟩, ⟨164, 1, .cells [.bool b_1, .roi .u64 b_2]⟩] c_ = G_q46 N_ S_q82 S_q0 b b_1 b_2 (fun r0 r1 => c_ (.ptr 0 0) [⟨164, 1, .cells [.bool r0, .roi .u64 r1]⟩, ⟨164, 1, .cells [.bool b_1, .roi .u64 b_2]⟩]) := by kernel_rfl
theorem good_q46 (N_ : Nat) (S_q82 : TS_q82) (S_q0 : TS_q0) (h_q82 : GoodF Pg 171 (F_q82 S_q82)) (h_q0 : GoodF Pg 170 (F_q0 S_q0)) : GoodF Pg 131 (F_q46 (G_q46 N_ S_q82 S_q0)) := by
  refine good_fsZ (cx := ⟨Pg, ofList [(171, (F_q82 S_q82)), (170, (F_q0 S_q0))], isref, N_⟩) (ofList_cons h_q82 (ofList_cons h_q0 (ofList_nil _))) shF_q46 (sp_q46 (G_q46 N_ S_q82 S_q0)) (an_q46 N_ S_q82 S_q0) 0 2 (by kernel_rfl) (fun i_ hi_ => by omega) ?_
  intro a k h
  unfold sp_q46 at h
  split at h
  · exact ⟨[_, _], rfl, rfl, (eq_q46 _ _ _ _ _ _ _).trans h⟩
  · cases h

def an_q74 (N_ : Nat) (S_q46 : TS_q46) (S_q3 : TS_q3) : Nat -> Option Ann := fun b_ => none
theorem eq_q74 (N_ : Nat) (S_q46 : TS_q46) (S_q3 : TS_q3) (x : Int) (y : Int) (b : Bool) (b_1 : List Int) (b_2 : Bool) (b_3 : List Int) (c_ : V -> List Blk -> Bool) : bodyV ⟨Pg, ofList [(131, (F_q46 S_q46)), (125, (F_q3 S_q3))], isref, N_⟩ (an_q74 N_ S_q46 S_q3) 130 (shF_q74.args [.int x, .int y, .bool b, .ints b_1, .bool b_2, .ints b_3]) [⟨164, 1, .cells [.bool b, .roi .u64 b_1]⟩, ⟨164, 1, .cells [.bool b_2, .roi .u64 b_3]⟩] c_ = G_q74 N_ S_q46 S_q3 x y b b_1 b_2 b_3 (fun r0 r5 r6 => c_ (.agg [.ptr 2 0, .int .i64 r0]) [⟨164, 1, .cells [.bool b, .roi .u64 b_1]⟩, ⟨164, 1, .cells [.bool b_2, .roi .u64 b_3]⟩, ⟨164, 1, .cells [.bool r5, .roi .u64 r6]⟩]) (c_ (.agg [.ptr 0 0, .int .i64 x]) [⟨164, 1, .cells [.bool b, .roi .u64 b_1]⟩, ⟨164, 1, .cells [.bool b_2, .roi .u64 b_3]⟩]) := by kernel_rfl
theorem good_q74 (N_ : Nat) (S_q46 : TS_q46) (S_q3 : TS_q3) (h_q46 : GoodF Pg 131 (F_q46 S_q46)) (h_q3 : GoodF Pg 125 (F_q3 S_q3)) : GoodF Pg 130 (F_q74 (G_q74 N_ S_q46 S_q3)) := by
  refine good_fs (cx := ⟨Pg, ofList [(131, (F_q46 S_q46)), (125, (F_q3 S_q3))], isref, N_⟩) (ofList_cons h_q46 (ofList_cons h_q3 (ofList_nil _))) shF_q74 (sp_q74 (G_q74 N_ S_q46 S_q3)) (an_q74 N_ S_q46 S_q3) 0 2 (by kernel_rfl) (fun i_ hi_ => by omega) ?_
  intro a k h
  unfold sp_q74 at h
  split at h
  · exact ⟨[_, _], rfl, rfl, (eq_q74 _ _ _ _ _ _ _ _ _ _).trans h⟩
  · cases h

def an_q128 (N_ : Nat) (S_q139 : TS_q139) (S_q122 : TS_q122) (S_q74 : TS_q74) (S_q14 : TS_q14) : Nat -> Option Ann := fun b_ => none
theorem eq_q128 (N_ : Nat) (S_q139 : TS_q139) (S_q122 : TS_q122) (S_q74 : TS_q74) (S_q14 : TS_q14) (a_0 : Bool) (a_1 : List Int) (a_2 : Int) (b_0 : Bool) (b_1 : List Int) (b_2 : Int) (c_ : V -> List Blk -> Bool) : bodyV ⟨Pg, ofList [(132, (F_q139 S_q139)), (133, (F_q122 S_q122)), (130, (F_q74 S_q74)), (128, (F_q14 S_q14))], isref, N_⟩ (an_q128 N_ S_q139 S_q122 S_q74 S_q14) 129 (shF_q128.args [.bool a_0, .ints a_1, .int a_2, .bool b_0, .ints b_1, .int b_2]) [] c_ = G_q128 N_ S_q139 S_q122 S_q74 S_q14 a_0 a_1 a_2 b_0 b_1 b_2 (fun r0 r1 r2 => c_ (.tup [.agg [.bool r0, .nil, .int .i64 r1], .int .i64 r2]) []) (fun r0 r1 r2 r3 => c_ (.tup [.agg [.bool r0, .slw 0, .int .i64 r1], .int .i64 r2]) [⟨127, 1, .ints .u32 r3⟩]) := by kernel_rfl
theorem good_q128 (N_ : Nat) (S_q139 : TS_q139) (S_q122 : TS_q122) (S_q74 : TS_q74) (S_q14 : TS_q14) (h_q139 : GoodF Pg 132 (F_q139 S_q139)) (h_q122 : GoodF Pg 133 (F_q122 S_q122)) (h_q74 : GoodF Pg 130 (F_q74 S_q74)) (h_q14 : GoodF Pg 128 (F_q14 S_q14)) : GoodF Pg 129 (F_q128 (G_q128 N_ S_q139 S_q122 S_q74 S_q14)) := by
  refine good_fs (cx := ⟨Pg, ofList [(132, (F_q139 S_q139)), (133, (F_q122 S_q122)), (130, (F_q74 S_q74)), (128, (F_q14 S_q14))], isref, N_⟩) (ofList_cons h_q139 (ofList_cons h_q122 (ofList_cons h_q74 (ofList_cons h_q14 (ofList_nil _))))) shF_q128 (sp_q128 (G_q128 N_ S_q139 S_q122 S_q74 S_q14)) (an_q128 N_ S_q139 S_q122 S_q74 S_q14) 0 0 (by kernel_rfl) (fun i_ hi_ => by omega) ?_
  intro a k h
  unfold sp_q128 at h
  split at h
  · exact ⟨[], rfl, rfl, (eq_q128 _ _ _ _ _ _ _ _ _ _ _ _).trans h⟩
  · cases h

def an_q92 (N_ : Nat) (S_q128 : TS_q128) : Nat -> Option Ann := fun b_ => none
theorem eq_q92 (N_ : Nat) (S_q128 : TS_q128) (a_0 : Bool) (a_1 : List Int) (a_2 : Int) (b_0 : Bool) (b_1 : List Int) (b_2 : Int) (c_ : V -> List Blk -> Bool) : bodyV ⟨Pg, ofList [(129, (F_q128 S_q128))], isref, N_⟩ (an_q92 N_ S_q128) 80 (shF_q92.args [.bool a_0, .ints a_1, .int a_2, .bool b_0, .ints b_1, .int b_2]) [] c_ = G_q92 N_ S_q128 a_0 a_1 a_2 b_0 b_1 b_2 (fun r0 r1 r2 => c_ (.tup [.agg [.bool r0, .nil, .int .i64 r1], .int .i64 r2]) []) (fun r0 r1 r2 r3 => c_ (.tup [.agg [.bool r0, .slw 0, .int .i64 r1], .int .i64 r2]) [⟨127, 1, .ints .u32 r3⟩]) := by kernel_rfl
theorem good_q92 (N_ : Nat) (S_q128 : TS_q128) (h_q128 : GoodF Pg 129 (F_q128 S_q128)) : GoodF Pg 80 (F_q92 (G_q92 N_ S_q128)) := by
  refine good_fs (cx := ⟨Pg, ofList [(129, (F_q128 S_q128))], isref, N_⟩) (ofList_cons h_q128 (ofList_nil _)) shF_q92 (sp_q92 (G_q92 N_ S_q128)) (an_q92 N_ S_q128) 0 0 (by kernel_rfl) (fun i_ hi_ => by omega) ?_
  intro a k h
  unfold sp_q92 at h
  split at h
  · exact ⟨[], rfl, rfl, (eq_q92 _ _ _ _ _ _ _ _ _).trans h⟩
  · cases h

def an_q44 (N_ : Nat) (S_q139 : TS_q139) (S_q122 : TS_q122) (S_q46 : TS_q46) (S_q3 : TS_q3) (S_q4 : TS_q4) : Nat -> Option Ann := fun b_ => none
theorem eq_q44 (N_ : Nat) (S_q139 : TS_q139) (S_q122 : TS_q122) (S_q46 : TS_q46) (S_q3 : TS_q3) (S_q4 : TS_q4) (a_0 : Bool) (a_1 : List Int) (a_2 : Int) (b_0 : Bool) (b_1 : List Int) (b_2 : Int) (c_ : V -> List Blk -> Bool) : bodyV ⟨Pg, ofList [(132, (F_q139 S_q139)), (133, (F_q122 S_q122)), (131, (F_q46 S_q46)), (125, (F_q3 S_q3)), (134, (F_q4 S_q4))], isref, N_⟩ (an_q44 N_ S_q139 S_q122 S_q46 S_q3 S_q4) 81 (shF_q44.args [.bool a_0, .ints a_1, .int a_2, .bool b_0, .ints b_1, .int b_2]) [] c_ = G_q44 N_ S_q139 S_q122 S_q46 S_q3 S_q4 a_0 a_1 a_2 b_0 b_1 b_2 (fun r0 r1 => c_ (.tup [.int .i64 r0, .int .i64 r1]) []) := by kernel_rfl
theorem good_q44 (N_ : Nat) (S_q139 : TS_q139) (S_q122 : TS_q122) (S_q46 : TS_q46) (S_q3 : TS_q3) (S_q4 : TS_q4) (h_q139 : GoodF Pg 132 (F_q139 S_q139)) (h_q122 : GoodF Pg 133 (F_q122 S_q122)) (h_q46 : GoodF Pg 131 (F_q46 S_q46)) (h_q3 : GoodF Pg 125 (F_q3 S_q3)) (h_q4 : GoodF Pg 134 (F_q4 S_q4)) : GoodF Pg 81 (F_q44 (G_q44 N_ S_q139 S_q122 S_q46 S_q3 S_q4)) := by
  refine good_fs (cx := ⟨Pg, ofList [(132, (F_q139 S_q139)), (133, (F_q122 S_q122)), (131, (F_q46 S_q46)), (125, (F_q3 S_q3)), (134, (F_q4 S_q4))], isref, N_⟩) (ofList_cons h_q139 (ofList_cons h_q122 (ofList_cons h_q46 (ofList_cons h_q3 (ofList_cons h_q4 (ofList_nil _)))))) shF_q44 (sp_q44 (G_q44 N_ S_q139 S_q122 S_q46 S_q3 S_q4)) (an_q44 N_ S_q139 S_q122 S_q46 S_q3 S_q4) 0 0 (by kernel_rfl) (fun i_ hi_ => by omega) ?_
  intro a k h
  unfold sp_q44 at h
  split at h
  · exact ⟨[], rfl, rfl, (eq_q44 _ _ _ _ _ _ _ _ _ _ _ _ _).trans h⟩
  · cases h

end Go.Proofs.YtccocdgimamdhaaGreatDoor
