/-
  THE TIES: each printed meaning is what the program does (written by program).
  Conditions: none.
-/
import Derived.Test.YtccocdgimamdhaaGreatDoorGs
namespace Go.Proofs.YtccocdgimamdhaaGreatDoor
open Go Go.Mach Go.Proofs
set_option linter.unusedVariables false
set_option maxRecDepth 50000

def sh_st_v_dyad_exact_halve_p0r_0 : StSh := ⟨[.any, .any, .ptr 1 0, .ptr 2 0, .int .i64, .any, .any, .any, .any, .any, .any, .any, .any, .any, .any, .any, .any, .any, .any, .any, .any, .any, .any, .any, .any, .any, .any, .any, .any, .any, .any, .any, .any], [some (164, 1, .cells [.bool, .roi .u64]), some (166, 1, .cells [.val, .int .i64]), some (164, 1, .cells [.bool, .roi .u64])]⟩
def sx0_st_v_dyad_exact_halve_p0r_0 : StSh := ⟨[.any, .any, .ptr 1 0, .ptr 2 0, .int .i64, .any, .any, .any, .any, .any, .any, .any, .any, .any, .any, .any, .any, .any, .any, .any, .any, .any, .any, .any, .any, .any, .any, .any, .any, .any, .any, .any, .any], [some (164, 1, .cells [.bool, .roi .u64]), some (166, 1, .cells [.val, .int .i64]), some (164, 1, .cells [.bool, .roi .u64])]⟩
def hk_st_v_dyad_exact_halve_p0r_0 (N_ : Nat) (S_q36 : TS_q36) (S_q5 : TS_q5) (S_q57 : TS_q57) (S_q11 : TS_q11) (S_q15 : TS_q15) : List Atom → K → Bool := fun a_ κ => match a_ with
  | [.int e, .bool b0, .ints b0_1, .val t2, .int t2_1, .bool n, .ints n_1] => iterG N_ (st_q212 N_ S_q36 S_q5 S_q57 S_q11 S_q15 b0 b0_1 t2 t2_1 (fun r0 r5 r6 => κ.ext 0 (sx0_st_v_dyad_exact_halve_p0r_0.build [.int r0, .bool b0, .ints b0_1, .val t2, .int t2_1, .bool r5, .ints r6]))) (e, n, n_1)
  | _ => false
def an_q21 (N_ : Nat) (S_q36 : TS_q36) (S_q5 : TS_q5) (S_q57 : TS_q57) (S_q11 : TS_q11) (S_q15 : TS_q15) : Nat → Option Ann := fun b_ => cond (b_ == 0) (some ⟨⟨[2, 3, 4], [], []⟩, [(0, ⟨[2, 3, 4], [], []⟩)], some ⟨[2], [], []⟩, some (mkHooks [(sh_st_v_dyad_exact_halve_p0r_0, hk_st_v_dyad_exact_halve_p0r_0 N_ S_q36 S_q5 S_q57 S_q11 S_q15)])⟩) (none)
theorem eq_st_v_dyad_exact_halve_p0r_0 (N_ : Nat) (S_q36 : TS_q36) (S_q5 : TS_q5) (S_q57 : TS_q57) (S_q11 : TS_q11) (S_q15 : TS_q15) (κ : K) (e : Int) (b0 : Bool) (b0_1 : List Int) (t2 : Value) (t2_1 : Int) (n : Bool) (n_1 : List Int) : iter N_ (fun s k => codeV ⟨Tryz.prog, ofList [(195, (F_q36 S_q36)), (134, (F_q5 S_q5)), (196, (F_q57 S_q57)), (197, (F_q11 S_q11)), (167, (F_q15 S_q15))], isref, N_⟩ 1 (an_q21 N_ S_q36 S_q5 S_q57 S_q11 S_q15) (lp Tryz.prog 163 0).2 (lp Tryz.prog 163 0).1 s (roundK Tryz.prog 1 ((an_q21 N_ S_q36 S_q5 S_q57 S_q11 S_q15) (lp Tryz.prog 163 0).1) κ k)) (sh_st_v_dyad_exact_halve_p0r_0.build [.int e, .bool b0, .ints b0_1, .val t2, .int t2_1, .bool n, .ints n_1]) = iterG N_ (st_q212 N_ S_q36 S_q5 S_q57 S_q11 S_q15 b0 b0_1 t2 t2_1 (fun r0 r5 r6 => κ.ext 0 (sx0_st_v_dyad_exact_halve_p0r_0.build [.int r0, .bool b0, .ints b0_1, .val t2, .int t2_1, .bool r5, .ints r6]))) (e, n, n_1) :=
  iter_tr (fun (v_ : Int × Bool × List Int) => sh_st_v_dyad_exact_halve_p0r_0.build [.int v_.1, .bool b0, .ints b0_1, .val t2, .int t2_1, .bool v_.2.1, .ints v_.2.2]) (fun v_ K_ => by obtain ⟨e, n, n_1⟩ := v_; kernel_rfl) N_ (e, n, n_1)
theorem hk1_st_v_dyad_exact_halve_p0r_0 (N_ : Nat) (S_q36 : TS_q36) (S_q5 : TS_q5) (S_q57 : TS_q57) (S_q11 : TS_q11) (S_q15 : TS_q15) : HookFor ⟨Tryz.prog, ofList [(195, (F_q36 S_q36)), (134, (F_q5 S_q5)), (196, (F_q57 S_q57)), (197, (F_q11 S_q11)), (167, (F_q15 S_q15))], isref, N_⟩ 1 (an_q21 N_ S_q36 S_q5 S_q57 S_q11 S_q15) (lp Tryz.prog 163 0) (sh_st_v_dyad_exact_halve_p0r_0, hk_st_v_dyad_exact_halve_p0r_0 N_ S_q36 S_q5 S_q57 S_q11 S_q15) := by
  intro a κ h
  simp only at h
  unfold hk_st_v_dyad_exact_halve_p0r_0 at h
  split at h
  · exact (eq_st_v_dyad_exact_halve_p0r_0 _ _ _ _ _ _ _ _ _ _ _ _ _ _).trans h
  · cases h
theorem ho_v_dyad_exact_halve_p0r_0 (N_ : Nat) (S_q36 : TS_q36) (S_q5 : TS_q5) (S_q57 : TS_q57) (S_q11 : TS_q11) (S_q15 : TS_q15) : HookOk ⟨Tryz.prog, ofList [(195, (F_q36 S_q36)), (134, (F_q5 S_q5)), (196, (F_q57 S_q57)), (197, (F_q11 S_q11)), (167, (F_q15 S_q15))], isref, N_⟩ 1 (an_q21 N_ S_q36 S_q5 S_q57 S_q11 S_q15) (lp Tryz.prog 163 0) :=
  hooks_ok [(sh_st_v_dyad_exact_halve_p0r_0, hk_st_v_dyad_exact_halve_p0r_0 N_ S_q36 S_q5 S_q57 S_q11 S_q15)] (by kernel_rfl) ⟨hk1_st_v_dyad_exact_halve_p0r_0 _ _ _ _ _ _, trivial⟩
theorem eq_q21 (N_ : Nat) (S_q36 : TS_q36) (S_q5 : TS_q5) (S_q57 : TS_q57) (S_q11 : TS_q11) (S_q15 : TS_q15) (x : Int) (b : Bool) (b_1 : List Int) (cont_ : V → List Blk → Bool) : bodyV ⟨Tryz.prog, ofList [(195, (F_q36 S_q36)), (134, (F_q5 S_q5)), (196, (F_q57 S_q57)), (197, (F_q11 S_q11)), (167, (F_q15 S_q15))], isref, N_⟩ (an_q21 N_ S_q36 S_q5 S_q57 S_q11 S_q15) 163 (shF_q21.args [.int x, .bool b, .ints b_1]) [⟨164, 1, .cells [.bool b, .roi .u64 b_1]⟩] cont_ = G_q21 N_ S_q36 S_q5 S_q57 S_q11 S_q15 x b b_1 (fun r0 r3 r4 => cont_ (.agg [.ptr 1 0, .int .i64 r0]) [⟨164, 1, .cells [.bool b, .roi .u64 b_1]⟩, ⟨164, 1, .cells [.bool r3, .roi .u64 r4]⟩]) := by kernel_rfl
theorem good_q21 (N_ : Nat) (S_q36 : TS_q36) (S_q5 : TS_q5) (S_q57 : TS_q57) (S_q11 : TS_q11) (S_q15 : TS_q15) (h_big_Int_Set_p0p1nr : GoodF Tryz.prog 195 (F_q36 S_q36)) (h_big_Int_Sign_p0r : GoodF Tryz.prog 134 (F_q5 S_q5)) (h_big_Int_Bit_p0r : GoodF Tryz.prog 196 (F_q57 S_q57)) (h_big_Int_TrailingZeroBits_p0r : GoodF Tryz.prog 197 (F_q11 S_q11)) (h_big_Int_Rsh_p0p0r : GoodF Tryz.prog 167 (F_q15 S_q15)) : GoodF Tryz.prog 163 (F_q21 (G_q21 N_ S_q36 S_q5 S_q57 S_q11 S_q15)) := by
  refine good_fs (cx := ⟨Tryz.prog, ofList [(195, (F_q36 S_q36)), (134, (F_q5 S_q5)), (196, (F_q57 S_q57)), (197, (F_q11 S_q11)), (167, (F_q15 S_q15))], isref, N_⟩) (ofList_cons h_big_Int_Set_p0p1nr (ofList_cons h_big_Int_Sign_p0r (ofList_cons h_big_Int_Bit_p0r (ofList_cons h_big_Int_TrailingZeroBits_p0r (ofList_cons h_big_Int_Rsh_p0p0r (ofList_nil _)))))) shF_q21 (sp_q21 (G_q21 N_ S_q36 S_q5 S_q57 S_q11 S_q15)) (an_q21 N_ S_q36 S_q5 S_q57 S_q11 S_q15) 1 1 (by kernel_rfl) (fun i_ hi_ => by
    match i_, hi_ with
    | 0, _ => exact ho_v_dyad_exact_halve_p0r_0 _ _ _ _ _ _
    | (q + 1), h => omega) ?_
  intro a k h
  unfold sp_q21 at h
  split at h
  · exact ⟨[_], rfl, rfl, (eq_q21 _ _ _ _ _ _ _ _ _ _).trans h⟩
  · cases h

def an_q106 (N_ : Nat) : Nat → Option Ann := fun b_ => none
def ls_q198 (ds_ : List V) (ms_ : List (Option Blk)) (x : Int) (x_2 : Int) (n_1 : Int) : St := ⟨[.int .u64 x_2, (dq ds_ 0), .int .i64 n_1, (dq ds_ 1), (dq ds_ 2), (dq ds_ 3), (dq ds_ 4), (dq ds_ 5), (dq ds_ 6), (dq ds_ 7), (dq ds_ 8), (dq ds_ 9), (dq ds_ 10), (dq ds_ 11), (dq ds_ 12), (dq ds_ 13), (dq ds_ 14), (dq ds_ 15), (dq ds_ 16), (dq ds_ 17), (dq ds_ 18), (dq ds_ 19), (dq ds_ 20), (dq ds_ 21), (dq ds_ 22)], []⟩
def ls_q191 (ds_ : List V) (ms_ : List (Option Blk)) (x : Int) (x_1 : Int) (n : Int) : St := ⟨[.int .u64 x_1, (dq ds_ 0), .int .i64 n, (dq ds_ 1), (dq ds_ 2), (dq ds_ 3), (dq ds_ 4), (dq ds_ 5), (dq ds_ 6), (dq ds_ 7), (dq ds_ 8), (dq ds_ 9), (dq ds_ 10), (dq ds_ 11), (dq ds_ 12), (dq ds_ 13), (dq ds_ 14), (dq ds_ 15), (dq ds_ 16), (dq ds_ 17), (dq ds_ 18), (dq ds_ 19), (dq ds_ 20), (dq ds_ 21), (dq ds_ 22)], []⟩
theorem jn_q198 (N_ : Nat) (ds_ : List V) (ms_ : List (Option Blk)) (x : Int) (x_2 : Int) (n_1 : Int) (cont_ : V → List Blk → Bool) : codesV ⟨Tryz.prog, ofList [], isref, N_⟩ 0 (an_q106 N_) ((cds Tryz.prog 220).drop 5) 0 (ls_q198 ds_ ms_ x x_2 n_1) (finV Tryz.prog 220 0 cont_) = J_q198 N_ x x_2 n_1 (fun r0 => cont_ (.int .i64 r0) []) := by kernel_rfl
theorem hd_q191 (N_ : Nat) (ds_ : List V) (ms_ : List (Option Blk)) (x : Int) (x_1 : Int) (n : Int) (cont_ : V → List Blk → Bool) (κn_ : St → Bool) : codesV ⟨Tryz.prog, ofList [], isref, N_⟩ 0 (an_q106 N_) (sg Tryz.prog 220 3 2) 0 (ls_q191 ds_ ms_ x x_1 n) { (finV Tryz.prog 220 0 cont_) with nrm := κn_ } = (cond (decide (x_1 ≥ 65536)) ((fits .i64 (n + 16)) && (κn_ (ls_q198 (dqs ds_ 0 5 [.int .u64 x_1, .bool true, .int .u64 x_1, .int .u64 (Int.fdiv x_1 (2 ^ 16)), .int .i64 n, .int .i64 (n + 16), (dq ds_ 11), (dq ds_ 12), (dq ds_ 13), (dq ds_ 14), (dq ds_ 15), (dq ds_ 16), (dq ds_ 17), (dq ds_ 18), (dq ds_ 19), (dq ds_ 20), (dq ds_ 21), (dq ds_ 22)]) [] x (Int.fdiv x_1 (2 ^ 16)) (n + 16)))) (κn_ (ls_q198 (dqs ds_ 0 5 [.int .u64 x_1, .bool false, (dq ds_ 7), (dq ds_ 8), (dq ds_ 9), (dq ds_ 10), (dq ds_ 11), (dq ds_ 12), (dq ds_ 13), (dq ds_ 14), (dq ds_ 15), (dq ds_ 16), (dq ds_ 17), (dq ds_ 18), (dq ds_ 19), (dq ds_ 20), (dq ds_ 21), (dq ds_ 22)]) [] x x_1 n))) := by kernel_rfl
theorem jn_q191 (N_ : Nat) (ds_ : List V) (ms_ : List (Option Blk)) (x : Int) (x_1 : Int) (n : Int) (cont_ : V → List Blk → Bool) : codesV ⟨Tryz.prog, ofList [], isref, N_⟩ 0 (an_q106 N_) ((cds Tryz.prog 220).drop 3) 0 (ls_q191 ds_ ms_ x x_1 n) (finV Tryz.prog 220 0 cont_) = J_q191 N_ x x_1 n (fun r0 => cont_ (.int .i64 r0) []) := by
  rw [codesV_cut 3 2 5 rfl]
  refine (hd_q191 N_ ds_ ms_ x x_1 n cont_ _).trans ?_
  simp only [jn_q198]
  kernel_rfl
theorem hd_m_bits_Len64_w (N_ : Nat) (x : Int) (cont_ : V → List Blk → Bool) (κn_ : St → Bool) : codesV ⟨Tryz.prog, ofList [], isref, N_⟩ 0 (an_q106 N_) (sg Tryz.prog 220 0 3) 0 (st0 Tryz.prog 220 (shF_q106.args [.int x]) []) { (finV Tryz.prog 220 0 cont_) with nrm := κn_ } = (cond (decide (x ≥ 4294967296)) (κn_ (ls_q191 [.any, .int .u64 x, .bool true, .int .u64 x, .int .u64 (Int.fdiv x (2 ^ 32)), .any, .any, .any, .any, .any, .any, .any, .any, .any, .any, .any, .any, .any, .any, .any, .any, .any, .any] [] x (Int.fdiv x (2 ^ 32)) 32)) (κn_ (ls_q191 [.any, .int .u64 x, .bool false, .any, .any, .any, .any, .any, .any, .any, .any, .any, .any, .any, .any, .any, .any, .any, .any, .any, .any, .any, .any] [] x x 0))) := by kernel_rfl
theorem jn_m_bits_Len64_w (N_ : Nat) (x : Int) (cont_ : V → List Blk → Bool) : codesV ⟨Tryz.prog, ofList [], isref, N_⟩ 0 (an_q106 N_) ((cds Tryz.prog 220).drop 0) 0 (st0 Tryz.prog 220 (shF_q106.args [.int x]) []) (finV Tryz.prog 220 0 cont_) = G_q106 N_ x (fun r0 => cont_ (.int .i64 r0) []) := by
  rw [codesV_cut 0 3 3 rfl]
  refine (hd_m_bits_Len64_w N_ x cont_ _).trans ?_
  simp only [jn_q191]
  kernel_rfl
theorem eq_q106 (N_ : Nat) (x : Int) (cont_ : V → List Blk → Bool) : bodyV ⟨Tryz.prog, ofList [], isref, N_⟩ (an_q106 N_) 220 (shF_q106.args [.int x]) [] cont_ = G_q106 N_ x (fun r0 => cont_ (.int .i64 r0) []) :=
  (bodyV_codes (by kernel_rfl)).trans (jn_m_bits_Len64_w N_ x cont_)
theorem good_q106 (N_ : Nat) : GoodF Tryz.prog 220 (F_q106 (G_q106 N_)) := by
  refine good_fs (cx := ⟨Tryz.prog, ofList [], isref, N_⟩) (ofList_nil _) shF_q106 (sp_q106 (G_q106 N_)) (an_q106 N_) 0 0 (by kernel_rfl) (fun i_ hi_ => by omega) ?_
  intro a k h
  unfold sp_q106 at h
  split at h
  · exact ⟨[], rfl, rfl, (eq_q106 _ _ _).trans h⟩
  · cases h

def an_q143 (N_ : Nat) (S_q106 : TS_q106) : Nat → Option Ann := fun b_ => none
theorem eq_q143 (N_ : Nat) (S_q106 : TS_q106) (x : List Int) (cont_ : V → List Blk → Bool) : bodyZ ⟨Tryz.prog, ofList [(220, (F_q106 S_q106))], isref, N_⟩ (an_q143 N_ S_q106) 198 (shF_q143.args [.ints x]) [] cont_ = G_q143 N_ S_q106 x (fun r0 => cont_ (.int .i64 r0) []) := by kernel_rfl
theorem good_q143 (N_ : Nat) (S_q106 : TS_q106) (h_math_bits_Len64 : GoodF Tryz.prog 220 (F_q106 S_q106)) : GoodF Tryz.prog 198 (F_q143 (G_q143 N_ S_q106)) := by
  refine good_fsZ (cx := ⟨Tryz.prog, ofList [(220, (F_q106 S_q106))], isref, N_⟩) (ofList_cons h_math_bits_Len64 (ofList_nil _)) shF_q143 (sp_q143 (G_q143 N_ S_q106)) (an_q143 N_ S_q106) 0 0 (by kernel_rfl) (fun i_ hi_ => by omega) ?_
  intro a k h
  unfold sp_q143 at h
  split at h
  · exact ⟨[], rfl, rfl, (eq_q143 _ _ _ _).trans h⟩
  · cases h

def an_q35 (N_ : Nat) (S_q143 : TS_q143) : Nat → Option Ann := fun b_ => none
theorem eq_q35 (N_ : Nat) (S_q143 : TS_q143) (b : Bool) (b_1 : List Int) (cont_ : V → List Blk → Bool) : bodyZ ⟨Tryz.prog, ofList [(198, (F_q143 S_q143))], isref, N_⟩ (an_q35 N_ S_q143) 164 (shF_q35.args [.bool b, .ints b_1]) [⟨164, 1, .cells [.bool b, .roi .u64 b_1]⟩] cont_ = G_q35 N_ S_q143 b b_1 (fun r0 => cont_ (.int .i64 r0) [⟨164, 1, .cells [.bool b, .roi .u64 b_1]⟩]) := by kernel_rfl
theorem good_q35 (N_ : Nat) (S_q143 : TS_q143) (h_big_length : GoodF Tryz.prog 198 (F_q143 S_q143)) : GoodF Tryz.prog 164 (F_q35 (G_q35 N_ S_q143)) := by
  refine good_fsZ (cx := ⟨Tryz.prog, ofList [(198, (F_q143 S_q143))], isref, N_⟩) (ofList_cons h_big_length (ofList_nil _)) shF_q35 (sp_q35 (G_q35 N_ S_q143)) (an_q35 N_ S_q143) 0 1 (by kernel_rfl) (fun i_ hi_ => by omega) ?_
  intro a k h
  unfold sp_q35 at h
  split at h
  · exact ⟨[_], rfl, rfl, (eq_q35 _ _ _ _ _).trans h⟩
  · cases h

def an_q60 (N_ : Nat) (S_q141 : TS_q141) (S_q1 : TS_q1) : Nat → Option Ann := fun b_ => none
theorem eq_q60 (N_ : Nat) (S_q141 : TS_q141) (S_q1 : TS_q1) (n : Int) (b : Bool) (cont_ : V → List Blk → Bool) : bodyZ ⟨Tryz.prog, ofList [(193, (F_q141 S_q141)), (170, (F_q1 S_q1))], isref, N_⟩ (an_q60 N_ S_q141 S_q1) 199 (shF_q60.args [.int n, .bool b]) [⟨164, 1, .cells [.bool b, .nil]⟩] cont_ = G_q60 N_ S_q141 S_q1 n b (fun r0 r1 => cont_ (.ptr 0 0) [⟨164, 1, .cells [.bool r0, .roi .u64 r1]⟩]) := by kernel_rfl
theorem good_q60 (N_ : Nat) (S_q141 : TS_q141) (S_q1 : TS_q1) (h_big_word : GoodF Tryz.prog 193 (F_q141 S_q141)) (h_big_Int_made_p0n : GoodF Tryz.prog 170 (F_q1 S_q1)) : GoodF Tryz.prog 199 (F_q60 (G_q60 N_ S_q141 S_q1)) := by
  refine good_fsZ (cx := ⟨Tryz.prog, ofList [(193, (F_q141 S_q141)), (170, (F_q1 S_q1))], isref, N_⟩) (ofList_cons h_big_word (ofList_cons h_big_Int_made_p0n (ofList_nil _))) shF_q60 (sp_q60 (G_q60 N_ S_q141 S_q1)) (an_q60 N_ S_q141 S_q1) 0 1 (by kernel_rfl) (fun i_ hi_ => by omega) ?_
  intro a k h
  unfold sp_q60 at h
  split at h
  · exact ⟨[_], rfl, rfl, (eq_q60 _ _ _ _ _ _).trans h⟩
  · cases h

def an_q62 (N_ : Nat) (S_q60 : TS_q60) : Nat → Option Ann := fun b_ => none
theorem eq_q62 (N_ : Nat) (S_q60 : TS_q60) (n : Int) (cont_ : V → List Blk → Bool) : bodyZ ⟨Tryz.prog, ofList [(199, (F_q60 S_q60))], isref, N_⟩ (an_q62 N_ S_q60) 165 (shF_q62.args [.int n]) [] cont_ = G_q62 N_ S_q60 n (fun r0 r1 => cont_ (.ptr 0 0) [⟨164, 1, .cells [.bool r0, .roi .u64 r1]⟩]) := by kernel_rfl
theorem good_q62 (N_ : Nat) (S_q60 : TS_q60) (h_big_Int_SetInt64_p0n : GoodF Tryz.prog 199 (F_q60 S_q60)) : GoodF Tryz.prog 165 (F_q62 (G_q62 N_ S_q60)) := by
  refine good_fsZ (cx := ⟨Tryz.prog, ofList [(199, (F_q60 S_q60))], isref, N_⟩) (ofList_cons h_big_Int_SetInt64_p0n (ofList_nil _)) shF_q62 (sp_q62 (G_q62 N_ S_q60)) (an_q62 N_ S_q60) 0 0 (by kernel_rfl) (fun i_ hi_ => by omega) ?_
  intro a k h
  unfold sp_q62 at h
  split at h
  · exact ⟨[], rfl, rfl, (eq_q62 _ _ _ _).trans h⟩
  · cases h

def an_q34 (N_ : Nat) (S_q82 : TS_q82) (S_q1 : TS_q1) : Nat → Option Ann := fun b_ => none
theorem eq_q34 (N_ : Nat) (S_q82 : TS_q82) (S_q1 : TS_q1) (b : Bool) (b_1 : Bool) (b_2 : List Int) (cont_ : V → List Blk → Bool) : bodyZ ⟨Tryz.prog, ofList [(171, (F_q82 S_q82)), (170, (F_q1 S_q1))], isref, N_⟩ (an_q34 N_ S_q82 S_q1) 166 (shF_q34.args [.bool b, .bool b_1, .ints b_2]) [⟨164, 1, .cells [.bool b, .nil]⟩, ⟨164, 1, .cells [.bool b_1, .roi .u64 b_2]⟩] cont_ = G_q34 N_ S_q82 S_q1 b b_1 b_2 (fun r0 r1 => cont_ (.ptr 0 0) [⟨164, 1, .cells [.bool r0, .roi .u64 r1]⟩, ⟨164, 1, .cells [.bool b_1, .roi .u64 b_2]⟩]) := by kernel_rfl
theorem good_q34 (N_ : Nat) (S_q82 : TS_q82) (S_q1 : TS_q1) (h_big_clone : GoodF Tryz.prog 171 (F_q82 S_q82)) (h_big_Int_made_p0n : GoodF Tryz.prog 170 (F_q1 S_q1)) : GoodF Tryz.prog 166 (F_q34 (G_q34 N_ S_q82 S_q1)) := by
  refine good_fsZ (cx := ⟨Tryz.prog, ofList [(171, (F_q82 S_q82)), (170, (F_q1 S_q1))], isref, N_⟩) (ofList_cons h_big_clone (ofList_cons h_big_Int_made_p0n (ofList_nil _))) shF_q34 (sp_q34 (G_q34 N_ S_q82 S_q1)) (an_q34 N_ S_q82 S_q1) 0 2 (by kernel_rfl) (fun i_ hi_ => by omega) ?_
  intro a k h
  unfold sp_q34 at h
  split at h
  · exact ⟨[_, _], rfl, rfl, (eq_q34 _ _ _ _ _ _ _).trans h⟩
  · cases h

def an_q38 (N_ : Nat) : Nat → Option Ann := fun b_ => none
theorem eq_q38 (N_ : Nat) (neg : Bool) (abs_0 : Nat) (abs_1 : Nat) (b : Bool) (b_1 : List Int) (cont_ : V → List Blk → Bool) : bodyZ ⟨Tryz.prog, ofList [], isref, N_⟩ (an_q38 N_) 170 (shF_q38.args [.bool neg, .nat abs_0, .nat abs_1, .bool b, .ints b_1]) [⟨164, 1, .cells [.bool b, .nil]⟩, ⟨41, 1, .ints .u64 b_1⟩] cont_ = G_q38 N_ neg abs_0 abs_1 b b_1 (fun r0 => cont_ (.ptr 0 0) [⟨164, 1, .cells [.bool r0, .sl 1 abs_0 abs_1]⟩, ⟨41, 1, .ints .u64 b_1⟩]) := by kernel_rfl
theorem good_q38 (N_ : Nat) : GoodF Tryz.prog 170 (F_q38 (G_q38 N_)) := by
  refine good_fsZ (cx := ⟨Tryz.prog, ofList [], isref, N_⟩) (ofList_nil _) shF_q38 (sp_q38 (G_q38 N_)) (an_q38 N_) 0 2 (by kernel_rfl) (fun i_ hi_ => by omega) ?_
  intro a k h
  unfold sp_q38 at h
  split at h
  · exact ⟨[_, _], rfl, rfl, (eq_q38 _ _ _ _ _ _ _).trans h⟩
  · cases h

def sh_st_big_Int_And_p0p1p2nrr_0 : StSh := ⟨[.ptr 0 0, .ptr 1 0, .ptr 2 0, .any, .any, .any, .any, .slw 3, .any, .any, .any, .any, .any, .any, .any, .any, .any, .any, .any, .any, .any, .any, .int .i64, .int .i64, .any, .any, .any, .any, .any, .any, .any, .any, .any, .any, .any, .any, .any, .any, .any, .any, .any, .any, .any, .any, .any, .any, .any, .any, .any], [some (164, 1, .cells [.bool, .nil]), some (164, 1, .cells [.bool, .roi .u64]), some (164, 1, .cells [.bool, .roi .u64]), some (41, 1, .ints .u64)]⟩
def sx0_st_big_Int_And_p0p1p2nrr_0 : StSh := ⟨[.ptr 0 0, .any, .any, .any, .any, .any, .any, .slw 3, .any, .any, .any, .any, .any, .any, .any, .any, .any, .any, .any, .any, .any, .any, .any, .any, .any, .any, .any, .any, .any, .any, .any, .any, .any, .any, .any, .any, .any, .any, .any, .any, .any, .any, .any, .any, .any, .any, .any, .any, .any], [some (164, 1, .cells [.bool, .nil]), some (164, 1, .cells [.bool, .roi .u64]), some (164, 1, .cells [.bool, .roi .u64]), some (41, 1, .ints .u64)]⟩
def hk_st_big_Int_And_p0p1p2nrr_0 (N_ : Nat) (S_q0 : TS_q0) (S_q38 : TS_q38) : List Atom → K → Bool := fun a_ κ => match a_ with
  | [.int t22, .int t23, .bool z, .bool x, .ints x_1, .bool y, .ints y_1, .ints r] => iterG N_ (st_q218 N_ S_q0 S_q38 t22 z x x_1 y y_1 (fun r5 => κ.ext 0 (sx0_st_big_Int_And_p0p1p2nrr_0.build [.bool z, .bool x, .ints x_1, .bool y, .ints y_1, .ints r5]))) (t23, r)
  | _ => false
def an_q22 (N_ : Nat) (S_q0 : TS_q0) (S_q38 : TS_q38) : Nat → Option Ann := fun b_ => cond (b_ == 0) (some ⟨⟨[0, 1, 2, 7, 22, 23], [], []⟩, [(0, ⟨[0, 7], [], []⟩)], some ⟨[6], [], []⟩, some (mkHooks [(sh_st_big_Int_And_p0p1p2nrr_0, hk_st_big_Int_And_p0p1p2nrr_0 N_ S_q0 S_q38)])⟩) (none)
theorem eq_st_big_Int_And_p0p1p2nrr_0 (N_ : Nat) (S_q0 : TS_q0) (S_q38 : TS_q38) (κ : K) (t22 : Int) (t23 : Int) (z : Bool) (x : Bool) (x_1 : List Int) (y : Bool) (y_1 : List Int) (r : List Int) : iter N_ (fun s k => codeV ⟨Tryz.prog, ofList [(202, (F_q0 S_q0)), (170, (F_q38 S_q38))], isref, N_⟩ 3 (an_q22 N_ S_q0 S_q38) (lp Tryz.prog 168 0).2 (lp Tryz.prog 168 0).1 s (roundK Tryz.prog 3 ((an_q22 N_ S_q0 S_q38) (lp Tryz.prog 168 0).1) κ k)) (sh_st_big_Int_And_p0p1p2nrr_0.build [.int t22, .int t23, .bool z, .bool x, .ints x_1, .bool y, .ints y_1, .ints r]) = iterG N_ (st_q218 N_ S_q0 S_q38 t22 z x x_1 y y_1 (fun r5 => κ.ext 0 (sx0_st_big_Int_And_p0p1p2nrr_0.build [.bool z, .bool x, .ints x_1, .bool y, .ints y_1, .ints r5]))) (t23, r) :=
  iter_tr (fun (v_ : Int × List Int) => sh_st_big_Int_And_p0p1p2nrr_0.build [.int t22, .int v_.1, .bool z, .bool x, .ints x_1, .bool y, .ints y_1, .ints v_.2]) (fun v_ K_ => by obtain ⟨t23, r⟩ := v_; kernel_rfl) N_ (t23, r)
theorem hk1_st_big_Int_And_p0p1p2nrr_0 (N_ : Nat) (S_q0 : TS_q0) (S_q38 : TS_q38) : HookFor ⟨Tryz.prog, ofList [(202, (F_q0 S_q0)), (170, (F_q38 S_q38))], isref, N_⟩ 3 (an_q22 N_ S_q0 S_q38) (lp Tryz.prog 168 0) (sh_st_big_Int_And_p0p1p2nrr_0, hk_st_big_Int_And_p0p1p2nrr_0 N_ S_q0 S_q38) := by
  intro a κ h
  simp only at h
  unfold hk_st_big_Int_And_p0p1p2nrr_0 at h
  split at h
  · exact (eq_st_big_Int_And_p0p1p2nrr_0 _ _ _ _ _ _ _ _ _ _ _ _).trans h
  · cases h
theorem ho_big_Int_And_p0p1p2nrr_0 (N_ : Nat) (S_q0 : TS_q0) (S_q38 : TS_q38) : HookOk ⟨Tryz.prog, ofList [(202, (F_q0 S_q0)), (170, (F_q38 S_q38))], isref, N_⟩ 3 (an_q22 N_ S_q0 S_q38) (lp Tryz.prog 168 0) :=
  hooks_ok [(sh_st_big_Int_And_p0p1p2nrr_0, hk_st_big_Int_And_p0p1p2nrr_0 N_ S_q0 S_q38)] (by kernel_rfl) ⟨hk1_st_big_Int_And_p0p1p2nrr_0 _ _ _, trivial⟩
theorem eq_q22 (N_ : Nat) (S_q0 : TS_q0) (S_q38 : TS_q38) (b : Bool) (b_1 : Bool) (b_2 : List Int) (b_3 : Bool) (b_4 : List Int) (cont_ : V → List Blk → Bool) : bodyZ ⟨Tryz.prog, ofList [(202, (F_q0 S_q0)), (170, (F_q38 S_q38))], isref, N_⟩ (an_q22 N_ S_q0 S_q38) 168 (shF_q22.args [.bool b, .bool b_1, .ints b_2, .bool b_3, .ints b_4]) [⟨164, 1, .cells [.bool b, .nil]⟩, ⟨164, 1, .cells [.bool b_1, .roi .u64 b_2]⟩, ⟨164, 1, .cells [.bool b_3, .roi .u64 b_4]⟩] cont_ = G_q22 N_ S_q0 S_q38 b b_1 b_2 b_3 b_4 (fun r0 r1 => cont_ (.ptr 0 0) [⟨164, 1, .cells [.bool r0, .roi .u64 r1]⟩, ⟨164, 1, .cells [.bool b_1, .roi .u64 b_2]⟩, ⟨164, 1, .cells [.bool b_3, .roi .u64 b_4]⟩]) := by kernel_rfl
theorem good_q22 (N_ : Nat) (S_q0 : TS_q0) (S_q38 : TS_q38) (h_big_norm_w : GoodF Tryz.prog 202 (F_q0 S_q0)) (h_big_Int_made_p0s1n : GoodF Tryz.prog 170 (F_q38 S_q38)) : GoodF Tryz.prog 168 (F_q22 (G_q22 N_ S_q0 S_q38)) := by
  refine good_fsZ (cx := ⟨Tryz.prog, ofList [(202, (F_q0 S_q0)), (170, (F_q38 S_q38))], isref, N_⟩) (ofList_cons h_big_norm_w (ofList_cons h_big_Int_made_p0s1n (ofList_nil _))) shF_q22 (sp_q22 (G_q22 N_ S_q0 S_q38)) (an_q22 N_ S_q0 S_q38) 1 3 (by kernel_rfl) (fun i_ hi_ => by
    match i_, hi_ with
    | 0, _ => exact ho_big_Int_And_p0p1p2nrr_0 _ _ _
    | (q + 1), h => omega) ?_
  intro a k h
  unfold sp_q22 at h
  split at h
  · exact ⟨[_, _, _], rfl, rfl, (eq_q22 _ _ _ _ _ _ _ _ _).trans h⟩
  · cases h

def an_q186 (N_ : Nat) (S_q18 : TS_q18) : Nat → Option Ann := fun b_ => none
theorem eq_q186 (N_ : Nat) (S_q18 : TS_q18) (x : List Int) (cont_ : V → List Blk → Bool) : bodyZ ⟨Tryz.prog, ofList [(205, (F_q18 S_q18))], isref, N_⟩ (an_q186 N_ S_q18) 203 (shF_q186.args [.ints x]) [] cont_ = G_q186 N_ S_q18 x (fun r0 => cont_ (.int .u64 r0) []) := by kernel_rfl
theorem good_q186 (N_ : Nat) (S_q18 : TS_q18) (h_big_digit : GoodF Tryz.prog 205 (F_q18 S_q18)) : GoodF Tryz.prog 203 (F_q186 (G_q186 N_ S_q18)) := by
  refine good_fsZ (cx := ⟨Tryz.prog, ofList [(205, (F_q18 S_q18))], isref, N_⟩) (ofList_cons h_big_digit (ofList_nil _)) shF_q186 (sp_q186 (G_q186 N_ S_q18)) (an_q186 N_ S_q18) 0 0 (by kernel_rfl) (fun i_ hi_ => by omega) ?_
  intro a k h
  unfold sp_q186 at h
  split at h
  · exact ⟨[], rfl, rfl, (eq_q186 _ _ _ _).trans h⟩
  · cases h

def an_q37 (N_ : Nat) (S_q186 : TS_q186) : Nat → Option Ann := fun b_ => none
theorem eq_q37 (N_ : Nat) (S_q186 : TS_q186) (b : Bool) (b_1 : List Int) (cont_ : V → List Blk → Bool) : bodyZ ⟨Tryz.prog, ofList [(203, (F_q186 S_q186))], isref, N_⟩ (an_q37 N_ S_q186) 169 (shF_q37.args [.bool b, .ints b_1]) [⟨164, 1, .cells [.bool b, .roi .u64 b_1]⟩] cont_ = G_q37 N_ S_q186 b b_1 (fun r0 => cont_ (.int .u64 r0) [⟨164, 1, .cells [.bool b, .roi .u64 b_1]⟩]) := by kernel_rfl
theorem good_q37 (N_ : Nat) (S_q186 : TS_q186) (h_big_low : GoodF Tryz.prog 203 (F_q186 S_q186)) : GoodF Tryz.prog 169 (F_q37 (G_q37 N_ S_q186)) := by
  refine good_fsZ (cx := ⟨Tryz.prog, ofList [(203, (F_q186 S_q186))], isref, N_⟩) (ofList_cons h_big_low (ofList_nil _)) shF_q37 (sp_q37 (G_q37 N_ S_q186)) (an_q37 N_ S_q186) 0 1 (by kernel_rfl) (fun i_ hi_ => by omega) ?_
  intro a k h
  unfold sp_q37 at h
  split at h
  · exact ⟨[_], rfl, rfl, (eq_q37 _ _ _ _ _).trans h⟩
  · cases h

def sh_st_v_dyad_exact_put_p0r_0 : StSh := ⟨[.any, .any, .ptr 1 0, .any, .ptr 2 0, .ptr 3 0, .ptr 4 0, .any, .any, .any, .any, .any, .any, .any, .any, .any, .any, .any, .any, .any, .any, .any, .any, .any, .any, .any, .any, .any, .any, .any, .any, .any, .any, .any, .any, .any, .any, .any, .any, .any, .any, .any, .any, .any, .any, .any, .any, .any, .any, .any, .any, .any, .any, .any, .any, .any, .any, .any, .any], [some (164, 1, .cells [.bool, .roi .u64]), some (124, 1, .cells [.bool, .nil, .int .i64]), some (124, 1, .cells [.bool, .slw 5, .int .i64]), some (164, 1, .cells [.bool, .roi .u64]), some (164, 1, .cells [.bool, .roi .u64]), some (127, 1, .ints .u32)]⟩
def sx0_st_v_dyad_exact_put_p0r_0 : StSh := ⟨[.any, .any, .ptr 1 0, .any, .ptr 2 0, .any, .any, .any, .any, .any, .any, .any, .any, .any, .any, .any, .any, .any, .any, .any, .any, .any, .any, .any, .any, .any, .any, .any, .any, .any, .any, .any, .any, .any, .any, .any, .any, .any, .any, .any, .any, .any, .any, .any, .any, .any, .any, .any, .any, .any, .any, .any, .any, .any, .any, .any, .any, .any, .any], [some (164, 1, .cells [.bool, .roi .u64]), some (124, 1, .cells [.bool, .nil, .int .i64]), some (124, 1, .cells [.bool, .slw 3, .int .i64]), some (127, 1, .ints .u32)]⟩
def hk_st_v_dyad_exact_put_p0r_0 (N_ : Nat) (S_q21 : TS_q21) (S_q5 : TS_q5) (S_q35 : TS_q35) (S_q62 : TS_q62) (S_q34 : TS_q34) (S_q22 : TS_q22) (S_q37 : TS_q37) (S_q15 : TS_q15) : List Atom → K → Bool := fun a_ κ => match a_ with
  | [.bool b0_2, .ints b0_3, .bool t2_2, .int t2_3, .bool d_2, .int d_3, .bool mask_2, .ints mask_3, .bool m_2, .ints m_3, .ints b5] => iterG N_ (st_q219 N_ S_q21 S_q5 S_q35 S_q62 S_q34 S_q22 S_q37 S_q15 b0_2 b0_3 t2_2 t2_3 d_2 d_3 mask_2 mask_3 (fun r6 => κ.ext 0 (sx0_st_v_dyad_exact_put_p0r_0.build [.bool b0_2, .ints b0_3, .bool t2_2, .int t2_3, .bool d_2, .int d_3, .ints r6]))) (m_2, m_3, b5)
  | _ => false
def an_q14 (N_ : Nat) (S_q21 : TS_q21) (S_q5 : TS_q5) (S_q35 : TS_q35) (S_q62 : TS_q62) (S_q34 : TS_q34) (S_q22 : TS_q22) (S_q37 : TS_q37) (S_q15 : TS_q15) : Nat → Option Ann := fun b_ => cond (b_ == 0) (some ⟨⟨[2, 4, 5, 6], [(4, some 1, 127)], []⟩, [(0, ⟨[2, 4], [], []⟩)], some ⟨[2, 3], [], []⟩, some (mkHooks [(sh_st_v_dyad_exact_put_p0r_0, hk_st_v_dyad_exact_put_p0r_0 N_ S_q21 S_q5 S_q35 S_q62 S_q34 S_q22 S_q37 S_q15)])⟩) (none)
theorem eq_st_v_dyad_exact_put_p0r_0 (N_ : Nat) (S_q21 : TS_q21) (S_q5 : TS_q5) (S_q35 : TS_q35) (S_q62 : TS_q62) (S_q34 : TS_q34) (S_q22 : TS_q22) (S_q37 : TS_q37) (S_q15 : TS_q15) (κ : K) (b0_2 : Bool) (b0_3 : List Int) (t2_2 : Bool) (t2_3 : Int) (d_2 : Bool) (d_3 : Int) (mask_2 : Bool) (mask_3 : List Int) (m_2 : Bool) (m_3 : List Int) (b5 : List Int) : iter N_ (fun s k => codeV ⟨Tryz.prog, ofList [(163, (F_q21 S_q21)), (134, (F_q5 S_q5)), (164, (F_q35 S_q35)), (165, (F_q62 S_q62)), (166, (F_q34 S_q34)), (168, (F_q22 S_q22)), (169, (F_q37 S_q37)), (167, (F_q15 S_q15))], isref, N_⟩ 1 (an_q14 N_ S_q21 S_q5 S_q35 S_q62 S_q34 S_q22 S_q37 S_q15) (lp Tryz.prog 128 0).2 (lp Tryz.prog 128 0).1 s (roundK Tryz.prog 1 ((an_q14 N_ S_q21 S_q5 S_q35 S_q62 S_q34 S_q22 S_q37 S_q15) (lp Tryz.prog 128 0).1) κ k)) (sh_st_v_dyad_exact_put_p0r_0.build [.bool b0_2, .ints b0_3, .bool t2_2, .int t2_3, .bool d_2, .int d_3, .bool mask_2, .ints mask_3, .bool m_2, .ints m_3, .ints b5]) = iterG N_ (st_q219 N_ S_q21 S_q5 S_q35 S_q62 S_q34 S_q22 S_q37 S_q15 b0_2 b0_3 t2_2 t2_3 d_2 d_3 mask_2 mask_3 (fun r6 => κ.ext 0 (sx0_st_v_dyad_exact_put_p0r_0.build [.bool b0_2, .ints b0_3, .bool t2_2, .int t2_3, .bool d_2, .int d_3, .ints r6]))) (m_2, m_3, b5) :=
  iter_tr (fun (v_ : Bool × List Int × List Int) => sh_st_v_dyad_exact_put_p0r_0.build [.bool b0_2, .ints b0_3, .bool t2_2, .int t2_3, .bool d_2, .int d_3, .bool mask_2, .ints mask_3, .bool v_.1, .ints v_.2.1, .ints v_.2.2]) (fun v_ K_ => by obtain ⟨m_2, m_3, b5⟩ := v_; kernel_rfl) N_ (m_2, m_3, b5)
theorem hk1_st_v_dyad_exact_put_p0r_0 (N_ : Nat) (S_q21 : TS_q21) (S_q5 : TS_q5) (S_q35 : TS_q35) (S_q62 : TS_q62) (S_q34 : TS_q34) (S_q22 : TS_q22) (S_q37 : TS_q37) (S_q15 : TS_q15) : HookFor ⟨Tryz.prog, ofList [(163, (F_q21 S_q21)), (134, (F_q5 S_q5)), (164, (F_q35 S_q35)), (165, (F_q62 S_q62)), (166, (F_q34 S_q34)), (168, (F_q22 S_q22)), (169, (F_q37 S_q37)), (167, (F_q15 S_q15))], isref, N_⟩ 1 (an_q14 N_ S_q21 S_q5 S_q35 S_q62 S_q34 S_q22 S_q37 S_q15) (lp Tryz.prog 128 0) (sh_st_v_dyad_exact_put_p0r_0, hk_st_v_dyad_exact_put_p0r_0 N_ S_q21 S_q5 S_q35 S_q62 S_q34 S_q22 S_q37 S_q15) := by
  intro a κ h
  simp only at h
  unfold hk_st_v_dyad_exact_put_p0r_0 at h
  split at h
  · exact (eq_st_v_dyad_exact_put_p0r_0 _ _ _ _ _ _ _ _ _ _ _ _ _ _ _ _ _ _ _ _ _).trans h
  · cases h
theorem ho_v_dyad_exact_put_p0r_0 (N_ : Nat) (S_q21 : TS_q21) (S_q5 : TS_q5) (S_q35 : TS_q35) (S_q62 : TS_q62) (S_q34 : TS_q34) (S_q22 : TS_q22) (S_q37 : TS_q37) (S_q15 : TS_q15) : HookOk ⟨Tryz.prog, ofList [(163, (F_q21 S_q21)), (134, (F_q5 S_q5)), (164, (F_q35 S_q35)), (165, (F_q62 S_q62)), (166, (F_q34 S_q34)), (168, (F_q22 S_q22)), (169, (F_q37 S_q37)), (167, (F_q15 S_q15))], isref, N_⟩ 1 (an_q14 N_ S_q21 S_q5 S_q35 S_q62 S_q34 S_q22 S_q37 S_q15) (lp Tryz.prog 128 0) :=
  hooks_ok [(sh_st_v_dyad_exact_put_p0r_0, hk_st_v_dyad_exact_put_p0r_0 N_ S_q21 S_q5 S_q35 S_q62 S_q34 S_q22 S_q37 S_q15)] (by kernel_rfl) ⟨hk1_st_v_dyad_exact_put_p0r_0 _ _ _ _ _ _ _ _ _, trivial⟩
theorem eq_q14 (N_ : Nat) (S_q21 : TS_q21) (S_q5 : TS_q5) (S_q35 : TS_q35) (S_q62 : TS_q62) (S_q34 : TS_q34) (S_q22 : TS_q22) (S_q37 : TS_q37) (S_q15 : TS_q15) (x : Int) (b : Bool) (b_1 : List Int) (cont_ : V → List Blk → Bool) : bodyV ⟨Tryz.prog, ofList [(163, (F_q21 S_q21)), (134, (F_q5 S_q5)), (164, (F_q35 S_q35)), (165, (F_q62 S_q62)), (166, (F_q34 S_q34)), (168, (F_q22 S_q22)), (169, (F_q37 S_q37)), (167, (F_q15 S_q15))], isref, N_⟩ (an_q14 N_ S_q21 S_q5 S_q35 S_q62 S_q34 S_q22 S_q37 S_q15) 128 (shF_q14.args [.int x, .bool b, .ints b_1]) [⟨164, 1, .cells [.bool b, .roi .u64 b_1]⟩] cont_ = G_q14 N_ S_q21 S_q5 S_q35 S_q62 S_q34 S_q22 S_q37 S_q15 x b b_1 (fun r0 r1 r2 => cont_ (.tup [.agg [.bool r0, .nil, .int .i64 r1], .int .i64 r2]) [⟨164, 1, .cells [.bool b, .roi .u64 b_1]⟩]) (fun r0 r1 r2 r5 => cont_ (.tup [.agg [.bool r0, .slw 1, .int .i64 r1], .int .i64 r2]) [⟨164, 1, .cells [.bool b, .roi .u64 b_1]⟩, ⟨127, 1, .ints .u32 r5⟩]) := by kernel_rfl
theorem good_q14 (N_ : Nat) (S_q21 : TS_q21) (S_q5 : TS_q5) (S_q35 : TS_q35) (S_q62 : TS_q62) (S_q34 : TS_q34) (S_q22 : TS_q22) (S_q37 : TS_q37) (S_q15 : TS_q15) (h_v_dyad_exact_halve_p0r : GoodF Tryz.prog 163 (F_q21 S_q21)) (h_big_Int_Sign_p0r : GoodF Tryz.prog 134 (F_q5 S_q5)) (h_big_Int_BitLen_p0r : GoodF Tryz.prog 164 (F_q35 S_q35)) (h_big_NewInt : GoodF Tryz.prog 165 (F_q62 S_q62)) (h_big_Int_Abs_p0p1nr : GoodF Tryz.prog 166 (F_q34 S_q34)) (h_big_Int_And_p0p1p2nrr : GoodF Tryz.prog 168 (F_q22 S_q22)) (h_big_Int_Uint64_p0r : GoodF Tryz.prog 169 (F_q37 S_q37)) (h_big_Int_Rsh_p0p0r : GoodF Tryz.prog 167 (F_q15 S_q15)) : GoodF Tryz.prog 128 (F_q14 (G_q14 N_ S_q21 S_q5 S_q35 S_q62 S_q34 S_q22 S_q37 S_q15)) := by
  refine good_fs (cx := ⟨Tryz.prog, ofList [(163, (F_q21 S_q21)), (134, (F_q5 S_q5)), (164, (F_q35 S_q35)), (165, (F_q62 S_q62)), (166, (F_q34 S_q34)), (168, (F_q22 S_q22)), (169, (F_q37 S_q37)), (167, (F_q15 S_q15))], isref, N_⟩) (ofList_cons h_v_dyad_exact_halve_p0r (ofList_cons h_big_Int_Sign_p0r (ofList_cons h_big_Int_BitLen_p0r (ofList_cons h_big_NewInt (ofList_cons h_big_Int_Abs_p0p1nr (ofList_cons h_big_Int_And_p0p1p2nrr (ofList_cons h_big_Int_Uint64_p0r (ofList_cons h_big_Int_Rsh_p0p0r (ofList_nil _))))))))) shF_q14 (sp_q14 (G_q14 N_ S_q21 S_q5 S_q35 S_q62 S_q34 S_q22 S_q37 S_q15)) (an_q14 N_ S_q21 S_q5 S_q35 S_q62 S_q34 S_q22 S_q37 S_q15) 1 1 (by kernel_rfl) (fun i_ hi_ => by
    match i_, hi_ with
    | 0, _ => exact ho_v_dyad_exact_put_p0r_0 _ _ _ _ _ _ _ _ _
    | (q + 1), h => omega) ?_
  intro a k h
  unfold sp_q14 at h
  split at h
  · exact ⟨[_], rfl, rfl, (eq_q14 _ _ _ _ _ _ _ _ _ _ _ _ _).trans h⟩
  · cases h

def sh_st_dyad_Dot_0 : StSh := ⟨[.any, .rof, .any, .any, .ptr 0 0, .any, .ptr 1 0, .any, .any, .any, .any, .any, .any, .any, .any, .any, .any, .any, .any, .any, .any, .any, .any, .any, .any, .any, .rof, .int .i64, .int .i64, .any, .any, .any, .any, .any, .any, .any, .any, .any, .any, .any, .any, .any, .any, .any, .any, .any, .any, .any], [some (124, 1, .cells [.bool, .nil, .int .i64]), some (166, 1, .cells [.ptr 2 0, .int .i64]), some (164, 1, .cells [.bool, .roi .u64])]⟩
def sx0_st_dyad_Dot_0 : StSh := ⟨[.any, .any, .any, .any, .ptr 0 0, .any, .ptr 1 0, .any, .any, .any, .any, .any, .any, .any, .any, .any, .any, .any, .any, .any, .any, .any, .any, .any, .any, .any, .any, .any, .any, .any, .any, .any, .any, .any, .any, .any, .any, .any, .any, .any, .any, .any, .any, .any, .any, .any, .any, .any], [some (124, 1, .cells [.bool, .nil, .int .i64]), some (166, 1, .cells [.ptr 2 0, .int .i64]), some (164, 1, .cells [.bool, .roi .u64])]⟩
def hk_st_dyad_Dot_0 (N_ : Nat) (S_q88 : TS_q88) (S_q163 : TS_q163) (S_q17 : TS_q17) (S_q16 : TS_q16) (S_q3 : TS_q3) (S_q14 : TS_q14) : List Atom → K → Bool := fun a_ κ => match a_ with
  | [.fls b_2, .fls t26_1, .int t27_1, .int t28_1, .bool t4_2, .int t4_3, .int s_1, .bool b2_1, .ints b2_2] => iterG N_ (st_dyad_Dot_0 N_ S_q88 S_q163 S_q17 S_q16 S_q3 S_q14 b_2 t26_1 t27_1 t4_2 t4_3 (fun r2 r3 r4 => κ.ext 0 (sx0_st_dyad_Dot_0.build [.bool t4_2, .int t4_3, .int r2, .bool r3, .ints r4]))) (t28_1, s_1, b2_1, b2_2)
  | _ => false
def an_q85 (N_ : Nat) (S_q88 : TS_q88) (S_q163 : TS_q163) (S_q17 : TS_q17) (S_q16 : TS_q16) (S_q3 : TS_q3) (S_q14 : TS_q14) : Nat → Option Ann := fun b_ => cond (b_ == 0) (some ⟨⟨[1, 4, 6, 26, 27, 28], [], [(2, 1, some .u64)]⟩, [(0, ⟨[4, 6], [], []⟩)], some ⟨[4, 5], [], []⟩, some (mkHooks [(sh_st_dyad_Dot_0, hk_st_dyad_Dot_0 N_ S_q88 S_q163 S_q17 S_q16 S_q3 S_q14)])⟩) (none)
theorem eq_st_dyad_Dot_0 (N_ : Nat) (S_q88 : TS_q88) (S_q163 : TS_q163) (S_q17 : TS_q17) (S_q16 : TS_q16) (S_q3 : TS_q3) (S_q14 : TS_q14) (κ : K) (b_2 : List Fl) (t26_1 : List Fl) (t27_1 : Int) (t28_1 : Int) (t4_2 : Bool) (t4_3 : Int) (s_1 : Int) (b2_1 : Bool) (b2_2 : List Int) : iter N_ (fun s k => codeV ⟨Tryz.prog, ofList [(124, (F_q88 S_q88)), (126, (F_q163 S_q163)), (127, (F_q17 S_q17)), (125, (orFs (F_q16 S_q16) (F_q3 S_q3) shF_q16)), (128, (F_q14 S_q14))], isref, N_⟩ 0 (an_q85 N_ S_q88 S_q163 S_q17 S_q16 S_q3 S_q14) (lp Tryz.prog 79 0).2 (lp Tryz.prog 79 0).1 s (roundK Tryz.prog 0 ((an_q85 N_ S_q88 S_q163 S_q17 S_q16 S_q3 S_q14) (lp Tryz.prog 79 0).1) κ k)) (sh_st_dyad_Dot_0.build [.fls b_2, .fls t26_1, .int t27_1, .int t28_1, .bool t4_2, .int t4_3, .int s_1, .bool b2_1, .ints b2_2]) = iterG N_ (st_dyad_Dot_0 N_ S_q88 S_q163 S_q17 S_q16 S_q3 S_q14 b_2 t26_1 t27_1 t4_2 t4_3 (fun r2 r3 r4 => κ.ext 0 (sx0_st_dyad_Dot_0.build [.bool t4_2, .int t4_3, .int r2, .bool r3, .ints r4]))) (t28_1, s_1, b2_1, b2_2) :=
  iter_tr (fun (v_ : Int × Int × Bool × List Int) => sh_st_dyad_Dot_0.build [.fls b_2, .fls t26_1, .int t27_1, .int v_.1, .bool t4_2, .int t4_3, .int v_.2.1, .bool v_.2.2.1, .ints v_.2.2.2]) (fun v_ K_ => by obtain ⟨t28_1, s_1, b2_1, b2_2⟩ := v_; kernel_rfl) N_ (t28_1, s_1, b2_1, b2_2)
theorem hk1_st_dyad_Dot_0 (N_ : Nat) (S_q88 : TS_q88) (S_q163 : TS_q163) (S_q17 : TS_q17) (S_q16 : TS_q16) (S_q3 : TS_q3) (S_q14 : TS_q14) : HookFor ⟨Tryz.prog, ofList [(124, (F_q88 S_q88)), (126, (F_q163 S_q163)), (127, (F_q17 S_q17)), (125, (orFs (F_q16 S_q16) (F_q3 S_q3) shF_q16)), (128, (F_q14 S_q14))], isref, N_⟩ 0 (an_q85 N_ S_q88 S_q163 S_q17 S_q16 S_q3 S_q14) (lp Tryz.prog 79 0) (sh_st_dyad_Dot_0, hk_st_dyad_Dot_0 N_ S_q88 S_q163 S_q17 S_q16 S_q3 S_q14) := by
  intro a κ h
  simp only at h
  unfold hk_st_dyad_Dot_0 at h
  split at h
  · exact (eq_st_dyad_Dot_0 _ _ _ _ _ _ _ _ _ _ _ _ _ _ _ _ _).trans h
  · cases h
theorem ho_dyad_Dot_0 (N_ : Nat) (S_q88 : TS_q88) (S_q163 : TS_q163) (S_q17 : TS_q17) (S_q16 : TS_q16) (S_q3 : TS_q3) (S_q14 : TS_q14) : HookOk ⟨Tryz.prog, ofList [(124, (F_q88 S_q88)), (126, (F_q163 S_q163)), (127, (F_q17 S_q17)), (125, (orFs (F_q16 S_q16) (F_q3 S_q3) shF_q16)), (128, (F_q14 S_q14))], isref, N_⟩ 0 (an_q85 N_ S_q88 S_q163 S_q17 S_q16 S_q3 S_q14) (lp Tryz.prog 79 0) :=
  hooks_ok [(sh_st_dyad_Dot_0, hk_st_dyad_Dot_0 N_ S_q88 S_q163 S_q17 S_q16 S_q3 S_q14)] (by kernel_rfl) ⟨hk1_st_dyad_Dot_0 _ _ _ _ _ _ _, trivial⟩
theorem eq_q85 (N_ : Nat) (S_q88 : TS_q88) (S_q163 : TS_q163) (S_q17 : TS_q17) (S_q16 : TS_q16) (S_q3 : TS_q3) (S_q14 : TS_q14) (a : List Fl) (b : List Fl) (cont_ : V → List Blk → Bool) : bodyV ⟨Tryz.prog, ofList [(124, (F_q88 S_q88)), (126, (F_q163 S_q163)), (127, (F_q17 S_q17)), (125, (orFs (F_q16 S_q16) (F_q3 S_q3) shF_q16)), (128, (F_q14 S_q14))], isref, N_⟩ (an_q85 N_ S_q88 S_q163 S_q17 S_q16 S_q3 S_q14) 79 (shF_q85.args [.fls a, .fls b]) [] cont_ = G_q85 N_ S_q88 S_q163 S_q17 S_q16 S_q3 S_q14 a b (fun r0 r1 r2 => cont_ (.tup [.agg [.bool r0, .nil, .int .i64 r1], .int .i64 r2]) []) (fun r0 r1 r2 r3 => cont_ (.tup [.agg [.bool r0, .slw 0, .int .i64 r1], .int .i64 r2]) [⟨127, 1, .ints .u32 r3⟩]) := by kernel_rfl
theorem good_q85 (N_ : Nat) (S_q88 : TS_q88) (S_q163 : TS_q163) (S_q17 : TS_q17) (S_q16 : TS_q16) (S_q3 : TS_q3) (S_q14 : TS_q14) (h_anatomy_Finite : GoodF Tryz.prog 124 (F_q88 S_q88)) (h_dyad_of : GoodF Tryz.prog 126 (F_q163 S_q163)) (h_v_dyad_exact_times_p0p1rr : GoodF Tryz.prog 127 (F_q17 S_q17)) (h_v_dyad_exact_plus_p0p1nr : GoodF Tryz.prog 125 (F_q16 S_q16)) (h_v_dyad_exact_plus_p0p1rr : GoodF Tryz.prog 125 (F_q3 S_q3)) (h_v_dyad_exact_put_p0r : GoodF Tryz.prog 128 (F_q14 S_q14)) : GoodF Tryz.prog 79 (F_q85 (G_q85 N_ S_q88 S_q163 S_q17 S_q16 S_q3 S_q14)) := by
  refine good_fs (cx := ⟨Tryz.prog, ofList [(124, (F_q88 S_q88)), (126, (F_q163 S_q163)), (127, (F_q17 S_q17)), (125, (orFs (F_q16 S_q16) (F_q3 S_q3) shF_q16)), (128, (F_q14 S_q14))], isref, N_⟩) (ofList_cons h_anatomy_Finite (ofList_cons h_dyad_of (ofList_cons h_v_dyad_exact_times_p0p1rr (ofList_cons (good_or h_v_dyad_exact_plus_p0p1nr h_v_dyad_exact_plus_p0p1rr) (ofList_cons h_v_dyad_exact_put_p0r (ofList_nil _)))))) shF_q85 (sp_q85 (G_q85 N_ S_q88 S_q163 S_q17 S_q16 S_q3 S_q14)) (an_q85 N_ S_q88 S_q163 S_q17 S_q16 S_q3 S_q14) 1 0 (by kernel_rfl) (fun i_ hi_ => by
    match i_, hi_ with
    | 0, _ => exact ho_dyad_Dot_0 _ _ _ _ _ _ _
    | (q + 1), h => omega) ?_
  intro a k h
  unfold sp_q85 at h
  split at h
  · exact ⟨[], rfl, rfl, (eq_q85 _ _ _ _ _ _ _ _ _ _).trans h⟩
  · cases h

def an_q140 (N_ : Nat) : Nat → Option Ann := fun b_ => none
theorem eq_q140 (N_ : Nat) (d_0 : Bool) (d_1 : List Int) (d_2 : Int) (cont_ : V → List Blk → Bool) : bodyV ⟨Tryz.prog, ofList [], isref, N_⟩ (an_q140 N_) 132 (shF_q140.args [.bool d_0, .ints d_1, .int d_2]) [] cont_ = G_q140 N_ d_0 d_1 d_2 (fun r0 => cont_ (.bool r0) []) := by kernel_rfl
theorem good_q140 (N_ : Nat) : GoodF Tryz.prog 132 (F_q140 (G_q140 N_)) := by
  refine good_fs (cx := ⟨Tryz.prog, ofList [], isref, N_⟩) (ofList_nil _) shF_q140 (sp_q140 (G_q140 N_)) (an_q140 N_) 0 0 (by kernel_rfl) (fun i_ hi_ => by omega) ?_
  intro a k h
  unfold sp_q140 at h
  split at h
  · exact ⟨[], rfl, rfl, (eq_q140 _ _ _ _ _).trans h⟩
  · cases h

def an_q41 (N_ : Nat) (S_q118 : TS_q118) (S_q1 : TS_q1) : Nat → Option Ann := fun b_ => none
theorem eq_q41 (N_ : Nat) (S_q118 : TS_q118) (S_q1 : TS_q1) (n : Int) (b : Bool) (cont_ : V → List Blk → Bool) : bodyZ ⟨Tryz.prog, ofList [(204, (F_q118 S_q118)), (170, (F_q1 S_q1))], isref, N_⟩ (an_q41 N_ S_q118 S_q1) 172 (shF_q41.args [.int n, .bool b]) [⟨164, 1, .cells [.bool b, .nil]⟩] cont_ = G_q41 N_ S_q118 S_q1 n b (fun r0 r1 => cont_ (.ptr 0 0) [⟨164, 1, .cells [.bool r0, .roi .u64 r1]⟩]) := by kernel_rfl
theorem good_q41 (N_ : Nat) (S_q118 : TS_q118) (S_q1 : TS_q1) (h_big_left : GoodF Tryz.prog 204 (F_q118 S_q118)) (h_big_Int_made_p0n : GoodF Tryz.prog 170 (F_q1 S_q1)) : GoodF Tryz.prog 172 (F_q41 (G_q41 N_ S_q118 S_q1)) := by
  refine good_fsZ (cx := ⟨Tryz.prog, ofList [(204, (F_q118 S_q118)), (170, (F_q1 S_q1))], isref, N_⟩) (ofList_cons h_big_left (ofList_cons h_big_Int_made_p0n (ofList_nil _))) shF_q41 (sp_q41 (G_q41 N_ S_q118 S_q1)) (an_q41 N_ S_q118 S_q1) 0 1 (by kernel_rfl) (fun i_ hi_ => by omega) ?_
  intro a k h
  unfold sp_q41 at h
  split at h
  · exact ⟨[_], rfl, rfl, (eq_q41 _ _ _ _ _ _).trans h⟩
  · cases h

def an_q39 (N_ : Nat) : Nat → Option Ann := fun b_ => none
theorem eq_q39 (N_ : Nat) (neg : Bool) (abs_0 : Nat) (abs_1 : Nat) (b : Bool) (b_1 : List Int) (b_2 : List Int) (cont_ : V → List Blk → Bool) : bodyZ ⟨Tryz.prog, ofList [], isref, N_⟩ (an_q39 N_) 170 (shF_q39.args [.bool neg, .nat abs_0, .nat abs_1, .bool b, .ints b_1, .ints b_2]) [⟨164, 1, .cells [.bool b, .roi .u64 b_1]⟩, ⟨41, 1, .ints .u64 b_2⟩] cont_ = G_q39 N_ neg abs_0 abs_1 b b_1 b_2 (fun r0 => cont_ (.ptr 0 0) [⟨164, 1, .cells [.bool r0, .sl 1 abs_0 abs_1]⟩, ⟨41, 1, .ints .u64 b_2⟩]) := by kernel_rfl
theorem good_q39 (N_ : Nat) : GoodF Tryz.prog 170 (F_q39 (G_q39 N_)) := by
  refine good_fsZ (cx := ⟨Tryz.prog, ofList [], isref, N_⟩) (ofList_nil _) shF_q39 (sp_q39 (G_q39 N_)) (an_q39 N_) 0 2 (by kernel_rfl) (fun i_ hi_ => by omega) ?_
  intro a k h
  unfold sp_q39 at h
  split at h
  · exact ⟨[_, _], rfl, rfl, (eq_q39 _ _ _ _ _ _ _ _).trans h⟩
  · cases h

def sh_st_big_Int_Or_p0p0p1rr_0 : StSh := ⟨[.ptr 0 0, .ptr 0 0, .ptr 1 0, .any, .any, .any, .any, .slw 2, .any, .any, .any, .any, .any, .any, .any, .any, .any, .any, .any, .any, .any, .any, .int .i64, .int .i64, .any, .any, .any, .any, .any, .any, .any, .any, .any, .any, .any, .any, .any, .any, .any, .any, .any, .any, .any, .any, .any, .any, .any], [some (164, 1, .cells [.bool, .roi .u64]), some (164, 1, .cells [.bool, .roi .u64]), some (41, 1, .ints .u64)]⟩
def sx0_st_big_Int_Or_p0p0p1rr_0 : StSh := ⟨[.ptr 0 0, .any, .any, .any, .any, .any, .any, .slw 2, .any, .any, .any, .any, .any, .any, .any, .any, .any, .any, .any, .any, .any, .any, .any, .any, .any, .any, .any, .any, .any, .any, .any, .any, .any, .any, .any, .any, .any, .any, .any, .any, .any, .any, .any, .any, .any, .any, .any], [some (164, 1, .cells [.bool, .roi .u64]), some (164, 1, .cells [.bool, .roi .u64]), some (41, 1, .ints .u64)]⟩
def hk_st_big_Int_Or_p0p0p1rr_0 (N_ : Nat) (S_q18 : TS_q18) (S_q0 : TS_q0) (S_q39 : TS_q39) : List Atom → K → Bool := fun a_ κ => match a_ with
  | [.int t22, .int t23, .bool z, .ints z_1, .bool y, .ints y_1, .ints r] => iterG N_ (st_q220 N_ S_q18 S_q0 S_q39 t22 z z_1 y y_1 (fun r4 => κ.ext 0 (sx0_st_big_Int_Or_p0p0p1rr_0.build [.bool z, .ints z_1, .bool y, .ints y_1, .ints r4]))) (t23, r)
  | _ => false
def an_q27 (N_ : Nat) (S_q18 : TS_q18) (S_q0 : TS_q0) (S_q39 : TS_q39) : Nat → Option Ann := fun b_ => cond (b_ == 0) (some ⟨⟨[0, 1, 2, 7, 22, 23], [], []⟩, [(0, ⟨[0, 7], [], []⟩)], some ⟨[6], [], []⟩, some (mkHooks [(sh_st_big_Int_Or_p0p0p1rr_0, hk_st_big_Int_Or_p0p0p1rr_0 N_ S_q18 S_q0 S_q39)])⟩) (none)
theorem eq_st_big_Int_Or_p0p0p1rr_0 (N_ : Nat) (S_q18 : TS_q18) (S_q0 : TS_q0) (S_q39 : TS_q39) (κ : K) (t22 : Int) (t23 : Int) (z : Bool) (z_1 : List Int) (y : Bool) (y_1 : List Int) (r : List Int) : iter N_ (fun s k => codeV ⟨Tryz.prog, ofList [(205, (F_q18 S_q18)), (202, (F_q0 S_q0)), (170, (F_q39 S_q39))], isref, N_⟩ 2 (an_q27 N_ S_q18 S_q0 S_q39) (lp Tryz.prog 173 0).2 (lp Tryz.prog 173 0).1 s (roundK Tryz.prog 2 ((an_q27 N_ S_q18 S_q0 S_q39) (lp Tryz.prog 173 0).1) κ k)) (sh_st_big_Int_Or_p0p0p1rr_0.build [.int t22, .int t23, .bool z, .ints z_1, .bool y, .ints y_1, .ints r]) = iterG N_ (st_q220 N_ S_q18 S_q0 S_q39 t22 z z_1 y y_1 (fun r4 => κ.ext 0 (sx0_st_big_Int_Or_p0p0p1rr_0.build [.bool z, .ints z_1, .bool y, .ints y_1, .ints r4]))) (t23, r) :=
  iter_tr (fun (v_ : Int × List Int) => sh_st_big_Int_Or_p0p0p1rr_0.build [.int t22, .int v_.1, .bool z, .ints z_1, .bool y, .ints y_1, .ints v_.2]) (fun v_ K_ => by obtain ⟨t23, r⟩ := v_; kernel_rfl) N_ (t23, r)
theorem hk1_st_big_Int_Or_p0p0p1rr_0 (N_ : Nat) (S_q18 : TS_q18) (S_q0 : TS_q0) (S_q39 : TS_q39) : HookFor ⟨Tryz.prog, ofList [(205, (F_q18 S_q18)), (202, (F_q0 S_q0)), (170, (F_q39 S_q39))], isref, N_⟩ 2 (an_q27 N_ S_q18 S_q0 S_q39) (lp Tryz.prog 173 0) (sh_st_big_Int_Or_p0p0p1rr_0, hk_st_big_Int_Or_p0p0p1rr_0 N_ S_q18 S_q0 S_q39) := by
  intro a κ h
  simp only at h
  unfold hk_st_big_Int_Or_p0p0p1rr_0 at h
  split at h
  · exact (eq_st_big_Int_Or_p0p0p1rr_0 _ _ _ _ _ _ _ _ _ _ _ _).trans h
  · cases h
theorem ho_big_Int_Or_p0p0p1rr_0 (N_ : Nat) (S_q18 : TS_q18) (S_q0 : TS_q0) (S_q39 : TS_q39) : HookOk ⟨Tryz.prog, ofList [(205, (F_q18 S_q18)), (202, (F_q0 S_q0)), (170, (F_q39 S_q39))], isref, N_⟩ 2 (an_q27 N_ S_q18 S_q0 S_q39) (lp Tryz.prog 173 0) :=
  hooks_ok [(sh_st_big_Int_Or_p0p0p1rr_0, hk_st_big_Int_Or_p0p0p1rr_0 N_ S_q18 S_q0 S_q39)] (by kernel_rfl) ⟨hk1_st_big_Int_Or_p0p0p1rr_0 _ _ _ _, trivial⟩
theorem eq_q27 (N_ : Nat) (S_q18 : TS_q18) (S_q0 : TS_q0) (S_q39 : TS_q39) (b : Bool) (b_1 : List Int) (b_2 : Bool) (b_3 : List Int) (cont_ : V → List Blk → Bool) : bodyZ ⟨Tryz.prog, ofList [(205, (F_q18 S_q18)), (202, (F_q0 S_q0)), (170, (F_q39 S_q39))], isref, N_⟩ (an_q27 N_ S_q18 S_q0 S_q39) 173 (shF_q27.args [.bool b, .ints b_1, .bool b_2, .ints b_3]) [⟨164, 1, .cells [.bool b, .roi .u64 b_1]⟩, ⟨164, 1, .cells [.bool b_2, .roi .u64 b_3]⟩] cont_ = G_q27 N_ S_q18 S_q0 S_q39 b b_1 b_2 b_3 (fun r0 r1 => cont_ (.ptr 0 0) [⟨164, 1, .cells [.bool r0, .roi .u64 r1]⟩, ⟨164, 1, .cells [.bool b_2, .roi .u64 b_3]⟩]) := by kernel_rfl
theorem good_q27 (N_ : Nat) (S_q18 : TS_q18) (S_q0 : TS_q0) (S_q39 : TS_q39) (h_big_digit : GoodF Tryz.prog 205 (F_q18 S_q18)) (h_big_norm_w : GoodF Tryz.prog 202 (F_q0 S_q0)) (h_big_Int_made_p0s1r : GoodF Tryz.prog 170 (F_q39 S_q39)) : GoodF Tryz.prog 173 (F_q27 (G_q27 N_ S_q18 S_q0 S_q39)) := by
  refine good_fsZ (cx := ⟨Tryz.prog, ofList [(205, (F_q18 S_q18)), (202, (F_q0 S_q0)), (170, (F_q39 S_q39))], isref, N_⟩) (ofList_cons h_big_digit (ofList_cons h_big_norm_w (ofList_cons h_big_Int_made_p0s1r (ofList_nil _)))) shF_q27 (sp_q27 (G_q27 N_ S_q18 S_q0 S_q39)) (an_q27 N_ S_q18 S_q0 S_q39) 1 2 (by kernel_rfl) (fun i_ hi_ => by
    match i_, hi_ with
    | 0, _ => exact ho_big_Int_Or_p0p0p1rr_0 _ _ _ _
    | (q + 1), h => omega) ?_
  intro a k h
  unfold sp_q27 at h
  split at h
  · exact ⟨[_, _], rfl, rfl, (eq_q27 _ _ _ _ _ _ _ _ _).trans h⟩
  · cases h

def an_q46 (N_ : Nat) (S_q118 : TS_q118) (S_q30 : TS_q30) : Nat → Option Ann := fun b_ => none
theorem eq_q46 (N_ : Nat) (S_q118 : TS_q118) (S_q30 : TS_q30) (n : Int) (b : Bool) (b_1 : List Int) (cont_ : V → List Blk → Bool) : bodyZ ⟨Tryz.prog, ofList [(204, (F_q118 S_q118)), (170, (F_q30 S_q30))], isref, N_⟩ (an_q46 N_ S_q118 S_q30) 172 (shF_q46.args [.int n, .bool b, .ints b_1]) [⟨164, 1, .cells [.bool b, .roi .u64 b_1]⟩] cont_ = G_q46 N_ S_q118 S_q30 n b b_1 (fun r0 r1 => cont_ (.ptr 0 0) [⟨164, 1, .cells [.bool r0, .roi .u64 r1]⟩]) := by kernel_rfl
theorem good_q46 (N_ : Nat) (S_q118 : TS_q118) (S_q30 : TS_q30) (h_big_left : GoodF Tryz.prog 204 (F_q118 S_q118)) (h_big_Int_made_p0r : GoodF Tryz.prog 170 (F_q30 S_q30)) : GoodF Tryz.prog 172 (F_q46 (G_q46 N_ S_q118 S_q30)) := by
  refine good_fsZ (cx := ⟨Tryz.prog, ofList [(204, (F_q118 S_q118)), (170, (F_q30 S_q30))], isref, N_⟩) (ofList_cons h_big_left (ofList_cons h_big_Int_made_p0r (ofList_nil _))) shF_q46 (sp_q46 (G_q46 N_ S_q118 S_q30)) (an_q46 N_ S_q118 S_q30) 0 1 (by kernel_rfl) (fun i_ hi_ => by omega) ?_
  intro a k h
  unfold sp_q46 at h
  split at h
  · exact ⟨[_], rfl, rfl, (eq_q46 _ _ _ _ _ _ _).trans h⟩
  · cases h

def sh_st_dyad_take_0 : StSh := ⟨[.any, .ptr 0 0, .ptr 1 0, .ptr 2 0, .int .i64, .any, .any, .any, .any, .any, .any, .any, .any, .any, .any, .any, .any, .any, .any, .any, .any, .any, .any, .any, .any, .any, .any, .any, .any, .any, .any, .any, .any, .any, .any, .any], [some (124, 1, .cells [.bool, .roi .u32, .int .i64]), some (166, 1, .cells [.val, .int .i64]), some (164, 1, .cells [.bool, .roi .u64])]⟩
def sx0_st_dyad_take_0 : StSh := ⟨[.any, .ptr 0 0, .ptr 1 0, .ptr 2 0, .any, .any, .any, .any, .any, .any, .any, .any, .any, .any, .any, .any, .any, .any, .any, .any, .any, .any, .any, .any, .any, .any, .any, .any, .any, .any, .any, .any, .any, .any, .any, .any], [some (124, 1, .cells [.bool, .roi .u32, .int .i64]), some (166, 1, .cells [.val, .int .i64]), some (164, 1, .cells [.bool, .roi .u64])]⟩
def hk_st_dyad_take_0 (N_ : Nat) (S_q41 : TS_q41) (S_q62 : TS_q62) (S_q27 : TS_q27) (S_q46 : TS_q46) (S_q24 : TS_q24) : List Atom → K → Bool := fun a_ κ => match a_ with
  | [.int i_1, .bool d_3, .ints d_4, .int d_5, .val t2_2, .int t2_3, .bool n_1, .ints n_2] => iterG N_ (st_dyad_take_0 N_ S_q41 S_q62 S_q27 S_q46 S_q24 d_3 d_4 d_5 t2_2 t2_3 (fun r5 r6 => κ.ext 0 (sx0_st_dyad_take_0.build [.bool d_3, .ints d_4, .int d_5, .val t2_2, .int t2_3, .bool r5, .ints r6]))) (i_1, n_1, n_2)
  | _ => false
def an_q120 (N_ : Nat) (S_q41 : TS_q41) (S_q62 : TS_q62) (S_q27 : TS_q27) (S_q46 : TS_q46) (S_q24 : TS_q24) : Nat → Option Ann := fun b_ => cond (b_ == 0) (some ⟨⟨[1, 2, 3, 4], [], [(2, 1, some .u64)]⟩, [(0, ⟨[1, 2, 3], [], []⟩)], some ⟨[2], [], []⟩, some (mkHooks [(sh_st_dyad_take_0, hk_st_dyad_take_0 N_ S_q41 S_q62 S_q27 S_q46 S_q24)])⟩) (none)
theorem eq_st_dyad_take_0 (N_ : Nat) (S_q41 : TS_q41) (S_q62 : TS_q62) (S_q27 : TS_q27) (S_q46 : TS_q46) (S_q24 : TS_q24) (κ : K) (i_1 : Int) (d_3 : Bool) (d_4 : List Int) (d_5 : Int) (t2_2 : Value) (t2_3 : Int) (n_1 : Bool) (n_2 : List Int) : iter N_ (fun s k => codeV ⟨Tryz.prog, ofList [(172, (orFs (F_q41 S_q41) (F_q46 S_q46) shF_q41)), (165, (F_q62 S_q62)), (173, (F_q27 S_q27)), (131, (F_q24 S_q24))], isref, N_⟩ 0 (an_q120 N_ S_q41 S_q62 S_q27 S_q46 S_q24) (lp Tryz.prog 133 0).2 (lp Tryz.prog 133 0).1 s (roundK Tryz.prog 0 ((an_q120 N_ S_q41 S_q62 S_q27 S_q46 S_q24) (lp Tryz.prog 133 0).1) κ k)) (sh_st_dyad_take_0.build [.int i_1, .bool d_3, .ints d_4, .int d_5, .val t2_2, .int t2_3, .bool n_1, .ints n_2]) = iterG N_ (st_dyad_take_0 N_ S_q41 S_q62 S_q27 S_q46 S_q24 d_3 d_4 d_5 t2_2 t2_3 (fun r5 r6 => κ.ext 0 (sx0_st_dyad_take_0.build [.bool d_3, .ints d_4, .int d_5, .val t2_2, .int t2_3, .bool r5, .ints r6]))) (i_1, n_1, n_2) :=
  iter_tr (fun (v_ : Int × Bool × List Int) => sh_st_dyad_take_0.build [.int v_.1, .bool d_3, .ints d_4, .int d_5, .val t2_2, .int t2_3, .bool v_.2.1, .ints v_.2.2]) (fun v_ K_ => by obtain ⟨i_1, n_1, n_2⟩ := v_; kernel_rfl) N_ (i_1, n_1, n_2)
theorem hk1_st_dyad_take_0 (N_ : Nat) (S_q41 : TS_q41) (S_q62 : TS_q62) (S_q27 : TS_q27) (S_q46 : TS_q46) (S_q24 : TS_q24) : HookFor ⟨Tryz.prog, ofList [(172, (orFs (F_q41 S_q41) (F_q46 S_q46) shF_q41)), (165, (F_q62 S_q62)), (173, (F_q27 S_q27)), (131, (F_q24 S_q24))], isref, N_⟩ 0 (an_q120 N_ S_q41 S_q62 S_q27 S_q46 S_q24) (lp Tryz.prog 133 0) (sh_st_dyad_take_0, hk_st_dyad_take_0 N_ S_q41 S_q62 S_q27 S_q46 S_q24) := by
  intro a κ h
  simp only at h
  unfold hk_st_dyad_take_0 at h
  split at h
  · exact (eq_st_dyad_take_0 _ _ _ _ _ _ _ _ _ _ _ _ _ _ _).trans h
  · cases h
theorem ho_dyad_take_0 (N_ : Nat) (S_q41 : TS_q41) (S_q62 : TS_q62) (S_q27 : TS_q27) (S_q46 : TS_q46) (S_q24 : TS_q24) : HookOk ⟨Tryz.prog, ofList [(172, (orFs (F_q41 S_q41) (F_q46 S_q46) shF_q41)), (165, (F_q62 S_q62)), (173, (F_q27 S_q27)), (131, (F_q24 S_q24))], isref, N_⟩ 0 (an_q120 N_ S_q41 S_q62 S_q27 S_q46 S_q24) (lp Tryz.prog 133 0) :=
  hooks_ok [(sh_st_dyad_take_0, hk_st_dyad_take_0 N_ S_q41 S_q62 S_q27 S_q46 S_q24)] (by kernel_rfl) ⟨hk1_st_dyad_take_0 _ _ _ _ _ _, trivial⟩
theorem eq_q120 (N_ : Nat) (S_q41 : TS_q41) (S_q62 : TS_q62) (S_q27 : TS_q27) (S_q46 : TS_q46) (S_q24 : TS_q24) (d_0 : Bool) (d_1 : List Int) (d_2 : Int) (cont_ : V → List Blk → Bool) : bodyV ⟨Tryz.prog, ofList [(172, (orFs (F_q41 S_q41) (F_q46 S_q46) shF_q41)), (165, (F_q62 S_q62)), (173, (F_q27 S_q27)), (131, (F_q24 S_q24))], isref, N_⟩ (an_q120 N_ S_q41 S_q62 S_q27 S_q46 S_q24) 133 (shF_q120.args [.bool d_0, .ints d_1, .int d_2]) [] cont_ = G_q120 N_ S_q41 S_q62 S_q27 S_q46 S_q24 d_0 d_1 d_2 (fun r1 r2 => cont_ (.agg [.ptr 0 0, .int .i64 d_2]) [⟨164, 1, .cells [.bool r1, .roi .u64 r2]⟩]) := by kernel_rfl
theorem good_q120 (N_ : Nat) (S_q41 : TS_q41) (S_q62 : TS_q62) (S_q27 : TS_q27) (S_q46 : TS_q46) (S_q24 : TS_q24) (h_big_Int_Lsh_p0p0n : GoodF Tryz.prog 172 (F_q41 S_q41)) (h_big_NewInt : GoodF Tryz.prog 165 (F_q62 S_q62)) (h_big_Int_Or_p0p0p1rr : GoodF Tryz.prog 173 (F_q27 S_q27)) (h_big_Int_Lsh_p0p0r : GoodF Tryz.prog 172 (F_q46 S_q46)) (h_big_Int_Neg_p0p0r : GoodF Tryz.prog 131 (F_q24 S_q24)) : GoodF Tryz.prog 133 (F_q120 (G_q120 N_ S_q41 S_q62 S_q27 S_q46 S_q24)) := by
  refine good_fs (cx := ⟨Tryz.prog, ofList [(172, (orFs (F_q41 S_q41) (F_q46 S_q46) shF_q41)), (165, (F_q62 S_q62)), (173, (F_q27 S_q27)), (131, (F_q24 S_q24))], isref, N_⟩) (ofList_cons (good_or h_big_Int_Lsh_p0p0n h_big_Int_Lsh_p0p0r) (ofList_cons h_big_NewInt (ofList_cons h_big_Int_Or_p0p0p1rr (ofList_cons h_big_Int_Neg_p0p0r (ofList_nil _))))) shF_q120 (sp_q120 (G_q120 N_ S_q41 S_q62 S_q27 S_q46 S_q24)) (an_q120 N_ S_q41 S_q62 S_q27 S_q46 S_q24) 1 0 (by kernel_rfl) (fun i_ hi_ => by
    match i_, hi_ with
    | 0, _ => exact ho_dyad_take_0 _ _ _ _ _ _
    | (q + 1), h => omega) ?_
  intro a k h
  unfold sp_q120 at h
  split at h
  · exact ⟨[], rfl, rfl, (eq_q120 _ _ _ _ _ _ _ _ _ _).trans h⟩
  · cases h

def an_q42 (N_ : Nat) (S_q82 : TS_q82) (S_q1 : TS_q1) : Nat → Option Ann := fun b_ => none
theorem eq_q42 (N_ : Nat) (S_q82 : TS_q82) (S_q1 : TS_q1) (b : Bool) (b_1 : Bool) (b_2 : List Int) (cont_ : V → List Blk → Bool) : bodyZ ⟨Tryz.prog, ofList [(171, (F_q82 S_q82)), (170, (F_q1 S_q1))], isref, N_⟩ (an_q42 N_ S_q82 S_q1) 131 (shF_q42.args [.bool b, .bool b_1, .ints b_2]) [⟨164, 1, .cells [.bool b, .nil]⟩, ⟨164, 1, .cells [.bool b_1, .roi .u64 b_2]⟩] cont_ = G_q42 N_ S_q82 S_q1 b b_1 b_2 (fun r0 r1 => cont_ (.ptr 0 0) [⟨164, 1, .cells [.bool r0, .roi .u64 r1]⟩, ⟨164, 1, .cells [.bool b_1, .roi .u64 b_2]⟩]) := by kernel_rfl
theorem good_q42 (N_ : Nat) (S_q82 : TS_q82) (S_q1 : TS_q1) (h_big_clone : GoodF Tryz.prog 171 (F_q82 S_q82)) (h_big_Int_made_p0n : GoodF Tryz.prog 170 (F_q1 S_q1)) : GoodF Tryz.prog 131 (F_q42 (G_q42 N_ S_q82 S_q1)) := by
  refine good_fsZ (cx := ⟨Tryz.prog, ofList [(171, (F_q82 S_q82)), (170, (F_q1 S_q1))], isref, N_⟩) (ofList_cons h_big_clone (ofList_cons h_big_Int_made_p0n (ofList_nil _))) shF_q42 (sp_q42 (G_q42 N_ S_q82 S_q1)) (an_q42 N_ S_q82 S_q1) 0 2 (by kernel_rfl) (fun i_ hi_ => by omega) ?_
  intro a k h
  unfold sp_q42 at h
  split at h
  · exact ⟨[_, _], rfl, rfl, (eq_q42 _ _ _ _ _ _ _).trans h⟩
  · cases h

def an_q74 (N_ : Nat) (S_q42 : TS_q42) (S_q3 : TS_q3) : Nat → Option Ann := fun b_ => none
theorem eq_q74 (N_ : Nat) (S_q42 : TS_q42) (S_q3 : TS_q3) (x : Int) (y : Int) (b : Bool) (b_1 : List Int) (b_2 : Bool) (b_3 : List Int) (cont_ : V → List Blk → Bool) : bodyV ⟨Tryz.prog, ofList [(131, (F_q42 S_q42)), (125, (F_q3 S_q3))], isref, N_⟩ (an_q74 N_ S_q42 S_q3) 130 (shF_q74.args [.int x, .int y, .bool b, .ints b_1, .bool b_2, .ints b_3]) [⟨164, 1, .cells [.bool b, .roi .u64 b_1]⟩, ⟨164, 1, .cells [.bool b_2, .roi .u64 b_3]⟩] cont_ = G_q74 N_ S_q42 S_q3 x y b b_1 b_2 b_3 (fun r0 r5 r6 => cont_ (.agg [.ptr 2 0, .int .i64 r0]) [⟨164, 1, .cells [.bool b, .roi .u64 b_1]⟩, ⟨164, 1, .cells [.bool b_2, .roi .u64 b_3]⟩, ⟨164, 1, .cells [.bool r5, .roi .u64 r6]⟩]) (cont_ (.agg [.ptr 0 0, .int .i64 x]) [⟨164, 1, .cells [.bool b, .roi .u64 b_1]⟩, ⟨164, 1, .cells [.bool b_2, .roi .u64 b_3]⟩]) := by kernel_rfl
theorem good_q74 (N_ : Nat) (S_q42 : TS_q42) (S_q3 : TS_q3) (h_big_Int_Neg_p0p1nr : GoodF Tryz.prog 131 (F_q42 S_q42)) (h_v_dyad_exact_plus_p0p1rr : GoodF Tryz.prog 125 (F_q3 S_q3)) : GoodF Tryz.prog 130 (F_q74 (G_q74 N_ S_q42 S_q3)) := by
  refine good_fs (cx := ⟨Tryz.prog, ofList [(131, (F_q42 S_q42)), (125, (F_q3 S_q3))], isref, N_⟩) (ofList_cons h_big_Int_Neg_p0p1nr (ofList_cons h_v_dyad_exact_plus_p0p1rr (ofList_nil _))) shF_q74 (sp_q74 (G_q74 N_ S_q42 S_q3)) (an_q74 N_ S_q42 S_q3) 0 2 (by kernel_rfl) (fun i_ hi_ => by omega) ?_
  intro a k h
  unfold sp_q74 at h
  split at h
  · exact ⟨[_, _], rfl, rfl, (eq_q74 _ _ _ _ _ _ _ _ _ _).trans h⟩
  · cases h

def an_q127 (N_ : Nat) (S_q140 : TS_q140) (S_q120 : TS_q120) (S_q74 : TS_q74) (S_q14 : TS_q14) : Nat → Option Ann := fun b_ => none
theorem eq_q127 (N_ : Nat) (S_q140 : TS_q140) (S_q120 : TS_q120) (S_q74 : TS_q74) (S_q14 : TS_q14) (a_0 : Bool) (a_1 : List Int) (a_2 : Int) (b_0 : Bool) (b_1 : List Int) (b_2 : Int) (cont_ : V → List Blk → Bool) : bodyV ⟨Tryz.prog, ofList [(132, (F_q140 S_q140)), (133, (F_q120 S_q120)), (130, (F_q74 S_q74)), (128, (F_q14 S_q14))], isref, N_⟩ (an_q127 N_ S_q140 S_q120 S_q74 S_q14) 129 (shF_q127.args [.bool a_0, .ints a_1, .int a_2, .bool b_0, .ints b_1, .int b_2]) [] cont_ = G_q127 N_ S_q140 S_q120 S_q74 S_q14 a_0 a_1 a_2 b_0 b_1 b_2 (fun r0 r1 r2 => cont_ (.tup [.agg [.bool r0, .nil, .int .i64 r1], .int .i64 r2]) []) (fun r0 r1 r2 r3 => cont_ (.tup [.agg [.bool r0, .slw 0, .int .i64 r1], .int .i64 r2]) [⟨127, 1, .ints .u32 r3⟩]) := by kernel_rfl
theorem good_q127 (N_ : Nat) (S_q140 : TS_q140) (S_q120 : TS_q120) (S_q74 : TS_q74) (S_q14 : TS_q14) (h_dyad_May : GoodF Tryz.prog 132 (F_q140 S_q140)) (h_dyad_take : GoodF Tryz.prog 133 (F_q120 S_q120)) (h_dyad_Sub_1_p0p1rr : GoodF Tryz.prog 130 (F_q74 S_q74)) (h_v_dyad_exact_put_p0r : GoodF Tryz.prog 128 (F_q14 S_q14)) : GoodF Tryz.prog 129 (F_q127 (G_q127 N_ S_q140 S_q120 S_q74 S_q14)) := by
  refine good_fs (cx := ⟨Tryz.prog, ofList [(132, (F_q140 S_q140)), (133, (F_q120 S_q120)), (130, (F_q74 S_q74)), (128, (F_q14 S_q14))], isref, N_⟩) (ofList_cons h_dyad_May (ofList_cons h_dyad_take (ofList_cons h_dyad_Sub_1_p0p1rr (ofList_cons h_v_dyad_exact_put_p0r (ofList_nil _))))) shF_q127 (sp_q127 (G_q127 N_ S_q140 S_q120 S_q74 S_q14)) (an_q127 N_ S_q140 S_q120 S_q74 S_q14) 0 0 (by kernel_rfl) (fun i_ hi_ => by omega) ?_
  intro a k h
  unfold sp_q127 at h
  split at h
  · exact ⟨[], rfl, rfl, (eq_q127 _ _ _ _ _ _ _ _ _ _ _ _).trans h⟩
  · cases h

def an_q87 (N_ : Nat) (S_q127 : TS_q127) : Nat → Option Ann := fun b_ => none
theorem eq_q87 (N_ : Nat) (S_q127 : TS_q127) (a_0 : Bool) (a_1 : List Int) (a_2 : Int) (b_0 : Bool) (b_1 : List Int) (b_2 : Int) (cont_ : V → List Blk → Bool) : bodyV ⟨Tryz.prog, ofList [(129, (F_q127 S_q127))], isref, N_⟩ (an_q87 N_ S_q127) 80 (shF_q87.args [.bool a_0, .ints a_1, .int a_2, .bool b_0, .ints b_1, .int b_2]) [] cont_ = G_q87 N_ S_q127 a_0 a_1 a_2 b_0 b_1 b_2 (fun r0 r1 r2 => cont_ (.tup [.agg [.bool r0, .nil, .int .i64 r1], .int .i64 r2]) []) (fun r0 r1 r2 r3 => cont_ (.tup [.agg [.bool r0, .slw 0, .int .i64 r1], .int .i64 r2]) [⟨127, 1, .ints .u32 r3⟩]) := by kernel_rfl
theorem good_q87 (N_ : Nat) (S_q127 : TS_q127) (h_dyad_both_f : GoodF Tryz.prog 129 (F_q127 S_q127)) : GoodF Tryz.prog 80 (F_q87 (G_q87 N_ S_q127)) := by
  refine good_fs (cx := ⟨Tryz.prog, ofList [(129, (F_q127 S_q127))], isref, N_⟩) (ofList_cons h_dyad_both_f (ofList_nil _)) shF_q87 (sp_q87 (G_q87 N_ S_q127)) (an_q87 N_ S_q127) 0 0 (by kernel_rfl) (fun i_ hi_ => by omega) ?_
  intro a k h
  unfold sp_q87 at h
  split at h
  · exact ⟨[], rfl, rfl, (eq_q87 _ _ _ _ _ _ _ _ _).trans h⟩
  · cases h

def an_q33 (N_ : Nat) (S_q140 : TS_q140) (S_q120 : TS_q120) (S_q42 : TS_q42) (S_q3 : TS_q3) (S_q5 : TS_q5) : Nat → Option Ann := fun b_ => none
theorem eq_q33 (N_ : Nat) (S_q140 : TS_q140) (S_q120 : TS_q120) (S_q42 : TS_q42) (S_q3 : TS_q3) (S_q5 : TS_q5) (a_0 : Bool) (a_1 : List Int) (a_2 : Int) (b_0 : Bool) (b_1 : List Int) (b_2 : Int) (cont_ : V → List Blk → Bool) : bodyV ⟨Tryz.prog, ofList [(132, (F_q140 S_q140)), (133, (F_q120 S_q120)), (131, (F_q42 S_q42)), (125, (F_q3 S_q3)), (134, (F_q5 S_q5))], isref, N_⟩ (an_q33 N_ S_q140 S_q120 S_q42 S_q3 S_q5) 81 (shF_q33.args [.bool a_0, .ints a_1, .int a_2, .bool b_0, .ints b_1, .int b_2]) [] cont_ = G_q33 N_ S_q140 S_q120 S_q42 S_q3 S_q5 a_0 a_1 a_2 b_0 b_1 b_2 (fun r0 r1 => cont_ (.tup [.int .i64 r0, .int .i64 r1]) []) := by kernel_rfl
theorem good_q33 (N_ : Nat) (S_q140 : TS_q140) (S_q120 : TS_q120) (S_q42 : TS_q42) (S_q3 : TS_q3) (S_q5 : TS_q5) (h_dyad_May : GoodF Tryz.prog 132 (F_q140 S_q140)) (h_dyad_take : GoodF Tryz.prog 133 (F_q120 S_q120)) (h_big_Int_Neg_p0p1nr : GoodF Tryz.prog 131 (F_q42 S_q42)) (h_v_dyad_exact_plus_p0p1rr : GoodF Tryz.prog 125 (F_q3 S_q3)) (h_big_Int_Sign_p0r : GoodF Tryz.prog 134 (F_q5 S_q5)) : GoodF Tryz.prog 81 (F_q33 (G_q33 N_ S_q140 S_q120 S_q42 S_q3 S_q5)) := by
  refine good_fs (cx := ⟨Tryz.prog, ofList [(132, (F_q140 S_q140)), (133, (F_q120 S_q120)), (131, (F_q42 S_q42)), (125, (F_q3 S_q3)), (134, (F_q5 S_q5))], isref, N_⟩) (ofList_cons h_dyad_May (ofList_cons h_dyad_take (ofList_cons h_big_Int_Neg_p0p1nr (ofList_cons h_v_dyad_exact_plus_p0p1rr (ofList_cons h_big_Int_Sign_p0r (ofList_nil _)))))) shF_q33 (sp_q33 (G_q33 N_ S_q140 S_q120 S_q42 S_q3 S_q5)) (an_q33 N_ S_q140 S_q120 S_q42 S_q3 S_q5) 0 0 (by kernel_rfl) (fun i_ hi_ => by omega) ?_
  intro a k h
  unfold sp_q33 at h
  split at h
  · exact ⟨[], rfl, rfl, (eq_q33 _ _ _ _ _ _ _ _ _ _ _ _ _).trans h⟩
  · cases h

end Go.Proofs.YtccocdgimamdhaaGreatDoor
