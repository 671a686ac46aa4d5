/-
  THE TIES: each printed meaning is what the program does (written by program).
  Conditions: none.
-/
import Derived.Test.YtccocdgimamdhaaGreatDoorGs
namespace Go.Proofs.YtccocdgimamdhaaGreatDoor
open Go Go.Mach Go.Proofs
set_option linter.unusedVariables false
set_option maxRecDepth 50000

def sh_st_v_dyad_exact_put_p0r_0 : StSh := ⟨[.any, .any, .ptr 1 0, .any, .ptr 2 0, .ptr 3 0, .ptr 4 0, .any, .any, .any, .any, .any, .any, .any, .any, .any, .any, .any, .any, .any, .any, .any, .any, .any, .any, .any, .any, .any, .any, .any, .any, .any, .any, .any, .any, .any, .any, .any, .any, .any, .any, .any, .any, .any, .any, .any, .any, .any, .any, .any, .any, .any, .any, .any, .any, .any, .any, .any, .any], [some (164, 1, .cells [.bool, .roi .u64]), some (124, 1, .cells [.bool, .nil, .int .i64]), some (124, 1, .cells [.bool, .slw 5, .int .i64]), some (164, 1, .cells [.bool, .roi .u64]), some (164, 1, .cells [.bool, .roi .u64]), some (127, 1, .ints .u32)]⟩
def sx0_st_v_dyad_exact_put_p0r_0 : StSh := ⟨[.any, .any, .ptr 1 0, .any, .ptr 2 0, .any, .any, .any, .any, .any, .any, .any, .any, .any, .any, .any, .any, .any, .any, .any, .any, .any, .any, .any, .any, .any, .any, .any, .any, .any, .any, .any, .any, .any, .any, .any, .any, .any, .any, .any, .any, .any, .any, .any, .any, .any, .any, .any, .any, .any, .any, .any, .any, .any, .any, .any, .any, .any, .any], [some (164, 1, .cells [.bool, .roi .u64]), some (124, 1, .cells [.bool, .nil, .int .i64]), some (124, 1, .cells [.bool, .slw 3, .int .i64]), some (127, 1, .ints .u32)]⟩
def hk_st_v_dyad_exact_put_p0r_0 (N_ : Nat) (S_q15 : TS_q15) (S_q3 : TS_q3) (S_q28 : TS_q28) (S_q51 : TS_q51) (S_q27 : TS_q27) (S_q17 : TS_q17) (S_q30 : TS_q30) (S_q11 : TS_q11) : List Atom -> K -> Bool := fun a_ κ => match a_ with
  | [.bool b0_2, .ints b0_3, .bool t2_2, .int t2_3, .bool d_2, .int d_3, .bool mask_2, .ints mask_3, .bool m_2, .ints m_3, .ints b5] => iterG N_ (st_q152 N_ S_q15 S_q3 S_q28 S_q51 S_q27 S_q17 S_q30 S_q11 b0_2 b0_3 t2_2 t2_3 d_2 d_3 mask_2 mask_3 (fun r6 => κ.ext 0 (sx0_st_v_dyad_exact_put_p0r_0.build [.bool b0_2, .ints b0_3, .bool t2_2, .int t2_3, .bool d_2, .int d_3, .ints r6]))) (m_2, m_3, b5)
  | _ => false
def an_q10 (N_ : Nat) (S_q15 : TS_q15) (S_q3 : TS_q3) (S_q28 : TS_q28) (S_q51 : TS_q51) (S_q27 : TS_q27) (S_q17 : TS_q17) (S_q30 : TS_q30) (S_q11 : TS_q11) : Nat -> Option Ann := fun b_ => cond (b_ == 0) (some ⟨⟨[2, 4, 5, 6], [(4, some 1, 127)], []⟩, [(0, ⟨[2, 4], [], []⟩)], some ⟨[2, 3], [], []⟩, some (mkHooks [(sh_st_v_dyad_exact_put_p0r_0, hk_st_v_dyad_exact_put_p0r_0 N_ S_q15 S_q3 S_q28 S_q51 S_q27 S_q17 S_q30 S_q11)])⟩) (none)
theorem eq_st_v_dyad_exact_put_p0r_0 (N_ : Nat) (S_q15 : TS_q15) (S_q3 : TS_q3) (S_q28 : TS_q28) (S_q51 : TS_q51) (S_q27 : TS_q27) (S_q17 : TS_q17) (S_q30 : TS_q30) (S_q11 : TS_q11) (κ : K) (b0_2 : Bool) (b0_3 : List Int) (t2_2 : Bool) (t2_3 : Int) (d_2 : Bool) (d_3 : Int) (mask_2 : Bool) (mask_3 : List Int) (m_2 : Bool) (m_3 : List Int) (b5 : List Int) : iter N_ (fun s k => codeV ⟨Pg, ofList [(163, (F_q15 S_q15)), (134, (F_q3 S_q3)), (164, (F_q28 S_q28)), (165, (F_q51 S_q51)), (166, (F_q27 S_q27)), (168, (F_q17 S_q17)), (169, (F_q30 S_q30)), (167, (F_q11 S_q11))], isref, N_⟩ 1 (an_q10 N_ S_q15 S_q3 S_q28 S_q51 S_q27 S_q17 S_q30 S_q11) (lp Pg 128 0).2 (lp Pg 128 0).1 s (roundK Pg 1 ((an_q10 N_ S_q15 S_q3 S_q28 S_q51 S_q27 S_q17 S_q30 S_q11) (lp Pg 128 0).1) κ k)) (sh_st_v_dyad_exact_put_p0r_0.build [.bool b0_2, .ints b0_3, .bool t2_2, .int t2_3, .bool d_2, .int d_3, .bool mask_2, .ints mask_3, .bool m_2, .ints m_3, .ints b5]) = iterG N_ (st_q152 N_ S_q15 S_q3 S_q28 S_q51 S_q27 S_q17 S_q30 S_q11 b0_2 b0_3 t2_2 t2_3 d_2 d_3 mask_2 mask_3 (fun r6 => κ.ext 0 (sx0_st_v_dyad_exact_put_p0r_0.build [.bool b0_2, .ints b0_3, .bool t2_2, .int t2_3, .bool d_2, .int d_3, .ints r6]))) (m_2, m_3, b5) :=
  iter_tr (fun (v_ : Bool × List Int × List Int) => sh_st_v_dyad_exact_put_p0r_0.build [.bool b0_2, .ints b0_3, .bool t2_2, .int t2_3, .bool d_2, .int d_3, .bool mask_2, .ints mask_3, .bool v_.1, .ints v_.2.1, .ints v_.2.2]) (fun v_ K_ => by obtain ⟨m_2, m_3, b5⟩ := v_; kernel_rfl) N_ (m_2, m_3, b5)
theorem hk1_st_v_dyad_exact_put_p0r_0 (N_ : Nat) (S_q15 : TS_q15) (S_q3 : TS_q3) (S_q28 : TS_q28) (S_q51 : TS_q51) (S_q27 : TS_q27) (S_q17 : TS_q17) (S_q30 : TS_q30) (S_q11 : TS_q11) : HookFor ⟨Pg, ofList [(163, (F_q15 S_q15)), (134, (F_q3 S_q3)), (164, (F_q28 S_q28)), (165, (F_q51 S_q51)), (166, (F_q27 S_q27)), (168, (F_q17 S_q17)), (169, (F_q30 S_q30)), (167, (F_q11 S_q11))], isref, N_⟩ 1 (an_q10 N_ S_q15 S_q3 S_q28 S_q51 S_q27 S_q17 S_q30 S_q11) (lp Pg 128 0) (sh_st_v_dyad_exact_put_p0r_0, hk_st_v_dyad_exact_put_p0r_0 N_ S_q15 S_q3 S_q28 S_q51 S_q27 S_q17 S_q30 S_q11) := by
  intro a κ h
  simp only at h
  unfold hk_st_v_dyad_exact_put_p0r_0 at h
  split at h
  · exact (eq_st_v_dyad_exact_put_p0r_0 _ _ _ _ _ _ _ _ _ _ _ _ _ _ _ _ _ _ _ _ _).trans h
  · cases h
theorem ho_v_dyad_exact_put_p0r_0 (N_ : Nat) (S_q15 : TS_q15) (S_q3 : TS_q3) (S_q28 : TS_q28) (S_q51 : TS_q51) (S_q27 : TS_q27) (S_q17 : TS_q17) (S_q30 : TS_q30) (S_q11 : TS_q11) : HookOk ⟨Pg, ofList [(163, (F_q15 S_q15)), (134, (F_q3 S_q3)), (164, (F_q28 S_q28)), (165, (F_q51 S_q51)), (166, (F_q27 S_q27)), (168, (F_q17 S_q17)), (169, (F_q30 S_q30)), (167, (F_q11 S_q11))], isref, N_⟩ 1 (an_q10 N_ S_q15 S_q3 S_q28 S_q51 S_q27 S_q17 S_q30 S_q11) (lp Pg 128 0) :=
  hooks_ok [(sh_st_v_dyad_exact_put_p0r_0, hk_st_v_dyad_exact_put_p0r_0 N_ S_q15 S_q3 S_q28 S_q51 S_q27 S_q17 S_q30 S_q11)] (by kernel_rfl) ⟨hk1_st_v_dyad_exact_put_p0r_0 _ _ _ _ _ _ _ _ _, trivial⟩
theorem eq_q10 (N_ : Nat) (S_q15 : TS_q15) (S_q3 : TS_q3) (S_q28 : TS_q28) (S_q51 : TS_q51) (S_q27 : TS_q27) (S_q17 : TS_q17) (S_q30 : TS_q30) (S_q11 : TS_q11) (x : Int) (b : Bool) (b_1 : List Int) (c_ : V -> List Blk -> Bool) : bodyV ⟨Pg, ofList [(163, (F_q15 S_q15)), (134, (F_q3 S_q3)), (164, (F_q28 S_q28)), (165, (F_q51 S_q51)), (166, (F_q27 S_q27)), (168, (F_q17 S_q17)), (169, (F_q30 S_q30)), (167, (F_q11 S_q11))], isref, N_⟩ (an_q10 N_ S_q15 S_q3 S_q28 S_q51 S_q27 S_q17 S_q30 S_q11) 128 (shF_q10.args [.int x, .bool b, .ints b_1]) [⟨164, 1, .cells [.bool b, .roi .u64 b_1]⟩] c_ = G_q10 N_ S_q15 S_q3 S_q28 S_q51 S_q27 S_q17 S_q30 S_q11 x b b_1 (fun r0 r1 r2 => c_ (.tup [.agg [.bool r0, .nil, .int .i64 r1], .int .i64 r2]) [⟨164, 1, .cells [.bool b, .roi .u64 b_1]⟩]) (fun r0 r1 r2 r5 => c_ (.tup [.agg [.bool r0, .slw 1, .int .i64 r1], .int .i64 r2]) [⟨164, 1, .cells [.bool b, .roi .u64 b_1]⟩, ⟨127, 1, .ints .u32 r5⟩]) := by kernel_rfl
theorem good_q10 (N_ : Nat) (S_q15 : TS_q15) (S_q3 : TS_q3) (S_q28 : TS_q28) (S_q51 : TS_q51) (S_q27 : TS_q27) (S_q17 : TS_q17) (S_q30 : TS_q30) (S_q11 : TS_q11) (h_q15 : GoodF Pg 163 (F_q15 S_q15)) (h_q3 : GoodF Pg 134 (F_q3 S_q3)) (h_q28 : GoodF Pg 164 (F_q28 S_q28)) (h_q51 : GoodF Pg 165 (F_q51 S_q51)) (h_q27 : GoodF Pg 166 (F_q27 S_q27)) (h_q17 : GoodF Pg 168 (F_q17 S_q17)) (h_q30 : GoodF Pg 169 (F_q30 S_q30)) (h_q11 : GoodF Pg 167 (F_q11 S_q11)) : GoodF Pg 128 (F_q10 (G_q10 N_ S_q15 S_q3 S_q28 S_q51 S_q27 S_q17 S_q30 S_q11)) := by
  refine good_fs (cx := ⟨Pg, ofList [(163, (F_q15 S_q15)), (134, (F_q3 S_q3)), (164, (F_q28 S_q28)), (165, (F_q51 S_q51)), (166, (F_q27 S_q27)), (168, (F_q17 S_q17)), (169, (F_q30 S_q30)), (167, (F_q11 S_q11))], isref, N_⟩) (ofList_cons h_q15 (ofList_cons h_q3 (ofList_cons h_q28 (ofList_cons h_q51 (ofList_cons h_q27 (ofList_cons h_q17 (ofList_cons h_q30 (ofList_cons h_q11 (ofList_nil _))))))))) shF_q10 (sp_q10 (G_q10 N_ S_q15 S_q3 S_q28 S_q51 S_q27 S_q17 S_q30 S_q11)) (an_q10 N_ S_q15 S_q3 S_q28 S_q51 S_q27 S_q17 S_q30 S_q11) 1 1 (by kernel_rfl) (fun i_ hi_ => by
    match i_, hi_ with
    | 0, _ => exact ho_v_dyad_exact_put_p0r_0 _ _ _ _ _ _ _ _ _
    | (q + 1), h => omega) ?_
  intro a k h
  unfold sp_q10 at h
  split at h
  · exact ⟨[_], rfl, rfl, (eq_q10 _ _ _ _ _ _ _ _ _ _ _ _ _).trans h⟩
  · cases h

def sh_st_dyad_Dot_0 : StSh := ⟨[.any, .rof, .any, .any, .ptr 0 0, .any, .ptr 1 0, .any, .any, .any, .any, .any, .any, .any, .any, .any, .any, .any, .any, .any, .any, .any, .any, .any, .any, .any, .rof, .int .i64, .int .i64, .any, .any, .any, .any, .any, .any, .any, .any, .any, .any, .any, .any, .any, .any, .any, .any, .any, .any, .any], [some (124, 1, .cells [.bool, .nil, .int .i64]), some (166, 1, .cells [.ptr 2 0, .int .i64]), some (164, 1, .cells [.bool, .roi .u64])]⟩
def sx0_st_dyad_Dot_0 : StSh := ⟨[.any, .any, .any, .any, .ptr 0 0, .any, .ptr 1 0, .any, .any, .any, .any, .any, .any, .any, .any, .any, .any, .any, .any, .any, .any, .any, .any, .any, .any, .any, .any, .any, .any, .any, .any, .any, .any, .any, .any, .any, .any, .any, .any, .any, .any, .any, .any, .any, .any, .any, .any, .any], [some (124, 1, .cells [.bool, .nil, .int .i64]), some (166, 1, .cells [.ptr 2 0, .int .i64]), some (164, 1, .cells [.bool, .roi .u64])]⟩
def hk_st_dyad_Dot_0 (N_ : Nat) (S_q78 : TS_q78) (S_q116 : TS_q116) (S_q14 : TS_q14) (S_q13 : TS_q13) (S_q2 : TS_q2) (S_q10 : TS_q10) : List Atom -> K -> Bool := fun a_ κ => match a_ with
  | [.fls b_2, .fls t26_1, .int t27_1, .int t28_1, .bool t4_2, .int t4_3, .int s_1, .bool b2_1, .ints b2_2] => iterG N_ (st_dyad_Dot_0 N_ S_q78 S_q116 S_q14 S_q13 S_q2 S_q10 b_2 t26_1 t27_1 t4_2 t4_3 (fun r2 r3 r4 => κ.ext 0 (sx0_st_dyad_Dot_0.build [.bool t4_2, .int t4_3, .int r2, .bool r3, .ints r4]))) (t28_1, s_1, b2_1, b2_2)
  | _ => false
def an_q67 (N_ : Nat) (S_q78 : TS_q78) (S_q116 : TS_q116) (S_q14 : TS_q14) (S_q13 : TS_q13) (S_q2 : TS_q2) (S_q10 : TS_q10) : Nat -> Option Ann := fun b_ => cond (b_ == 0) (some ⟨⟨[1, 4, 6, 26, 27, 28], [], [(2, 1, some .u64)]⟩, [(0, ⟨[4, 6], [], []⟩)], some ⟨[4, 5], [], []⟩, some (mkHooks [(sh_st_dyad_Dot_0, hk_st_dyad_Dot_0 N_ S_q78 S_q116 S_q14 S_q13 S_q2 S_q10)])⟩) (none)
theorem eq_st_dyad_Dot_0 (N_ : Nat) (S_q78 : TS_q78) (S_q116 : TS_q116) (S_q14 : TS_q14) (S_q13 : TS_q13) (S_q2 : TS_q2) (S_q10 : TS_q10) (κ : K) (b_2 : List Fl) (t26_1 : List Fl) (t27_1 : Int) (t28_1 : Int) (t4_2 : Bool) (t4_3 : Int) (s_1 : Int) (b2_1 : Bool) (b2_2 : List Int) : iter N_ (fun s k => codeV ⟨Pg, ofList [(124, (F_q78 S_q78)), (126, (F_q116 S_q116)), (127, (F_q14 S_q14)), (125, (orFs (F_q13 S_q13) (F_q2 S_q2) shF_q13)), (128, (F_q10 S_q10))], isref, N_⟩ 0 (an_q67 N_ S_q78 S_q116 S_q14 S_q13 S_q2 S_q10) (lp Pg 79 0).2 (lp Pg 79 0).1 s (roundK Pg 0 ((an_q67 N_ S_q78 S_q116 S_q14 S_q13 S_q2 S_q10) (lp Pg 79 0).1) κ k)) (sh_st_dyad_Dot_0.build [.fls b_2, .fls t26_1, .int t27_1, .int t28_1, .bool t4_2, .int t4_3, .int s_1, .bool b2_1, .ints b2_2]) = iterG N_ (st_dyad_Dot_0 N_ S_q78 S_q116 S_q14 S_q13 S_q2 S_q10 b_2 t26_1 t27_1 t4_2 t4_3 (fun r2 r3 r4 => κ.ext 0 (sx0_st_dyad_Dot_0.build [.bool t4_2, .int t4_3, .int r2, .bool r3, .ints r4]))) (t28_1, s_1, b2_1, b2_2) :=
  iter_tr (fun (v_ : Int × Int × Bool × List Int) => sh_st_dyad_Dot_0.build [.fls b_2, .fls t26_1, .int t27_1, .int v_.1, .bool t4_2, .int t4_3, .int v_.2.1, .bool v_.2.2.1, .ints v_.2.2.2]) (fun v_ K_ => by obtain ⟨t28_1, s_1, b2_1, b2_2⟩ := v_; kernel_rfl) N_ (t28_1, s_1, b2_1, b2_2)
theorem hk1_st_dyad_Dot_0 (N_ : Nat) (S_q78 : TS_q78) (S_q116 : TS_q116) (S_q14 : TS_q14) (S_q13 : TS_q13) (S_q2 : TS_q2) (S_q10 : TS_q10) : HookFor ⟨Pg, ofList [(124, (F_q78 S_q78)), (126, (F_q116 S_q116)), (127, (F_q14 S_q14)), (125, (orFs (F_q13 S_q13) (F_q2 S_q2) shF_q13)), (128, (F_q10 S_q10))], isref, N_⟩ 0 (an_q67 N_ S_q78 S_q116 S_q14 S_q13 S_q2 S_q10) (lp Pg 79 0) (sh_st_dyad_Dot_0, hk_st_dyad_Dot_0 N_ S_q78 S_q116 S_q14 S_q13 S_q2 S_q10) := by
  intro a κ h
  simp only at h
  unfold hk_st_dyad_Dot_0 at h
  split at h
  · exact (eq_st_dyad_Dot_0 _ _ _ _ _ _ _ _ _ _ _ _ _ _ _ _ _).trans h
  · cases h
theorem ho_dyad_Dot_0 (N_ : Nat) (S_q78 : TS_q78) (S_q116 : TS_q116) (S_q14 : TS_q14) (S_q13 : TS_q13) (S_q2 : TS_q2) (S_q10 : TS_q10) : HookOk ⟨Pg, ofList [(124, (F_q78 S_q78)), (126, (F_q116 S_q116)), (127, (F_q14 S_q14)), (125, (orFs (F_q13 S_q13) (F_q2 S_q2) shF_q13)), (128, (F_q10 S_q10))], isref, N_⟩ 0 (an_q67 N_ S_q78 S_q116 S_q14 S_q13 S_q2 S_q10) (lp Pg 79 0) :=
  hooks_ok [(sh_st_dyad_Dot_0, hk_st_dyad_Dot_0 N_ S_q78 S_q116 S_q14 S_q13 S_q2 S_q10)] (by kernel_rfl) ⟨hk1_st_dyad_Dot_0 _ _ _ _ _ _ _, trivial⟩
theorem eq_q67 (N_ : Nat) (S_q78 : TS_q78) (S_q116 : TS_q116) (S_q14 : TS_q14) (S_q13 : TS_q13) (S_q2 : TS_q2) (S_q10 : TS_q10) (a : List Fl) (b : List Fl) (c_ : V -> List Blk -> Bool) : bodyV ⟨Pg, ofList [(124, (F_q78 S_q78)), (126, (F_q116 S_q116)), (127, (F_q14 S_q14)), (125, (orFs (F_q13 S_q13) (F_q2 S_q2) shF_q13)), (128, (F_q10 S_q10))], isref, N_⟩ (an_q67 N_ S_q78 S_q116 S_q14 S_q13 S_q2 S_q10) 79 (shF_q67.args [.fls a, .fls b]) [] c_ = G_q67 N_ S_q78 S_q116 S_q14 S_q13 S_q2 S_q10 a b (fun r0 r1 r2 => c_ (.tup [.agg [.bool r0, .nil, .int .i64 r1], .int .i64 r2]) []) (fun r0 r1 r2 r3 => c_ (.tup [.agg [.bool r0, .slw 0, .int .i64 r1], .int .i64 r2]) [⟨127, 1, .ints .u32 r3⟩]) := by kernel_rfl
theorem good_q67 (N_ : Nat) (S_q78 : TS_q78) (S_q116 : TS_q116) (S_q14 : TS_q14) (S_q13 : TS_q13) (S_q2 : TS_q2) (S_q10 : TS_q10) (h_q78 : GoodF Pg 124 (F_q78 S_q78)) (h_q116 : GoodF Pg 126 (F_q116 S_q116)) (h_q14 : GoodF Pg 127 (F_q14 S_q14)) (h_q13 : GoodF Pg 125 (F_q13 S_q13)) (h_q2 : GoodF Pg 125 (F_q2 S_q2)) (h_q10 : GoodF Pg 128 (F_q10 S_q10)) : GoodF Pg 79 (F_q67 (G_q67 N_ S_q78 S_q116 S_q14 S_q13 S_q2 S_q10)) := by
  refine good_fs (cx := ⟨Pg, ofList [(124, (F_q78 S_q78)), (126, (F_q116 S_q116)), (127, (F_q14 S_q14)), (125, (orFs (F_q13 S_q13) (F_q2 S_q2) shF_q13)), (128, (F_q10 S_q10))], isref, N_⟩) (ofList_cons h_q78 (ofList_cons h_q116 (ofList_cons h_q14 (ofList_cons (good_or h_q13 h_q2) (ofList_cons h_q10 (ofList_nil _)))))) shF_q67 (sp_q67 (G_q67 N_ S_q78 S_q116 S_q14 S_q13 S_q2 S_q10)) (an_q67 N_ S_q78 S_q116 S_q14 S_q13 S_q2 S_q10) 1 0 (by kernel_rfl) (fun i_ hi_ => by
    match i_, hi_ with
    | 0, _ => exact ho_dyad_Dot_0 _ _ _ _ _ _ _
    | (q + 1), h => omega) ?_
  intro a k h
  unfold sp_q67 at h
  split at h
  · exact ⟨[], rfl, rfl, (eq_q67 _ _ _ _ _ _ _ _ _ _).trans h⟩
  · cases h

def an_q99 (N_ : Nat) : Nat -> Option Ann := fun b_ => none
theorem eq_q99 (N_ : Nat) (d_0 : Bool) (d_1 : List Int) (d_2 : Int) (c_ : V -> List Blk -> Bool) : bodyV ⟨Pg, ofList [], isref, N_⟩ (an_q99 N_) 132 (shF_q99.args [.bool d_0, .ints d_1, .int d_2]) [] c_ = G_q99 N_ d_0 d_1 d_2 (fun r0 => c_ (.bool r0) []) := by kernel_rfl
theorem good_q99 (N_ : Nat) : GoodF Pg 132 (F_q99 (G_q99 N_)) := by
  refine good_fs (cx := ⟨Pg, ofList [], isref, N_⟩) (ofList_nil _) shF_q99 (sp_q99 (G_q99 N_)) (an_q99 N_) 0 0 (by kernel_rfl) (fun i_ hi_ => by omega) ?_
  intro a k h
  unfold sp_q99 at h
  split at h
  · exact ⟨[], rfl, rfl, (eq_q99 _ _ _ _ _).trans h⟩
  · cases h

def an_q34 (N_ : Nat) (S_q80 : TS_q80) (S_q0 : TS_q0) : Nat -> Option Ann := fun b_ => none
theorem eq_q34 (N_ : Nat) (S_q80 : TS_q80) (S_q0 : TS_q0) (n : Int) (b : Bool) (c_ : V -> List Blk -> Bool) : bodyZ ⟨Pg, ofList [(204, (F_q80 S_q80)), (170, (F_q0 S_q0))], isref, N_⟩ (an_q34 N_ S_q80 S_q0) 172 (shF_q34.args [.int n, .bool b]) [⟨164, 1, .cells [.bool b, .nil]⟩] c_ = G_q34 N_ S_q80 S_q0 n b (fun r0 r1 => c_ (.ptr 0 0) [⟨164, 1, .cells [.bool r0, .roi .u64 r1]⟩]) := by kernel_rfl
theorem good_q34 (N_ : Nat) (S_q80 : TS_q80) (S_q0 : TS_q0) (h_q80 : GoodF Pg 204 (F_q80 S_q80)) (h_q0 : GoodF Pg 170 (F_q0 S_q0)) : GoodF Pg 172 (F_q34 (G_q34 N_ S_q80 S_q0)) := by
  refine good_fsZ (cx := ⟨Pg, ofList [(204, (F_q80 S_q80)), (170, (F_q0 S_q0))], isref, N_⟩) (ofList_cons h_q80 (ofList_cons h_q0 (ofList_nil _))) shF_q34 (sp_q34 (G_q34 N_ S_q80 S_q0)) (an_q34 N_ S_q80 S_q0) 0 1 (by kernel_rfl) (fun i_ hi_ => by omega) ?_
  intro a k h
  unfold sp_q34 at h
  split at h
  · exact ⟨[_], rfl, rfl, (eq_q34 _ _ _ _ _ _).trans h⟩
  · cases h

def an_q32 (N_ : Nat) : Nat -> Option Ann := fun b_ => none
theorem eq_q32 (N_ : Nat) (neg : Bool) (abs_0 : Nat) (abs_1 : Nat) (b : Bool) (b_1 : List Int) (b_2 : List Int) (c_ : V -> List Blk -> Bool) : bodyZ ⟨Pg, ofList [], isref, N_⟩ (an_q32 N_) 170 (shF_q32.args [.bool neg, .nat abs_0, .nat abs_1, .bool b, .ints b_1, .ints b_2]) [⟨164, 1, .cells [.bool b, .roi .u64 b_1]⟩, ⟨41, 1, .ints .u64 b_2⟩] c_ = G_q32 N_ neg abs_0 abs_1 b b_1 b_2 (fun r0 => c_ (.ptr 0 0) [⟨164, 1, .cells [.bool r0, .sl 1 abs_0 abs_1]⟩, ⟨41, 1, .ints .u64 b_2⟩]) := by kernel_rfl
theorem good_q32 (N_ : Nat) : GoodF Pg 170 (F_q32 (G_q32 N_)) := by
  refine good_fsZ (cx := ⟨Pg, ofList [], isref, N_⟩) (ofList_nil _) shF_q32 (sp_q32 (G_q32 N_)) (an_q32 N_) 0 2 (by kernel_rfl) (fun i_ hi_ => by omega) ?_
  intro a k h
  unfold sp_q32 at h
  split at h
  · exact ⟨[_, _], rfl, rfl, (eq_q32 _ _ _ _ _ _ _ _).trans h⟩
  · cases h

def sh_st_big_Int_Or_p0p0p1rr_0 : StSh := ⟨[.ptr 0 0, .ptr 0 0, .ptr 1 0, .any, .any, .any, .any, .slw 2, .any, .any, .any, .any, .any, .any, .any, .any, .any, .any, .any, .any, .any, .any, .int .i64, .int .i64, .any, .any, .any, .any, .any, .any, .any, .any, .any, .any, .any, .any, .any, .any, .any, .any, .any, .any, .any, .any, .any, .any, .any], [some (164, 1, .cells [.bool, .roi .u64]), some (164, 1, .cells [.bool, .roi .u64]), some (41, 1, .ints .u64)]⟩
def sx0_st_big_Int_Or_p0p0p1rr_0 : StSh := ⟨[.ptr 0 0, .any, .any, .any, .any, .any, .any, .slw 2, .any, .any, .any, .any, .any, .any, .any, .any, .any, .any, .any, .any, .any, .any, .any, .any, .any, .any, .any, .any, .any, .any, .any, .any, .any, .any, .any, .any, .any, .any, .any, .any, .any, .any, .any, .any, .any, .any, .any], [some (164, 1, .cells [.bool, .roi .u64]), some (164, 1, .cells [.bool, .roi .u64]), some (41, 1, .ints .u64)]⟩
def hk_st_big_Int_Or_p0p0p1rr_0 (N_ : Nat) (S_q12 : TS_q12) (S_q1 : TS_q1) (S_q32 : TS_q32) : List Atom -> K -> Bool := fun a_ κ => match a_ with
  | [.int t22, .int t23, .bool z, .ints z_1, .bool y, .ints y_1, .ints r] => iterG N_ (st_q153 N_ S_q12 S_q1 S_q32 t22 z z_1 y y_1 (fun r4 => κ.ext 0 (sx0_st_big_Int_Or_p0p0p1rr_0.build [.bool z, .ints z_1, .bool y, .ints y_1, .ints r4]))) (t23, r)
  | _ => false
def an_q23 (N_ : Nat) (S_q12 : TS_q12) (S_q1 : TS_q1) (S_q32 : TS_q32) : Nat -> Option Ann := fun b_ => cond (b_ == 0) (some ⟨⟨[0, 1, 2, 7, 22, 23], [], []⟩, [(0, ⟨[0, 7], [], []⟩)], some ⟨[6], [], []⟩, some (mkHooks [(sh_st_big_Int_Or_p0p0p1rr_0, hk_st_big_Int_Or_p0p0p1rr_0 N_ S_q12 S_q1 S_q32)])⟩) (none)
theorem eq_st_big_Int_Or_p0p0p1rr_0 (N_ : Nat) (S_q12 : TS_q12) (S_q1 : TS_q1) (S_q32 : TS_q32) (κ : K) (t22 : Int) (t23 : Int) (z : Bool) (z_1 : List Int) (y : Bool) (y_1 : List Int) (r : List Int) : iter N_ (fun s k => codeV ⟨Pg, ofList [(205, (F_q12 S_q12)), (202, (F_q1 S_q1)), (170, (F_q32 S_q32))], isref, N_⟩ 2 (an_q23 N_ S_q12 S_q1 S_q32) (lp Pg 173 0).2 (lp Pg 173 0).1 s (roundK Pg 2 ((an_q23 N_ S_q12 S_q1 S_q32) (lp Pg 173 0).1) κ k)) (sh_st_big_Int_Or_p0p0p1rr_0.build [.int t22, .int t23, .bool z, .ints z_1, .bool y, .ints y_1, .ints r]) = iterG N_ (st_q153 N_ S_q12 S_q1 S_q32 t22 z z_1 y y_1 (fun r4 => κ.ext 0 (sx0_st_big_Int_Or_p0p0p1rr_0.build [.bool z, .ints z_1, .bool y, .ints y_1, .ints r4]))) (t23, r) :=
  iter_tr (fun (v_ : Int × List Int) => sh_st_big_Int_Or_p0p0p1rr_0.build [.int t22, .int v_.1, .bool z, .ints z_1, .bool y, .ints y_1, .ints v_.2]) (fun v_ K_ => by obtain ⟨t23, r⟩ := v_; kernel_rfl) N_ (t23, r)
theorem hk1_st_big_Int_Or_p0p0p1rr_0 (N_ : Nat) (S_q12 : TS_q12) (S_q1 : TS_q1) (S_q32 : TS_q32) : HookFor ⟨Pg, ofList [(205, (F_q12 S_q12)), (202, (F_q1 S_q1)), (170, (F_q32 S_q32))], isref, N_⟩ 2 (an_q23 N_ S_q12 S_q1 S_q32) (lp Pg 173 0) (sh_st_big_Int_Or_p0p0p1rr_0, hk_st_big_Int_Or_p0p0p1rr_0 N_ S_q12 S_q1 S_q32) := by
  intro a κ h
  simp only at h
  unfold hk_st_big_Int_Or_p0p0p1rr_0 at h
  split at h
  · exact (eq_st_big_Int_Or_p0p0p1rr_0 _ _ _ _ _ _ _ _ _ _ _ _).trans h
  · cases h
theorem ho_big_Int_Or_p0p0p1rr_0 (N_ : Nat) (S_q12 : TS_q12) (S_q1 : TS_q1) (S_q32 : TS_q32) : HookOk ⟨Pg, ofList [(205, (F_q12 S_q12)), (202, (F_q1 S_q1)), (170, (F_q32 S_q32))], isref, N_⟩ 2 (an_q23 N_ S_q12 S_q1 S_q32) (lp Pg 173 0) :=
  hooks_ok [(sh_st_big_Int_Or_p0p0p1rr_0, hk_st_big_Int_Or_p0p0p1rr_0 N_ S_q12 S_q1 S_q32)] (by kernel_rfl) ⟨hk1_st_big_Int_Or_p0p0p1rr_0 _ _ _ _, trivial⟩
theorem eq_q23 (N_ : Nat) (S_q12 : TS_q12) (S_q1 : TS_q1) (S_q32 : TS_q32) (b : Bool) (b_1 : List Int) (b_2 : Bool) (b_3 : List Int) (c_ : V -> List Blk -> Bool) : bodyZ ⟨Pg, ofList [(205, (F_q12 S_q12)), (202, (F_q1 S_q1)), (170, (F_q32 S_q32))], isref, N_⟩ (an_q23 N_ S_q12 S_q1 S_q32) 173 (shF_q23.args [.bool b, .ints b_1, .bool b_2, .ints b_3]) [⟨164, 1, .cells [.bool b, .roi .u64 b_1]⟩, ⟨164, 1, .cells [.bool b_2, .roi .u64 b_3]⟩] c_ = G_q23 N_ S_q12 S_q1 S_q32 b b_1 b_2 b_3 (fun r0 r1 => c_ (.ptr 0 0) [⟨164, 1, .cells [.bool r0, .roi .u64 r1]⟩, ⟨164, 1, .cells [.bool b_2, .roi .u64 b_3]⟩]) := by kernel_rfl
theorem good_q23 (N_ : Nat) (S_q12 : TS_q12) (S_q1 : TS_q1) (S_q32 : TS_q32) (h_q12 : GoodF Pg 205 (F_q12 S_q12)) (h_q1 : GoodF Pg 202 (F_q1 S_q1)) (h_q32 : GoodF Pg 170 (F_q32 S_q32)) : GoodF Pg 173 (F_q23 (G_q23 N_ S_q12 S_q1 S_q32)) := by
  refine good_fsZ (cx := ⟨Pg, ofList [(205, (F_q12 S_q12)), (202, (F_q1 S_q1)), (170, (F_q32 S_q32))], isref, N_⟩) (ofList_cons h_q12 (ofList_cons h_q1 (ofList_cons h_q32 (ofList_nil _)))) shF_q23 (sp_q23 (G_q23 N_ S_q12 S_q1 S_q32)) (an_q23 N_ S_q12 S_q1 S_q32) 1 2 (by kernel_rfl) (fun i_ hi_ => by
    match i_, hi_ with
    | 0, _ => exact ho_big_Int_Or_p0p0p1rr_0 _ _ _ _
    | (q + 1), h => omega) ?_
  intro a k h
  unfold sp_q23 at h
  split at h
  · exact ⟨[_, _], rfl, rfl, (eq_q23 _ _ _ _ _ _ _ _ _).trans h⟩
  · cases h

def an_q38 (N_ : Nat) (S_q80 : TS_q80) (S_q25 : TS_q25) : Nat -> Option Ann := fun b_ => none
theorem eq_q38 (N_ : Nat) (S_q80 : TS_q80) (S_q25 : TS_q25) (n : Int) (b : Bool) (b_1 : List Int) (c_ : V -> List Blk -> Bool) : bodyZ ⟨Pg, ofList [(204, (F_q80 S_q80)), (170, (F_q25 S_q25))], isref, N_⟩ (an_q38 N_ S_q80 S_q25) 172 (shF_q38.args [.int n, .bool b, .ints b_1]) [⟨164, 1, .cells [.bool b, .roi .u64 b_1]⟩] c_ = G_q38 N_ S_q80 S_q25 n b b_1 (fun r0 r1 => c_ (.ptr 0 0) [⟨164, 1, .cells [.bool r0, .roi .u64 r1]⟩]) := by kernel_rfl
theorem good_q38 (N_ : Nat) (S_q80 : TS_q80) (S_q25 : TS_q25) (h_q80 : GoodF Pg 204 (F_q80 S_q80)) (h_q25 : GoodF Pg 170 (F_q25 S_q25)) : GoodF Pg 172 (F_q38 (G_q38 N_ S_q80 S_q25)) := by
  refine good_fsZ (cx := ⟨Pg, ofList [(204, (F_q80 S_q80)), (170, (F_q25 S_q25))], isref, N_⟩) (ofList_cons h_q80 (ofList_cons h_q25 (ofList_nil _))) shF_q38 (sp_q38 (G_q38 N_ S_q80 S_q25)) (an_q38 N_ S_q80 S_q25) 0 1 (by kernel_rfl) (fun i_ hi_ => by omega) ?_
  intro a k h
  unfold sp_q38 at h
  split at h
  · exact ⟨[_], rfl, rfl, (eq_q38 _ _ _ _ _ _ _).trans h⟩
  · cases h

def sh_st_dyad_take_0 : StSh := ⟨[.any, .ptr 0 0, .ptr 1 0, .ptr 2 0, .int .i64, .any, .any, .any, .any, .any, .any, .any, .any, .any, .any, .any, .any, .any, .any, .any, .any, .any, .any, .any, .any, .any, .any, .any, .any, .any, .any, .any, .any, .any, .any, .any], [some (124, 1, .cells [.bool, .roi .u32, .int .i64]), some (166, 1, .cells [.val, .int .i64]), some (164, 1, .cells [.bool, .roi .u64])]⟩
def sx0_st_dyad_take_0 : StSh := ⟨[.any, .ptr 0 0, .ptr 1 0, .ptr 2 0, .any, .any, .any, .any, .any, .any, .any, .any, .any, .any, .any, .any, .any, .any, .any, .any, .any, .any, .any, .any, .any, .any, .any, .any, .any, .any, .any, .any, .any, .any, .any, .any], [some (124, 1, .cells [.bool, .roi .u32, .int .i64]), some (166, 1, .cells [.val, .int .i64]), some (164, 1, .cells [.bool, .roi .u64])]⟩
def hk_st_dyad_take_0 (N_ : Nat) (S_q34 : TS_q34) (S_q51 : TS_q51) (S_q23 : TS_q23) (S_q38 : TS_q38) (S_q18 : TS_q18) : List Atom -> K -> Bool := fun a_ κ => match a_ with
  | [.int i_1, .bool d_3, .ints d_4, .int d_5, .val t2_2, .int t2_3, .bool n_1, .ints n_2] => iterG N_ (st_dyad_take_0 N_ S_q34 S_q51 S_q23 S_q38 S_q18 d_3 d_4 d_5 t2_2 t2_3 (fun r5 r6 => κ.ext 0 (sx0_st_dyad_take_0.build [.bool d_3, .ints d_4, .int d_5, .val t2_2, .int t2_3, .bool r5, .ints r6]))) (i_1, n_1, n_2)
  | _ => false
def an_q84 (N_ : Nat) (S_q34 : TS_q34) (S_q51 : TS_q51) (S_q23 : TS_q23) (S_q38 : TS_q38) (S_q18 : TS_q18) : Nat -> Option Ann := fun b_ => cond (b_ == 0) (some ⟨⟨[1, 2, 3, 4], [], [(2, 1, some .u64)]⟩, [(0, ⟨[1, 2, 3], [], []⟩)], some ⟨[2], [], []⟩, some (mkHooks [(sh_st_dyad_take_0, hk_st_dyad_take_0 N_ S_q34 S_q51 S_q23 S_q38 S_q18)])⟩) (none)
theorem eq_st_dyad_take_0 (N_ : Nat) (S_q34 : TS_q34) (S_q51 : TS_q51) (S_q23 : TS_q23) (S_q38 : TS_q38) (S_q18 : TS_q18) (κ : K) (i_1 : Int) (d_3 : Bool) (d_4 : List Int) (d_5 : Int) (t2_2 : Value) (t2_3 : Int) (n_1 : Bool) (n_2 : List Int) : iter N_ (fun s k => codeV ⟨Pg, ofList [(172, (orFs (F_q34 S_q34) (F_q38 S_q38) shF_q34)), (165, (F_q51 S_q51)), (173, (F_q23 S_q23)), (131, (F_q18 S_q18))], isref, N_⟩ 0 (an_q84 N_ S_q34 S_q51 S_q23 S_q38 S_q18) (lp Pg 133 0).2 (lp Pg 133 0).1 s (roundK Pg 0 ((an_q84 N_ S_q34 S_q51 S_q23 S_q38 S_q18) (lp Pg 133 0).1) κ k)) (sh_st_dyad_take_0.build [.int i_1, .bool d_3, .ints d_4, .int d_5, .val t2_2, .int t2_3, .bool n_1, .ints n_2]) = iterG N_ (st_dyad_take_0 N_ S_q34 S_q51 S_q23 S_q38 S_q18 d_3 d_4 d_5 t2_2 t2_3 (fun r5 r6 => κ.ext 0 (sx0_st_dyad_take_0.build [.bool d_3, .ints d_4, .int d_5, .val t2_2, .int t2_3, .bool r5, .ints r6]))) (i_1, n_1, n_2) :=
  iter_tr (fun (v_ : Int × Bool × List Int) => sh_st_dyad_take_0.build [.int v_.1, .bool d_3, .ints d_4, .int d_5, .val t2_2, .int t2_3, .bool v_.2.1, .ints v_.2.2]) (fun v_ K_ => by obtain ⟨i_1, n_1, n_2⟩ := v_; kernel_rfl) N_ (i_1, n_1, n_2)
theorem hk1_st_dyad_take_0 (N_ : Nat) (S_q34 : TS_q34) (S_q51 : TS_q51) (S_q23 : TS_q23) (S_q38 : TS_q38) (S_q18 : TS_q18) : HookFor ⟨Pg, ofList [(172, (orFs (F_q34 S_q34) (F_q38 S_q38) shF_q34)), (165, (F_q51 S_q51)), (173, (F_q23 S_q23)), (131, (F_q18 S_q18))], isref, N_⟩ 0 (an_q84 N_ S_q34 S_q51 S_q23 S_q38 S_q18) (lp Pg 133 0) (sh_st_dyad_take_0, hk_st_dyad_take_0 N_ S_q34 S_q51 S_q23 S_q38 S_q18) := by
  intro a κ h
  simp only at h
  unfold hk_st_dyad_take_0 at h
  split at h
  · exact (eq_st_dyad_take_0 _ _ _ _ _ _ _ _ _ _ _ _ _ _ _).trans h
  · cases h
theorem ho_dyad_take_0 (N_ : Nat) (S_q34 : TS_q34) (S_q51 : TS_q51) (S_q23 : TS_q23) (S_q38 : TS_q38) (S_q18 : TS_q18) : HookOk ⟨Pg, ofList [(172, (orFs (F_q34 S_q34) (F_q38 S_q38) shF_q34)), (165, (F_q51 S_q51)), (173, (F_q23 S_q23)), (131, (F_q18 S_q18))], isref, N_⟩ 0 (an_q84 N_ S_q34 S_q51 S_q23 S_q38 S_q18) (lp Pg 133 0) :=
  hooks_ok [(sh_st_dyad_take_0, hk_st_dyad_take_0 N_ S_q34 S_q51 S_q23 S_q38 S_q18)] (by kernel_rfl) ⟨hk1_st_dyad_take_0 _ _ _ _ _ _, trivial⟩
theorem eq_q84 (N_ : Nat) (S_q34 : TS_q34) (S_q51 : TS_q51) (S_q23 : TS_q23) (S_q38 : TS_q38) (S_q18 : TS_q18) (d_0 : Bool) (d_1 : List Int) (d_2 : Int) (c_ : V -> List Blk -> Bool) : bodyV ⟨Pg, ofList [(172, (orFs (F_q34 S_q34) (F_q38 S_q38) shF_q34)), (165, (F_q51 S_q51)), (173, (F_q23 S_q23)), (131, (F_q18 S_q18))], isref, N_⟩ (an_q84 N_ S_q34 S_q51 S_q23 S_q38 S_q18) 133 (shF_q84.args [.bool d_0, .ints d_1, .int d_2]) [] c_ = G_q84 N_ S_q34 S_q51 S_q23 S_q38 S_q18 d_0 d_1 d_2 (fun r1 r2 => c_ (.agg [.ptr 0 0, .int .i64 d_2]) [⟨164, 1, .cells [.bool r1, .roi .u64 r2]⟩]) := by kernel_rfl
theorem good_q84 (N_ : Nat) (S_q34 : TS_q34) (S_q51 : TS_q51) (S_q23 : TS_q23) (S_q38 : TS_q38) (S_q18 : TS_q18) (h_q34 : GoodF Pg 172 (F_q34 S_q34)) (h_q51 : GoodF Pg 165 (F_q51 S_q51)) (h_q23 : GoodF Pg 173 (F_q23 S_q23)) (h_q38 : GoodF Pg 172 (F_q38 S_q38)) (h_q18 : GoodF Pg 131 (F_q18 S_q18)) : GoodF Pg 133 (F_q84 (G_q84 N_ S_q34 S_q51 S_q23 S_q38 S_q18)) := by
  refine good_fs (cx := ⟨Pg, ofList [(172, (orFs (F_q34 S_q34) (F_q38 S_q38) shF_q34)), (165, (F_q51 S_q51)), (173, (F_q23 S_q23)), (131, (F_q18 S_q18))], isref, N_⟩) (ofList_cons (good_or h_q34 h_q38) (ofList_cons h_q51 (ofList_cons h_q23 (ofList_cons h_q18 (ofList_nil _))))) shF_q84 (sp_q84 (G_q84 N_ S_q34 S_q51 S_q23 S_q38 S_q18)) (an_q84 N_ S_q34 S_q51 S_q23 S_q38 S_q18) 1 0 (by kernel_rfl) (fun i_ hi_ => by
    match i_, hi_ with
    | 0, _ => exact ho_dyad_take_0 _ _ _ _ _ _
    | (q + 1), h => omega) ?_
  intro a k h
  unfold sp_q84 at h
  split at h
  · exact ⟨[], rfl, rfl, (eq_q84 _ _ _ _ _ _ _ _ _ _).trans h⟩
  · cases h

def an_q35 (N_ : Nat) (S_q65 : TS_q65) (S_q0 : TS_q0) : Nat -> Option Ann := fun b_ => none
theorem eq_q35 (N_ : Nat) (S_q65 : TS_q65) (S_q0 : TS_q0) (b : Bool) (b_1 : Bool) (b_2 : List Int) (c_ : V -> List Blk -> Bool) : bodyZ ⟨Pg, ofList [(171, (F_q65 S_q65)), (170, (F_q0 S_q0))], isref, N_⟩ (an_q35 N_ S_q65 S_q0) 131 (shF_q35.args [.bool b, .bool b_1, .ints b_2]) [⟨164, 1, .cells [.bool b, .nil]⟩, ⟨164, 1, .cells [.bool b_1, .roi .u64 b_2]⟩] c_ = G_q35 N_ S_q65 S_q0 b b_1 b_2 (fun r0 r1 => c_ (.ptr 0 0) [⟨164, 1, .cells [.bool r0, .roi .u64 r1]⟩, ⟨164, 1, .cells [.bool b_1, .roi .u64 b_2]⟩]) := by kernel_rfl
theorem good_q35 (N_ : Nat) (S_q65 : TS_q65) (S_q0 : TS_q0) (h_q65 : GoodF Pg 171 (F_q65 S_q65)) (h_q0 : GoodF Pg 170 (F_q0 S_q0)) : GoodF Pg 131 (F_q35 (G_q35 N_ S_q65 S_q0)) := by
  refine good_fsZ (cx := ⟨Pg, ofList [(171, (F_q65 S_q65)), (170, (F_q0 S_q0))], isref, N_⟩) (ofList_cons h_q65 (ofList_cons h_q0 (ofList_nil _))) shF_q35 (sp_q35 (G_q35 N_ S_q65 S_q0)) (an_q35 N_ S_q65 S_q0) 0 2 (by kernel_rfl) (fun i_ hi_ => by omega) ?_
  intro a k h
  unfold sp_q35 at h
  split at h
  · exact ⟨[_, _], rfl, rfl, (eq_q35 _ _ _ _ _ _ _).trans h⟩
  · cases h

def an_q58 (N_ : Nat) (S_q35 : TS_q35) (S_q2 : TS_q2) : Nat -> Option Ann := fun b_ => none
theorem eq_q58 (N_ : Nat) (S_q35 : TS_q35) (S_q2 : TS_q2) (x : Int) (y : Int) (b : Bool) (b_1 : List Int) (b_2 : Bool) (b_3 : List Int) (c_ : V -> List Blk -> Bool) : bodyV ⟨Pg, ofList [(131, (F_q35 S_q35)), (125, (F_q2 S_q2))], isref, N_⟩ (an_q58 N_ S_q35 S_q2) 130 (shF_q58.args [.int x, .int y, .bool b, .ints b_1, .bool b_2, .ints b_3]) [⟨164, 1, .cells [.bool b, .roi .u64 b_1]⟩, ⟨164, 1, .cells [.bool b_2, .roi .u64 b_3]⟩] c_ = G_q58 N_ S_q35 S_q2 x y b b_1 b_2 b_3 (fun r0 r5 r6 => c_ (.agg [.ptr 2 0, .int .i64 r0]) [⟨164, 1, .cells [.bool b, .roi .u64 b_1]⟩, ⟨164, 1, .cells [.bool b_2, .roi .u64 b_3]⟩, ⟨164, 1, .cells [.bool r5, .roi .u64 r6]⟩]) (c_ (.agg [.ptr 0 0, .int .i64 x]) [⟨164, 1, .cells [.bool b, .roi .u64 b_1]⟩, ⟨164, 1, .cells [.bool b_2, .roi .u64 b_3]⟩]) := by kernel_rfl
theorem good_q58 (N_ : Nat) (S_q35 : TS_q35) (S_q2 : TS_q2) (h_q35 : GoodF Pg 131 (F_q35 S_q35)) (h_q2 : GoodF Pg 125 (F_q2 S_q2)) : GoodF Pg 130 (F_q58 (G_q58 N_ S_q35 S_q2)) := by
  refine good_fs (cx := ⟨Pg, ofList [(131, (F_q35 S_q35)), (125, (F_q2 S_q2))], isref, N_⟩) (ofList_cons h_q35 (ofList_cons h_q2 (ofList_nil _))) shF_q58 (sp_q58 (G_q58 N_ S_q35 S_q2)) (an_q58 N_ S_q35 S_q2) 0 2 (by kernel_rfl) (fun i_ hi_ => by omega) ?_
  intro a k h
  unfold sp_q58 at h
  split at h
  · exact ⟨[_, _], rfl, rfl, (eq_q58 _ _ _ _ _ _ _ _ _ _).trans h⟩
  · cases h

def an_q92 (N_ : Nat) (S_q99 : TS_q99) (S_q84 : TS_q84) (S_q58 : TS_q58) (S_q10 : TS_q10) : Nat -> Option Ann := fun b_ => none
theorem eq_q92 (N_ : Nat) (S_q99 : TS_q99) (S_q84 : TS_q84) (S_q58 : TS_q58) (S_q10 : TS_q10) (a_0 : Bool) (a_1 : List Int) (a_2 : Int) (b_0 : Bool) (b_1 : List Int) (b_2 : Int) (c_ : V -> List Blk -> Bool) : bodyV ⟨Pg, ofList [(132, (F_q99 S_q99)), (133, (F_q84 S_q84)), (130, (F_q58 S_q58)), (128, (F_q10 S_q10))], isref, N_⟩ (an_q92 N_ S_q99 S_q84 S_q58 S_q10) 129 (shF_q92.args [.bool a_0, .ints a_1, .int a_2, .bool b_0, .ints b_1, .int b_2]) [] c_ = G_q92 N_ S_q99 S_q84 S_q58 S_q10 a_0 a_1 a_2 b_0 b_1 b_2 (fun r0 r1 r2 => c_ (.tup [.agg [.bool r0, .nil, .int .i64 r1], .int .i64 r2]) []) (fun r0 r1 r2 r3 => c_ (.tup [.agg [.bool r0, .slw 0, .int .i64 r1], .int .i64 r2]) [⟨127, 1, .ints .u32 r3⟩]) := by kernel_rfl
theorem good_q92 (N_ : Nat) (S_q99 : TS_q99) (S_q84 : TS_q84) (S_q58 : TS_q58) (S_q10 : TS_q10) (h_q99 : GoodF Pg 132 (F_q99 S_q99)) (h_q84 : GoodF Pg 133 (F_q84 S_q84)) (h_q58 : GoodF Pg 130 (F_q58 S_q58)) (h_q10 : GoodF Pg 128 (F_q10 S_q10)) : GoodF Pg 129 (F_q92 (G_q92 N_ S_q99 S_q84 S_q58 S_q10)) := by
  refine good_fs (cx := ⟨Pg, ofList [(132, (F_q99 S_q99)), (133, (F_q84 S_q84)), (130, (F_q58 S_q58)), (128, (F_q10 S_q10))], isref, N_⟩) (ofList_cons h_q99 (ofList_cons h_q84 (ofList_cons h_q58 (ofList_cons h_q10 (ofList_nil _))))) shF_q92 (sp_q92 (G_q92 N_ S_q99 S_q84 S_q58 S_q10)) (an_q92 N_ S_q99 S_q84 S_q58 S_q10) 0 0 (by kernel_rfl) (fun i_ hi_ => by omega) ?_
  intro a k h
  unfold sp_q92 at h
  split at h
  · exact ⟨[], rfl, rfl, (eq_q92 _ _ _ _ _ _ _ _ _ _ _ _).trans h⟩
  · cases h

def an_q68 (N_ : Nat) (S_q92 : TS_q92) : Nat -> Option Ann := fun b_ => none
theorem eq_q68 (N_ : Nat) (S_q92 : TS_q92) (a_0 : Bool) (a_1 : List Int) (a_2 : Int) (b_0 : Bool) (b_1 : List Int) (b_2 : Int) (c_ : V -> List Blk -> Bool) : bodyV ⟨Pg, ofList [(129, (F_q92 S_q92))], isref, N_⟩ (an_q68 N_ S_q92) 80 (shF_q68.args [.bool a_0, .ints a_1, .int a_2, .bool b_0, .ints b_1, .int b_2]) [] c_ = G_q68 N_ S_q92 a_0 a_1 a_2 b_0 b_1 b_2 (fun r0 r1 r2 => c_ (.tup [.agg [.bool r0, .nil, .int .i64 r1], .int .i64 r2]) []) (fun r0 r1 r2 r3 => c_ (.tup [.agg [.bool r0, .slw 0, .int .i64 r1], .int .i64 r2]) [⟨127, 1, .ints .u32 r3⟩]) := by kernel_rfl
theorem good_q68 (N_ : Nat) (S_q92 : TS_q92) (h_q92 : GoodF Pg 129 (F_q92 S_q92)) : GoodF Pg 80 (F_q68 (G_q68 N_ S_q92)) := by
  refine good_fs (cx := ⟨Pg, ofList [(129, (F_q92 S_q92))], isref, N_⟩) (ofList_cons h_q92 (ofList_nil _)) shF_q68 (sp_q68 (G_q68 N_ S_q92)) (an_q68 N_ S_q92) 0 0 (by kernel_rfl) (fun i_ hi_ => by omega) ?_
  intro a k h
  unfold sp_q68 at h
  split at h
  · exact ⟨[], rfl, rfl, (eq_q68 _ _ _ _ _ _ _ _ _).trans h⟩
  · cases h

def an_q33 (N_ : Nat) (S_q99 : TS_q99) (S_q84 : TS_q84) (S_q35 : TS_q35) (S_q2 : TS_q2) (S_q3 : TS_q3) : Nat -> Option Ann := fun b_ => none
theorem eq_q33 (N_ : Nat) (S_q99 : TS_q99) (S_q84 : TS_q84) (S_q35 : TS_q35) (S_q2 : TS_q2) (S_q3 : TS_q3) (a_0 : Bool) (a_1 : List Int) (a_2 : Int) (b_0 : Bool) (b_1 : List Int) (b_2 : Int) (c_ : V -> List Blk -> Bool) : bodyV ⟨Pg, ofList [(132, (F_q99 S_q99)), (133, (F_q84 S_q84)), (131, (F_q35 S_q35)), (125, (F_q2 S_q2)), (134, (F_q3 S_q3))], isref, N_⟩ (an_q33 N_ S_q99 S_q84 S_q35 S_q2 S_q3) 81 (shF_q33.args [.bool a_0, .ints a_1, .int a_2, .bool b_0, .ints b_1, .int b_2]) [] c_ = G_q33 N_ S_q99 S_q84 S_q35 S_q2 S_q3 a_0 a_1 a_2 b_0 b_1 b_2 (fun r0 r1 => c_ (.tup [.int .i64 r0, .int .i64 r1]) []) := by kernel_rfl
theorem good_q33 (N_ : Nat) (S_q99 : TS_q99) (S_q84 : TS_q84) (S_q35 : TS_q35) (S_q2 : TS_q2) (S_q3 : TS_q3) (h_q99 : GoodF Pg 132 (F_q99 S_q99)) (h_q84 : GoodF Pg 133 (F_q84 S_q84)) (h_q35 : GoodF Pg 131 (F_q35 S_q35)) (h_q2 : GoodF Pg 125 (F_q2 S_q2)) (h_q3 : GoodF Pg 134 (F_q3 S_q3)) : GoodF Pg 81 (F_q33 (G_q33 N_ S_q99 S_q84 S_q35 S_q2 S_q3)) := by
  refine good_fs (cx := ⟨Pg, ofList [(132, (F_q99 S_q99)), (133, (F_q84 S_q84)), (131, (F_q35 S_q35)), (125, (F_q2 S_q2)), (134, (F_q3 S_q3))], isref, N_⟩) (ofList_cons h_q99 (ofList_cons h_q84 (ofList_cons h_q35 (ofList_cons h_q2 (ofList_cons h_q3 (ofList_nil _)))))) shF_q33 (sp_q33 (G_q33 N_ S_q99 S_q84 S_q35 S_q2 S_q3)) (an_q33 N_ S_q99 S_q84 S_q35 S_q2 S_q3) 0 0 (by kernel_rfl) (fun i_ hi_ => by omega) ?_
  intro a k h
  unfold sp_q33 at h
  split at h
  · exact ⟨[], rfl, rfl, (eq_q33 _ _ _ _ _ _ _ _ _ _ _ _ _).trans h⟩
  · cases h

def an_q94 (N_ : Nat) (S_q7 : TS_q7) (S_q46 : TS_q46) (S_q67 : TS_q67) (S_q68 : TS_q68) (S_q33 : TS_q33) : Nat -> Option Ann := fun b_ => none
def ls_q158 (d_ : List V) (u_ : List (Option Blk)) (q_0 : Fl) (q_1 : Fl) (q_2 : Fl) (q_3 : Fl) (b7 : List Int) (off_6 : Bool) (off_7 : Int) : St := ⟨(dqs d_ 0 7 [.ptr 8 0, (dq d_ 7), (dq d_ 8), (dq d_ 9), (dq d_ 10), (dq d_ 11), (dq d_ 12), (dq d_ 13), (dq d_ 14), (dq d_ 15), (dq d_ 16), (dq d_ 17), (dq d_ 18), (dq d_ 19), (dq d_ 20), (dq d_ 21), (dq d_ 22), (dq d_ 23), (dq d_ 24), (dq d_ 25), (dq d_ 26), (dq d_ 27), (dq d_ 28), (dq d_ 29), (dq d_ 30), (dq d_ 31), (dq d_ 32), (dq d_ 33), (dq d_ 34), (dq d_ 35), (dq d_ 36), (dq d_ 37), (dq d_ 38), (dq d_ 39), (dq d_ 40), (dq d_ 41), (dq d_ 42), (dq d_ 43), (dq d_ 44), (dq d_ 45)]), [(u_.getD 0 none), (u_.getD 1 none), (u_.getD 2 none), (u_.getD 3 none), (u_.getD 4 none), (u_.getD 5 none), (u_.getD 6 none), some ⟨127, 1, .ints .u32 b7⟩, some ⟨124, 1, .cells [.bool off_6, .slw 7, .int .i64 off_7]⟩]⟩
def ls_q157 (d_ : List V) (u_ : List (Option Blk)) (q_0 : Fl) (q_1 : Fl) (q_2 : Fl) (q_3 : Fl) (off_4 : Bool) (off_5 : Int) : St := ⟨(dqs d_ 0 7 [.ptr 7 0, (dq d_ 7), (dq d_ 8), (dq d_ 9), (dq d_ 10), (dq d_ 11), (dq d_ 12), (dq d_ 13), (dq d_ 14), (dq d_ 15), (dq d_ 16), (dq d_ 17), (dq d_ 18), (dq d_ 19), (dq d_ 20), (dq d_ 21), (dq d_ 22), (dq d_ 23), (dq d_ 24), (dq d_ 25), (dq d_ 26), (dq d_ 27), (dq d_ 28), (dq d_ 29), (dq d_ 30), (dq d_ 31), (dq d_ 32), (dq d_ 33), (dq d_ 34), (dq d_ 35), (dq d_ 36), (dq d_ 37), (dq d_ 38), (dq d_ 39), (dq d_ 40), (dq d_ 41), (dq d_ 42), (dq d_ 43), (dq d_ 44), (dq d_ 45)]), [(u_.getD 0 none), (u_.getD 1 none), (u_.getD 2 none), (u_.getD 3 none), (u_.getD 4 none), (u_.getD 5 none), (u_.getD 6 none), some ⟨124, 1, .cells [.bool off_4, .nil, .int .i64 off_5]⟩]⟩
def ls_q149 (d_ : List V) (u_ : List (Option Blk)) (q_0 : Fl) (q_1 : Fl) (q_2 : Fl) (q_3 : Fl) (b3 : List Int) (n_2 : Bool) (n_3 : Int) : St := ⟨(dqs d_ 0 4 [.ptr 4 0, (dq d_ 4), (dq d_ 5), (dq d_ 6), (dq d_ 7), (dq d_ 8), (dq d_ 9), (dq d_ 10), (dq d_ 11), (dq d_ 12), (dq d_ 13), (dq d_ 14), (dq d_ 15), (dq d_ 16), (dq d_ 17), (dq d_ 18), (dq d_ 19), (dq d_ 20), (dq d_ 21), (dq d_ 22), (dq d_ 23), (dq d_ 24), (dq d_ 25), (dq d_ 26), (dq d_ 27), (dq d_ 28), (dq d_ 29), (dq d_ 30), (dq d_ 31), (dq d_ 32), (dq d_ 33), (dq d_ 34), (dq d_ 35), (dq d_ 36), (dq d_ 37), (dq d_ 38), (dq d_ 39), (dq d_ 40), (dq d_ 41), (dq d_ 42), (dq d_ 43), (dq d_ 44), (dq d_ 45)]), [(u_.getD 0 none), (u_.getD 1 none), (u_.getD 2 none), some ⟨127, 1, .ints .u32 b3⟩, some ⟨124, 1, .cells [.bool n_2, .slw 3, .int .i64 n_3]⟩]⟩
def ls_q156 (d_ : List V) (u_ : List (Option Blk)) (q_0 : Fl) (q_1 : Fl) (q_2 : Fl) (q_3 : Fl) (b6 : List Int) (off_2 : Bool) (off_3 : Int) : St := ⟨(dqs d_ 0 7 [.ptr 7 0, (dq d_ 7), (dq d_ 8), (dq d_ 9), (dq d_ 10), (dq d_ 11), (dq d_ 12), (dq d_ 13), (dq d_ 14), (dq d_ 15), (dq d_ 16), (dq d_ 17), (dq d_ 18), (dq d_ 19), (dq d_ 20), (dq d_ 21), (dq d_ 22), (dq d_ 23), (dq d_ 24), (dq d_ 25), (dq d_ 26), (dq d_ 27), (dq d_ 28), (dq d_ 29), (dq d_ 30), (dq d_ 31), (dq d_ 32), (dq d_ 33), (dq d_ 34), (dq d_ 35), (dq d_ 36), (dq d_ 37), (dq d_ 38), (dq d_ 39), (dq d_ 40), (dq d_ 41), (dq d_ 42), (dq d_ 43), (dq d_ 44), (dq d_ 45)]), [(u_.getD 0 none), (u_.getD 1 none), (u_.getD 2 none), (u_.getD 3 none), (u_.getD 4 none), (u_.getD 5 none), some ⟨127, 1, .ints .u32 b6⟩, some ⟨124, 1, .cells [.bool off_2, .slw 6, .int .i64 off_3]⟩]⟩
def ls_q155 (d_ : List V) (u_ : List (Option Blk)) (q_0 : Fl) (q_1 : Fl) (q_2 : Fl) (q_3 : Fl) (off : Bool) (off_1 : Int) : St := ⟨(dqs d_ 0 7 [.ptr 6 0, (dq d_ 7), (dq d_ 8), (dq d_ 9), (dq d_ 10), (dq d_ 11), (dq d_ 12), (dq d_ 13), (dq d_ 14), (dq d_ 15), (dq d_ 16), (dq d_ 17), (dq d_ 18), (dq d_ 19), (dq d_ 20), (dq d_ 21), (dq d_ 22), (dq d_ 23), (dq d_ 24), (dq d_ 25), (dq d_ 26), (dq d_ 27), (dq d_ 28), (dq d_ 29), (dq d_ 30), (dq d_ 31), (dq d_ 32), (dq d_ 33), (dq d_ 34), (dq d_ 35), (dq d_ 36), (dq d_ 37), (dq d_ 38), (dq d_ 39), (dq d_ 40), (dq d_ 41), (dq d_ 42), (dq d_ 43), (dq d_ 44), (dq d_ 45)]), [(u_.getD 0 none), (u_.getD 1 none), (u_.getD 2 none), (u_.getD 3 none), (u_.getD 4 none), (u_.getD 5 none), some ⟨124, 1, .cells [.bool off, .nil, .int .i64 off_1]⟩]⟩
def ls_q148 (d_ : List V) (u_ : List (Option Blk)) (q_0 : Fl) (q_1 : Fl) (q_2 : Fl) (q_3 : Fl) (n : Bool) (n_1 : Int) : St := ⟨(dqs d_ 0 4 [.ptr 3 0, (dq d_ 4), (dq d_ 5), (dq d_ 6), (dq d_ 7), (dq d_ 8), (dq d_ 9), (dq d_ 10), (dq d_ 11), (dq d_ 12), (dq d_ 13), (dq d_ 14), (dq d_ 15), (dq d_ 16), (dq d_ 17), (dq d_ 18), (dq d_ 19), (dq d_ 20), (dq d_ 21), (dq d_ 22), (dq d_ 23), (dq d_ 24), (dq d_ 25), (dq d_ 26), (dq d_ 27), (dq d_ 28), (dq d_ 29), (dq d_ 30), (dq d_ 31), (dq d_ 32), (dq d_ 33), (dq d_ 34), (dq d_ 35), (dq d_ 36), (dq d_ 37), (dq d_ 38), (dq d_ 39), (dq d_ 40), (dq d_ 41), (dq d_ 42), (dq d_ 43), (dq d_ 44), (dq d_ 45)]), [(u_.getD 0 none), (u_.getD 1 none), (u_.getD 2 none), some ⟨124, 1, .cells [.bool n, .nil, .int .i64 n_1]⟩]⟩
theorem jn_q158 (N_ : Nat) (S_q7 : TS_q7) (S_q46 : TS_q46) (S_q67 : TS_q67) (S_q68 : TS_q68) (S_q33 : TS_q33) (d_ : List V) (u_ : List (Option Blk)) (q_0 : Fl) (q_1 : Fl) (q_2 : Fl) (q_3 : Fl) (b7 : List Int) (off_6 : Bool) (off_7 : Int) (c_ : V -> List Blk -> Bool) : codesV ⟨Pg, ofList [(56, (F_q7 S_q7)), (68, (F_q46 S_q46)), (79, (F_q67 S_q67)), (80, (F_q68 S_q68)), (81, (F_q33 S_q33))], isref, N_⟩ 0 (an_q94 N_ S_q7 S_q46 S_q67 S_q68 S_q33) ((cds Pg 21).drop 11) 0 (ls_q158 d_ u_ q_0 q_1 q_2 q_3 b7 off_6 off_7) (finV Pg 21 0 c_) = J_q158 N_ S_q7 S_q46 S_q67 S_q68 S_q33 q_0 q_1 q_2 q_3 b7 off_6 off_7 (fun r0 => c_ (.bool r0) []) := by kernel_rfl
theorem jn_q157 (N_ : Nat) (S_q7 : TS_q7) (S_q46 : TS_q46) (S_q67 : TS_q67) (S_q68 : TS_q68) (S_q33 : TS_q33) (d_ : List V) (u_ : List (Option Blk)) (q_0 : Fl) (q_1 : Fl) (q_2 : Fl) (q_3 : Fl) (off_4 : Bool) (off_5 : Int) (c_ : V -> List Blk -> Bool) : codesV ⟨Pg, ofList [(56, (F_q7 S_q7)), (68, (F_q46 S_q46)), (79, (F_q67 S_q67)), (80, (F_q68 S_q68)), (81, (F_q33 S_q33))], isref, N_⟩ 0 (an_q94 N_ S_q7 S_q46 S_q67 S_q68 S_q33) ((cds Pg 21).drop 11) 0 (ls_q157 d_ u_ q_0 q_1 q_2 q_3 off_4 off_5) (finV Pg 21 0 c_) = J_q157 N_ S_q7 S_q46 S_q67 S_q68 S_q33 q_0 q_1 q_2 q_3 off_4 off_5 (fun r0 => c_ (.bool r0) []) := by kernel_rfl
theorem hd_q149 (N_ : Nat) (S_q7 : TS_q7) (S_q46 : TS_q46) (S_q67 : TS_q67) (S_q68 : TS_q68) (S_q33 : TS_q33) (d_ : List V) (u_ : List (Option Blk)) (q_0 : Fl) (q_1 : Fl) (q_2 : Fl) (q_3 : Fl) (b3 : List Int) (n_2 : Bool) (n_3 : Int) (c_ : V -> List Blk -> Bool) (κn_ : St -> Bool) : codesV ⟨Pg, ofList [(56, (F_q7 S_q7)), (68, (F_q46 S_q46)), (79, (F_q67 S_q67)), (80, (F_q68 S_q68)), (81, (F_q33 S_q33))], isref, N_⟩ 0 (an_q94 N_ S_q7 S_q46 S_q67 S_q68 S_q33) (sg Pg 21 7 4) 0 (ls_q149 d_ u_ q_0 q_1 q_2 q_3 b3 n_2 n_3) { (finV Pg 21 0 c_) with nrm := κn_ } = (S_q68 n_2 b3 n_3 false [1] 0 (fun cr_5 nr_12 nr_13 => (cond (nr_13 != 0) (c_ (.bool false) []) (κn_ (ls_q157 (dqs d_ 0 4 [.ptr 4 0, .int .i64 nr_13, .ptr 6 0, (dq d_ 7), (dq d_ 8), (dq d_ 9), (dq d_ 10), (dq d_ 11), (dq d_ 12), (dq d_ 13), (dq d_ 14), (dq d_ 15), (dq d_ 16), (dq d_ 17), (dq d_ 18), (dq d_ 19), (dq d_ 20), (dq d_ 21), .slw 5, .agg [.bool false, .slw 5, .int .i64 0], .tup [.agg [.bool cr_5, .nil, .int .i64 nr_12], .int .i64 nr_13], .agg [.bool n_2, .slw 3, .int .i64 n_3], .agg [.bool false, .slw 5, .int .i64 0], .tup [.agg [.bool cr_5, .nil, .int .i64 nr_12], .int .i64 nr_13], .agg [.bool cr_5, .nil, .int .i64 nr_12], .int .i64 nr_13, .int .i64 nr_13, .bool false, (dq d_ 32), (dq d_ 33), (dq d_ 34), (dq d_ 35), (dq d_ 36), (dq d_ 37), (dq d_ 38), (dq d_ 39), (dq d_ 40), (dq d_ 41), (dq d_ 42), (dq d_ 43), (dq d_ 44), (dq d_ 45)]) [(u_.getD 0 none), (u_.getD 1 none), (u_.getD 2 none), some ⟨127, 1, .ints .u32 b3⟩, some ⟨124, 1, .cells [.bool n_2, .slw 3, .int .i64 n_3]⟩, some ⟨127, 1, .ints .u32 [1]⟩, some ⟨124, 1, .cells [.bool false, .slw 5, .int .i64 0]⟩] q_0 q_1 q_2 q_3 cr_5 nr_12)))) (fun cr_6 nr_14 nr_15 nsr_2 => (cond (nr_15 != 0) (c_ (.bool false) []) (κn_ (ls_q158 (dqs d_ 0 4 [.ptr 4 0, .int .i64 nr_15, .ptr 6 0, (dq d_ 7), (dq d_ 8), (dq d_ 9), (dq d_ 10), (dq d_ 11), (dq d_ 12), (dq d_ 13), (dq d_ 14), (dq d_ 15), (dq d_ 16), (dq d_ 17), (dq d_ 18), (dq d_ 19), (dq d_ 20), (dq d_ 21), .slw 5, .agg [.bool false, .slw 5, .int .i64 0], .tup [.agg [.bool cr_6, .slw 7, .int .i64 nr_14], .int .i64 nr_15], .agg [.bool n_2, .slw 3, .int .i64 n_3], .agg [.bool false, .slw 5, .int .i64 0], .tup [.agg [.bool cr_6, .slw 7, .int .i64 nr_14], .int .i64 nr_15], .agg [.bool cr_6, .slw 7, .int .i64 nr_14], .int .i64 nr_15, .int .i64 nr_15, .bool false, (dq d_ 32), (dq d_ 33), (dq d_ 34), (dq d_ 35), (dq d_ 36), (dq d_ 37), (dq d_ 38), (dq d_ 39), (dq d_ 40), (dq d_ 41), (dq d_ 42), (dq d_ 43), (dq d_ 44), (dq d_ 45)]) [(u_.getD 0 none), (u_.getD 1 none), (u_.getD 2 none), some ⟨127, 1, .ints .u32 b3⟩, some ⟨124, 1, .cells [.bool n_2, .slw 3, .int .i64 n_3]⟩, some ⟨127, 1, .ints .u32 [1]⟩, some ⟨124, 1, .cells [.bool false, .slw 5, .int .i64 0]⟩] q_0 q_1 q_2 q_3 nsr_2 cr_6 nr_14))))) := by kernel_rfl
theorem jn_q149 (N_ : Nat) (S_q7 : TS_q7) (S_q46 : TS_q46) (S_q67 : TS_q67) (S_q68 : TS_q68) (S_q33 : TS_q33) (d_ : List V) (u_ : List (Option Blk)) (q_0 : Fl) (q_1 : Fl) (q_2 : Fl) (q_3 : Fl) (b3 : List Int) (n_2 : Bool) (n_3 : Int) (c_ : V -> List Blk -> Bool) : codesV ⟨Pg, ofList [(56, (F_q7 S_q7)), (68, (F_q46 S_q46)), (79, (F_q67 S_q67)), (80, (F_q68 S_q68)), (81, (F_q33 S_q33))], isref, N_⟩ 0 (an_q94 N_ S_q7 S_q46 S_q67 S_q68 S_q33) ((cds Pg 21).drop 7) 0 (ls_q149 d_ u_ q_0 q_1 q_2 q_3 b3 n_2 n_3) (finV Pg 21 0 c_) = J_q149 N_ S_q7 S_q46 S_q67 S_q68 S_q33 q_0 q_1 q_2 q_3 b3 n_2 n_3 (fun r0 => c_ (.bool r0) []) := by
  rw [codesV_cut 7 4 11 rfl]
  refine (hd_q149 N_ S_q7 S_q46 S_q67 S_q68 S_q33 d_ u_ q_0 q_1 q_2 q_3 b3 n_2 n_3 c_ _).trans ?_
  simp only [jn_q157, jn_q158]
  kernel_rfl
theorem jn_q156 (N_ : Nat) (S_q7 : TS_q7) (S_q46 : TS_q46) (S_q67 : TS_q67) (S_q68 : TS_q68) (S_q33 : TS_q33) (d_ : List V) (u_ : List (Option Blk)) (q_0 : Fl) (q_1 : Fl) (q_2 : Fl) (q_3 : Fl) (b6 : List Int) (off_2 : Bool) (off_3 : Int) (c_ : V -> List Blk -> Bool) : codesV ⟨Pg, ofList [(56, (F_q7 S_q7)), (68, (F_q46 S_q46)), (79, (F_q67 S_q67)), (80, (F_q68 S_q68)), (81, (F_q33 S_q33))], isref, N_⟩ 0 (an_q94 N_ S_q7 S_q46 S_q67 S_q68 S_q33) ((cds Pg 21).drop 11) 0 (ls_q156 d_ u_ q_0 q_1 q_2 q_3 b6 off_2 off_3) (finV Pg 21 0 c_) = J_q156 N_ S_q7 S_q46 S_q67 S_q68 S_q33 q_0 q_1 q_2 q_3 b6 off_2 off_3 (fun r0 => c_ (.bool r0) []) := by kernel_rfl
theorem jn_q155 (N_ : Nat) (S_q7 : TS_q7) (S_q46 : TS_q46) (S_q67 : TS_q67) (S_q68 : TS_q68) (S_q33 : TS_q33) (d_ : List V) (u_ : List (Option Blk)) (q_0 : Fl) (q_1 : Fl) (q_2 : Fl) (q_3 : Fl) (off : Bool) (off_1 : Int) (c_ : V -> List Blk -> Bool) : codesV ⟨Pg, ofList [(56, (F_q7 S_q7)), (68, (F_q46 S_q46)), (79, (F_q67 S_q67)), (80, (F_q68 S_q68)), (81, (F_q33 S_q33))], isref, N_⟩ 0 (an_q94 N_ S_q7 S_q46 S_q67 S_q68 S_q33) ((cds Pg 21).drop 11) 0 (ls_q155 d_ u_ q_0 q_1 q_2 q_3 off off_1) (finV Pg 21 0 c_) = J_q155 N_ S_q7 S_q46 S_q67 S_q68 S_q33 q_0 q_1 q_2 q_3 off off_1 (fun r0 => c_ (.bool r0) []) := by kernel_rfl
theorem hd_q148 (N_ : Nat) (S_q7 : TS_q7) (S_q46 : TS_q46) (S_q67 : TS_q67) (S_q68 : TS_q68) (S_q33 : TS_q33) (d_ : List V) (u_ : List (Option Blk)) (q_0 : Fl) (q_1 : Fl) (q_2 : Fl) (q_3 : Fl) (n : Bool) (n_1 : Int) (c_ : V -> List Blk -> Bool) (κn_ : St -> Bool) : codesV ⟨Pg, ofList [(56, (F_q7 S_q7)), (68, (F_q46 S_q46)), (79, (F_q67 S_q67)), (80, (F_q68 S_q68)), (81, (F_q33 S_q33))], isref, N_⟩ 0 (an_q94 N_ S_q7 S_q46 S_q67 S_q68 S_q33) (sg Pg 21 7 4) 0 (ls_q148 d_ u_ q_0 q_1 q_2 q_3 n n_1) { (finV Pg 21 0 c_) with nrm := κn_ } = (S_q68 n [] n_1 false [1] 0 (fun cr_3 nr_4 nr_5 => (cond (nr_5 != 0) (c_ (.bool false) []) (κn_ (ls_q155 (dqs d_ 0 4 [.ptr 3 0, .int .i64 nr_5, .ptr 5 0, (dq d_ 7), (dq d_ 8), (dq d_ 9), (dq d_ 10), (dq d_ 11), (dq d_ 12), (dq d_ 13), (dq d_ 14), (dq d_ 15), (dq d_ 16), (dq d_ 17), (dq d_ 18), (dq d_ 19), (dq d_ 20), (dq d_ 21), .slw 4, .agg [.bool false, .slw 4, .int .i64 0], .tup [.agg [.bool cr_3, .nil, .int .i64 nr_4], .int .i64 nr_5], .agg [.bool n, .nil, .int .i64 n_1], .agg [.bool false, .slw 4, .int .i64 0], .tup [.agg [.bool cr_3, .nil, .int .i64 nr_4], .int .i64 nr_5], .agg [.bool cr_3, .nil, .int .i64 nr_4], .int .i64 nr_5, .int .i64 nr_5, .bool false, (dq d_ 32), (dq d_ 33), (dq d_ 34), (dq d_ 35), (dq d_ 36), (dq d_ 37), (dq d_ 38), (dq d_ 39), (dq d_ 40), (dq d_ 41), (dq d_ 42), (dq d_ 43), (dq d_ 44), (dq d_ 45)]) [(u_.getD 0 none), (u_.getD 1 none), (u_.getD 2 none), some ⟨124, 1, .cells [.bool n, .nil, .int .i64 n_1]⟩, some ⟨127, 1, .ints .u32 [1]⟩, some ⟨124, 1, .cells [.bool false, .slw 4, .int .i64 0]⟩] q_0 q_1 q_2 q_3 cr_3 nr_4)))) (fun cr_4 nr_6 nr_7 nsr_1 => (cond (nr_7 != 0) (c_ (.bool false) []) (κn_ (ls_q156 (dqs d_ 0 4 [.ptr 3 0, .int .i64 nr_7, .ptr 5 0, (dq d_ 7), (dq d_ 8), (dq d_ 9), (dq d_ 10), (dq d_ 11), (dq d_ 12), (dq d_ 13), (dq d_ 14), (dq d_ 15), (dq d_ 16), (dq d_ 17), (dq d_ 18), (dq d_ 19), (dq d_ 20), (dq d_ 21), .slw 4, .agg [.bool false, .slw 4, .int .i64 0], .tup [.agg [.bool cr_4, .slw 6, .int .i64 nr_6], .int .i64 nr_7], .agg [.bool n, .nil, .int .i64 n_1], .agg [.bool false, .slw 4, .int .i64 0], .tup [.agg [.bool cr_4, .slw 6, .int .i64 nr_6], .int .i64 nr_7], .agg [.bool cr_4, .slw 6, .int .i64 nr_6], .int .i64 nr_7, .int .i64 nr_7, .bool false, (dq d_ 32), (dq d_ 33), (dq d_ 34), (dq d_ 35), (dq d_ 36), (dq d_ 37), (dq d_ 38), (dq d_ 39), (dq d_ 40), (dq d_ 41), (dq d_ 42), (dq d_ 43), (dq d_ 44), (dq d_ 45)]) [(u_.getD 0 none), (u_.getD 1 none), (u_.getD 2 none), some ⟨124, 1, .cells [.bool n, .nil, .int .i64 n_1]⟩, some ⟨127, 1, .ints .u32 [1]⟩, some ⟨124, 1, .cells [.bool false, .slw 4, .int .i64 0]⟩] q_0 q_1 q_2 q_3 nsr_1 cr_4 nr_6))))) := by kernel_rfl
theorem jn_q148 (N_ : Nat) (S_q7 : TS_q7) (S_q46 : TS_q46) (S_q67 : TS_q67) (S_q68 : TS_q68) (S_q33 : TS_q33) (d_ : List V) (u_ : List (Option Blk)) (q_0 : Fl) (q_1 : Fl) (q_2 : Fl) (q_3 : Fl) (n : Bool) (n_1 : Int) (c_ : V -> List Blk -> Bool) : codesV ⟨Pg, ofList [(56, (F_q7 S_q7)), (68, (F_q46 S_q46)), (79, (F_q67 S_q67)), (80, (F_q68 S_q68)), (81, (F_q33 S_q33))], isref, N_⟩ 0 (an_q94 N_ S_q7 S_q46 S_q67 S_q68 S_q33) ((cds Pg 21).drop 7) 0 (ls_q148 d_ u_ q_0 q_1 q_2 q_3 n n_1) (finV Pg 21 0 c_) = J_q148 N_ S_q7 S_q46 S_q67 S_q68 S_q33 q_0 q_1 q_2 q_3 n n_1 (fun r0 => c_ (.bool r0) []) := by
  rw [codesV_cut 7 4 11 rfl]
  refine (hd_q148 N_ S_q7 S_q46 S_q67 S_q68 S_q33 d_ u_ q_0 q_1 q_2 q_3 n n_1 c_ _).trans ?_
  simp only [jn_q155, jn_q156]
  kernel_rfl
theorem hd_quat_Good_w (N_ : Nat) (S_q7 : TS_q7) (S_q46 : TS_q46) (S_q67 : TS_q67) (S_q68 : TS_q68) (S_q33 : TS_q33) (q_0 : Fl) (q_1 : Fl) (q_2 : Fl) (q_3 : Fl) (c_ : V -> List Blk -> Bool) (κn_ : St -> Bool) : codesV ⟨Pg, ofList [(56, (F_q7 S_q7)), (68, (F_q46 S_q46)), (79, (F_q67 S_q67)), (80, (F_q68 S_q68)), (81, (F_q33 S_q33))], isref, N_⟩ 0 (an_q94 N_ S_q7 S_q46 S_q67 S_q68 S_q33) (sg Pg 21 0 7) 0 (st0 Pg 21 (shF_q94.args [.fl q_0, .fl q_1, .fl q_2, .fl q_3]) []) { (finV Pg 21 0 c_) with nrm := κn_ } = (S_q7 q_0 q_1 q_2 q_3 (fun cr => (cond (!cr) (c_ (.bool false) []) (S_q46 q_0 q_1 q_2 q_3 (S_q67 [q_0, q_1, q_2, q_3] [q_0, q_1, q_2, q_3] (fun cr_1 nr nr_1 => (cond (nr_1 != 0) (c_ (.bool false) []) (κn_ (ls_q148 [.agg [.flt q_0, .flt q_1, .flt q_2, .flt q_3], .ptr 0 0, .bool false, .ptr 2 0, .int .i64 nr_1, .any, .any, .any, .agg [.flt q_0, .flt q_1, .flt q_2, .flt q_3], .slw 1, .bool cr, .bool false, .agg [.flt q_0, .flt q_1, .flt q_2, .flt q_3], .agg [.flt q_0, .flt q_1, .flt q_2, .flt q_3], .tup [.agg [.bool cr_1, .nil, .int .i64 nr], .int .i64 nr_1], .sl 2 0 (4 - 0), .sl 2 0 (4 - 0), .tup [.agg [.bool cr_1, .nil, .int .i64 nr], .int .i64 nr_1], .agg [.bool cr_1, .nil, .int .i64 nr], .int .i64 nr_1, .int .i64 nr_1, .bool false, .any, .any, .any, .any, .any, .any, .any, .any, .any, .any, .any, .any, .any, .any, .any, .any, .any, .any, .any, .any, .any, .any, .any, .any] [some ⟨26, 1, .cells [.flt q_0, .flt q_1, .flt q_2, .flt q_3]⟩, some ⟨26, 4, .cells [.flt q_0, .flt q_1, .flt q_2, .flt q_3]⟩, some ⟨113, 1, .flts [q_0, q_1, q_2, q_3]⟩] q_0 q_1 q_2 q_3 cr_1 nr)))) (fun cr_2 nr_2 nr_3 nsr => (cond (nr_3 != 0) (c_ (.bool false) []) (κn_ (ls_q149 [.agg [.flt q_0, .flt q_1, .flt q_2, .flt q_3], .ptr 0 0, .bool false, .ptr 2 0, .int .i64 nr_3, .any, .any, .any, .agg [.flt q_0, .flt q_1, .flt q_2, .flt q_3], .slw 1, .bool cr, .bool false, .agg [.flt q_0, .flt q_1, .flt q_2, .flt q_3], .agg [.flt q_0, .flt q_1, .flt q_2, .flt q_3], .tup [.agg [.bool cr_2, .slw 3, .int .i64 nr_2], .int .i64 nr_3], .sl 2 0 (4 - 0), .sl 2 0 (4 - 0), .tup [.agg [.bool cr_2, .slw 3, .int .i64 nr_2], .int .i64 nr_3], .agg [.bool cr_2, .slw 3, .int .i64 nr_2], .int .i64 nr_3, .int .i64 nr_3, .bool false, .any, .any, .any, .any, .any, .any, .any, .any, .any, .any, .any, .any, .any, .any, .any, .any, .any, .any, .any, .any, .any, .any, .any, .any] [some ⟨26, 1, .cells [.flt q_0, .flt q_1, .flt q_2, .flt q_3]⟩, some ⟨26, 4, .cells [.flt q_0, .flt q_1, .flt q_2, .flt q_3]⟩, some ⟨113, 1, .flts [q_0, q_1, q_2, q_3]⟩] q_0 q_1 q_2 q_3 nsr cr_2 nr_2))))))))) := by kernel_rfl
theorem jn_quat_Good_w (N_ : Nat) (S_q7 : TS_q7) (S_q46 : TS_q46) (S_q67 : TS_q67) (S_q68 : TS_q68) (S_q33 : TS_q33) (q_0 : Fl) (q_1 : Fl) (q_2 : Fl) (q_3 : Fl) (c_ : V -> List Blk -> Bool) : codesV ⟨Pg, ofList [(56, (F_q7 S_q7)), (68, (F_q46 S_q46)), (79, (F_q67 S_q67)), (80, (F_q68 S_q68)), (81, (F_q33 S_q33))], isref, N_⟩ 0 (an_q94 N_ S_q7 S_q46 S_q67 S_q68 S_q33) ((cds Pg 21).drop 0) 0 (st0 Pg 21 (shF_q94.args [.fl q_0, .fl q_1, .fl q_2, .fl q_3]) []) (finV Pg 21 0 c_) = G_q94 N_ S_q7 S_q46 S_q67 S_q68 S_q33 q_0 q_1 q_2 q_3 (fun r0 => c_ (.bool r0) []) := by
  rw [codesV_cut 0 7 7 rfl]
  refine (hd_quat_Good_w N_ S_q7 S_q46 S_q67 S_q68 S_q33 q_0 q_1 q_2 q_3 c_ _).trans ?_
  simp only [jn_q148, jn_q149]
  kernel_rfl
theorem eq_q94 (N_ : Nat) (S_q7 : TS_q7) (S_q46 : TS_q46) (S_q67 : TS_q67) (S_q68 : TS_q68) (S_q33 : TS_q33) (q_0 : Fl) (q_1 : Fl) (q_2 : Fl) (q_3 : Fl) (c_ : V -> List Blk -> Bool) : bodyV ⟨Pg, ofList [(56, (F_q7 S_q7)), (68, (F_q46 S_q46)), (79, (F_q67 S_q67)), (80, (F_q68 S_q68)), (81, (F_q33 S_q33))], isref, N_⟩ (an_q94 N_ S_q7 S_q46 S_q67 S_q68 S_q33) 21 (shF_q94.args [.fl q_0, .fl q_1, .fl q_2, .fl q_3]) [] c_ = G_q94 N_ S_q7 S_q46 S_q67 S_q68 S_q33 q_0 q_1 q_2 q_3 (fun r0 => c_ (.bool r0) []) :=
  (bodyV_codes (by kernel_rfl)).trans (jn_quat_Good_w N_ S_q7 S_q46 S_q67 S_q68 S_q33 q_0 q_1 q_2 q_3 c_)
theorem good_q94 (N_ : Nat) (S_q7 : TS_q7) (S_q46 : TS_q46) (S_q67 : TS_q67) (S_q68 : TS_q68) (S_q33 : TS_q33) (h_q7 : GoodF Pg 56 (F_q7 S_q7)) (h_q46 : GoodF Pg 68 (F_q46 S_q46)) (h_q67 : GoodF Pg 79 (F_q67 S_q67)) (h_q68 : GoodF Pg 80 (F_q68 S_q68)) (h_q33 : GoodF Pg 81 (F_q33 S_q33)) : GoodF Pg 21 (F_q94 (G_q94 N_ S_q7 S_q46 S_q67 S_q68 S_q33)) := by
  refine good_fs (cx := ⟨Pg, ofList [(56, (F_q7 S_q7)), (68, (F_q46 S_q46)), (79, (F_q67 S_q67)), (80, (F_q68 S_q68)), (81, (F_q33 S_q33))], isref, N_⟩) (ofList_cons h_q7 (ofList_cons h_q46 (ofList_cons h_q67 (ofList_cons h_q68 (ofList_cons h_q33 (ofList_nil _)))))) shF_q94 (sp_q94 (G_q94 N_ S_q7 S_q46 S_q67 S_q68 S_q33)) (an_q94 N_ S_q7 S_q46 S_q67 S_q68 S_q33) 0 0 (by kernel_rfl) (fun i_ hi_ => by omega) ?_
  intro a k h
  unfold sp_q94 at h
  split at h
  · exact ⟨[], rfl, rfl, (eq_q94 _ _ _ _ _ _ _ _ _ _ _).trans h⟩
  · cases h

def an_q66 (N_ : Nat) : Nat -> Option Ann := fun b_ => none
theorem eq_q66 (N_ : Nat) (c_ : V -> List Blk -> Bool) : bodyV ⟨Pg, ofList [], isref, N_⟩ (an_q66 N_) 55 (shF_q66.args []) [] c_ = G_q66 N_ (fun r0 r1 r2 r3 => c_ (.agg [.flt r0, .flt r1, .flt r2, .flt r3]) []) := by kernel_rfl
theorem good_q66 (N_ : Nat) : GoodF Pg 55 (F_q66 (G_q66 N_)) := by
  refine good_fs (cx := ⟨Pg, ofList [], isref, N_⟩) (ofList_nil _) shF_q66 (sp_q66 (G_q66 N_)) (an_q66 N_) 0 0 (by kernel_rfl) (fun i_ hi_ => by omega) ?_
  intro a k h
  unfold sp_q66 at h
  split at h
  · exact ⟨[], rfl, rfl, (eq_q66 _ _).trans h⟩
  · cases h

def an_q41 (N_ : Nat) (S_q110 : TS_q110) (S_q114 : TS_q114) (S_q88 : TS_q88) (S_q94 : TS_q94) (S_q66 : TS_q66) : Nat -> Option Ann := fun b_ => none
theorem eq_q41 (N_ : Nat) (S_q110 : TS_q110) (S_q114 : TS_q114) (S_q88 : TS_q88) (S_q94 : TS_q94) (S_q66 : TS_q66) (c_ : V -> List Blk -> Bool) : bodyV ⟨Pg, ofList [(18, (F_q110 S_q110)), (44, (F_q114 S_q114)), (10, (F_q88 S_q88)), (21, (F_q94 S_q94)), (55, (F_q66 S_q66))], isref, N_⟩ (an_q41 N_ S_q110 S_q114 S_q88 S_q94 S_q66) 8 (shF_q41.args []) [] c_ = G_q41 N_ S_q110 S_q114 S_q88 S_q94 S_q66 (fun r0 => c_ (.bool r0) []) := by kernel_rfl
theorem good_q41 (N_ : Nat) (S_q110 : TS_q110) (S_q114 : TS_q114) (S_q88 : TS_q88) (S_q94 : TS_q94) (S_q66 : TS_q66) (h_q110 : GoodF Pg 18 (F_q110 S_q110)) (h_q114 : GoodF Pg 44 (F_q114 S_q114)) (h_q88 : GoodF Pg 10 (F_q88 S_q88)) (h_q94 : GoodF Pg 21 (F_q94 S_q94)) (h_q66 : GoodF Pg 55 (F_q66 S_q66)) : GoodF Pg 8 (F_q41 (G_q41 N_ S_q110 S_q114 S_q88 S_q94 S_q66)) := by
  refine good_fs (cx := ⟨Pg, ofList [(18, (F_q110 S_q110)), (44, (F_q114 S_q114)), (10, (F_q88 S_q88)), (21, (F_q94 S_q94)), (55, (F_q66 S_q66))], isref, N_⟩) (ofList_cons h_q110 (ofList_cons h_q114 (ofList_cons h_q88 (ofList_cons h_q94 (ofList_cons h_q66 (ofList_nil _)))))) shF_q41 (sp_q41 (G_q41 N_ S_q110 S_q114 S_q88 S_q94 S_q66)) (an_q41 N_ S_q110 S_q114 S_q88 S_q94 S_q66) 0 0 (by kernel_rfl) (fun i_ hi_ => by omega) ?_
  intro a k h
  unfold sp_q41 at h
  split at h
  · exact ⟨[], rfl, rfl, (eq_q41 _ _ _ _ _ _ _).trans h⟩
  · cases h

def an_q37 (N_ : Nat) : Nat -> Option Ann := fun b_ => none
theorem eq_q37 (N_ : Nat) (l_0 : Int) (l_1 : Int) (l_2 : Int) (l_3 : Int) (k_ : Int) (c_ : V -> List Blk -> Bool) : bodyV ⟨Pg, ofList [], isref, N_⟩ (an_q37 N_) 9 (shF_q37.args [.int l_0, .int l_1, .int l_2, .int l_3, .int k_]) [] c_ = G_q37 N_ l_0 l_1 l_2 l_3 k_ (fun r0 r1 r2 r3 => c_ (.agg [.flt r0, .flt r1, .flt r2, .flt r3]) []) := by kernel_rfl
theorem good_q37 (N_ : Nat) : GoodF Pg 9 (F_q37 (G_q37 N_)) := by
  refine good_fs (cx := ⟨Pg, ofList [], isref, N_⟩) (ofList_nil _) shF_q37 (sp_q37 (G_q37 N_)) (an_q37 N_) 0 0 (by kernel_rfl) (fun i_ hi_ => by omega) ?_
  intro a k h
  unfold sp_q37 at h
  split at h
  · exact ⟨[], rfl, rfl, (eq_q37 _ _ _ _ _ _ _).trans h⟩
  · cases h

def an_q123 (N_ : Nat) : Nat -> Option Ann := fun b_ => none
theorem eq_q123 (N_ : Nat) (q_0 : Fl) (q_1 : Fl) (q_2 : Fl) (q_3 : Fl) (c_ : V -> List Blk -> Bool) : bodyV ⟨Pg, ofList [], isref, N_⟩ (an_q123 N_) 60 (shF_q123.args [.fl q_0, .fl q_1, .fl q_2, .fl q_3]) [] c_ = G_q123 N_ q_0 q_1 q_2 q_3 (fun r0 => c_ (.slw 0) [⟨24, 1, .flts r0⟩]) := by kernel_rfl
theorem good_q123 (N_ : Nat) : GoodF Pg 60 (F_q123 (G_q123 N_)) := by
  refine good_fs (cx := ⟨Pg, ofList [], isref, N_⟩) (ofList_nil _) shF_q123 (sp_q123 (G_q123 N_)) (an_q123 N_) 0 0 (by kernel_rfl) (fun i_ hi_ => by omega) ?_
  intro a k h
  unfold sp_q123 at h
  split at h
  · exact ⟨[], rfl, rfl, (eq_q123 _ _ _ _ _ _).trans h⟩
  · cases h

def an_q95 (N_ : Nat) : Nat -> Option Ann := fun b_ => none
theorem eq_q95 (N_ : Nat) (c_ : V -> List Blk -> Bool) : bodyV ⟨Pg, ofList [], isref, N_⟩ (an_q95 N_) 110 (shF_q95.args []) [] c_ = G_q95 N_ (fun r0 r1 => c_ (.agg [.ptr 0 0, .int .i64 r0]) [⟨105, 1, .cells [.bool r1, .nil]⟩]) := by kernel_rfl
theorem good_q95 (N_ : Nat) : GoodF Pg 110 (F_q95 (G_q95 N_)) := by
  refine good_fs (cx := ⟨Pg, ofList [], isref, N_⟩) (ofList_nil _) shF_q95 (sp_q95 (G_q95 N_)) (an_q95 N_) 0 0 (by kernel_rfl) (fun i_ hi_ => by omega) ?_
  intro a k h
  unfold sp_q95 at h
  split at h
  · exact ⟨[], rfl, rfl, (eq_q95 _ _).trans h⟩
  · cases h

def an_q122 (N_ : Nat) (S_q90 : TS_q90) : Nat -> Option Ann := fun b_ => none
theorem eq_q122 (N_ : Nat) (S_q90 : TS_q90) (x : Fl) (c_ : V -> List Blk -> Bool) : bodyV ⟨Pg, ofList [(88, (F_q90 S_q90))], isref, N_⟩ (an_q122 N_ S_q90) 89 (shF_q122.args [.fl x]) [] c_ = G_q122 N_ S_q90 x (fun r0 => c_ (.int .u64 r0) []) := by kernel_rfl
theorem good_q122 (N_ : Nat) (S_q90 : TS_q90) (h_q90 : GoodF Pg 88 (F_q90 S_q90)) : GoodF Pg 89 (F_q122 (G_q122 N_ S_q90)) := by
  refine good_fs (cx := ⟨Pg, ofList [(88, (F_q90 S_q90))], isref, N_⟩) (ofList_cons h_q90 (ofList_nil _)) shF_q122 (sp_q122 (G_q122 N_ S_q90)) (an_q122 N_ S_q90) 0 0 (by kernel_rfl) (fun i_ hi_ => by omega) ?_
  intro a k h
  unfold sp_q122 at h
  split at h
  · exact ⟨[], rfl, rfl, (eq_q122 _ _ _ _).trans h⟩
  · cases h

def an_q87 (N_ : Nat) (S_q122 : TS_q122) : Nat -> Option Ann := fun b_ => none
theorem eq_q87 (N_ : Nat) (S_q122 : TS_q122) (x : Fl) (c_ : V -> List Blk -> Bool) : bodyV ⟨Pg, ofList [(89, (F_q122 S_q122))], isref, N_⟩ (an_q87 N_ S_q122) 115 (shF_q87.args [.fl x]) [] c_ = G_q87 N_ S_q122 x (fun r0 r1 r2 => c_ (.tup [.bool r0, .int .i64 r1, .int .u64 r2]) []) := by kernel_rfl
theorem good_q87 (N_ : Nat) (S_q122 : TS_q122) (h_q122 : GoodF Pg 89 (F_q122 S_q122)) : GoodF Pg 115 (F_q87 (G_q87 N_ S_q122)) := by
  refine good_fs (cx := ⟨Pg, ofList [(89, (F_q122 S_q122))], isref, N_⟩) (ofList_cons h_q122 (ofList_nil _)) shF_q87 (sp_q87 (G_q87 N_ S_q122)) (an_q87 N_ S_q122) 0 0 (by kernel_rfl) (fun i_ hi_ => by omega) ?_
  intro a k h
  unfold sp_q87 at h
  split at h
  · exact ⟨[], rfl, rfl, (eq_q87 _ _ _ _).trans h⟩
  · cases h

def sh_st_binnacleref01_odd_0 : StSh := ⟨[.int .u64, .int .i64, .any, .any, .any, .any, .any, .any, .any, .any, .any, .any, .any, .any, .any, .any, .any], []⟩
def sx0_st_binnacleref01_odd_0 : StSh := ⟨[.int .u64, .int .i64, .any, .any, .any, .any, .any, .any, .any, .any, .any, .any, .any, .any, .any, .any, .any], []⟩
def hk_st_binnacleref01_odd_0 (N_ : Nat) : List Atom -> K -> Bool := fun a_ κ => match a_ with
  | [.int m_1, .int e_1] => iterG N_ (st_z01_odd_0 N_ (fun r0 r1 => κ.ext 0 (sx0_st_binnacleref01_odd_0.build [.int r0, .int r1]))) (m_1, e_1)
  | _ => false
def an_q109 (N_ : Nat) : Nat -> Option Ann := fun b_ => cond (b_ == 0) (some ⟨⟨[0, 1], [], []⟩, [(0, ⟨[0, 1], [], []⟩)], some ⟨[4, 5], [], []⟩, some (mkHooks [(sh_st_binnacleref01_odd_0, hk_st_binnacleref01_odd_0 N_)])⟩) (none)
theorem eq_st_binnacleref01_odd_0 (N_ : Nat) (κ : K) (m_1 : Int) (e_1 : Int) : iter N_ (fun s k => codeV ⟨Pg, ofList [], isref, N_⟩ 0 (an_q109 N_) (lp Pg 116 0).2 (lp Pg 116 0).1 s (roundK Pg 0 ((an_q109 N_) (lp Pg 116 0).1) κ k)) (sh_st_binnacleref01_odd_0.build [.int m_1, .int e_1]) = iterG N_ (st_z01_odd_0 N_ (fun r0 r1 => κ.ext 0 (sx0_st_binnacleref01_odd_0.build [.int r0, .int r1]))) (m_1, e_1) :=
  iter_tr (fun (v_ : Int × Int) => sh_st_binnacleref01_odd_0.build [.int v_.1, .int v_.2]) (fun v_ K_ => by obtain ⟨m_1, e_1⟩ := v_; kernel_rfl) N_ (m_1, e_1)
theorem hk1_st_binnacleref01_odd_0 (N_ : Nat) : HookFor ⟨Pg, ofList [], isref, N_⟩ 0 (an_q109 N_) (lp Pg 116 0) (sh_st_binnacleref01_odd_0, hk_st_binnacleref01_odd_0 N_) := by
  intro a κ h
  simp only at h
  unfold hk_st_binnacleref01_odd_0 at h
  split at h
  · exact (eq_st_binnacleref01_odd_0 _ _ _ _).trans h
  · cases h
theorem ho_binnacleref01_odd_0 (N_ : Nat) : HookOk ⟨Pg, ofList [], isref, N_⟩ 0 (an_q109 N_) (lp Pg 116 0) :=
  hooks_ok [(sh_st_binnacleref01_odd_0, hk_st_binnacleref01_odd_0 N_)] (by kernel_rfl) ⟨hk1_st_binnacleref01_odd_0 _, trivial⟩
theorem eq_q109 (N_ : Nat) (m : Int) (e : Int) (c_ : V -> List Blk -> Bool) : bodyV ⟨Pg, ofList [], isref, N_⟩ (an_q109 N_) 116 (shF_q109.args [.int m, .int e]) [] c_ = G_q109 N_ m e (fun r0 r1 => c_ (.tup [.int .u64 r0, .int .i64 r1]) []) := by kernel_rfl
theorem good_q109 (N_ : Nat) : GoodF Pg 116 (F_q109 (G_q109 N_)) := by
  refine good_fs (cx := ⟨Pg, ofList [], isref, N_⟩) (ofList_nil _) shF_q109 (sp_q109 (G_q109 N_)) (an_q109 N_) 1 0 (by kernel_rfl) (fun i_ hi_ => by
    match i_, hi_ with
    | 0, _ => exact ho_binnacleref01_odd_0 _
    | (q + 1), h => omega) ?_
  intro a k h
  unfold sp_q109 at h
  split at h
  · exact ⟨[], rfl, rfl, (eq_q109 _ _ _ _).trans h⟩
  · cases h

def an_q103 (N_ : Nat) (S_q87 : TS_q87) (S_q109 : TS_q109) : Nat -> Option Ann := fun b_ => none
def ls_q146 (d_ : List V) (u_ : List (Option Blk)) (x : Fl) (neg : Bool) (e : Int) (f : Int) : St := ⟨[(dq d_ 0), (dq d_ 1), .ptr 0 0, (dq d_ 2), .bool neg, .int .i64 e, .int .u64 f, (dq d_ 3), (dq d_ 4), (dq d_ 5), (dq d_ 6), (dq d_ 7), (dq d_ 8), (dq d_ 9), (dq d_ 10), (dq d_ 11), (dq d_ 12), (dq d_ 13), (dq d_ 14), (dq d_ 15), (dq d_ 16), (dq d_ 17), (dq d_ 18), (dq d_ 19), (dq d_ 20), (dq d_ 21), (dq d_ 22), (dq d_ 23), (dq d_ 24), (dq d_ 25), (dq d_ 26), (dq d_ 27), (dq d_ 28), (dq d_ 29), (dq d_ 30)], [some ⟨108, 1, .cells [.bool false, .int .u64 0, .int .i64 0]⟩]⟩
theorem jn_q146 (N_ : Nat) (S_q87 : TS_q87) (S_q109 : TS_q109) (d_ : List V) (u_ : List (Option Blk)) (x : Fl) (neg : Bool) (e : Int) (f : Int) (c_ : V -> List Blk -> Bool) : codesV ⟨Pg, ofList [(115, (F_q87 S_q87)), (116, (F_q109 S_q109))], isref, N_⟩ 0 (an_q103 N_ S_q87 S_q109) ((cds Pg 65).drop 6) 0 (ls_q146 d_ u_ x neg e f) (finV Pg 65 0 c_) = J_q146 N_ S_q87 S_q109 x neg e f (fun r0 r1 r2 r3 => c_ (.tup [.agg [.bool r0, .int .u64 r1, .int .i64 r2], .int .i64 r3]) []) := by kernel_rfl
theorem hd_z01_Parts_w (N_ : Nat) (S_q87 : TS_q87) (S_q109 : TS_q109) (x : Fl) (c_ : V -> List Blk -> Bool) (κn_ : St -> Bool) : codesV ⟨Pg, ofList [(115, (F_q87 S_q87)), (116, (F_q109 S_q109))], isref, N_⟩ 0 (an_q103 N_ S_q87 S_q109) (sg Pg 65 0 6) 0 (st0 Pg 65 (shF_q103.args [.fl x]) []) { (finV Pg 65 0 c_) with nrm := κn_ } = (S_q87 x (fun cr nr nr_1 => (cond (nr == 2047) (c_ (.tup [.agg [.bool false, .int .u64 0, .int .i64 0], .int .i64 4]) []) (cond (decide (nr > 0)) ((fits .i64 (nr - 1)) && (κn_ (ls_q146 [.flt x, .any, .int .i64 0, .any, .any, .tup [.bool cr, .int .i64 nr, .int .u64 nr_1], .flt x, .tup [.bool cr, .int .i64 nr, .int .u64 nr_1], .bool cr, .int .i64 nr, .int .u64 nr_1, .int .i64 nr, .bool false, .any, .int .i64 nr, .bool true, .int .u64 nr_1, .int .u64 (IntKind.wrap .u64 (nr_1 + 4503599627370496)), .int .i64 nr, .int .i64 (nr - 1), .any, .any, .any, .any, .any, .any, .any, .any, .any, .any, .any] [] x cr (nr - 1) (IntKind.wrap .u64 (nr_1 + 4503599627370496))))) (κn_ (ls_q146 [.flt x, .any, .int .i64 0, .any, .any, .tup [.bool cr, .int .i64 nr, .int .u64 nr_1], .flt x, .tup [.bool cr, .int .i64 nr, .int .u64 nr_1], .bool cr, .int .i64 nr, .int .u64 nr_1, .int .i64 nr, .bool false, .any, .int .i64 nr, .bool false, .any, .any, .any, .any, .any, .any, .any, .any, .any, .any, .any, .any, .any, .any, .any] [] x cr nr nr_1)))))) := by kernel_rfl
theorem jn_z01_Parts_w (N_ : Nat) (S_q87 : TS_q87) (S_q109 : TS_q109) (x : Fl) (c_ : V -> List Blk -> Bool) : codesV ⟨Pg, ofList [(115, (F_q87 S_q87)), (116, (F_q109 S_q109))], isref, N_⟩ 0 (an_q103 N_ S_q87 S_q109) ((cds Pg 65).drop 0) 0 (st0 Pg 65 (shF_q103.args [.fl x]) []) (finV Pg 65 0 c_) = G_q103 N_ S_q87 S_q109 x (fun r0 r1 r2 r3 => c_ (.tup [.agg [.bool r0, .int .u64 r1, .int .i64 r2], .int .i64 r3]) []) := by
  rw [codesV_cut 0 6 6 rfl]
  refine (hd_z01_Parts_w N_ S_q87 S_q109 x c_ _).trans ?_
  simp only [jn_q146]
  kernel_rfl
theorem eq_q103 (N_ : Nat) (S_q87 : TS_q87) (S_q109 : TS_q109) (x : Fl) (c_ : V -> List Blk -> Bool) : bodyV ⟨Pg, ofList [(115, (F_q87 S_q87)), (116, (F_q109 S_q109))], isref, N_⟩ (an_q103 N_ S_q87 S_q109) 65 (shF_q103.args [.fl x]) [] c_ = G_q103 N_ S_q87 S_q109 x (fun r0 r1 r2 r3 => c_ (.tup [.agg [.bool r0, .int .u64 r1, .int .i64 r2], .int .i64 r3]) []) :=
  (bodyV_codes (by kernel_rfl)).trans (jn_z01_Parts_w N_ S_q87 S_q109 x c_)
theorem good_q103 (N_ : Nat) (S_q87 : TS_q87) (S_q109 : TS_q109) (h_q87 : GoodF Pg 115 (F_q87 S_q87)) (h_q109 : GoodF Pg 116 (F_q109 S_q109)) : GoodF Pg 65 (F_q103 (G_q103 N_ S_q87 S_q109)) := by
  refine good_fs (cx := ⟨Pg, ofList [(115, (F_q87 S_q87)), (116, (F_q109 S_q109))], isref, N_⟩) (ofList_cons h_q87 (ofList_cons h_q109 (ofList_nil _))) shF_q103 (sp_q103 (G_q103 N_ S_q87 S_q109)) (an_q103 N_ S_q87 S_q109) 0 0 (by kernel_rfl) (fun i_ hi_ => by omega) ?_
  intro a k h
  unfold sp_q103 at h
  split at h
  · exact ⟨[], rfl, rfl, (eq_q103 _ _ _ _ _).trans h⟩
  · cases h

end Go.Proofs.YtccocdgimamdhaaGreatDoor
