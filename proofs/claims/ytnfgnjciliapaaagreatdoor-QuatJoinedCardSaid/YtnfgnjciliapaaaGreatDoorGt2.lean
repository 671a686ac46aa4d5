/-
  THE TIES: each printed meaning is what the program does (written by program).
  Conditions: none.
-/
import Derived.Test.YtnfgnjciliapaaaGreatDoorGs
namespace Go.Proofs.YtnfgnjciliapaaaGreatDoor
open Go Go.Mach Go.Proofs
set_option linter.unusedVariables false
set_option maxRecDepth 50000

def sh_st_v_dyad_exact_put_p0r_0 : StSh := ⟨(.any :: (.any :: (.ptr 1 0 :: (.any :: (.ptr 2 0 :: (.ptr 3 0 :: (.ptr 4 0 :: (sqs 52 [])))))))), [some (126, 1, .cells [.bool, .roi .u64]), some (84, 1, .cells [.bool, .nil, .int .i64]), some (84, 1, .cells [.bool, .slw 5, .int .i64]), some (126, 1, .cells [.bool, .roi .u64]), some (126, 1, .cells [.bool, .roi .u64]), some (87, 1, .ints .u32)]⟩
def sx0_st_v_dyad_exact_put_p0r_0 : StSh := ⟨(.any :: (.any :: (.ptr 1 0 :: (.any :: (.ptr 2 0 :: (sqs 54 [])))))), [some (126, 1, .cells [.bool, .roi .u64]), some (84, 1, .cells [.bool, .nil, .int .i64]), some (84, 1, .cells [.bool, .slw 3, .int .i64]), some (87, 1, .ints .u32)]⟩
def hk_st_v_dyad_exact_put_p0r_0 (N : Nat) (SQ17 : TSQ17) (SQ4 : TSQ4) (SQ34 : TSQ34) (SQ55 : TSQ55) (SQ33 : TSQ33) (SQ19 : TSQ19) (SQ35 : TSQ35) (SQ11 : TSQ11) : List Atom -> K -> Bool := fun a_ κ => match a_ with
  | [.bool b0_2, .ints b0_3, .bool t2_2, .int t2_3, .bool d_2, .int d_3, .bool mask_2, .ints mask_3, .bool m_2, .ints m_3, .ints b5] => iterG N (stQ157 N SQ17 SQ4 SQ34 SQ55 SQ33 SQ19 SQ35 SQ11 b0_2 b0_3 t2_2 t2_3 d_2 d_3 mask_2 mask_3 (fun r6 => κ.ext 0 (sx0_st_v_dyad_exact_put_p0r_0.build [.bool b0_2, .ints b0_3, .bool t2_2, .int t2_3, .bool d_2, .int d_3, .ints r6]))) (m_2, m_3, b5)
  | _ => false
def anQ9 (N : Nat) (SQ17 : TSQ17) (SQ4 : TSQ4) (SQ34 : TSQ34) (SQ55 : TSQ55) (SQ33 : TSQ33) (SQ19 : TSQ19) (SQ35 : TSQ35) (SQ11 : TSQ11) : Nat -> Option Ann := fun b_ => cond (b_ == 0) (some ⟨⟨[2, 4, 5, 6], [(4, some 1, 87)], []⟩, [(0, ⟨[2, 4], [], []⟩)], some ⟨[2, 3], [], []⟩, some (mkHooks [(sh_st_v_dyad_exact_put_p0r_0, hk_st_v_dyad_exact_put_p0r_0 N SQ17 SQ4 SQ34 SQ55 SQ33 SQ19 SQ35 SQ11)])⟩) (none)
theorem eq_st_v_dyad_exact_put_p0r_0 (N : Nat) (SQ17 : TSQ17) (SQ4 : TSQ4) (SQ34 : TSQ34) (SQ55 : TSQ55) (SQ33 : TSQ33) (SQ19 : TSQ19) (SQ35 : TSQ35) (SQ11 : TSQ11) (κ : K) (b0_2 : Bool) (b0_3 : List Int) (t2_2 : Bool) (t2_3 : Int) (d_2 : Bool) (d_3 : Int) (mask_2 : Bool) (mask_3 : List Int) (m_2 : Bool) (m_3 b5 : List Int) : iter N (fun s k => codeV ⟨Pg, ofList [(132, (FQ17 SQ17)), (94, (FQ4 SQ4)), (133, (FQ34 SQ34)), (134, (FQ55 SQ55)), (135, (FQ33 SQ33)), (137, (FQ19 SQ19)), (138, (FQ35 SQ35)), (136, (FQ11 SQ11))], isref, N⟩ 1 (anQ9 N SQ17 SQ4 SQ34 SQ55 SQ33 SQ19 SQ35 SQ11) (lp Pg 88 0).2 (lp Pg 88 0).1 s (roundK Pg 1 ((anQ9 N SQ17 SQ4 SQ34 SQ55 SQ33 SQ19 SQ35 SQ11) (lp Pg 88 0).1) κ k)) (sh_st_v_dyad_exact_put_p0r_0.build [.bool b0_2, .ints b0_3, .bool t2_2, .int t2_3, .bool d_2, .int d_3, .bool mask_2, .ints mask_3, .bool m_2, .ints m_3, .ints b5]) = iterG N (stQ157 N SQ17 SQ4 SQ34 SQ55 SQ33 SQ19 SQ35 SQ11 b0_2 b0_3 t2_2 t2_3 d_2 d_3 mask_2 mask_3 (fun r6 => κ.ext 0 (sx0_st_v_dyad_exact_put_p0r_0.build [.bool b0_2, .ints b0_3, .bool t2_2, .int t2_3, .bool d_2, .int d_3, .ints r6]))) (m_2, m_3, b5) :=
  iter_tr (fun (v_ : Bool × List Int × List Int) => sh_st_v_dyad_exact_put_p0r_0.build [.bool b0_2, .ints b0_3, .bool t2_2, .int t2_3, .bool d_2, .int d_3, .bool mask_2, .ints mask_3, .bool v_.1, .ints v_.2.1, .ints v_.2.2]) (fun v_ K_ => by obtain ⟨m_2, m_3, b5⟩ := v_; kernel_rfl) N (m_2, m_3, b5)
theorem hk1_st_v_dyad_exact_put_p0r_0 (N : Nat) (SQ17 : TSQ17) (SQ4 : TSQ4) (SQ34 : TSQ34) (SQ55 : TSQ55) (SQ33 : TSQ33) (SQ19 : TSQ19) (SQ35 : TSQ35) (SQ11 : TSQ11) : HookFor ⟨Pg, ofList [(132, (FQ17 SQ17)), (94, (FQ4 SQ4)), (133, (FQ34 SQ34)), (134, (FQ55 SQ55)), (135, (FQ33 SQ33)), (137, (FQ19 SQ19)), (138, (FQ35 SQ35)), (136, (FQ11 SQ11))], isref, N⟩ 1 (anQ9 N SQ17 SQ4 SQ34 SQ55 SQ33 SQ19 SQ35 SQ11) (lp Pg 88 0) (sh_st_v_dyad_exact_put_p0r_0, hk_st_v_dyad_exact_put_p0r_0 N SQ17 SQ4 SQ34 SQ55 SQ33 SQ19 SQ35 SQ11) := by
  intro a κ h
  simp only at h
  unfold hk_st_v_dyad_exact_put_p0r_0 at h
  split at h
  · exact (eq_st_v_dyad_exact_put_p0r_0 _ _ _ _ _ _ _ _ _ _ _ _ _ _ _ _ _ _ _ _ _).trans h
  · cases h
theorem ho_v_dyad_exact_put_p0r_0 (N : Nat) (SQ17 : TSQ17) (SQ4 : TSQ4) (SQ34 : TSQ34) (SQ55 : TSQ55) (SQ33 : TSQ33) (SQ19 : TSQ19) (SQ35 : TSQ35) (SQ11 : TSQ11) : HookOk ⟨Pg, ofList [(132, (FQ17 SQ17)), (94, (FQ4 SQ4)), (133, (FQ34 SQ34)), (134, (FQ55 SQ55)), (135, (FQ33 SQ33)), (137, (FQ19 SQ19)), (138, (FQ35 SQ35)), (136, (FQ11 SQ11))], isref, N⟩ 1 (anQ9 N SQ17 SQ4 SQ34 SQ55 SQ33 SQ19 SQ35 SQ11) (lp Pg 88 0) :=
  hooks_ok [(sh_st_v_dyad_exact_put_p0r_0, hk_st_v_dyad_exact_put_p0r_0 N SQ17 SQ4 SQ34 SQ55 SQ33 SQ19 SQ35 SQ11)] (by kernel_rfl) ⟨hk1_st_v_dyad_exact_put_p0r_0 _ _ _ _ _ _ _ _ _, trivial⟩
theorem eqQ9 (N : Nat) (SQ17 : TSQ17) (SQ4 : TSQ4) (SQ34 : TSQ34) (SQ55 : TSQ55) (SQ33 : TSQ33) (SQ19 : TSQ19) (SQ35 : TSQ35) (SQ11 : TSQ11) (x : Int) (b : Bool) (b_1 : List Int) (c_ : V -> List Blk -> Bool) : bodyV ⟨Pg, ofList [(132, (FQ17 SQ17)), (94, (FQ4 SQ4)), (133, (FQ34 SQ34)), (134, (FQ55 SQ55)), (135, (FQ33 SQ33)), (137, (FQ19 SQ19)), (138, (FQ35 SQ35)), (136, (FQ11 SQ11))], isref, N⟩ (anQ9 N SQ17 SQ4 SQ34 SQ55 SQ33 SQ19 SQ35 SQ11) 88 (shFQ9.args [.int x, .bool b, .ints b_1]) [⟨126, 1, .cells [.bool b, .roi .u64 b_1]⟩] c_ = GQ9 N SQ17 SQ4 SQ34 SQ55 SQ33 SQ19 SQ35 SQ11 x b b_1 (fun r0 r1 r2 => c_ (.tup [.agg [.bool r0, .nil, .int .i64 r1], .int .i64 r2]) [⟨126, 1, .cells [.bool b, .roi .u64 b_1]⟩]) (fun r0 r1 r2 r5 => c_ (.tup [.agg [.bool r0, .slw 1, .int .i64 r1], .int .i64 r2]) [⟨126, 1, .cells [.bool b, .roi .u64 b_1]⟩, ⟨87, 1, .ints .u32 r5⟩]) := by kernel_rfl
theorem goodQ9 (N : Nat) (SQ17 : TSQ17) (SQ4 : TSQ4) (SQ34 : TSQ34) (SQ55 : TSQ55) (SQ33 : TSQ33) (SQ19 : TSQ19) (SQ35 : TSQ35) (SQ11 : TSQ11) (hQ17 : GoodF Pg 132 (FQ17 SQ17)) (hQ4 : GoodF Pg 94 (FQ4 SQ4)) (hQ34 : GoodF Pg 133 (FQ34 SQ34)) (hQ55 : GoodF Pg 134 (FQ55 SQ55)) (hQ33 : GoodF Pg 135 (FQ33 SQ33)) (hQ19 : GoodF Pg 137 (FQ19 SQ19)) (hQ35 : GoodF Pg 138 (FQ35 SQ35)) (hQ11 : GoodF Pg 136 (FQ11 SQ11)) : GoodF Pg 88 (FQ9 (GQ9 N SQ17 SQ4 SQ34 SQ55 SQ33 SQ19 SQ35 SQ11)) := by
  refine good_fs (cx := ⟨Pg, ofList [(132, (FQ17 SQ17)), (94, (FQ4 SQ4)), (133, (FQ34 SQ34)), (134, (FQ55 SQ55)), (135, (FQ33 SQ33)), (137, (FQ19 SQ19)), (138, (FQ35 SQ35)), (136, (FQ11 SQ11))], isref, N⟩) (ofList_cons hQ17 (ofList_cons hQ4 (ofList_cons hQ34 (ofList_cons hQ55 (ofList_cons hQ33 (ofList_cons hQ19 (ofList_cons hQ35 (ofList_cons hQ11 (ofList_nil _))))))))) shFQ9 (spQ9 (GQ9 N SQ17 SQ4 SQ34 SQ55 SQ33 SQ19 SQ35 SQ11)) (anQ9 N SQ17 SQ4 SQ34 SQ55 SQ33 SQ19 SQ35 SQ11) 1 1 (by kernel_rfl) (fun i_ hi_ => by
    match i_, hi_ with
    | 0, _ => exact ho_v_dyad_exact_put_p0r_0 _ _ _ _ _ _ _ _ _
    | (q + 1), h => omega) ?_
  intro a k h
  unfold spQ9 at h
  split at h
  · exact ⟨[_], rfl, rfl, (eqQ9 _ _ _ _ _ _ _ _ _ _ _ _ _).trans h⟩
  · cases h

def sh_st_dyad_Dot_0 : StSh := ⟨(.any :: (.rof :: (.any :: (.any :: (.ptr 0 0 :: (.any :: (.ptr 1 0 :: (sqs 19 (.rof :: (.int .i64 :: (.int .i64 :: (sqs 19 [])))))))))))), [some (84, 1, .cells [.bool, .nil, .int .i64]), some (128, 1, .cells [.ptr 2 0, .int .i64]), some (126, 1, .cells [.bool, .roi .u64])]⟩
def sx0_st_dyad_Dot_0 : StSh := ⟨(sqs 4 (.ptr 0 0 :: (.any :: (.ptr 1 0 :: (sqs 41 []))))), [some (84, 1, .cells [.bool, .nil, .int .i64]), some (128, 1, .cells [.ptr 2 0, .int .i64]), some (126, 1, .cells [.bool, .roi .u64])]⟩
def hk_st_dyad_Dot_0 (N : Nat) (SQ92 : TSQ92) (SQ127 : TSQ127) (SQ13 : TSQ13) (SQ15 : TSQ15) (SQ5 : TSQ5) (SQ9 : TSQ9) : List Atom -> K -> Bool := fun a_ κ => match a_ with
  | [.fls b_2, .fls t26_1, .int t27_1, .int t28_1, .bool t4_2, .int t4_3, .int s_1, .bool b2_1, .ints b2_2] => iterG N (st_dyad_Dot_0 N SQ92 SQ127 SQ13 SQ15 SQ5 SQ9 b_2 t26_1 t27_1 t4_2 t4_3 (fun r2 r3 r4 => κ.ext 0 (sx0_st_dyad_Dot_0.build [.bool t4_2, .int t4_3, .int r2, .bool r3, .ints r4]))) (t28_1, s_1, b2_1, b2_2)
  | _ => false
def anQ72 (N : Nat) (SQ92 : TSQ92) (SQ127 : TSQ127) (SQ13 : TSQ13) (SQ15 : TSQ15) (SQ5 : TSQ5) (SQ9 : TSQ9) : Nat -> Option Ann := fun b_ => cond (b_ == 0) (some ⟨⟨[1, 4, 6, 26, 27, 28], [], [(2, 1, some .u64)]⟩, [(0, ⟨[4, 6], [], []⟩)], some ⟨[4, 5], [], []⟩, some (mkHooks [(sh_st_dyad_Dot_0, hk_st_dyad_Dot_0 N SQ92 SQ127 SQ13 SQ15 SQ5 SQ9)])⟩) (none)
theorem eq_st_dyad_Dot_0 (N : Nat) (SQ92 : TSQ92) (SQ127 : TSQ127) (SQ13 : TSQ13) (SQ15 : TSQ15) (SQ5 : TSQ5) (SQ9 : TSQ9) (κ : K) (b_2 t26_1 : List Fl) (t27_1 t28_1 : Int) (t4_2 : Bool) (t4_3 s_1 : Int) (b2_1 : Bool) (b2_2 : List Int) : iter N (fun s k => codeV ⟨Pg, ofList [(84, (FQ92 SQ92)), (86, (FQ127 SQ127)), (87, (FQ13 SQ13)), (85, (orFs (FQ15 SQ15) (FQ5 SQ5) shFQ15)), (88, (FQ9 SQ9))], isref, N⟩ 0 (anQ72 N SQ92 SQ127 SQ13 SQ15 SQ5 SQ9) (lp Pg 44 0).2 (lp Pg 44 0).1 s (roundK Pg 0 ((anQ72 N SQ92 SQ127 SQ13 SQ15 SQ5 SQ9) (lp Pg 44 0).1) κ k)) (sh_st_dyad_Dot_0.build [.fls b_2, .fls t26_1, .int t27_1, .int t28_1, .bool t4_2, .int t4_3, .int s_1, .bool b2_1, .ints b2_2]) = iterG N (st_dyad_Dot_0 N SQ92 SQ127 SQ13 SQ15 SQ5 SQ9 b_2 t26_1 t27_1 t4_2 t4_3 (fun r2 r3 r4 => κ.ext 0 (sx0_st_dyad_Dot_0.build [.bool t4_2, .int t4_3, .int r2, .bool r3, .ints r4]))) (t28_1, s_1, b2_1, b2_2) :=
  iter_tr (fun (v_ : Int × Int × Bool × List Int) => sh_st_dyad_Dot_0.build [.fls b_2, .fls t26_1, .int t27_1, .int v_.1, .bool t4_2, .int t4_3, .int v_.2.1, .bool v_.2.2.1, .ints v_.2.2.2]) (fun v_ K_ => by obtain ⟨t28_1, s_1, b2_1, b2_2⟩ := v_; kernel_rfl) N (t28_1, s_1, b2_1, b2_2)
theorem hk1_st_dyad_Dot_0 (N : Nat) (SQ92 : TSQ92) (SQ127 : TSQ127) (SQ13 : TSQ13) (SQ15 : TSQ15) (SQ5 : TSQ5) (SQ9 : TSQ9) : HookFor ⟨Pg, ofList [(84, (FQ92 SQ92)), (86, (FQ127 SQ127)), (87, (FQ13 SQ13)), (85, (orFs (FQ15 SQ15) (FQ5 SQ5) shFQ15)), (88, (FQ9 SQ9))], isref, N⟩ 0 (anQ72 N SQ92 SQ127 SQ13 SQ15 SQ5 SQ9) (lp Pg 44 0) (sh_st_dyad_Dot_0, hk_st_dyad_Dot_0 N SQ92 SQ127 SQ13 SQ15 SQ5 SQ9) := by
  intro a κ h
  simp only at h
  unfold hk_st_dyad_Dot_0 at h
  split at h
  · exact (eq_st_dyad_Dot_0 _ _ _ _ _ _ _ _ _ _ _ _ _ _ _ _ _).trans h
  · cases h
theorem ho_dyad_Dot_0 (N : Nat) (SQ92 : TSQ92) (SQ127 : TSQ127) (SQ13 : TSQ13) (SQ15 : TSQ15) (SQ5 : TSQ5) (SQ9 : TSQ9) : HookOk ⟨Pg, ofList [(84, (FQ92 SQ92)), (86, (FQ127 SQ127)), (87, (FQ13 SQ13)), (85, (orFs (FQ15 SQ15) (FQ5 SQ5) shFQ15)), (88, (FQ9 SQ9))], isref, N⟩ 0 (anQ72 N SQ92 SQ127 SQ13 SQ15 SQ5 SQ9) (lp Pg 44 0) :=
  hooks_ok [(sh_st_dyad_Dot_0, hk_st_dyad_Dot_0 N SQ92 SQ127 SQ13 SQ15 SQ5 SQ9)] (by kernel_rfl) ⟨hk1_st_dyad_Dot_0 _ _ _ _ _ _ _, trivial⟩
theorem eqQ72 (N : Nat) (SQ92 : TSQ92) (SQ127 : TSQ127) (SQ13 : TSQ13) (SQ15 : TSQ15) (SQ5 : TSQ5) (SQ9 : TSQ9) (a b : List Fl) (c_ : V -> List Blk -> Bool) : bodyV ⟨Pg, ofList [(84, (FQ92 SQ92)), (86, (FQ127 SQ127)), (87, (FQ13 SQ13)), (85, (orFs (FQ15 SQ15) (FQ5 SQ5) shFQ15)), (88, (FQ9 SQ9))], isref, N⟩ (anQ72 N SQ92 SQ127 SQ13 SQ15 SQ5 SQ9) 44 (shFQ72.args [.fls a, .fls b]) [] c_ = GQ72 N SQ92 SQ127 SQ13 SQ15 SQ5 SQ9 a b (fun r0 r1 r2 => c_ (.tup [.agg [.bool r0, .nil, .int .i64 r1], .int .i64 r2]) []) (fun r0 r1 r2 r3 => c_ (.tup [.agg [.bool r0, .slw 0, .int .i64 r1], .int .i64 r2]) [⟨87, 1, .ints .u32 r3⟩]) := by kernel_rfl
theorem goodQ72 (N : Nat) (SQ92 : TSQ92) (SQ127 : TSQ127) (SQ13 : TSQ13) (SQ15 : TSQ15) (SQ5 : TSQ5) (SQ9 : TSQ9) (hQ92 : GoodF Pg 84 (FQ92 SQ92)) (hQ127 : GoodF Pg 86 (FQ127 SQ127)) (hQ13 : GoodF Pg 87 (FQ13 SQ13)) (hQ15 : GoodF Pg 85 (FQ15 SQ15)) (hQ5 : GoodF Pg 85 (FQ5 SQ5)) (hQ9 : GoodF Pg 88 (FQ9 SQ9)) : GoodF Pg 44 (FQ72 (GQ72 N SQ92 SQ127 SQ13 SQ15 SQ5 SQ9)) := by
  refine good_fs (cx := ⟨Pg, ofList [(84, (FQ92 SQ92)), (86, (FQ127 SQ127)), (87, (FQ13 SQ13)), (85, (orFs (FQ15 SQ15) (FQ5 SQ5) shFQ15)), (88, (FQ9 SQ9))], isref, N⟩) (ofList_cons hQ92 (ofList_cons hQ127 (ofList_cons hQ13 (ofList_cons (good_or hQ15 hQ5) (ofList_cons hQ9 (ofList_nil _)))))) shFQ72 (spQ72 (GQ72 N SQ92 SQ127 SQ13 SQ15 SQ5 SQ9)) (anQ72 N SQ92 SQ127 SQ13 SQ15 SQ5 SQ9) 1 0 (by kernel_rfl) (fun i_ hi_ => by
    match i_, hi_ with
    | 0, _ => exact ho_dyad_Dot_0 _ _ _ _ _ _ _
    | (q + 1), h => omega) ?_
  intro a k h
  unfold spQ72 at h
  split at h
  · exact ⟨[], rfl, rfl, (eqQ72 _ _ _ _ _ _ _ _ _ _).trans h⟩
  · cases h

def anQ111 (N : Nat) : Nat -> Option Ann := fun b_ => none
theorem eqQ111 (N : Nat) (d_0 : Bool) (d_1 : List Int) (d_2 : Int) (c_ : V -> List Blk -> Bool) : bodyV ⟨Pg, ofList [], isref, N⟩ (anQ111 N) 92 (shFQ111.args [.bool d_0, .ints d_1, .int d_2]) [] c_ = GQ111 N d_0 d_1 d_2 (fun r0 => c_ (.bool r0) []) := by kernel_rfl
theorem goodQ111 (N : Nat) : GoodF Pg 92 (FQ111 (GQ111 N)) := by
  refine good_fs (cx := ⟨Pg, ofList [], isref, N⟩) (ofList_nil _) shFQ111 (spQ111 (GQ111 N)) (anQ111 N) 0 0 (by kernel_rfl) (fun i_ hi_ => by omega) ?_
  intro a k h
  unfold spQ111 at h
  split at h
  · exact ⟨[], rfl, rfl, (eqQ111 _ _ _ _ _).trans h⟩
  · cases h

def anQ42 (N : Nat) (SQ89 : TSQ89) (SQ0 : TSQ0) : Nat -> Option Ann := fun b_ => none
theorem eqQ42 (N : Nat) (SQ89 : TSQ89) (SQ0 : TSQ0) (n : Int) (b : Bool) (c_ : V -> List Blk -> Bool) : bodyZ ⟨Pg, ofList [(169, (FQ89 SQ89)), (139, (FQ0 SQ0))], isref, N⟩ (anQ42 N SQ89 SQ0) 141 (shFQ42.args [.int n, .bool b]) [⟨126, 1, .cells [.bool b, .nil]⟩] c_ = GQ42 N SQ89 SQ0 n b (fun r0 r1 => c_ (.ptr 0 0) [⟨126, 1, .cells [.bool r0, .roi .u64 r1]⟩]) := by kernel_rfl
theorem goodQ42 (N : Nat) (SQ89 : TSQ89) (SQ0 : TSQ0) (hQ89 : GoodF Pg 169 (FQ89 SQ89)) (hQ0 : GoodF Pg 139 (FQ0 SQ0)) : GoodF Pg 141 (FQ42 (GQ42 N SQ89 SQ0)) := by
  refine good_fsZ (cx := ⟨Pg, ofList [(169, (FQ89 SQ89)), (139, (FQ0 SQ0))], isref, N⟩) (ofList_cons hQ89 (ofList_cons hQ0 (ofList_nil _))) shFQ42 (spQ42 (GQ42 N SQ89 SQ0)) (anQ42 N SQ89 SQ0) 0 1 (by kernel_rfl) (fun i_ hi_ => by omega) ?_
  intro a k h
  unfold spQ42 at h
  split at h
  · exact ⟨[_], rfl, rfl, (eqQ42 _ _ _ _ _ _).trans h⟩
  · cases h

def anQ40 (N : Nat) : Nat -> Option Ann := fun b_ => none
theorem eqQ40 (N : Nat) (neg : Bool) (abs_0 abs_1 : Nat) (b : Bool) (b_1 b_2 : List Int) (c_ : V -> List Blk -> Bool) : bodyZ ⟨Pg, ofList [], isref, N⟩ (anQ40 N) 139 (shFQ40.args [.bool neg, .nat abs_0, .nat abs_1, .bool b, .ints b_1, .ints b_2]) [⟨126, 1, .cells [.bool b, .roi .u64 b_1]⟩, ⟨22, 1, .ints .u64 b_2⟩] c_ = GQ40 N neg abs_0 abs_1 b b_1 b_2 (fun r0 => c_ (.ptr 0 0) [⟨126, 1, .cells [.bool r0, .sl 1 abs_0 abs_1]⟩, ⟨22, 1, .ints .u64 b_2⟩]) := by kernel_rfl
theorem goodQ40 (N : Nat) : GoodF Pg 139 (FQ40 (GQ40 N)) := by
  refine good_fsZ (cx := ⟨Pg, ofList [], isref, N⟩) (ofList_nil _) shFQ40 (spQ40 (GQ40 N)) (anQ40 N) 0 2 (by kernel_rfl) (fun i_ hi_ => by omega) ?_
  intro a k h
  unfold spQ40 at h
  split at h
  · exact ⟨[_, _], rfl, rfl, (eqQ40 _ _ _ _ _ _ _ _).trans h⟩
  · cases h

def sh_st_big_Int_Or_p0p0p1rr_0 : StSh := ⟨(.ptr 0 0 :: (.ptr 0 0 :: (.ptr 1 0 :: (sqs 4 (.slw 2 :: (sqs 14 (.int .i64 :: (.int .i64 :: (sqs 23 []))))))))), [some (126, 1, .cells [.bool, .roi .u64]), some (126, 1, .cells [.bool, .roi .u64]), some (22, 1, .ints .u64)]⟩
def sx0_st_big_Int_Or_p0p0p1rr_0 : StSh := ⟨(.ptr 0 0 :: (sqs 6 (.slw 2 :: (sqs 39 [])))), [some (126, 1, .cells [.bool, .roi .u64]), some (126, 1, .cells [.bool, .roi .u64]), some (22, 1, .ints .u64)]⟩
def hk_st_big_Int_Or_p0p0p1rr_0 (N : Nat) (SQ14 : TSQ14) (SQ1 : TSQ1) (SQ40 : TSQ40) : List Atom -> K -> Bool := fun a_ κ => match a_ with
  | [.int t22, .int t23, .bool z, .ints z_1, .bool y, .ints y_1, .ints r] => iterG N (stQ158 N SQ14 SQ1 SQ40 t22 z z_1 y y_1 (fun r4 => κ.ext 0 (sx0_st_big_Int_Or_p0p0p1rr_0.build [.bool z, .ints z_1, .bool y, .ints y_1, .ints r4]))) (t23, r)
  | _ => false
def anQ26 (N : Nat) (SQ14 : TSQ14) (SQ1 : TSQ1) (SQ40 : TSQ40) : Nat -> Option Ann := fun b_ => cond (b_ == 0) (some ⟨⟨[0, 1, 2, 7, 22, 23], [], []⟩, [(0, ⟨[0, 7], [], []⟩)], some ⟨[6], [], []⟩, some (mkHooks [(sh_st_big_Int_Or_p0p0p1rr_0, hk_st_big_Int_Or_p0p0p1rr_0 N SQ14 SQ1 SQ40)])⟩) (none)
theorem eq_st_big_Int_Or_p0p0p1rr_0 (N : Nat) (SQ14 : TSQ14) (SQ1 : TSQ1) (SQ40 : TSQ40) (κ : K) (t22 t23 : Int) (z : Bool) (z_1 : List Int) (y : Bool) (y_1 r : List Int) : iter N (fun s k => codeV ⟨Pg, ofList [(170, (FQ14 SQ14)), (167, (FQ1 SQ1)), (139, (FQ40 SQ40))], isref, N⟩ 2 (anQ26 N SQ14 SQ1 SQ40) (lp Pg 142 0).2 (lp Pg 142 0).1 s (roundK Pg 2 ((anQ26 N SQ14 SQ1 SQ40) (lp Pg 142 0).1) κ k)) (sh_st_big_Int_Or_p0p0p1rr_0.build [.int t22, .int t23, .bool z, .ints z_1, .bool y, .ints y_1, .ints r]) = iterG N (stQ158 N SQ14 SQ1 SQ40 t22 z z_1 y y_1 (fun r4 => κ.ext 0 (sx0_st_big_Int_Or_p0p0p1rr_0.build [.bool z, .ints z_1, .bool y, .ints y_1, .ints r4]))) (t23, r) :=
  iter_tr (fun (v_ : Int × List Int) => sh_st_big_Int_Or_p0p0p1rr_0.build [.int t22, .int v_.1, .bool z, .ints z_1, .bool y, .ints y_1, .ints v_.2]) (fun v_ K_ => by obtain ⟨t23, r⟩ := v_; kernel_rfl) N (t23, r)
theorem hk1_st_big_Int_Or_p0p0p1rr_0 (N : Nat) (SQ14 : TSQ14) (SQ1 : TSQ1) (SQ40 : TSQ40) : HookFor ⟨Pg, ofList [(170, (FQ14 SQ14)), (167, (FQ1 SQ1)), (139, (FQ40 SQ40))], isref, N⟩ 2 (anQ26 N SQ14 SQ1 SQ40) (lp Pg 142 0) (sh_st_big_Int_Or_p0p0p1rr_0, hk_st_big_Int_Or_p0p0p1rr_0 N SQ14 SQ1 SQ40) := by
  intro a κ h
  simp only at h
  unfold hk_st_big_Int_Or_p0p0p1rr_0 at h
  split at h
  · exact (eq_st_big_Int_Or_p0p0p1rr_0 _ _ _ _ _ _ _ _ _ _ _ _).trans h
  · cases h
theorem ho_big_Int_Or_p0p0p1rr_0 (N : Nat) (SQ14 : TSQ14) (SQ1 : TSQ1) (SQ40 : TSQ40) : HookOk ⟨Pg, ofList [(170, (FQ14 SQ14)), (167, (FQ1 SQ1)), (139, (FQ40 SQ40))], isref, N⟩ 2 (anQ26 N SQ14 SQ1 SQ40) (lp Pg 142 0) :=
  hooks_ok [(sh_st_big_Int_Or_p0p0p1rr_0, hk_st_big_Int_Or_p0p0p1rr_0 N SQ14 SQ1 SQ40)] (by kernel_rfl) ⟨hk1_st_big_Int_Or_p0p0p1rr_0 _ _ _ _, trivial⟩
theorem eqQ26 (N : Nat) (SQ14 : TSQ14) (SQ1 : TSQ1) (SQ40 : TSQ40) (b : Bool) (b_1 : List Int) (b_2 : Bool) (b_3 : List Int) (c_ : V -> List Blk -> Bool) : bodyZ ⟨Pg, ofList [(170, (FQ14 SQ14)), (167, (FQ1 SQ1)), (139, (FQ40 SQ40))], isref, N⟩ (anQ26 N SQ14 SQ1 SQ40) 142 (shFQ26.args [.bool b, .ints b_1, .bool b_2, .ints b_3]) [⟨126, 1, .cells [.bool b, .roi .u64 b_1]⟩, ⟨126, 1, .cells [.bool b_2, .roi .u64 b_3]⟩] c_ = GQ26 N SQ14 SQ1 SQ40 b b_1 b_2 b_3 (fun r0 r1 => c_ (.ptr 0 0) [⟨126, 1, .cells [.bool r0, .roi .u64 r1]⟩, ⟨126, 1, .cells [.bool b_2, .roi .u64 b_3]⟩]) := by kernel_rfl
theorem goodQ26 (N : Nat) (SQ14 : TSQ14) (SQ1 : TSQ1) (SQ40 : TSQ40) (hQ14 : GoodF Pg 170 (FQ14 SQ14)) (hQ1 : GoodF Pg 167 (FQ1 SQ1)) (hQ40 : GoodF Pg 139 (FQ40 SQ40)) : GoodF Pg 142 (FQ26 (GQ26 N SQ14 SQ1 SQ40)) := by
  refine good_fsZ (cx := ⟨Pg, ofList [(170, (FQ14 SQ14)), (167, (FQ1 SQ1)), (139, (FQ40 SQ40))], isref, N⟩) (ofList_cons hQ14 (ofList_cons hQ1 (ofList_cons hQ40 (ofList_nil _)))) shFQ26 (spQ26 (GQ26 N SQ14 SQ1 SQ40)) (anQ26 N SQ14 SQ1 SQ40) 1 2 (by kernel_rfl) (fun i_ hi_ => by
    match i_, hi_ with
    | 0, _ => exact ho_big_Int_Or_p0p0p1rr_0 _ _ _ _
    | (q + 1), h => omega) ?_
  intro a k h
  unfold spQ26 at h
  split at h
  · exact ⟨[_, _], rfl, rfl, (eqQ26 _ _ _ _ _ _ _ _ _).trans h⟩
  · cases h

def anQ43 (N : Nat) (SQ89 : TSQ89) (SQ28 : TSQ28) : Nat -> Option Ann := fun b_ => none
theorem eqQ43 (N : Nat) (SQ89 : TSQ89) (SQ28 : TSQ28) (n : Int) (b : Bool) (b_1 : List Int) (c_ : V -> List Blk -> Bool) : bodyZ ⟨Pg, ofList [(169, (FQ89 SQ89)), (139, (FQ28 SQ28))], isref, N⟩ (anQ43 N SQ89 SQ28) 141 (shFQ43.args [.int n, .bool b, .ints b_1]) [⟨126, 1, .cells [.bool b, .roi .u64 b_1]⟩] c_ = GQ43 N SQ89 SQ28 n b b_1 (fun r0 r1 => c_ (.ptr 0 0) [⟨126, 1, .cells [.bool r0, .roi .u64 r1]⟩]) := by kernel_rfl
theorem goodQ43 (N : Nat) (SQ89 : TSQ89) (SQ28 : TSQ28) (hQ89 : GoodF Pg 169 (FQ89 SQ89)) (hQ28 : GoodF Pg 139 (FQ28 SQ28)) : GoodF Pg 141 (FQ43 (GQ43 N SQ89 SQ28)) := by
  refine good_fsZ (cx := ⟨Pg, ofList [(169, (FQ89 SQ89)), (139, (FQ28 SQ28))], isref, N⟩) (ofList_cons hQ89 (ofList_cons hQ28 (ofList_nil _))) shFQ43 (spQ43 (GQ43 N SQ89 SQ28)) (anQ43 N SQ89 SQ28) 0 1 (by kernel_rfl) (fun i_ hi_ => by omega) ?_
  intro a k h
  unfold spQ43 at h
  split at h
  · exact ⟨[_], rfl, rfl, (eqQ43 _ _ _ _ _ _ _).trans h⟩
  · cases h

def sh_st_dyad_take_0 : StSh := ⟨(.any :: (.ptr 0 0 :: (.ptr 1 0 :: (.ptr 2 0 :: (.int .i64 :: (sqs 31 [])))))), [some (84, 1, .cells [.bool, .roi .u32, .int .i64]), some (128, 1, .cells [.val, .int .i64]), some (126, 1, .cells [.bool, .roi .u64])]⟩
def sx0_st_dyad_take_0 : StSh := ⟨(.any :: (.ptr 0 0 :: (.ptr 1 0 :: (.ptr 2 0 :: (sqs 32 []))))), [some (84, 1, .cells [.bool, .roi .u32, .int .i64]), some (128, 1, .cells [.val, .int .i64]), some (126, 1, .cells [.bool, .roi .u64])]⟩
def hk_st_dyad_take_0 (N : Nat) (SQ42 : TSQ42) (SQ55 : TSQ55) (SQ26 : TSQ26) (SQ43 : TSQ43) (SQ22 : TSQ22) : List Atom -> K -> Bool := fun a_ κ => match a_ with
  | [.int i_1, .bool d_5, .ints d_6, .int d_7, .val t2_2, .int t2_3, .bool n_1, .ints n_2] => iterG N (st_dyad_take_0 N SQ42 SQ55 SQ26 SQ43 SQ22 d_5 d_6 d_7 t2_2 t2_3 (fun r5 r6 => κ.ext 0 (sx0_st_dyad_take_0.build [.bool d_5, .ints d_6, .int d_7, .val t2_2, .int t2_3, .bool r5, .ints r6]))) (i_1, n_1, n_2)
  | _ => false
def anQ95 (N : Nat) (SQ42 : TSQ42) (SQ55 : TSQ55) (SQ26 : TSQ26) (SQ43 : TSQ43) (SQ22 : TSQ22) : Nat -> Option Ann := fun b_ => cond (b_ == 0) (some ⟨⟨[1, 2, 3, 4], [], [(2, 1, some .u64)]⟩, [(0, ⟨[1, 2, 3], [], []⟩)], some ⟨[2], [], []⟩, some (mkHooks [(sh_st_dyad_take_0, hk_st_dyad_take_0 N SQ42 SQ55 SQ26 SQ43 SQ22)])⟩) (none)
theorem eq_st_dyad_take_0 (N : Nat) (SQ42 : TSQ42) (SQ55 : TSQ55) (SQ26 : TSQ26) (SQ43 : TSQ43) (SQ22 : TSQ22) (κ : K) (i_1 : Int) (d_5 : Bool) (d_6 : List Int) (d_7 : Int) (t2_2 : Value) (t2_3 : Int) (n_1 : Bool) (n_2 : List Int) : iter N (fun s k => codeV ⟨Pg, ofList [(141, (orFs (FQ42 SQ42) (FQ43 SQ43) shFQ42)), (134, (FQ55 SQ55)), (142, (FQ26 SQ26)), (91, (FQ22 SQ22))], isref, N⟩ 0 (anQ95 N SQ42 SQ55 SQ26 SQ43 SQ22) (lp Pg 93 0).2 (lp Pg 93 0).1 s (roundK Pg 0 ((anQ95 N SQ42 SQ55 SQ26 SQ43 SQ22) (lp Pg 93 0).1) κ k)) (sh_st_dyad_take_0.build [.int i_1, .bool d_5, .ints d_6, .int d_7, .val t2_2, .int t2_3, .bool n_1, .ints n_2]) = iterG N (st_dyad_take_0 N SQ42 SQ55 SQ26 SQ43 SQ22 d_5 d_6 d_7 t2_2 t2_3 (fun r5 r6 => κ.ext 0 (sx0_st_dyad_take_0.build [.bool d_5, .ints d_6, .int d_7, .val t2_2, .int t2_3, .bool r5, .ints r6]))) (i_1, n_1, n_2) :=
  iter_tr (fun (v_ : Int × Bool × List Int) => sh_st_dyad_take_0.build [.int v_.1, .bool d_5, .ints d_6, .int d_7, .val t2_2, .int t2_3, .bool v_.2.1, .ints v_.2.2]) (fun v_ K_ => by obtain ⟨i_1, n_1, n_2⟩ := v_; kernel_rfl) N (i_1, n_1, n_2)
theorem hk1_st_dyad_take_0 (N : Nat) (SQ42 : TSQ42) (SQ55 : TSQ55) (SQ26 : TSQ26) (SQ43 : TSQ43) (SQ22 : TSQ22) : HookFor ⟨Pg, ofList [(141, (orFs (FQ42 SQ42) (FQ43 SQ43) shFQ42)), (134, (FQ55 SQ55)), (142, (FQ26 SQ26)), (91, (FQ22 SQ22))], isref, N⟩ 0 (anQ95 N SQ42 SQ55 SQ26 SQ43 SQ22) (lp Pg 93 0) (sh_st_dyad_take_0, hk_st_dyad_take_0 N SQ42 SQ55 SQ26 SQ43 SQ22) := by
  intro a κ h
  simp only at h
  unfold hk_st_dyad_take_0 at h
  split at h
  · exact (eq_st_dyad_take_0 _ _ _ _ _ _ _ _ _ _ _ _ _ _ _).trans h
  · cases h
theorem ho_dyad_take_0 (N : Nat) (SQ42 : TSQ42) (SQ55 : TSQ55) (SQ26 : TSQ26) (SQ43 : TSQ43) (SQ22 : TSQ22) : HookOk ⟨Pg, ofList [(141, (orFs (FQ42 SQ42) (FQ43 SQ43) shFQ42)), (134, (FQ55 SQ55)), (142, (FQ26 SQ26)), (91, (FQ22 SQ22))], isref, N⟩ 0 (anQ95 N SQ42 SQ55 SQ26 SQ43 SQ22) (lp Pg 93 0) :=
  hooks_ok [(sh_st_dyad_take_0, hk_st_dyad_take_0 N SQ42 SQ55 SQ26 SQ43 SQ22)] (by kernel_rfl) ⟨hk1_st_dyad_take_0 _ _ _ _ _ _, trivial⟩
theorem eqQ95 (N : Nat) (SQ42 : TSQ42) (SQ55 : TSQ55) (SQ26 : TSQ26) (SQ43 : TSQ43) (SQ22 : TSQ22) (d_0 : Bool) (d_1 : List Int) (d_2 : Int) (c_ : V -> List Blk -> Bool) : bodyV ⟨Pg, ofList [(141, (orFs (FQ42 SQ42) (FQ43 SQ43) shFQ42)), (134, (FQ55 SQ55)), (142, (FQ26 SQ26)), (91, (FQ22 SQ22))], isref, N⟩ (anQ95 N SQ42 SQ55 SQ26 SQ43 SQ22) 93 (shFQ95.args [.bool d_0, .ints d_1, .int d_2]) [] c_ = GQ95 N SQ42 SQ55 SQ26 SQ43 SQ22 d_0 d_1 d_2 (fun r1 r2 => c_ (.agg [.ptr 0 0, .int .i64 d_2]) [⟨126, 1, .cells [.bool r1, .roi .u64 r2]⟩]) := by kernel_rfl
theorem goodQ95 (N : Nat) (SQ42 : TSQ42) (SQ55 : TSQ55) (SQ26 : TSQ26) (SQ43 : TSQ43) (SQ22 : TSQ22) (hQ42 : GoodF Pg 141 (FQ42 SQ42)) (hQ55 : GoodF Pg 134 (FQ55 SQ55)) (hQ26 : GoodF Pg 142 (FQ26 SQ26)) (hQ43 : GoodF Pg 141 (FQ43 SQ43)) (hQ22 : GoodF Pg 91 (FQ22 SQ22)) : GoodF Pg 93 (FQ95 (GQ95 N SQ42 SQ55 SQ26 SQ43 SQ22)) := by
  refine good_fs (cx := ⟨Pg, ofList [(141, (orFs (FQ42 SQ42) (FQ43 SQ43) shFQ42)), (134, (FQ55 SQ55)), (142, (FQ26 SQ26)), (91, (FQ22 SQ22))], isref, N⟩) (ofList_cons (good_or hQ42 hQ43) (ofList_cons hQ55 (ofList_cons hQ26 (ofList_cons hQ22 (ofList_nil _))))) shFQ95 (spQ95 (GQ95 N SQ42 SQ55 SQ26 SQ43 SQ22)) (anQ95 N SQ42 SQ55 SQ26 SQ43 SQ22) 1 0 (by kernel_rfl) (fun i_ hi_ => by
    match i_, hi_ with
    | 0, _ => exact ho_dyad_take_0 _ _ _ _ _ _
    | (q + 1), h => omega) ?_
  intro a k h
  unfold spQ95 at h
  split at h
  · exact ⟨[], rfl, rfl, (eqQ95 _ _ _ _ _ _ _ _ _ _).trans h⟩
  · cases h

def anQ38 (N : Nat) (SQ65 : TSQ65) (SQ0 : TSQ0) : Nat -> Option Ann := fun b_ => none
theorem eqQ38 (N : Nat) (SQ65 : TSQ65) (SQ0 : TSQ0) (b b_1 : Bool) (b_2 : List Int) (c_ : V -> List Blk -> Bool) : bodyZ ⟨Pg, ofList [(140, (FQ65 SQ65)), (139, (FQ0 SQ0))], isref, N⟩ (anQ38 N SQ65 SQ0) 91 (shFQ38.args [.bool b, .bool b_1, .ints b_2]) [⟨126, 1, .cells [.bool b, .nil]⟩, ⟨126, 1, .cells [.bool b_1, .roi .u64 b_2]⟩] c_ = GQ38 N SQ65 SQ0 b b_1 b_2 (fun r0 r1 => c_ (.ptr 0 0) [⟨126, 1, .cells [.bool r0, .roi .u64 r1]⟩, ⟨126, 1, .cells [.bool b_1, .roi .u64 b_2]⟩]) := by kernel_rfl
theorem goodQ38 (N : Nat) (SQ65 : TSQ65) (SQ0 : TSQ0) (hQ65 : GoodF Pg 140 (FQ65 SQ65)) (hQ0 : GoodF Pg 139 (FQ0 SQ0)) : GoodF Pg 91 (FQ38 (GQ38 N SQ65 SQ0)) := by
  refine good_fsZ (cx := ⟨Pg, ofList [(140, (FQ65 SQ65)), (139, (FQ0 SQ0))], isref, N⟩) (ofList_cons hQ65 (ofList_cons hQ0 (ofList_nil _))) shFQ38 (spQ38 (GQ38 N SQ65 SQ0)) (anQ38 N SQ65 SQ0) 0 2 (by kernel_rfl) (fun i_ hi_ => by omega) ?_
  intro a k h
  unfold spQ38 at h
  split at h
  · exact ⟨[_, _], rfl, rfl, (eqQ38 _ _ _ _ _ _ _).trans h⟩
  · cases h

def anQ62 (N : Nat) (SQ38 : TSQ38) (SQ5 : TSQ5) : Nat -> Option Ann := fun b_ => none
theorem eqQ62 (N : Nat) (SQ38 : TSQ38) (SQ5 : TSQ5) (x y : Int) (b : Bool) (b_1 : List Int) (b_2 : Bool) (b_3 : List Int) (c_ : V -> List Blk -> Bool) : bodyV ⟨Pg, ofList [(91, (FQ38 SQ38)), (85, (FQ5 SQ5))], isref, N⟩ (anQ62 N SQ38 SQ5) 90 (shFQ62.args [.int x, .int y, .bool b, .ints b_1, .bool b_2, .ints b_3]) [⟨126, 1, .cells [.bool b, .roi .u64 b_1]⟩, ⟨126, 1, .cells [.bool b_2, .roi .u64 b_3]⟩] c_ = GQ62 N SQ38 SQ5 x y b b_1 b_2 b_3 (fun r0 r5 r6 => c_ (.agg [.ptr 2 0, .int .i64 r0]) [⟨126, 1, .cells [.bool b, .roi .u64 b_1]⟩, ⟨126, 1, .cells [.bool b_2, .roi .u64 b_3]⟩, ⟨126, 1, .cells [.bool r5, .roi .u64 r6]⟩]) (c_ (.agg [.ptr 0 0, .int .i64 x]) [⟨126, 1, .cells [.bool b, .roi .u64 b_1]⟩, ⟨126, 1, .cells [.bool b_2, .roi .u64 b_3]⟩]) := by kernel_rfl
theorem goodQ62 (N : Nat) (SQ38 : TSQ38) (SQ5 : TSQ5) (hQ38 : GoodF Pg 91 (FQ38 SQ38)) (hQ5 : GoodF Pg 85 (FQ5 SQ5)) : GoodF Pg 90 (FQ62 (GQ62 N SQ38 SQ5)) := by
  refine good_fs (cx := ⟨Pg, ofList [(91, (FQ38 SQ38)), (85, (FQ5 SQ5))], isref, N⟩) (ofList_cons hQ38 (ofList_cons hQ5 (ofList_nil _))) shFQ62 (spQ62 (GQ62 N SQ38 SQ5)) (anQ62 N SQ38 SQ5) 0 2 (by kernel_rfl) (fun i_ hi_ => by omega) ?_
  intro a k h
  unfold spQ62 at h
  split at h
  · exact ⟨[_, _], rfl, rfl, (eqQ62 _ _ _ _ _ _ _ _ _ _).trans h⟩
  · cases h

def anQ103 (N : Nat) (SQ111 : TSQ111) (SQ95 : TSQ95) (SQ62 : TSQ62) (SQ9 : TSQ9) : Nat -> Option Ann := fun b_ => none
theorem eqQ103 (N : Nat) (SQ111 : TSQ111) (SQ95 : TSQ95) (SQ62 : TSQ62) (SQ9 : TSQ9) (a_0 : Bool) (a_1 : List Int) (a_2 : Int) (b_0 : Bool) (b_1 : List Int) (b_2 : Int) (c_ : V -> List Blk -> Bool) : bodyV ⟨Pg, ofList [(92, (FQ111 SQ111)), (93, (FQ95 SQ95)), (90, (FQ62 SQ62)), (88, (FQ9 SQ9))], isref, N⟩ (anQ103 N SQ111 SQ95 SQ62 SQ9) 89 (shFQ103.args [.bool a_0, .ints a_1, .int a_2, .bool b_0, .ints b_1, .int b_2]) [] c_ = GQ103 N SQ111 SQ95 SQ62 SQ9 a_0 a_1 a_2 b_0 b_1 b_2 (fun r0 r1 r2 => c_ (.tup [.agg [.bool r0, .nil, .int .i64 r1], .int .i64 r2]) []) (fun r0 r1 r2 r3 => c_ (.tup [.agg [.bool r0, .slw 0, .int .i64 r1], .int .i64 r2]) [⟨87, 1, .ints .u32 r3⟩]) := by kernel_rfl
theorem goodQ103 (N : Nat) (SQ111 : TSQ111) (SQ95 : TSQ95) (SQ62 : TSQ62) (SQ9 : TSQ9) (hQ111 : GoodF Pg 92 (FQ111 SQ111)) (hQ95 : GoodF Pg 93 (FQ95 SQ95)) (hQ62 : GoodF Pg 90 (FQ62 SQ62)) (hQ9 : GoodF Pg 88 (FQ9 SQ9)) : GoodF Pg 89 (FQ103 (GQ103 N SQ111 SQ95 SQ62 SQ9)) := by
  refine good_fs (cx := ⟨Pg, ofList [(92, (FQ111 SQ111)), (93, (FQ95 SQ95)), (90, (FQ62 SQ62)), (88, (FQ9 SQ9))], isref, N⟩) (ofList_cons hQ111 (ofList_cons hQ95 (ofList_cons hQ62 (ofList_cons hQ9 (ofList_nil _))))) shFQ103 (spQ103 (GQ103 N SQ111 SQ95 SQ62 SQ9)) (anQ103 N SQ111 SQ95 SQ62 SQ9) 0 0 (by kernel_rfl) (fun i_ hi_ => by omega) ?_
  intro a k h
  unfold spQ103 at h
  split at h
  · exact ⟨[], rfl, rfl, (eqQ103 _ _ _ _ _ _ _ _ _ _ _ _).trans h⟩
  · cases h

def anQ73 (N : Nat) (SQ103 : TSQ103) : Nat -> Option Ann := fun b_ => none
theorem eqQ73 (N : Nat) (SQ103 : TSQ103) (a_0 : Bool) (a_1 : List Int) (a_2 : Int) (b_0 : Bool) (b_1 : List Int) (b_2 : Int) (c_ : V -> List Blk -> Bool) : bodyV ⟨Pg, ofList [(89, (FQ103 SQ103))], isref, N⟩ (anQ73 N SQ103) 45 (shFQ73.args [.bool a_0, .ints a_1, .int a_2, .bool b_0, .ints b_1, .int b_2]) [] c_ = GQ73 N SQ103 a_0 a_1 a_2 b_0 b_1 b_2 (fun r0 r1 r2 => c_ (.tup [.agg [.bool r0, .nil, .int .i64 r1], .int .i64 r2]) []) (fun r0 r1 r2 r3 => c_ (.tup [.agg [.bool r0, .slw 0, .int .i64 r1], .int .i64 r2]) [⟨87, 1, .ints .u32 r3⟩]) := by kernel_rfl
theorem goodQ73 (N : Nat) (SQ103 : TSQ103) (hQ103 : GoodF Pg 89 (FQ103 SQ103)) : GoodF Pg 45 (FQ73 (GQ73 N SQ103)) := by
  refine good_fs (cx := ⟨Pg, ofList [(89, (FQ103 SQ103))], isref, N⟩) (ofList_cons hQ103 (ofList_nil _)) shFQ73 (spQ73 (GQ73 N SQ103)) (anQ73 N SQ103) 0 0 (by kernel_rfl) (fun i_ hi_ => by omega) ?_
  intro a k h
  unfold spQ73 at h
  split at h
  · exact ⟨[], rfl, rfl, (eqQ73 _ _ _ _ _ _ _ _ _).trans h⟩
  · cases h

def anQ36 (N : Nat) (SQ111 : TSQ111) (SQ95 : TSQ95) (SQ38 : TSQ38) (SQ5 : TSQ5) (SQ4 : TSQ4) : Nat -> Option Ann := fun b_ => none
theorem eqQ36 (N : Nat) (SQ111 : TSQ111) (SQ95 : TSQ95) (SQ38 : TSQ38) (SQ5 : TSQ5) (SQ4 : TSQ4) (a_0 : Bool) (a_1 : List Int) (a_2 : Int) (b_0 : Bool) (b_1 : List Int) (b_2 : Int) (c_ : V -> List Blk -> Bool) : bodyV ⟨Pg, ofList [(92, (FQ111 SQ111)), (93, (FQ95 SQ95)), (91, (FQ38 SQ38)), (85, (FQ5 SQ5)), (94, (FQ4 SQ4))], isref, N⟩ (anQ36 N SQ111 SQ95 SQ38 SQ5 SQ4) 46 (shFQ36.args [.bool a_0, .ints a_1, .int a_2, .bool b_0, .ints b_1, .int b_2]) [] c_ = GQ36 N SQ111 SQ95 SQ38 SQ5 SQ4 a_0 a_1 a_2 b_0 b_1 b_2 (fun r0 r1 => c_ (.tup [.int .i64 r0, .int .i64 r1]) []) := by kernel_rfl
theorem goodQ36 (N : Nat) (SQ111 : TSQ111) (SQ95 : TSQ95) (SQ38 : TSQ38) (SQ5 : TSQ5) (SQ4 : TSQ4) (hQ111 : GoodF Pg 92 (FQ111 SQ111)) (hQ95 : GoodF Pg 93 (FQ95 SQ95)) (hQ38 : GoodF Pg 91 (FQ38 SQ38)) (hQ5 : GoodF Pg 85 (FQ5 SQ5)) (hQ4 : GoodF Pg 94 (FQ4 SQ4)) : GoodF Pg 46 (FQ36 (GQ36 N SQ111 SQ95 SQ38 SQ5 SQ4)) := by
  refine good_fs (cx := ⟨Pg, ofList [(92, (FQ111 SQ111)), (93, (FQ95 SQ95)), (91, (FQ38 SQ38)), (85, (FQ5 SQ5)), (94, (FQ4 SQ4))], isref, N⟩) (ofList_cons hQ111 (ofList_cons hQ95 (ofList_cons hQ38 (ofList_cons hQ5 (ofList_cons hQ4 (ofList_nil _)))))) shFQ36 (spQ36 (GQ36 N SQ111 SQ95 SQ38 SQ5 SQ4)) (anQ36 N SQ111 SQ95 SQ38 SQ5 SQ4) 0 0 (by kernel_rfl) (fun i_ hi_ => by omega) ?_
  intro a k h
  unfold spQ36 at h
  split at h
  · exact ⟨[], rfl, rfl, (eqQ36 _ _ _ _ _ _ _ _ _ _ _ _ _).trans h⟩
  · cases h

def anQ71 (N : Nat) (SQ7 : TSQ7) (SQ53 : TSQ53) (SQ72 : TSQ72) (SQ73 : TSQ73) (SQ36 : TSQ36) : Nat -> Option Ann := fun b_ => none
def lsQ169 (d_ : List V) (u_ : List (Option Blk)) (q_0 q_1 q_2 q_3 : Fl) (b7 : List Int) (off_6 : Bool) (off_7 : Int) : St := ⟨(dqs d_ 0 7 (.ptr 8 0 :: (dqs d_ 7 39 []))), [(u_.getD 0 none), (u_.getD 1 none), (u_.getD 2 none), (u_.getD 3 none), (u_.getD 4 none), (u_.getD 5 none), (u_.getD 6 none), some ⟨87, 1, .ints .u32 b7⟩, some ⟨84, 1, .cells [.bool off_6, .slw 7, .int .i64 off_7]⟩]⟩
def lsQ168 (d_ : List V) (u_ : List (Option Blk)) (q_0 q_1 q_2 q_3 : Fl) (off_4 : Bool) (off_5 : Int) : St := ⟨(dqs d_ 0 7 (.ptr 7 0 :: (dqs d_ 7 39 []))), [(u_.getD 0 none), (u_.getD 1 none), (u_.getD 2 none), (u_.getD 3 none), (u_.getD 4 none), (u_.getD 5 none), (u_.getD 6 none), some ⟨84, 1, .cells [.bool off_4, .nil, .int .i64 off_5]⟩]⟩
def lsQ160 (d_ : List V) (u_ : List (Option Blk)) (q_0 q_1 q_2 q_3 : Fl) (b3 : List Int) (n_2 : Bool) (n_3 : Int) : St := ⟨(dqs d_ 0 4 (.ptr 4 0 :: (dqs d_ 4 42 []))), [(u_.getD 0 none), (u_.getD 1 none), (u_.getD 2 none), some ⟨87, 1, .ints .u32 b3⟩, some ⟨84, 1, .cells [.bool n_2, .slw 3, .int .i64 n_3]⟩]⟩
def lsQ167 (d_ : List V) (u_ : List (Option Blk)) (q_0 q_1 q_2 q_3 : Fl) (b6 : List Int) (off_2 : Bool) (off_3 : Int) : St := ⟨(dqs d_ 0 7 (.ptr 7 0 :: (dqs d_ 7 39 []))), [(u_.getD 0 none), (u_.getD 1 none), (u_.getD 2 none), (u_.getD 3 none), (u_.getD 4 none), (u_.getD 5 none), some ⟨87, 1, .ints .u32 b6⟩, some ⟨84, 1, .cells [.bool off_2, .slw 6, .int .i64 off_3]⟩]⟩
def lsQ166 (d_ : List V) (u_ : List (Option Blk)) (q_0 q_1 q_2 q_3 : Fl) (off : Bool) (off_1 : Int) : St := ⟨(dqs d_ 0 7 (.ptr 6 0 :: (dqs d_ 7 39 []))), [(u_.getD 0 none), (u_.getD 1 none), (u_.getD 2 none), (u_.getD 3 none), (u_.getD 4 none), (u_.getD 5 none), some ⟨84, 1, .cells [.bool off, .nil, .int .i64 off_1]⟩]⟩
def lsQ159 (d_ : List V) (u_ : List (Option Blk)) (q_0 q_1 q_2 q_3 : Fl) (n : Bool) (n_1 : Int) : St := ⟨(dqs d_ 0 4 (.ptr 3 0 :: (dqs d_ 4 42 []))), [(u_.getD 0 none), (u_.getD 1 none), (u_.getD 2 none), some ⟨84, 1, .cells [.bool n, .nil, .int .i64 n_1]⟩]⟩
theorem jnQ169 (N : Nat) (SQ7 : TSQ7) (SQ53 : TSQ53) (SQ72 : TSQ72) (SQ73 : TSQ73) (SQ36 : TSQ36) (d_ : List V) (u_ : List (Option Blk)) (q_0 q_1 q_2 q_3 : Fl) (b7 : List Int) (off_6 : Bool) (off_7 : Int) (c_ : V -> List Blk -> Bool) : codesV ⟨Pg, ofList [(42, (FQ7 SQ7)), (43, (FQ53 SQ53)), (44, (FQ72 SQ72)), (45, (FQ73 SQ73)), (46, (FQ36 SQ36))], isref, N⟩ 0 (anQ71 N SQ7 SQ53 SQ72 SQ73 SQ36) ((cds Pg 11).drop 11) 0 (lsQ169 d_ u_ q_0 q_1 q_2 q_3 b7 off_6 off_7) (finV Pg 11 0 c_) = JQ169 N SQ7 SQ53 SQ72 SQ73 SQ36 q_0 q_1 q_2 q_3 b7 off_6 off_7 (fun r0 => c_ (.bool r0) []) := by kernel_rfl
theorem jnQ168 (N : Nat) (SQ7 : TSQ7) (SQ53 : TSQ53) (SQ72 : TSQ72) (SQ73 : TSQ73) (SQ36 : TSQ36) (d_ : List V) (u_ : List (Option Blk)) (q_0 q_1 q_2 q_3 : Fl) (off_4 : Bool) (off_5 : Int) (c_ : V -> List Blk -> Bool) : codesV ⟨Pg, ofList [(42, (FQ7 SQ7)), (43, (FQ53 SQ53)), (44, (FQ72 SQ72)), (45, (FQ73 SQ73)), (46, (FQ36 SQ36))], isref, N⟩ 0 (anQ71 N SQ7 SQ53 SQ72 SQ73 SQ36) ((cds Pg 11).drop 11) 0 (lsQ168 d_ u_ q_0 q_1 q_2 q_3 off_4 off_5) (finV Pg 11 0 c_) = JQ168 N SQ7 SQ53 SQ72 SQ73 SQ36 q_0 q_1 q_2 q_3 off_4 off_5 (fun r0 => c_ (.bool r0) []) := by kernel_rfl
theorem hdQ160 (N : Nat) (SQ7 : TSQ7) (SQ53 : TSQ53) (SQ72 : TSQ72) (SQ73 : TSQ73) (SQ36 : TSQ36) (d_ : List V) (u_ : List (Option Blk)) (q_0 q_1 q_2 q_3 : Fl) (b3 : List Int) (n_2 : Bool) (n_3 : Int) (c_ : V -> List Blk -> Bool) (κn_ : St -> Bool) : codesV ⟨Pg, ofList [(42, (FQ7 SQ7)), (43, (FQ53 SQ53)), (44, (FQ72 SQ72)), (45, (FQ73 SQ73)), (46, (FQ36 SQ36))], isref, N⟩ 0 (anQ71 N SQ7 SQ53 SQ72 SQ73 SQ36) (sg Pg 11 7 4) 0 (lsQ160 d_ u_ q_0 q_1 q_2 q_3 b3 n_2 n_3) { (finV Pg 11 0 c_) with nrm := κn_ } = (SQ73 n_2 b3 n_3 false [1] 0 (fun cr_5 nr_12 nr_13 => (cond (nr_13 != 0) (c_ (.bool false) []) (κn_ (lsQ168 (dqs d_ 0 4 (.ptr 4 0 :: (.int .i64 nr_13 :: (.ptr 6 0 :: (dqs d_ 7 15 (.slw 5 :: (.agg [.bool false, .slw 5, .int .i64 0] :: (.tup [.agg [.bool cr_5, .nil, .int .i64 nr_12], .int .i64 nr_13] :: (.agg [.bool n_2, .slw 3, .int .i64 n_3] :: (.agg [.bool false, .slw 5, .int .i64 0] :: (.tup [.agg [.bool cr_5, .nil, .int .i64 nr_12], .int .i64 nr_13] :: (.agg [.bool cr_5, .nil, .int .i64 nr_12] :: (.int .i64 nr_13 :: (.int .i64 nr_13 :: (.bool false :: (dqs d_ 32 14 [])))))))))))))))) [(u_.getD 0 none), (u_.getD 1 none), (u_.getD 2 none), some ⟨87, 1, .ints .u32 b3⟩, some ⟨84, 1, .cells [.bool n_2, .slw 3, .int .i64 n_3]⟩, some ⟨87, 1, .ints .u32 [1]⟩, some ⟨84, 1, .cells [.bool false, .slw 5, .int .i64 0]⟩] q_0 q_1 q_2 q_3 cr_5 nr_12)))) (fun cr_6 nr_14 nr_15 nsr_2 => (cond (nr_15 != 0) (c_ (.bool false) []) (κn_ (lsQ169 (dqs d_ 0 4 (.ptr 4 0 :: (.int .i64 nr_15 :: (.ptr 6 0 :: (dqs d_ 7 15 (.slw 5 :: (.agg [.bool false, .slw 5, .int .i64 0] :: (.tup [.agg [.bool cr_6, .slw 7, .int .i64 nr_14], .int .i64 nr_15] :: (.agg [.bool n_2, .slw 3, .int .i64 n_3] :: (.agg [.bool false, .slw 5, .int .i64 0] :: (.tup [.agg [.bool cr_6, .slw 7, .int .i64 nr_14], .int .i64 nr_15] :: (.agg [.bool cr_6, .slw 7, .int .i64 nr_14] :: (.int .i64 nr_15 :: (.int .i64 nr_15 :: (.bool false :: (dqs d_ 32 14 [])))))))))))))))) [(u_.getD 0 none), (u_.getD 1 none), (u_.getD 2 none), some ⟨87, 1, .ints .u32 b3⟩, some ⟨84, 1, .cells [.bool n_2, .slw 3, .int .i64 n_3]⟩, some ⟨87, 1, .ints .u32 [1]⟩, some ⟨84, 1, .cells [.bool false, .slw 5, .int .i64 0]⟩] q_0 q_1 q_2 q_3 nsr_2 cr_6 nr_14))))) := by kernel_rfl
theorem jnQ160 (N : Nat) (SQ7 : TSQ7) (SQ53 : TSQ53) (SQ72 : TSQ72) (SQ73 : TSQ73) (SQ36 : TSQ36) (d_ : List V) (u_ : List (Option Blk)) (q_0 q_1 q_2 q_3 : Fl) (b3 : List Int) (n_2 : Bool) (n_3 : Int) (c_ : V -> List Blk -> Bool) : codesV ⟨Pg, ofList [(42, (FQ7 SQ7)), (43, (FQ53 SQ53)), (44, (FQ72 SQ72)), (45, (FQ73 SQ73)), (46, (FQ36 SQ36))], isref, N⟩ 0 (anQ71 N SQ7 SQ53 SQ72 SQ73 SQ36) ((cds Pg 11).drop 7) 0 (lsQ160 d_ u_ q_0 q_1 q_2 q_3 b3 n_2 n_3) (finV Pg 11 0 c_) = JQ160 N SQ7 SQ53 SQ72 SQ73 SQ36 q_0 q_1 q_2 q_3 b3 n_2 n_3 (fun r0 => c_ (.bool r0) []) := by
  rw [codesV_cut 7 4 11 rfl]
  refine (hdQ160 N SQ7 SQ53 SQ72 SQ73 SQ36 d_ u_ q_0 q_1 q_2 q_3 b3 n_2 n_3 c_ _).trans ?_
  simp only [jnQ168, jnQ169]
  kernel_rfl
theorem jnQ167 (N : Nat) (SQ7 : TSQ7) (SQ53 : TSQ53) (SQ72 : TSQ72) (SQ73 : TSQ73) (SQ36 : TSQ36) (d_ : List V) (u_ : List (Option Blk)) (q_0 q_1 q_2 q_3 : Fl) (b6 : List Int) (off_2 : Bool) (off_3 : Int) (c_ : V -> List Blk -> Bool) : codesV ⟨Pg, ofList [(42, (FQ7 SQ7)), (43, (FQ53 SQ53)), (44, (FQ72 SQ72)), (45, (FQ73 SQ73)), (46, (FQ36 SQ36))], isref, N⟩ 0 (anQ71 N SQ7 SQ53 SQ72 SQ73 SQ36) ((cds Pg 11).drop 11) 0 (lsQ167 d_ u_ q_0 q_1 q_2 q_3 b6 off_2 off_3) (finV Pg 11 0 c_) = JQ167 N SQ7 SQ53 SQ72 SQ73 SQ36 q_0 q_1 q_2 q_3 b6 off_2 off_3 (fun r0 => c_ (.bool r0) []) := by kernel_rfl
theorem jnQ166 (N : Nat) (SQ7 : TSQ7) (SQ53 : TSQ53) (SQ72 : TSQ72) (SQ73 : TSQ73) (SQ36 : TSQ36) (d_ : List V) (u_ : List (Option Blk)) (q_0 q_1 q_2 q_3 : Fl) (off : Bool) (off_1 : Int) (c_ : V -> List Blk -> Bool) : codesV ⟨Pg, ofList [(42, (FQ7 SQ7)), (43, (FQ53 SQ53)), (44, (FQ72 SQ72)), (45, (FQ73 SQ73)), (46, (FQ36 SQ36))], isref, N⟩ 0 (anQ71 N SQ7 SQ53 SQ72 SQ73 SQ36) ((cds Pg 11).drop 11) 0 (lsQ166 d_ u_ q_0 q_1 q_2 q_3 off off_1) (finV Pg 11 0 c_) = JQ166 N SQ7 SQ53 SQ72 SQ73 SQ36 q_0 q_1 q_2 q_3 off off_1 (fun r0 => c_ (.bool r0) []) := by kernel_rfl
theorem hdQ159 (N : Nat) (SQ7 : TSQ7) (SQ53 : TSQ53) (SQ72 : TSQ72) (SQ73 : TSQ73) (SQ36 : TSQ36) (d_ : List V) (u_ : List (Option Blk)) (q_0 q_1 q_2 q_3 : Fl) (n : Bool) (n_1 : Int) (c_ : V -> List Blk -> Bool) (κn_ : St -> Bool) : codesV ⟨Pg, ofList [(42, (FQ7 SQ7)), (43, (FQ53 SQ53)), (44, (FQ72 SQ72)), (45, (FQ73 SQ73)), (46, (FQ36 SQ36))], isref, N⟩ 0 (anQ71 N SQ7 SQ53 SQ72 SQ73 SQ36) (sg Pg 11 7 4) 0 (lsQ159 d_ u_ q_0 q_1 q_2 q_3 n n_1) { (finV Pg 11 0 c_) with nrm := κn_ } = (SQ73 n [] n_1 false [1] 0 (fun cr_3 nr_4 nr_5 => (cond (nr_5 != 0) (c_ (.bool false) []) (κn_ (lsQ166 (dqs d_ 0 4 (.ptr 3 0 :: (.int .i64 nr_5 :: (.ptr 5 0 :: (dqs d_ 7 15 (.slw 4 :: (.agg [.bool false, .slw 4, .int .i64 0] :: (.tup [.agg [.bool cr_3, .nil, .int .i64 nr_4], .int .i64 nr_5] :: (.agg [.bool n, .nil, .int .i64 n_1] :: (.agg [.bool false, .slw 4, .int .i64 0] :: (.tup [.agg [.bool cr_3, .nil, .int .i64 nr_4], .int .i64 nr_5] :: (.agg [.bool cr_3, .nil, .int .i64 nr_4] :: (.int .i64 nr_5 :: (.int .i64 nr_5 :: (.bool false :: (dqs d_ 32 14 [])))))))))))))))) [(u_.getD 0 none), (u_.getD 1 none), (u_.getD 2 none), some ⟨84, 1, .cells [.bool n, .nil, .int .i64 n_1]⟩, some ⟨87, 1, .ints .u32 [1]⟩, some ⟨84, 1, .cells [.bool false, .slw 4, .int .i64 0]⟩] q_0 q_1 q_2 q_3 cr_3 nr_4)))) (fun cr_4 nr_6 nr_7 nsr_1 => (cond (nr_7 != 0) (c_ (.bool false) []) (κn_ (lsQ167 (dqs d_ 0 4 (.ptr 3 0 :: (.int .i64 nr_7 :: (.ptr 5 0 :: (dqs d_ 7 15 (.slw 4 :: (.agg [.bool false, .slw 4, .int .i64 0] :: (.tup [.agg [.bool cr_4, .slw 6, .int .i64 nr_6], .int .i64 nr_7] :: (.agg [.bool n, .nil, .int .i64 n_1] :: (.agg [.bool false, .slw 4, .int .i64 0] :: (.tup [.agg [.bool cr_4, .slw 6, .int .i64 nr_6], .int .i64 nr_7] :: (.agg [.bool cr_4, .slw 6, .int .i64 nr_6] :: (.int .i64 nr_7 :: (.int .i64 nr_7 :: (.bool false :: (dqs d_ 32 14 [])))))))))))))))) [(u_.getD 0 none), (u_.getD 1 none), (u_.getD 2 none), some ⟨84, 1, .cells [.bool n, .nil, .int .i64 n_1]⟩, some ⟨87, 1, .ints .u32 [1]⟩, some ⟨84, 1, .cells [.bool false, .slw 4, .int .i64 0]⟩] q_0 q_1 q_2 q_3 nsr_1 cr_4 nr_6))))) := by kernel_rfl
theorem jnQ159 (N : Nat) (SQ7 : TSQ7) (SQ53 : TSQ53) (SQ72 : TSQ72) (SQ73 : TSQ73) (SQ36 : TSQ36) (d_ : List V) (u_ : List (Option Blk)) (q_0 q_1 q_2 q_3 : Fl) (n : Bool) (n_1 : Int) (c_ : V -> List Blk -> Bool) : codesV ⟨Pg, ofList [(42, (FQ7 SQ7)), (43, (FQ53 SQ53)), (44, (FQ72 SQ72)), (45, (FQ73 SQ73)), (46, (FQ36 SQ36))], isref, N⟩ 0 (anQ71 N SQ7 SQ53 SQ72 SQ73 SQ36) ((cds Pg 11).drop 7) 0 (lsQ159 d_ u_ q_0 q_1 q_2 q_3 n n_1) (finV Pg 11 0 c_) = JQ159 N SQ7 SQ53 SQ72 SQ73 SQ36 q_0 q_1 q_2 q_3 n n_1 (fun r0 => c_ (.bool r0) []) := by
  rw [codesV_cut 7 4 11 rfl]
  refine (hdQ159 N SQ7 SQ53 SQ72 SQ73 SQ36 d_ u_ q_0 q_1 q_2 q_3 n n_1 c_ _).trans ?_
  simp only [jnQ166, jnQ167]
  kernel_rfl
theorem hd_quat_Good_w (N : Nat) (SQ7 : TSQ7) (SQ53 : TSQ53) (SQ72 : TSQ72) (SQ73 : TSQ73) (SQ36 : TSQ36) (q_0 q_1 q_2 q_3 : Fl) (c_ : V -> List Blk -> Bool) (κn_ : St -> Bool) : codesV ⟨Pg, ofList [(42, (FQ7 SQ7)), (43, (FQ53 SQ53)), (44, (FQ72 SQ72)), (45, (FQ73 SQ73)), (46, (FQ36 SQ36))], isref, N⟩ 0 (anQ71 N SQ7 SQ53 SQ72 SQ73 SQ36) (sg Pg 11 0 7) 0 (st0 Pg 11 (shFQ71.args [.fl q_0, .fl q_1, .fl q_2, .fl q_3]) []) { (finV Pg 11 0 c_) with nrm := κn_ } = (SQ7 q_0 q_1 q_2 q_3 (fun cr => (cond (!cr) (c_ (.bool false) []) (SQ53 q_0 q_1 q_2 q_3 (SQ72 [q_0, q_1, q_2, q_3] [q_0, q_1, q_2, q_3] (fun cr_1 nr nr_1 => (cond (nr_1 != 0) (c_ (.bool false) []) (κn_ (lsQ159 [.agg [.flt q_0, .flt q_1, .flt q_2, .flt q_3], .ptr 0 0, .bool false, .ptr 2 0, .int .i64 nr_1, .any, .any, .any, .agg [.flt q_0, .flt q_1, .flt q_2, .flt q_3], .slw 1, .bool cr, .bool false, .agg [.flt q_0, .flt q_1, .flt q_2, .flt q_3], .agg [.flt q_0, .flt q_1, .flt q_2, .flt q_3], .tup [.agg [.bool cr_1, .nil, .int .i64 nr], .int .i64 nr_1], .sl 2 0 (4 - 0), .sl 2 0 (4 - 0), .tup [.agg [.bool cr_1, .nil, .int .i64 nr], .int .i64 nr_1], .agg [.bool cr_1, .nil, .int .i64 nr], .int .i64 nr_1, .int .i64 nr_1, .bool false, .any, .any, .any, .any, .any, .any, .any, .any, .any, .any, .any, .any, .any, .any, .any, .any, .any, .any, .any, .any, .any, .any, .any, .any] [some ⟨30, 1, .cells [.flt q_0, .flt q_1, .flt q_2, .flt q_3]⟩, some ⟨30, 4, .cells [.flt q_0, .flt q_1, .flt q_2, .flt q_3]⟩, some ⟨80, 1, .flts [q_0, q_1, q_2, q_3]⟩] q_0 q_1 q_2 q_3 cr_1 nr)))) (fun cr_2 nr_2 nr_3 nsr => (cond (nr_3 != 0) (c_ (.bool false) []) (κn_ (lsQ160 [.agg [.flt q_0, .flt q_1, .flt q_2, .flt q_3], .ptr 0 0, .bool false, .ptr 2 0, .int .i64 nr_3, .any, .any, .any, .agg [.flt q_0, .flt q_1, .flt q_2, .flt q_3], .slw 1, .bool cr, .bool false, .agg [.flt q_0, .flt q_1, .flt q_2, .flt q_3], .agg [.flt q_0, .flt q_1, .flt q_2, .flt q_3], .tup [.agg [.bool cr_2, .slw 3, .int .i64 nr_2], .int .i64 nr_3], .sl 2 0 (4 - 0), .sl 2 0 (4 - 0), .tup [.agg [.bool cr_2, .slw 3, .int .i64 nr_2], .int .i64 nr_3], .agg [.bool cr_2, .slw 3, .int .i64 nr_2], .int .i64 nr_3, .int .i64 nr_3, .bool false, .any, .any, .any, .any, .any, .any, .any, .any, .any, .any, .any, .any, .any, .any, .any, .any, .any, .any, .any, .any, .any, .any, .any, .any] [some ⟨30, 1, .cells [.flt q_0, .flt q_1, .flt q_2, .flt q_3]⟩, some ⟨30, 4, .cells [.flt q_0, .flt q_1, .flt q_2, .flt q_3]⟩, some ⟨80, 1, .flts [q_0, q_1, q_2, q_3]⟩] q_0 q_1 q_2 q_3 nsr cr_2 nr_2))))))))) := by kernel_rfl
theorem jn_quat_Good_w (N : Nat) (SQ7 : TSQ7) (SQ53 : TSQ53) (SQ72 : TSQ72) (SQ73 : TSQ73) (SQ36 : TSQ36) (q_0 q_1 q_2 q_3 : Fl) (c_ : V -> List Blk -> Bool) : codesV ⟨Pg, ofList [(42, (FQ7 SQ7)), (43, (FQ53 SQ53)), (44, (FQ72 SQ72)), (45, (FQ73 SQ73)), (46, (FQ36 SQ36))], isref, N⟩ 0 (anQ71 N SQ7 SQ53 SQ72 SQ73 SQ36) ((cds Pg 11).drop 0) 0 (st0 Pg 11 (shFQ71.args [.fl q_0, .fl q_1, .fl q_2, .fl q_3]) []) (finV Pg 11 0 c_) = GQ71 N SQ7 SQ53 SQ72 SQ73 SQ36 q_0 q_1 q_2 q_3 (fun r0 => c_ (.bool r0) []) := by
  rw [codesV_cut 0 7 7 rfl]
  refine (hd_quat_Good_w N SQ7 SQ53 SQ72 SQ73 SQ36 q_0 q_1 q_2 q_3 c_ _).trans ?_
  simp only [jnQ159, jnQ160]
  kernel_rfl
theorem eqQ71 (N : Nat) (SQ7 : TSQ7) (SQ53 : TSQ53) (SQ72 : TSQ72) (SQ73 : TSQ73) (SQ36 : TSQ36) (q_0 q_1 q_2 q_3 : Fl) (c_ : V -> List Blk -> Bool) : bodyV ⟨Pg, ofList [(42, (FQ7 SQ7)), (43, (FQ53 SQ53)), (44, (FQ72 SQ72)), (45, (FQ73 SQ73)), (46, (FQ36 SQ36))], isref, N⟩ (anQ71 N SQ7 SQ53 SQ72 SQ73 SQ36) 11 (shFQ71.args [.fl q_0, .fl q_1, .fl q_2, .fl q_3]) [] c_ = GQ71 N SQ7 SQ53 SQ72 SQ73 SQ36 q_0 q_1 q_2 q_3 (fun r0 => c_ (.bool r0) []) :=
  (bodyV_codes (by kernel_rfl)).trans (jn_quat_Good_w N SQ7 SQ53 SQ72 SQ73 SQ36 q_0 q_1 q_2 q_3 c_)
theorem goodQ71 (N : Nat) (SQ7 : TSQ7) (SQ53 : TSQ53) (SQ72 : TSQ72) (SQ73 : TSQ73) (SQ36 : TSQ36) (hQ7 : GoodF Pg 42 (FQ7 SQ7)) (hQ53 : GoodF Pg 43 (FQ53 SQ53)) (hQ72 : GoodF Pg 44 (FQ72 SQ72)) (hQ73 : GoodF Pg 45 (FQ73 SQ73)) (hQ36 : GoodF Pg 46 (FQ36 SQ36)) : GoodF Pg 11 (FQ71 (GQ71 N SQ7 SQ53 SQ72 SQ73 SQ36)) := by
  refine good_fs (cx := ⟨Pg, ofList [(42, (FQ7 SQ7)), (43, (FQ53 SQ53)), (44, (FQ72 SQ72)), (45, (FQ73 SQ73)), (46, (FQ36 SQ36))], isref, N⟩) (ofList_cons hQ7 (ofList_cons hQ53 (ofList_cons hQ72 (ofList_cons hQ73 (ofList_cons hQ36 (ofList_nil _)))))) shFQ71 (spQ71 (GQ71 N SQ7 SQ53 SQ72 SQ73 SQ36)) (anQ71 N SQ7 SQ53 SQ72 SQ73 SQ36) 0 0 (by kernel_rfl) (fun i_ hi_ => by omega) ?_
  intro a k h
  unfold spQ71 at h
  split at h
  · exact ⟨[], rfl, rfl, (eqQ71 _ _ _ _ _ _ _ _ _ _ _).trans h⟩
  · cases h

def anQ70 (N : Nat) : Nat -> Option Ann := fun b_ => none
theorem eqQ70 (N : Nat) (c_ : V -> List Blk -> Bool) : bodyV ⟨Pg, ofList [], isref, N⟩ (anQ70 N) 41 (shFQ70.args []) [] c_ = GQ70 N (fun r0 r1 r2 r3 => c_ (.agg [.flt r0, .flt r1, .flt r2, .flt r3]) []) := by kernel_rfl
theorem goodQ70 (N : Nat) : GoodF Pg 41 (FQ70 (GQ70 N)) := by
  refine good_fs (cx := ⟨Pg, ofList [], isref, N⟩) (ofList_nil _) shFQ70 (spQ70 (GQ70 N)) (anQ70 N) 0 0 (by kernel_rfl) (fun i_ hi_ => by omega) ?_
  intro a k h
  unfold spQ70 at h
  split at h
  · exact ⟨[], rfl, rfl, (eqQ70 _ _).trans h⟩
  · cases h

def anQ45 (N : Nat) (SQ85 : TSQ85) (SQ77 : TSQ77) (SQ110 : TSQ110) (SQ71 : TSQ71) (SQ70 : TSQ70) : Nat -> Option Ann := fun b_ => none
theorem eqQ45 (N : Nat) (SQ85 : TSQ85) (SQ77 : TSQ77) (SQ110 : TSQ110) (SQ71 : TSQ71) (SQ70 : TSQ70) (c_ : V -> List Blk -> Bool) : bodyV ⟨Pg, ofList [(35, (FQ85 SQ85)), (13, (FQ77 SQ77)), (40, (FQ110 SQ110)), (11, (FQ71 SQ71)), (41, (FQ70 SQ70))], isref, N⟩ (anQ45 N SQ85 SQ77 SQ110 SQ71 SQ70) 8 (shFQ45.args []) [] c_ = GQ45 N SQ85 SQ77 SQ110 SQ71 SQ70 (fun r0 => c_ (.bool r0) []) := by kernel_rfl
theorem goodQ45 (N : Nat) (SQ85 : TSQ85) (SQ77 : TSQ77) (SQ110 : TSQ110) (SQ71 : TSQ71) (SQ70 : TSQ70) (hQ85 : GoodF Pg 35 (FQ85 SQ85)) (hQ77 : GoodF Pg 13 (FQ77 SQ77)) (hQ110 : GoodF Pg 40 (FQ110 SQ110)) (hQ71 : GoodF Pg 11 (FQ71 SQ71)) (hQ70 : GoodF Pg 41 (FQ70 SQ70)) : GoodF Pg 8 (FQ45 (GQ45 N SQ85 SQ77 SQ110 SQ71 SQ70)) := by
  refine good_fs (cx := ⟨Pg, ofList [(35, (FQ85 SQ85)), (13, (FQ77 SQ77)), (40, (FQ110 SQ110)), (11, (FQ71 SQ71)), (41, (FQ70 SQ70))], isref, N⟩) (ofList_cons hQ85 (ofList_cons hQ77 (ofList_cons hQ110 (ofList_cons hQ71 (ofList_cons hQ70 (ofList_nil _)))))) shFQ45 (spQ45 (GQ45 N SQ85 SQ77 SQ110 SQ71 SQ70)) (anQ45 N SQ85 SQ77 SQ110 SQ71 SQ70) 0 0 (by kernel_rfl) (fun i_ hi_ => by omega) ?_
  intro a k h
  unfold spQ45 at h
  split at h
  · exact ⟨[], rfl, rfl, (eqQ45 _ _ _ _ _ _ _).trans h⟩
  · cases h

def anQ52 (N : Nat) (SQ79 : TSQ79) : Nat -> Option Ann := fun b_ => none
theorem eqQ52 (N : Nat) (SQ79 : TSQ79) (b : Int) (c_ : V -> List Blk -> Bool) : bodyV ⟨Pg, ofList [(82, (FQ79 SQ79))], isref, N⟩ (anQ52 N SQ79) 39 (shFQ52.args [.int b]) [] c_ = GQ52 N SQ79 b (fun r0 => c_ (.flt r0) []) := by kernel_rfl
theorem goodQ52 (N : Nat) (SQ79 : TSQ79) (hQ79 : GoodF Pg 82 (FQ79 SQ79)) : GoodF Pg 39 (FQ52 (GQ52 N SQ79)) := by
  refine good_fs (cx := ⟨Pg, ofList [(82, (FQ79 SQ79))], isref, N⟩) (ofList_cons hQ79 (ofList_nil _)) shFQ52 (spQ52 (GQ52 N SQ79)) (anQ52 N SQ79) 0 0 (by kernel_rfl) (fun i_ hi_ => by omega) ?_
  intro a k h
  unfold spQ52 at h
  split at h
  · exact ⟨[], rfl, rfl, (eqQ52 _ _ _ _).trans h⟩
  · cases h

def anQ41 (N : Nat) (SQ52 : TSQ52) : Nat -> Option Ann := fun b_ => none
theorem eqQ41 (N : Nat) (SQ52 : TSQ52) (q_0 q_1 q_2 q_3 : Int) (c_ : V -> List Blk -> Bool) : bodyV ⟨Pg, ofList [(39, (FQ52 SQ52))], isref, N⟩ (anQ41 N SQ52) 9 (shFQ41.args [.int q_0, .int q_1, .int q_2, .int q_3]) [] c_ = GQ41 N SQ52 q_0 q_1 q_2 q_3 (fun r0 r1 r2 r3 => c_ (.agg [.flt r0, .flt r1, .flt r2, .flt r3]) []) := by kernel_rfl
theorem goodQ41 (N : Nat) (SQ52 : TSQ52) (hQ52 : GoodF Pg 39 (FQ52 SQ52)) : GoodF Pg 9 (FQ41 (GQ41 N SQ52)) := by
  refine good_fs (cx := ⟨Pg, ofList [(39, (FQ52 SQ52))], isref, N⟩) (ofList_cons hQ52 (ofList_nil _)) shFQ41 (spQ41 (GQ41 N SQ52)) (anQ41 N SQ52) 0 0 (by kernel_rfl) (fun i_ hi_ => by omega) ?_
  intro a k h
  unfold spQ41 at h
  split at h
  · exact ⟨[], rfl, rfl, (eqQ41 _ _ _ _ _ _ _).trans h⟩
  · cases h

def anQ46 (N : Nat) (SQ52 : TSQ52) : Nat -> Option Ann := fun b_ => none
theorem eqQ46 (N : Nat) (SQ52 : TSQ52) (v_0 v_1 v_2 : Int) (c_ : V -> List Blk -> Bool) : bodyV ⟨Pg, ofList [(39, (FQ52 SQ52))], isref, N⟩ (anQ46 N SQ52) 10 (shFQ46.args [.int v_0, .int v_1, .int v_2]) [] c_ = GQ46 N SQ52 v_0 v_1 v_2 (fun r0 r1 r2 => c_ (.agg [.flt r0, .flt r1, .flt r2]) []) := by kernel_rfl
theorem goodQ46 (N : Nat) (SQ52 : TSQ52) (hQ52 : GoodF Pg 39 (FQ52 SQ52)) : GoodF Pg 10 (FQ46 (GQ46 N SQ52)) := by
  refine good_fs (cx := ⟨Pg, ofList [(39, (FQ52 SQ52))], isref, N⟩) (ofList_cons hQ52 (ofList_nil _)) shFQ46 (spQ46 (GQ46 N SQ52)) (anQ46 N SQ52) 0 0 (by kernel_rfl) (fun i_ hi_ => by omega) ?_
  intro a k h
  unfold spQ46 at h
  split at h
  · exact ⟨[], rfl, rfl, (eqQ46 _ _ _ _ _ _).trans h⟩
  · cases h

def anQ47 (N : Nat) (S_m_Abs : TS_m_Abs) (SQ109 : TSQ109) : Nat -> Option Ann := fun b_ => none
theorem eqQ47 (N : Nat) (S_m_Abs : TS_m_Abs) (SQ109 : TSQ109) (v_0 v_1 v_2 : Fl) (c_ : V -> List Blk -> Bool) : bodyV ⟨Pg, ofList [(47, (F_m_Abs S_m_Abs)), (26, (FQ109 SQ109))], isref, (N + 24)⟩ (anQ47 (N + 24) S_m_Abs SQ109) 12 (shFQ47.args [.fl v_0, .fl v_1, .fl v_2]) [] c_ = GQ47 (N + 24) S_m_Abs SQ109 v_0 v_1 v_2 (fun r0 => c_ (.bool r0) []) := by kernel_rfl
theorem goodQ47 (N : Nat) (S_m_Abs : TS_m_Abs) (SQ109 : TSQ109) (h_m_Abs : GoodF Pg 47 (F_m_Abs S_m_Abs)) (hQ109 : GoodF Pg 26 (FQ109 SQ109)) : GoodF Pg 12 (FQ47 (GQ47 (N + 24) S_m_Abs SQ109)) := by
  refine good_fs (cx := ⟨Pg, ofList [(47, (F_m_Abs S_m_Abs)), (26, (FQ109 SQ109))], isref, (N + 24)⟩) (ofList_cons h_m_Abs (ofList_cons hQ109 (ofList_nil _))) shFQ47 (spQ47 (GQ47 (N + 24) S_m_Abs SQ109)) (anQ47 (N + 24) S_m_Abs SQ109) 1 0 (by kernel_rfl) (fun i_ hi_ => by
    match i_, hi_ with
    | 0, _ => exact (fun hk e => by rw [show hookOf ((anQ47 (N + 24) S_m_Abs SQ109) (lp Pg 12 0).1) = none from by kernel_rfl] at e; cases e)
    | (q + 1), h => omega) ?_
  intro a k h
  unfold spQ47 at h
  split at h
  · exact ⟨[], rfl, rfl, (eqQ47 _ _ _ _ _ _ _).trans h⟩
  · cases h

def anQ113 (N : Nat) : Nat -> Option Ann := fun b_ => none
theorem eqQ113 (N : Nat) (c_ : V -> List Blk -> Bool) : bodyV ⟨Pg, ofList [], isref, N⟩ (anQ113 N) 100 (shFQ113.args []) [] c_ = GQ113 N (fun r0 r1 => c_ (.agg [.ptr 0 0, .int .i64 r0]) [⟨98, 1, .cells [.bool r1, .nil]⟩]) := by kernel_rfl
theorem goodQ113 (N : Nat) : GoodF Pg 100 (FQ113 (GQ113 N)) := by
  refine good_fs (cx := ⟨Pg, ofList [], isref, N⟩) (ofList_nil _) shFQ113 (spQ113 (GQ113 N)) (anQ113 N) 0 0 (by kernel_rfl) (fun i_ hi_ => by omega) ?_
  intro a k h
  unfold spQ113 at h
  split at h
  · exact ⟨[], rfl, rfl, (eqQ113 _ _).trans h⟩
  · cases h

def anQ135 (N : Nat) (SQ102 : TSQ102) : Nat -> Option Ann := fun b_ => none
theorem eqQ135 (N : Nat) (SQ102 : TSQ102) (x : Fl) (c_ : V -> List Blk -> Bool) : bodyV ⟨Pg, ofList [(95, (FQ102 SQ102))], isref, N⟩ (anQ135 N SQ102) 151 (shFQ135.args [.fl x]) [] c_ = GQ135 N SQ102 x (fun r0 => c_ (.int .u64 r0) []) := by kernel_rfl
theorem goodQ135 (N : Nat) (SQ102 : TSQ102) (hQ102 : GoodF Pg 95 (FQ102 SQ102)) : GoodF Pg 151 (FQ135 (GQ135 N SQ102)) := by
  refine good_fs (cx := ⟨Pg, ofList [(95, (FQ102 SQ102))], isref, N⟩) (ofList_cons hQ102 (ofList_nil _)) shFQ135 (spQ135 (GQ135 N SQ102)) (anQ135 N SQ102) 0 0 (by kernel_rfl) (fun i_ hi_ => by omega) ?_
  intro a k h
  unfold spQ135 at h
  split at h
  · exact ⟨[], rfl, rfl, (eqQ135 _ _ _ _).trans h⟩
  · cases h

def anQ101 (N : Nat) (SQ135 : TSQ135) : Nat -> Option Ann := fun b_ => none
theorem eqQ101 (N : Nat) (SQ135 : TSQ135) (x : Fl) (c_ : V -> List Blk -> Bool) : bodyV ⟨Pg, ofList [(151, (FQ135 SQ135))], isref, N⟩ (anQ101 N SQ135) 115 (shFQ101.args [.fl x]) [] c_ = GQ101 N SQ135 x (fun r0 r1 r2 => c_ (.tup [.bool r0, .int .i64 r1, .int .u64 r2]) []) := by kernel_rfl
theorem goodQ101 (N : Nat) (SQ135 : TSQ135) (hQ135 : GoodF Pg 151 (FQ135 SQ135)) : GoodF Pg 115 (FQ101 (GQ101 N SQ135)) := by
  refine good_fs (cx := ⟨Pg, ofList [(151, (FQ135 SQ135))], isref, N⟩) (ofList_cons hQ135 (ofList_nil _)) shFQ101 (spQ101 (GQ101 N SQ135)) (anQ101 N SQ135) 0 0 (by kernel_rfl) (fun i_ hi_ => by omega) ?_
  intro a k h
  unfold spQ101 at h
  split at h
  · exact ⟨[], rfl, rfl, (eqQ101 _ _ _ _).trans h⟩
  · cases h

def sh_st_binnacleref01_odd_0 : StSh := ⟨(.int .u64 :: (.int .i64 :: (sqs 15 []))), []⟩
def sx0_st_binnacleref01_odd_0 : StSh := ⟨(.int .u64 :: (.int .i64 :: (sqs 15 []))), []⟩
def hk_st_binnacleref01_odd_0 (N : Nat) : List Atom -> K -> Bool := fun a_ κ => match a_ with
  | [.int m_1, .int e_1] => iterG N (st_z01_odd_0 N (fun r0 r1 => κ.ext 0 (sx0_st_binnacleref01_odd_0.build [.int r0, .int r1]))) (m_1, e_1)
  | _ => false
def anQ123 (N : Nat) : Nat -> Option Ann := fun b_ => cond (b_ == 0) (some ⟨⟨[0, 1], [], []⟩, [(0, ⟨[0, 1], [], []⟩)], some ⟨[4, 5], [], []⟩, some (mkHooks [(sh_st_binnacleref01_odd_0, hk_st_binnacleref01_odd_0 N)])⟩) (none)
theorem eq_st_binnacleref01_odd_0 (N : Nat) (κ : K) (m_1 e_1 : Int) : iter N (fun s k => codeV ⟨Pg, ofList [], isref, N⟩ 0 (anQ123 N) (lp Pg 116 0).2 (lp Pg 116 0).1 s (roundK Pg 0 ((anQ123 N) (lp Pg 116 0).1) κ k)) (sh_st_binnacleref01_odd_0.build [.int m_1, .int e_1]) = iterG N (st_z01_odd_0 N (fun r0 r1 => κ.ext 0 (sx0_st_binnacleref01_odd_0.build [.int r0, .int r1]))) (m_1, e_1) :=
  iter_tr (fun (v_ : Int × Int) => sh_st_binnacleref01_odd_0.build [.int v_.1, .int v_.2]) (fun v_ K_ => by obtain ⟨m_1, e_1⟩ := v_; kernel_rfl) N (m_1, e_1)
theorem hk1_st_binnacleref01_odd_0 (N : Nat) : HookFor ⟨Pg, ofList [], isref, N⟩ 0 (anQ123 N) (lp Pg 116 0) (sh_st_binnacleref01_odd_0, hk_st_binnacleref01_odd_0 N) := by
  intro a κ h
  simp only at h
  unfold hk_st_binnacleref01_odd_0 at h
  split at h
  · exact (eq_st_binnacleref01_odd_0 _ _ _ _).trans h
  · cases h
theorem ho_binnacleref01_odd_0 (N : Nat) : HookOk ⟨Pg, ofList [], isref, N⟩ 0 (anQ123 N) (lp Pg 116 0) :=
  hooks_ok [(sh_st_binnacleref01_odd_0, hk_st_binnacleref01_odd_0 N)] (by kernel_rfl) ⟨hk1_st_binnacleref01_odd_0 _, trivial⟩
theorem eqQ123 (N : Nat) (m e : Int) (c_ : V -> List Blk -> Bool) : bodyV ⟨Pg, ofList [], isref, N⟩ (anQ123 N) 116 (shFQ123.args [.int m, .int e]) [] c_ = GQ123 N m e (fun r0 r1 => c_ (.tup [.int .u64 r0, .int .i64 r1]) []) := by kernel_rfl
theorem goodQ123 (N : Nat) : GoodF Pg 116 (FQ123 (GQ123 N)) := by
  refine good_fs (cx := ⟨Pg, ofList [], isref, N⟩) (ofList_nil _) shFQ123 (spQ123 (GQ123 N)) (anQ123 N) 1 0 (by kernel_rfl) (fun i_ hi_ => by
    match i_, hi_ with
    | 0, _ => exact ho_binnacleref01_odd_0 _
    | (q + 1), h => omega) ?_
  intro a k h
  unfold spQ123 at h
  split at h
  · exact ⟨[], rfl, rfl, (eqQ123 _ _ _ _).trans h⟩
  · cases h

end Go.Proofs.YtnfgnjciliapaaaGreatDoor
