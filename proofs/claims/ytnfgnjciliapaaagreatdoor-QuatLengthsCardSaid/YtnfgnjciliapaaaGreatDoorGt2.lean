/-
  THE TIES: each printed meaning is what the program does (written by program).
  Conditions: none.
-/
import Derived.Test.YtnfgnjciliapaaaGreatDoorGs
namespace Go.Proofs.YtnfgnjciliapaaaGreatDoor
open Go Go.Mach Go.Proofs
set_option linter.unusedVariables false
set_option maxRecDepth 50000

def sh_st_v_dyad_exact_put_p0r_0 : StSh := ⟨(.any :: (.any :: (.ptr 1 0 :: (.any :: (.ptr 2 0 :: (.ptr 3 0 :: (.ptr 4 0 :: (sqs 52 [])))))))), [some (126, 1, .cells [.bool, .roi .u64]), some (84, 1, .cells [.bool, .nil, .int .i64]), some (84, 1, .cells [.bool, .slw 5, .int .i64]), some (126, 1, .cells [.bool, .roi .u64]), some (126, 1, .cells [.bool, .roi .u64]), some (87, 1, .ints .u32)]⟩
def sx0_st_v_dyad_exact_put_p0r_0 : StSh := ⟨(.any :: (.any :: (.ptr 1 0 :: (.any :: (.ptr 2 0 :: (sqs 54 [])))))), [some (126, 1, .cells [.bool, .roi .u64]), some (84, 1, .cells [.bool, .nil, .int .i64]), some (84, 1, .cells [.bool, .slw 3, .int .i64]), some (87, 1, .ints .u32)]⟩
def hk_st_v_dyad_exact_put_p0r_0 (N : Nat) (SQ15 : TSQ15) (SQ4 : TSQ4) (SQ31 : TSQ31) (SQ53 : TSQ53) (SQ30 : TSQ30) (SQ18 : TSQ18) (SQ32 : TSQ32) (SQ11 : TSQ11) : List Atom -> K -> Bool := fun a_ κ => match a_ with
  | [.bool b0_2, .ints b0_3, .bool t2_2, .int t2_3, .bool d_2, .int d_3, .bool mask_2, .ints mask_3, .bool m_2, .ints m_3, .ints b5] => iterG N (stQ152 N SQ15 SQ4 SQ31 SQ53 SQ30 SQ18 SQ32 SQ11 b0_2 b0_3 t2_2 t2_3 d_2 d_3 mask_2 mask_3 (fun r6 => κ.ext 0 (sx0_st_v_dyad_exact_put_p0r_0.build [.bool b0_2, .ints b0_3, .bool t2_2, .int t2_3, .bool d_2, .int d_3, .ints r6]))) (m_2, m_3, b5)
  | _ => false
def anQ8 (N : Nat) (SQ15 : TSQ15) (SQ4 : TSQ4) (SQ31 : TSQ31) (SQ53 : TSQ53) (SQ30 : TSQ30) (SQ18 : TSQ18) (SQ32 : TSQ32) (SQ11 : TSQ11) : Nat -> Option Ann := fun b_ => cond (b_ == 0) (some ⟨⟨[2, 4, 5, 6], [(4, some 1, 87)], []⟩, [(0, ⟨[2, 4], [], []⟩)], some ⟨[2, 3], [], []⟩, some (mkHooks [(sh_st_v_dyad_exact_put_p0r_0, hk_st_v_dyad_exact_put_p0r_0 N SQ15 SQ4 SQ31 SQ53 SQ30 SQ18 SQ32 SQ11)])⟩) (none)
theorem eq_st_v_dyad_exact_put_p0r_0 (N : Nat) (SQ15 : TSQ15) (SQ4 : TSQ4) (SQ31 : TSQ31) (SQ53 : TSQ53) (SQ30 : TSQ30) (SQ18 : TSQ18) (SQ32 : TSQ32) (SQ11 : TSQ11) (κ : K) (b0_2 : Bool) (b0_3 : List Int) (t2_2 : Bool) (t2_3 : Int) (d_2 : Bool) (d_3 : Int) (mask_2 : Bool) (mask_3 : List Int) (m_2 : Bool) (m_3 b5 : List Int) : iter N (fun s k => codeV ⟨Pg, ofList [(132, (FQ15 SQ15)), (94, (FQ4 SQ4)), (133, (FQ31 SQ31)), (134, (FQ53 SQ53)), (135, (FQ30 SQ30)), (137, (FQ18 SQ18)), (138, (FQ32 SQ32)), (136, (FQ11 SQ11))], isref, N⟩ 1 (anQ8 N SQ15 SQ4 SQ31 SQ53 SQ30 SQ18 SQ32 SQ11) (lp Pg 88 0).2 (lp Pg 88 0).1 s (roundK Pg 1 ((anQ8 N SQ15 SQ4 SQ31 SQ53 SQ30 SQ18 SQ32 SQ11) (lp Pg 88 0).1) κ k)) (sh_st_v_dyad_exact_put_p0r_0.build [.bool b0_2, .ints b0_3, .bool t2_2, .int t2_3, .bool d_2, .int d_3, .bool mask_2, .ints mask_3, .bool m_2, .ints m_3, .ints b5]) = iterG N (stQ152 N SQ15 SQ4 SQ31 SQ53 SQ30 SQ18 SQ32 SQ11 b0_2 b0_3 t2_2 t2_3 d_2 d_3 mask_2 mask_3 (fun r6 => κ.ext 0 (sx0_st_v_dyad_exact_put_p0r_0.build [.bool b0_2, .ints b0_3, .bool t2_2, .int t2_3, .bool d_2, .int d_3, .ints r6]))) (m_2, m_3, b5) :=
  iter_tr (fun (v_ : Bool × List Int × List Int) => sh_st_v_dyad_exact_put_p0r_0.build [.bool b0_2, .ints b0_3, .bool t2_2, .int t2_3, .bool d_2, .int d_3, .bool mask_2, .ints mask_3, .bool v_.1, .ints v_.2.1, .ints v_.2.2]) (fun v_ K_ => by obtain ⟨m_2, m_3, b5⟩ := v_; kernel_rfl) N (m_2, m_3, b5)
theorem hk1_st_v_dyad_exact_put_p0r_0 (N : Nat) (SQ15 : TSQ15) (SQ4 : TSQ4) (SQ31 : TSQ31) (SQ53 : TSQ53) (SQ30 : TSQ30) (SQ18 : TSQ18) (SQ32 : TSQ32) (SQ11 : TSQ11) : HookFor ⟨Pg, ofList [(132, (FQ15 SQ15)), (94, (FQ4 SQ4)), (133, (FQ31 SQ31)), (134, (FQ53 SQ53)), (135, (FQ30 SQ30)), (137, (FQ18 SQ18)), (138, (FQ32 SQ32)), (136, (FQ11 SQ11))], isref, N⟩ 1 (anQ8 N SQ15 SQ4 SQ31 SQ53 SQ30 SQ18 SQ32 SQ11) (lp Pg 88 0) (sh_st_v_dyad_exact_put_p0r_0, hk_st_v_dyad_exact_put_p0r_0 N SQ15 SQ4 SQ31 SQ53 SQ30 SQ18 SQ32 SQ11) := by
  intro a κ h
  simp only at h
  unfold hk_st_v_dyad_exact_put_p0r_0 at h
  split at h
  · exact (eq_st_v_dyad_exact_put_p0r_0 _ _ _ _ _ _ _ _ _ _ _ _ _ _ _ _ _ _ _ _ _).trans h
  · cases h
theorem ho_v_dyad_exact_put_p0r_0 (N : Nat) (SQ15 : TSQ15) (SQ4 : TSQ4) (SQ31 : TSQ31) (SQ53 : TSQ53) (SQ30 : TSQ30) (SQ18 : TSQ18) (SQ32 : TSQ32) (SQ11 : TSQ11) : HookOk ⟨Pg, ofList [(132, (FQ15 SQ15)), (94, (FQ4 SQ4)), (133, (FQ31 SQ31)), (134, (FQ53 SQ53)), (135, (FQ30 SQ30)), (137, (FQ18 SQ18)), (138, (FQ32 SQ32)), (136, (FQ11 SQ11))], isref, N⟩ 1 (anQ8 N SQ15 SQ4 SQ31 SQ53 SQ30 SQ18 SQ32 SQ11) (lp Pg 88 0) :=
  hooks_ok [(sh_st_v_dyad_exact_put_p0r_0, hk_st_v_dyad_exact_put_p0r_0 N SQ15 SQ4 SQ31 SQ53 SQ30 SQ18 SQ32 SQ11)] (by kernel_rfl) ⟨hk1_st_v_dyad_exact_put_p0r_0 _ _ _ _ _ _ _ _ _, trivial⟩
theorem eqQ8 (N : Nat) (SQ15 : TSQ15) (SQ4 : TSQ4) (SQ31 : TSQ31) (SQ53 : TSQ53) (SQ30 : TSQ30) (SQ18 : TSQ18) (SQ32 : TSQ32) (SQ11 : TSQ11) (x : Int) (b : Bool) (b_1 : List Int) (c_ : V -> List Blk -> Bool) : bodyV ⟨Pg, ofList [(132, (FQ15 SQ15)), (94, (FQ4 SQ4)), (133, (FQ31 SQ31)), (134, (FQ53 SQ53)), (135, (FQ30 SQ30)), (137, (FQ18 SQ18)), (138, (FQ32 SQ32)), (136, (FQ11 SQ11))], isref, N⟩ (anQ8 N SQ15 SQ4 SQ31 SQ53 SQ30 SQ18 SQ32 SQ11) 88 (shFQ8.args [.int x, .bool b, .ints b_1]) [⟨126, 1, .cells [.bool b, .roi .u64 b_1]⟩] c_ = GQ8 N SQ15 SQ4 SQ31 SQ53 SQ30 SQ18 SQ32 SQ11 x b b_1 (fun r0 r1 r2 => c_ (.tup [.agg [.bool r0, .nil, .int .i64 r1], .int .i64 r2]) [⟨126, 1, .cells [.bool b, .roi .u64 b_1]⟩]) (fun r0 r1 r2 r5 => c_ (.tup [.agg [.bool r0, .slw 1, .int .i64 r1], .int .i64 r2]) [⟨126, 1, .cells [.bool b, .roi .u64 b_1]⟩, ⟨87, 1, .ints .u32 r5⟩]) := by kernel_rfl
theorem goodQ8 (N : Nat) (SQ15 : TSQ15) (SQ4 : TSQ4) (SQ31 : TSQ31) (SQ53 : TSQ53) (SQ30 : TSQ30) (SQ18 : TSQ18) (SQ32 : TSQ32) (SQ11 : TSQ11) (hQ15 : GoodF Pg 132 (FQ15 SQ15)) (hQ4 : GoodF Pg 94 (FQ4 SQ4)) (hQ31 : GoodF Pg 133 (FQ31 SQ31)) (hQ53 : GoodF Pg 134 (FQ53 SQ53)) (hQ30 : GoodF Pg 135 (FQ30 SQ30)) (hQ18 : GoodF Pg 137 (FQ18 SQ18)) (hQ32 : GoodF Pg 138 (FQ32 SQ32)) (hQ11 : GoodF Pg 136 (FQ11 SQ11)) : GoodF Pg 88 (FQ8 (GQ8 N SQ15 SQ4 SQ31 SQ53 SQ30 SQ18 SQ32 SQ11)) := by
  refine good_fs (cx := ⟨Pg, ofList [(132, (FQ15 SQ15)), (94, (FQ4 SQ4)), (133, (FQ31 SQ31)), (134, (FQ53 SQ53)), (135, (FQ30 SQ30)), (137, (FQ18 SQ18)), (138, (FQ32 SQ32)), (136, (FQ11 SQ11))], isref, N⟩) (ofList_cons hQ15 (ofList_cons hQ4 (ofList_cons hQ31 (ofList_cons hQ53 (ofList_cons hQ30 (ofList_cons hQ18 (ofList_cons hQ32 (ofList_cons hQ11 (ofList_nil _))))))))) shFQ8 (spQ8 (GQ8 N SQ15 SQ4 SQ31 SQ53 SQ30 SQ18 SQ32 SQ11)) (anQ8 N SQ15 SQ4 SQ31 SQ53 SQ30 SQ18 SQ32 SQ11) 1 1 (by kernel_rfl) (fun i_ hi_ => by
    match i_, hi_ with
    | 0, _ => exact ho_v_dyad_exact_put_p0r_0 _ _ _ _ _ _ _ _ _
    | (q + 1), h => omega) ?_
  intro a k h
  unfold spQ8 at h
  split at h
  · exact ⟨[_], rfl, rfl, (eqQ8 _ _ _ _ _ _ _ _ _ _ _ _ _).trans h⟩
  · cases h

def sh_st_dyad_Dot_0 : StSh := ⟨(.any :: (.rof :: (.any :: (.any :: (.ptr 0 0 :: (.any :: (.ptr 1 0 :: (sqs 19 (.rof :: (.int .i64 :: (.int .i64 :: (sqs 19 [])))))))))))), [some (84, 1, .cells [.bool, .nil, .int .i64]), some (128, 1, .cells [.ptr 2 0, .int .i64]), some (126, 1, .cells [.bool, .roi .u64])]⟩
def sx0_st_dyad_Dot_0 : StSh := ⟨(sqs 4 (.ptr 0 0 :: (.any :: (.ptr 1 0 :: (sqs 41 []))))), [some (84, 1, .cells [.bool, .nil, .int .i64]), some (128, 1, .cells [.ptr 2 0, .int .i64]), some (126, 1, .cells [.bool, .roi .u64])]⟩
def hk_st_dyad_Dot_0 (N : Nat) (SQ85 : TSQ85) (SQ120 : TSQ120) (SQ12 : TSQ12) (SQ14 : TSQ14) (SQ5 : TSQ5) (SQ8 : TSQ8) : List Atom -> K -> Bool := fun a_ κ => match a_ with
  | [.fls b_2, .fls t26_1, .int t27_1, .int t28_1, .bool t4_2, .int t4_3, .int s_1, .bool b2_1, .ints b2_2] => iterG N (st_dyad_Dot_0 N SQ85 SQ120 SQ12 SQ14 SQ5 SQ8 b_2 t26_1 t27_1 t4_2 t4_3 (fun r2 r3 r4 => κ.ext 0 (sx0_st_dyad_Dot_0.build [.bool t4_2, .int t4_3, .int r2, .bool r3, .ints r4]))) (t28_1, s_1, b2_1, b2_2)
  | _ => false
def anQ69 (N : Nat) (SQ85 : TSQ85) (SQ120 : TSQ120) (SQ12 : TSQ12) (SQ14 : TSQ14) (SQ5 : TSQ5) (SQ8 : TSQ8) : Nat -> Option Ann := fun b_ => cond (b_ == 0) (some ⟨⟨[1, 4, 6, 26, 27, 28], [], [(2, 1, some .u64)]⟩, [(0, ⟨[4, 6], [], []⟩)], some ⟨[4, 5], [], []⟩, some (mkHooks [(sh_st_dyad_Dot_0, hk_st_dyad_Dot_0 N SQ85 SQ120 SQ12 SQ14 SQ5 SQ8)])⟩) (none)
theorem eq_st_dyad_Dot_0 (N : Nat) (SQ85 : TSQ85) (SQ120 : TSQ120) (SQ12 : TSQ12) (SQ14 : TSQ14) (SQ5 : TSQ5) (SQ8 : TSQ8) (κ : K) (b_2 t26_1 : List Fl) (t27_1 t28_1 : Int) (t4_2 : Bool) (t4_3 s_1 : Int) (b2_1 : Bool) (b2_2 : List Int) : iter N (fun s k => codeV ⟨Pg, ofList [(84, (FQ85 SQ85)), (86, (FQ120 SQ120)), (87, (FQ12 SQ12)), (85, (orFs (FQ14 SQ14) (FQ5 SQ5) shFQ14)), (88, (FQ8 SQ8))], isref, N⟩ 0 (anQ69 N SQ85 SQ120 SQ12 SQ14 SQ5 SQ8) (lp Pg 44 0).2 (lp Pg 44 0).1 s (roundK Pg 0 ((anQ69 N SQ85 SQ120 SQ12 SQ14 SQ5 SQ8) (lp Pg 44 0).1) κ k)) (sh_st_dyad_Dot_0.build [.fls b_2, .fls t26_1, .int t27_1, .int t28_1, .bool t4_2, .int t4_3, .int s_1, .bool b2_1, .ints b2_2]) = iterG N (st_dyad_Dot_0 N SQ85 SQ120 SQ12 SQ14 SQ5 SQ8 b_2 t26_1 t27_1 t4_2 t4_3 (fun r2 r3 r4 => κ.ext 0 (sx0_st_dyad_Dot_0.build [.bool t4_2, .int t4_3, .int r2, .bool r3, .ints r4]))) (t28_1, s_1, b2_1, b2_2) :=
  iter_tr (fun (v_ : Int × Int × Bool × List Int) => sh_st_dyad_Dot_0.build [.fls b_2, .fls t26_1, .int t27_1, .int v_.1, .bool t4_2, .int t4_3, .int v_.2.1, .bool v_.2.2.1, .ints v_.2.2.2]) (fun v_ K_ => by obtain ⟨t28_1, s_1, b2_1, b2_2⟩ := v_; kernel_rfl) N (t28_1, s_1, b2_1, b2_2)
theorem hk1_st_dyad_Dot_0 (N : Nat) (SQ85 : TSQ85) (SQ120 : TSQ120) (SQ12 : TSQ12) (SQ14 : TSQ14) (SQ5 : TSQ5) (SQ8 : TSQ8) : HookFor ⟨Pg, ofList [(84, (FQ85 SQ85)), (86, (FQ120 SQ120)), (87, (FQ12 SQ12)), (85, (orFs (FQ14 SQ14) (FQ5 SQ5) shFQ14)), (88, (FQ8 SQ8))], isref, N⟩ 0 (anQ69 N SQ85 SQ120 SQ12 SQ14 SQ5 SQ8) (lp Pg 44 0) (sh_st_dyad_Dot_0, hk_st_dyad_Dot_0 N SQ85 SQ120 SQ12 SQ14 SQ5 SQ8) := by
  intro a κ h
  simp only at h
  unfold hk_st_dyad_Dot_0 at h
  split at h
  · exact (eq_st_dyad_Dot_0 _ _ _ _ _ _ _ _ _ _ _ _ _ _ _ _ _).trans h
  · cases h
theorem ho_dyad_Dot_0 (N : Nat) (SQ85 : TSQ85) (SQ120 : TSQ120) (SQ12 : TSQ12) (SQ14 : TSQ14) (SQ5 : TSQ5) (SQ8 : TSQ8) : HookOk ⟨Pg, ofList [(84, (FQ85 SQ85)), (86, (FQ120 SQ120)), (87, (FQ12 SQ12)), (85, (orFs (FQ14 SQ14) (FQ5 SQ5) shFQ14)), (88, (FQ8 SQ8))], isref, N⟩ 0 (anQ69 N SQ85 SQ120 SQ12 SQ14 SQ5 SQ8) (lp Pg 44 0) :=
  hooks_ok [(sh_st_dyad_Dot_0, hk_st_dyad_Dot_0 N SQ85 SQ120 SQ12 SQ14 SQ5 SQ8)] (by kernel_rfl) ⟨hk1_st_dyad_Dot_0 _ _ _ _ _ _ _, trivial⟩
theorem eqQ69 (N : Nat) (SQ85 : TSQ85) (SQ120 : TSQ120) (SQ12 : TSQ12) (SQ14 : TSQ14) (SQ5 : TSQ5) (SQ8 : TSQ8) (a b : List Fl) (c_ : V -> List Blk -> Bool) : bodyV ⟨Pg, ofList [(84, (FQ85 SQ85)), (86, (FQ120 SQ120)), (87, (FQ12 SQ12)), (85, (orFs (FQ14 SQ14) (FQ5 SQ5) shFQ14)), (88, (FQ8 SQ8))], isref, N⟩ (anQ69 N SQ85 SQ120 SQ12 SQ14 SQ5 SQ8) 44 (shFQ69.args [.fls a, .fls b]) [] c_ = GQ69 N SQ85 SQ120 SQ12 SQ14 SQ5 SQ8 a b (fun r0 r1 r2 => c_ (.tup [.agg [.bool r0, .nil, .int .i64 r1], .int .i64 r2]) []) (fun r0 r1 r2 r3 => c_ (.tup [.agg [.bool r0, .slw 0, .int .i64 r1], .int .i64 r2]) [⟨87, 1, .ints .u32 r3⟩]) := by kernel_rfl
theorem goodQ69 (N : Nat) (SQ85 : TSQ85) (SQ120 : TSQ120) (SQ12 : TSQ12) (SQ14 : TSQ14) (SQ5 : TSQ5) (SQ8 : TSQ8) (hQ85 : GoodF Pg 84 (FQ85 SQ85)) (hQ120 : GoodF Pg 86 (FQ120 SQ120)) (hQ12 : GoodF Pg 87 (FQ12 SQ12)) (hQ14 : GoodF Pg 85 (FQ14 SQ14)) (hQ5 : GoodF Pg 85 (FQ5 SQ5)) (hQ8 : GoodF Pg 88 (FQ8 SQ8)) : GoodF Pg 44 (FQ69 (GQ69 N SQ85 SQ120 SQ12 SQ14 SQ5 SQ8)) := by
  refine good_fs (cx := ⟨Pg, ofList [(84, (FQ85 SQ85)), (86, (FQ120 SQ120)), (87, (FQ12 SQ12)), (85, (orFs (FQ14 SQ14) (FQ5 SQ5) shFQ14)), (88, (FQ8 SQ8))], isref, N⟩) (ofList_cons hQ85 (ofList_cons hQ120 (ofList_cons hQ12 (ofList_cons (good_or hQ14 hQ5) (ofList_cons hQ8 (ofList_nil _)))))) shFQ69 (spQ69 (GQ69 N SQ85 SQ120 SQ12 SQ14 SQ5 SQ8)) (anQ69 N SQ85 SQ120 SQ12 SQ14 SQ5 SQ8) 1 0 (by kernel_rfl) (fun i_ hi_ => by
    match i_, hi_ with
    | 0, _ => exact ho_dyad_Dot_0 _ _ _ _ _ _ _
    | (q + 1), h => omega) ?_
  intro a k h
  unfold spQ69 at h
  split at h
  · exact ⟨[], rfl, rfl, (eqQ69 _ _ _ _ _ _ _ _ _ _).trans h⟩
  · cases h

def anQ103 (N : Nat) : Nat -> Option Ann := fun b_ => none
theorem eqQ103 (N : Nat) (d_0 : Bool) (d_1 : List Int) (d_2 : Int) (c_ : V -> List Blk -> Bool) : bodyV ⟨Pg, ofList [], isref, N⟩ (anQ103 N) 92 (shFQ103.args [.bool d_0, .ints d_1, .int d_2]) [] c_ = GQ103 N d_0 d_1 d_2 (fun r0 => c_ (.bool r0) []) := by kernel_rfl
theorem goodQ103 (N : Nat) : GoodF Pg 92 (FQ103 (GQ103 N)) := by
  refine good_fs (cx := ⟨Pg, ofList [], isref, N⟩) (ofList_nil _) shFQ103 (spQ103 (GQ103 N)) (anQ103 N) 0 0 (by kernel_rfl) (fun i_ hi_ => by omega) ?_
  intro a k h
  unfold spQ103 at h
  split at h
  · exact ⟨[], rfl, rfl, (eqQ103 _ _ _ _ _).trans h⟩
  · cases h

def anQ37 (N : Nat) (SQ84 : TSQ84) (SQ0 : TSQ0) : Nat -> Option Ann := fun b_ => none
theorem eqQ37 (N : Nat) (SQ84 : TSQ84) (SQ0 : TSQ0) (n : Int) (b : Bool) (c_ : V -> List Blk -> Bool) : bodyZ ⟨Pg, ofList [(169, (FQ84 SQ84)), (139, (FQ0 SQ0))], isref, N⟩ (anQ37 N SQ84 SQ0) 141 (shFQ37.args [.int n, .bool b]) [⟨126, 1, .cells [.bool b, .nil]⟩] c_ = GQ37 N SQ84 SQ0 n b (fun r0 r1 => c_ (.ptr 0 0) [⟨126, 1, .cells [.bool r0, .roi .u64 r1]⟩]) := by kernel_rfl
theorem goodQ37 (N : Nat) (SQ84 : TSQ84) (SQ0 : TSQ0) (hQ84 : GoodF Pg 169 (FQ84 SQ84)) (hQ0 : GoodF Pg 139 (FQ0 SQ0)) : GoodF Pg 141 (FQ37 (GQ37 N SQ84 SQ0)) := by
  refine good_fsZ (cx := ⟨Pg, ofList [(169, (FQ84 SQ84)), (139, (FQ0 SQ0))], isref, N⟩) (ofList_cons hQ84 (ofList_cons hQ0 (ofList_nil _))) shFQ37 (spQ37 (GQ37 N SQ84 SQ0)) (anQ37 N SQ84 SQ0) 0 1 (by kernel_rfl) (fun i_ hi_ => by omega) ?_
  intro a k h
  unfold spQ37 at h
  split at h
  · exact ⟨[_], rfl, rfl, (eqQ37 _ _ _ _ _ _).trans h⟩
  · cases h

def anQ36 (N : Nat) : Nat -> Option Ann := fun b_ => none
theorem eqQ36 (N : Nat) (neg : Bool) (abs_0 abs_1 : Nat) (b : Bool) (b_1 b_2 : List Int) (c_ : V -> List Blk -> Bool) : bodyZ ⟨Pg, ofList [], isref, N⟩ (anQ36 N) 139 (shFQ36.args [.bool neg, .nat abs_0, .nat abs_1, .bool b, .ints b_1, .ints b_2]) [⟨126, 1, .cells [.bool b, .roi .u64 b_1]⟩, ⟨22, 1, .ints .u64 b_2⟩] c_ = GQ36 N neg abs_0 abs_1 b b_1 b_2 (fun r0 => c_ (.ptr 0 0) [⟨126, 1, .cells [.bool r0, .sl 1 abs_0 abs_1]⟩, ⟨22, 1, .ints .u64 b_2⟩]) := by kernel_rfl
theorem goodQ36 (N : Nat) : GoodF Pg 139 (FQ36 (GQ36 N)) := by
  refine good_fsZ (cx := ⟨Pg, ofList [], isref, N⟩) (ofList_nil _) shFQ36 (spQ36 (GQ36 N)) (anQ36 N) 0 2 (by kernel_rfl) (fun i_ hi_ => by omega) ?_
  intro a k h
  unfold spQ36 at h
  split at h
  · exact ⟨[_, _], rfl, rfl, (eqQ36 _ _ _ _ _ _ _ _).trans h⟩
  · cases h

def sh_st_big_Int_Or_p0p0p1rr_0 : StSh := ⟨(.ptr 0 0 :: (.ptr 0 0 :: (.ptr 1 0 :: (sqs 4 (.slw 2 :: (sqs 14 (.int .i64 :: (.int .i64 :: (sqs 23 []))))))))), [some (126, 1, .cells [.bool, .roi .u64]), some (126, 1, .cells [.bool, .roi .u64]), some (22, 1, .ints .u64)]⟩
def sx0_st_big_Int_Or_p0p0p1rr_0 : StSh := ⟨(.ptr 0 0 :: (sqs 6 (.slw 2 :: (sqs 39 [])))), [some (126, 1, .cells [.bool, .roi .u64]), some (126, 1, .cells [.bool, .roi .u64]), some (22, 1, .ints .u64)]⟩
def hk_st_big_Int_Or_p0p0p1rr_0 (N : Nat) (SQ13 : TSQ13) (SQ1 : TSQ1) (SQ36 : TSQ36) : List Atom -> K -> Bool := fun a_ κ => match a_ with
  | [.int t22, .int t23, .bool z, .ints z_1, .bool y, .ints y_1, .ints r] => iterG N (stQ153 N SQ13 SQ1 SQ36 t22 z z_1 y y_1 (fun r4 => κ.ext 0 (sx0_st_big_Int_Or_p0p0p1rr_0.build [.bool z, .ints z_1, .bool y, .ints y_1, .ints r4]))) (t23, r)
  | _ => false
def anQ25 (N : Nat) (SQ13 : TSQ13) (SQ1 : TSQ1) (SQ36 : TSQ36) : Nat -> Option Ann := fun b_ => cond (b_ == 0) (some ⟨⟨[0, 1, 2, 7, 22, 23], [], []⟩, [(0, ⟨[0, 7], [], []⟩)], some ⟨[6], [], []⟩, some (mkHooks [(sh_st_big_Int_Or_p0p0p1rr_0, hk_st_big_Int_Or_p0p0p1rr_0 N SQ13 SQ1 SQ36)])⟩) (none)
theorem eq_st_big_Int_Or_p0p0p1rr_0 (N : Nat) (SQ13 : TSQ13) (SQ1 : TSQ1) (SQ36 : TSQ36) (κ : K) (t22 t23 : Int) (z : Bool) (z_1 : List Int) (y : Bool) (y_1 r : List Int) : iter N (fun s k => codeV ⟨Pg, ofList [(170, (FQ13 SQ13)), (167, (FQ1 SQ1)), (139, (FQ36 SQ36))], isref, N⟩ 2 (anQ25 N SQ13 SQ1 SQ36) (lp Pg 142 0).2 (lp Pg 142 0).1 s (roundK Pg 2 ((anQ25 N SQ13 SQ1 SQ36) (lp Pg 142 0).1) κ k)) (sh_st_big_Int_Or_p0p0p1rr_0.build [.int t22, .int t23, .bool z, .ints z_1, .bool y, .ints y_1, .ints r]) = iterG N (stQ153 N SQ13 SQ1 SQ36 t22 z z_1 y y_1 (fun r4 => κ.ext 0 (sx0_st_big_Int_Or_p0p0p1rr_0.build [.bool z, .ints z_1, .bool y, .ints y_1, .ints r4]))) (t23, r) :=
  iter_tr (fun (v_ : Int × List Int) => sh_st_big_Int_Or_p0p0p1rr_0.build [.int t22, .int v_.1, .bool z, .ints z_1, .bool y, .ints y_1, .ints v_.2]) (fun v_ K_ => by obtain ⟨t23, r⟩ := v_; kernel_rfl) N (t23, r)
theorem hk1_st_big_Int_Or_p0p0p1rr_0 (N : Nat) (SQ13 : TSQ13) (SQ1 : TSQ1) (SQ36 : TSQ36) : HookFor ⟨Pg, ofList [(170, (FQ13 SQ13)), (167, (FQ1 SQ1)), (139, (FQ36 SQ36))], isref, N⟩ 2 (anQ25 N SQ13 SQ1 SQ36) (lp Pg 142 0) (sh_st_big_Int_Or_p0p0p1rr_0, hk_st_big_Int_Or_p0p0p1rr_0 N SQ13 SQ1 SQ36) := by
  intro a κ h
  simp only at h
  unfold hk_st_big_Int_Or_p0p0p1rr_0 at h
  split at h
  · exact (eq_st_big_Int_Or_p0p0p1rr_0 _ _ _ _ _ _ _ _ _ _ _ _).trans h
  · cases h
theorem ho_big_Int_Or_p0p0p1rr_0 (N : Nat) (SQ13 : TSQ13) (SQ1 : TSQ1) (SQ36 : TSQ36) : HookOk ⟨Pg, ofList [(170, (FQ13 SQ13)), (167, (FQ1 SQ1)), (139, (FQ36 SQ36))], isref, N⟩ 2 (anQ25 N SQ13 SQ1 SQ36) (lp Pg 142 0) :=
  hooks_ok [(sh_st_big_Int_Or_p0p0p1rr_0, hk_st_big_Int_Or_p0p0p1rr_0 N SQ13 SQ1 SQ36)] (by kernel_rfl) ⟨hk1_st_big_Int_Or_p0p0p1rr_0 _ _ _ _, trivial⟩
theorem eqQ25 (N : Nat) (SQ13 : TSQ13) (SQ1 : TSQ1) (SQ36 : TSQ36) (b : Bool) (b_1 : List Int) (b_2 : Bool) (b_3 : List Int) (c_ : V -> List Blk -> Bool) : bodyZ ⟨Pg, ofList [(170, (FQ13 SQ13)), (167, (FQ1 SQ1)), (139, (FQ36 SQ36))], isref, N⟩ (anQ25 N SQ13 SQ1 SQ36) 142 (shFQ25.args [.bool b, .ints b_1, .bool b_2, .ints b_3]) [⟨126, 1, .cells [.bool b, .roi .u64 b_1]⟩, ⟨126, 1, .cells [.bool b_2, .roi .u64 b_3]⟩] c_ = GQ25 N SQ13 SQ1 SQ36 b b_1 b_2 b_3 (fun r0 r1 => c_ (.ptr 0 0) [⟨126, 1, .cells [.bool r0, .roi .u64 r1]⟩, ⟨126, 1, .cells [.bool b_2, .roi .u64 b_3]⟩]) := by kernel_rfl
theorem goodQ25 (N : Nat) (SQ13 : TSQ13) (SQ1 : TSQ1) (SQ36 : TSQ36) (hQ13 : GoodF Pg 170 (FQ13 SQ13)) (hQ1 : GoodF Pg 167 (FQ1 SQ1)) (hQ36 : GoodF Pg 139 (FQ36 SQ36)) : GoodF Pg 142 (FQ25 (GQ25 N SQ13 SQ1 SQ36)) := by
  refine good_fsZ (cx := ⟨Pg, ofList [(170, (FQ13 SQ13)), (167, (FQ1 SQ1)), (139, (FQ36 SQ36))], isref, N⟩) (ofList_cons hQ13 (ofList_cons hQ1 (ofList_cons hQ36 (ofList_nil _)))) shFQ25 (spQ25 (GQ25 N SQ13 SQ1 SQ36)) (anQ25 N SQ13 SQ1 SQ36) 1 2 (by kernel_rfl) (fun i_ hi_ => by
    match i_, hi_ with
    | 0, _ => exact ho_big_Int_Or_p0p0p1rr_0 _ _ _ _
    | (q + 1), h => omega) ?_
  intro a k h
  unfold spQ25 at h
  split at h
  · exact ⟨[_, _], rfl, rfl, (eqQ25 _ _ _ _ _ _ _ _ _).trans h⟩
  · cases h

def anQ38 (N : Nat) (SQ84 : TSQ84) (SQ27 : TSQ27) : Nat -> Option Ann := fun b_ => none
theorem eqQ38 (N : Nat) (SQ84 : TSQ84) (SQ27 : TSQ27) (n : Int) (b : Bool) (b_1 : List Int) (c_ : V -> List Blk -> Bool) : bodyZ ⟨Pg, ofList [(169, (FQ84 SQ84)), (139, (FQ27 SQ27))], isref, N⟩ (anQ38 N SQ84 SQ27) 141 (shFQ38.args [.int n, .bool b, .ints b_1]) [⟨126, 1, .cells [.bool b, .roi .u64 b_1]⟩] c_ = GQ38 N SQ84 SQ27 n b b_1 (fun r0 r1 => c_ (.ptr 0 0) [⟨126, 1, .cells [.bool r0, .roi .u64 r1]⟩]) := by kernel_rfl
theorem goodQ38 (N : Nat) (SQ84 : TSQ84) (SQ27 : TSQ27) (hQ84 : GoodF Pg 169 (FQ84 SQ84)) (hQ27 : GoodF Pg 139 (FQ27 SQ27)) : GoodF Pg 141 (FQ38 (GQ38 N SQ84 SQ27)) := by
  refine good_fsZ (cx := ⟨Pg, ofList [(169, (FQ84 SQ84)), (139, (FQ27 SQ27))], isref, N⟩) (ofList_cons hQ84 (ofList_cons hQ27 (ofList_nil _))) shFQ38 (spQ38 (GQ38 N SQ84 SQ27)) (anQ38 N SQ84 SQ27) 0 1 (by kernel_rfl) (fun i_ hi_ => by omega) ?_
  intro a k h
  unfold spQ38 at h
  split at h
  · exact ⟨[_], rfl, rfl, (eqQ38 _ _ _ _ _ _ _).trans h⟩
  · cases h

def sh_st_dyad_take_0 : StSh := ⟨(.any :: (.ptr 0 0 :: (.ptr 1 0 :: (.ptr 2 0 :: (.int .i64 :: (sqs 31 [])))))), [some (84, 1, .cells [.bool, .roi .u32, .int .i64]), some (128, 1, .cells [.val, .int .i64]), some (126, 1, .cells [.bool, .roi .u64])]⟩
def sx0_st_dyad_take_0 : StSh := ⟨(.any :: (.ptr 0 0 :: (.ptr 1 0 :: (.ptr 2 0 :: (sqs 32 []))))), [some (84, 1, .cells [.bool, .roi .u32, .int .i64]), some (128, 1, .cells [.val, .int .i64]), some (126, 1, .cells [.bool, .roi .u64])]⟩
def hk_st_dyad_take_0 (N : Nat) (SQ37 : TSQ37) (SQ53 : TSQ53) (SQ25 : TSQ25) (SQ38 : TSQ38) (SQ20 : TSQ20) : List Atom -> K -> Bool := fun a_ κ => match a_ with
  | [.int i_1, .bool d_3, .ints d_4, .int d_5, .val t2_2, .int t2_3, .bool n_1, .ints n_2] => iterG N (st_dyad_take_0 N SQ37 SQ53 SQ25 SQ38 SQ20 d_3 d_4 d_5 t2_2 t2_3 (fun r5 r6 => κ.ext 0 (sx0_st_dyad_take_0.build [.bool d_3, .ints d_4, .int d_5, .val t2_2, .int t2_3, .bool r5, .ints r6]))) (i_1, n_1, n_2)
  | _ => false
def anQ88 (N : Nat) (SQ37 : TSQ37) (SQ53 : TSQ53) (SQ25 : TSQ25) (SQ38 : TSQ38) (SQ20 : TSQ20) : Nat -> Option Ann := fun b_ => cond (b_ == 0) (some ⟨⟨[1, 2, 3, 4], [], [(2, 1, some .u64)]⟩, [(0, ⟨[1, 2, 3], [], []⟩)], some ⟨[2], [], []⟩, some (mkHooks [(sh_st_dyad_take_0, hk_st_dyad_take_0 N SQ37 SQ53 SQ25 SQ38 SQ20)])⟩) (none)
theorem eq_st_dyad_take_0 (N : Nat) (SQ37 : TSQ37) (SQ53 : TSQ53) (SQ25 : TSQ25) (SQ38 : TSQ38) (SQ20 : TSQ20) (κ : K) (i_1 : Int) (d_3 : Bool) (d_4 : List Int) (d_5 : Int) (t2_2 : Value) (t2_3 : Int) (n_1 : Bool) (n_2 : List Int) : iter N (fun s k => codeV ⟨Pg, ofList [(141, (orFs (FQ37 SQ37) (FQ38 SQ38) shFQ37)), (134, (FQ53 SQ53)), (142, (FQ25 SQ25)), (91, (FQ20 SQ20))], isref, N⟩ 0 (anQ88 N SQ37 SQ53 SQ25 SQ38 SQ20) (lp Pg 93 0).2 (lp Pg 93 0).1 s (roundK Pg 0 ((anQ88 N SQ37 SQ53 SQ25 SQ38 SQ20) (lp Pg 93 0).1) κ k)) (sh_st_dyad_take_0.build [.int i_1, .bool d_3, .ints d_4, .int d_5, .val t2_2, .int t2_3, .bool n_1, .ints n_2]) = iterG N (st_dyad_take_0 N SQ37 SQ53 SQ25 SQ38 SQ20 d_3 d_4 d_5 t2_2 t2_3 (fun r5 r6 => κ.ext 0 (sx0_st_dyad_take_0.build [.bool d_3, .ints d_4, .int d_5, .val t2_2, .int t2_3, .bool r5, .ints r6]))) (i_1, n_1, n_2) :=
  iter_tr (fun (v_ : Int × Bool × List Int) => sh_st_dyad_take_0.build [.int v_.1, .bool d_3, .ints d_4, .int d_5, .val t2_2, .int t2_3, .bool v_.2.1, .ints v_.2.2]) (fun v_ K_ => by obtain ⟨i_1, n_1, n_2⟩ := v_; kernel_rfl) N (i_1, n_1, n_2)
theorem hk1_st_dyad_take_0 (N : Nat) (SQ37 : TSQ37) (SQ53 : TSQ53) (SQ25 : TSQ25) (SQ38 : TSQ38) (SQ20 : TSQ20) : HookFor ⟨Pg, ofList [(141, (orFs (FQ37 SQ37) (FQ38 SQ38) shFQ37)), (134, (FQ53 SQ53)), (142, (FQ25 SQ25)), (91, (FQ20 SQ20))], isref, N⟩ 0 (anQ88 N SQ37 SQ53 SQ25 SQ38 SQ20) (lp Pg 93 0) (sh_st_dyad_take_0, hk_st_dyad_take_0 N SQ37 SQ53 SQ25 SQ38 SQ20) := by
  intro a κ h
  simp only at h
  unfold hk_st_dyad_take_0 at h
  split at h
  · exact (eq_st_dyad_take_0 _ _ _ _ _ _ _ _ _ _ _ _ _ _ _).trans h
  · cases h
theorem ho_dyad_take_0 (N : Nat) (SQ37 : TSQ37) (SQ53 : TSQ53) (SQ25 : TSQ25) (SQ38 : TSQ38) (SQ20 : TSQ20) : HookOk ⟨Pg, ofList [(141, (orFs (FQ37 SQ37) (FQ38 SQ38) shFQ37)), (134, (FQ53 SQ53)), (142, (FQ25 SQ25)), (91, (FQ20 SQ20))], isref, N⟩ 0 (anQ88 N SQ37 SQ53 SQ25 SQ38 SQ20) (lp Pg 93 0) :=
  hooks_ok [(sh_st_dyad_take_0, hk_st_dyad_take_0 N SQ37 SQ53 SQ25 SQ38 SQ20)] (by kernel_rfl) ⟨hk1_st_dyad_take_0 _ _ _ _ _ _, trivial⟩
theorem eqQ88 (N : Nat) (SQ37 : TSQ37) (SQ53 : TSQ53) (SQ25 : TSQ25) (SQ38 : TSQ38) (SQ20 : TSQ20) (d_0 : Bool) (d_1 : List Int) (d_2 : Int) (c_ : V -> List Blk -> Bool) : bodyV ⟨Pg, ofList [(141, (orFs (FQ37 SQ37) (FQ38 SQ38) shFQ37)), (134, (FQ53 SQ53)), (142, (FQ25 SQ25)), (91, (FQ20 SQ20))], isref, N⟩ (anQ88 N SQ37 SQ53 SQ25 SQ38 SQ20) 93 (shFQ88.args [.bool d_0, .ints d_1, .int d_2]) [] c_ = GQ88 N SQ37 SQ53 SQ25 SQ38 SQ20 d_0 d_1 d_2 (fun r1 r2 => c_ (.agg [.ptr 0 0, .int .i64 d_2]) [⟨126, 1, .cells [.bool r1, .roi .u64 r2]⟩]) := by kernel_rfl
theorem goodQ88 (N : Nat) (SQ37 : TSQ37) (SQ53 : TSQ53) (SQ25 : TSQ25) (SQ38 : TSQ38) (SQ20 : TSQ20) (hQ37 : GoodF Pg 141 (FQ37 SQ37)) (hQ53 : GoodF Pg 134 (FQ53 SQ53)) (hQ25 : GoodF Pg 142 (FQ25 SQ25)) (hQ38 : GoodF Pg 141 (FQ38 SQ38)) (hQ20 : GoodF Pg 91 (FQ20 SQ20)) : GoodF Pg 93 (FQ88 (GQ88 N SQ37 SQ53 SQ25 SQ38 SQ20)) := by
  refine good_fs (cx := ⟨Pg, ofList [(141, (orFs (FQ37 SQ37) (FQ38 SQ38) shFQ37)), (134, (FQ53 SQ53)), (142, (FQ25 SQ25)), (91, (FQ20 SQ20))], isref, N⟩) (ofList_cons (good_or hQ37 hQ38) (ofList_cons hQ53 (ofList_cons hQ25 (ofList_cons hQ20 (ofList_nil _))))) shFQ88 (spQ88 (GQ88 N SQ37 SQ53 SQ25 SQ38 SQ20)) (anQ88 N SQ37 SQ53 SQ25 SQ38 SQ20) 1 0 (by kernel_rfl) (fun i_ hi_ => by
    match i_, hi_ with
    | 0, _ => exact ho_dyad_take_0 _ _ _ _ _ _
    | (q + 1), h => omega) ?_
  intro a k h
  unfold spQ88 at h
  split at h
  · exact ⟨[], rfl, rfl, (eqQ88 _ _ _ _ _ _ _ _ _ _).trans h⟩
  · cases h

def anQ34 (N : Nat) (SQ63 : TSQ63) (SQ0 : TSQ0) : Nat -> Option Ann := fun b_ => none
theorem eqQ34 (N : Nat) (SQ63 : TSQ63) (SQ0 : TSQ0) (b b_1 : Bool) (b_2 : List Int) (c_ : V -> List Blk -> Bool) : bodyZ ⟨Pg, ofList [(140, (FQ63 SQ63)), (139, (FQ0 SQ0))], isref, N⟩ (anQ34 N SQ63 SQ0) 91 (shFQ34.args [.bool b, .bool b_1, .ints b_2]) [⟨126, 1, .cells [.bool b, .nil]⟩, ⟨126, 1, .cells [.bool b_1, .roi .u64 b_2]⟩] c_ = GQ34 N SQ63 SQ0 b b_1 b_2 (fun r0 r1 => c_ (.ptr 0 0) [⟨126, 1, .cells [.bool r0, .roi .u64 r1]⟩, ⟨126, 1, .cells [.bool b_1, .roi .u64 b_2]⟩]) := by kernel_rfl
theorem goodQ34 (N : Nat) (SQ63 : TSQ63) (SQ0 : TSQ0) (hQ63 : GoodF Pg 140 (FQ63 SQ63)) (hQ0 : GoodF Pg 139 (FQ0 SQ0)) : GoodF Pg 91 (FQ34 (GQ34 N SQ63 SQ0)) := by
  refine good_fsZ (cx := ⟨Pg, ofList [(140, (FQ63 SQ63)), (139, (FQ0 SQ0))], isref, N⟩) (ofList_cons hQ63 (ofList_cons hQ0 (ofList_nil _))) shFQ34 (spQ34 (GQ34 N SQ63 SQ0)) (anQ34 N SQ63 SQ0) 0 2 (by kernel_rfl) (fun i_ hi_ => by omega) ?_
  intro a k h
  unfold spQ34 at h
  split at h
  · exact ⟨[_, _], rfl, rfl, (eqQ34 _ _ _ _ _ _ _).trans h⟩
  · cases h

def anQ60 (N : Nat) (SQ34 : TSQ34) (SQ5 : TSQ5) : Nat -> Option Ann := fun b_ => none
theorem eqQ60 (N : Nat) (SQ34 : TSQ34) (SQ5 : TSQ5) (x y : Int) (b : Bool) (b_1 : List Int) (b_2 : Bool) (b_3 : List Int) (c_ : V -> List Blk -> Bool) : bodyV ⟨Pg, ofList [(91, (FQ34 SQ34)), (85, (FQ5 SQ5))], isref, N⟩ (anQ60 N SQ34 SQ5) 90 (shFQ60.args [.int x, .int y, .bool b, .ints b_1, .bool b_2, .ints b_3]) [⟨126, 1, .cells [.bool b, .roi .u64 b_1]⟩, ⟨126, 1, .cells [.bool b_2, .roi .u64 b_3]⟩] c_ = GQ60 N SQ34 SQ5 x y b b_1 b_2 b_3 (fun r0 r5 r6 => c_ (.agg [.ptr 2 0, .int .i64 r0]) [⟨126, 1, .cells [.bool b, .roi .u64 b_1]⟩, ⟨126, 1, .cells [.bool b_2, .roi .u64 b_3]⟩, ⟨126, 1, .cells [.bool r5, .roi .u64 r6]⟩]) (c_ (.agg [.ptr 0 0, .int .i64 x]) [⟨126, 1, .cells [.bool b, .roi .u64 b_1]⟩, ⟨126, 1, .cells [.bool b_2, .roi .u64 b_3]⟩]) := by kernel_rfl
theorem goodQ60 (N : Nat) (SQ34 : TSQ34) (SQ5 : TSQ5) (hQ34 : GoodF Pg 91 (FQ34 SQ34)) (hQ5 : GoodF Pg 85 (FQ5 SQ5)) : GoodF Pg 90 (FQ60 (GQ60 N SQ34 SQ5)) := by
  refine good_fs (cx := ⟨Pg, ofList [(91, (FQ34 SQ34)), (85, (FQ5 SQ5))], isref, N⟩) (ofList_cons hQ34 (ofList_cons hQ5 (ofList_nil _))) shFQ60 (spQ60 (GQ60 N SQ34 SQ5)) (anQ60 N SQ34 SQ5) 0 2 (by kernel_rfl) (fun i_ hi_ => by omega) ?_
  intro a k h
  unfold spQ60 at h
  split at h
  · exact ⟨[_, _], rfl, rfl, (eqQ60 _ _ _ _ _ _ _ _ _ _).trans h⟩
  · cases h

def anQ97 (N : Nat) (SQ103 : TSQ103) (SQ88 : TSQ88) (SQ60 : TSQ60) (SQ8 : TSQ8) : Nat -> Option Ann := fun b_ => none
theorem eqQ97 (N : Nat) (SQ103 : TSQ103) (SQ88 : TSQ88) (SQ60 : TSQ60) (SQ8 : TSQ8) (a_0 : Bool) (a_1 : List Int) (a_2 : Int) (b_0 : Bool) (b_1 : List Int) (b_2 : Int) (c_ : V -> List Blk -> Bool) : bodyV ⟨Pg, ofList [(92, (FQ103 SQ103)), (93, (FQ88 SQ88)), (90, (FQ60 SQ60)), (88, (FQ8 SQ8))], isref, N⟩ (anQ97 N SQ103 SQ88 SQ60 SQ8) 89 (shFQ97.args [.bool a_0, .ints a_1, .int a_2, .bool b_0, .ints b_1, .int b_2]) [] c_ = GQ97 N SQ103 SQ88 SQ60 SQ8 a_0 a_1 a_2 b_0 b_1 b_2 (fun r0 r1 r2 => c_ (.tup [.agg [.bool r0, .nil, .int .i64 r1], .int .i64 r2]) []) (fun r0 r1 r2 r3 => c_ (.tup [.agg [.bool r0, .slw 0, .int .i64 r1], .int .i64 r2]) [⟨87, 1, .ints .u32 r3⟩]) := by kernel_rfl
theorem goodQ97 (N : Nat) (SQ103 : TSQ103) (SQ88 : TSQ88) (SQ60 : TSQ60) (SQ8 : TSQ8) (hQ103 : GoodF Pg 92 (FQ103 SQ103)) (hQ88 : GoodF Pg 93 (FQ88 SQ88)) (hQ60 : GoodF Pg 90 (FQ60 SQ60)) (hQ8 : GoodF Pg 88 (FQ8 SQ8)) : GoodF Pg 89 (FQ97 (GQ97 N SQ103 SQ88 SQ60 SQ8)) := by
  refine good_fs (cx := ⟨Pg, ofList [(92, (FQ103 SQ103)), (93, (FQ88 SQ88)), (90, (FQ60 SQ60)), (88, (FQ8 SQ8))], isref, N⟩) (ofList_cons hQ103 (ofList_cons hQ88 (ofList_cons hQ60 (ofList_cons hQ8 (ofList_nil _))))) shFQ97 (spQ97 (GQ97 N SQ103 SQ88 SQ60 SQ8)) (anQ97 N SQ103 SQ88 SQ60 SQ8) 0 0 (by kernel_rfl) (fun i_ hi_ => by omega) ?_
  intro a k h
  unfold spQ97 at h
  split at h
  · exact ⟨[], rfl, rfl, (eqQ97 _ _ _ _ _ _ _ _ _ _ _ _).trans h⟩
  · cases h

def anQ70 (N : Nat) (SQ97 : TSQ97) : Nat -> Option Ann := fun b_ => none
theorem eqQ70 (N : Nat) (SQ97 : TSQ97) (a_0 : Bool) (a_1 : List Int) (a_2 : Int) (b_0 : Bool) (b_1 : List Int) (b_2 : Int) (c_ : V -> List Blk -> Bool) : bodyV ⟨Pg, ofList [(89, (FQ97 SQ97))], isref, N⟩ (anQ70 N SQ97) 45 (shFQ70.args [.bool a_0, .ints a_1, .int a_2, .bool b_0, .ints b_1, .int b_2]) [] c_ = GQ70 N SQ97 a_0 a_1 a_2 b_0 b_1 b_2 (fun r0 r1 r2 => c_ (.tup [.agg [.bool r0, .nil, .int .i64 r1], .int .i64 r2]) []) (fun r0 r1 r2 r3 => c_ (.tup [.agg [.bool r0, .slw 0, .int .i64 r1], .int .i64 r2]) [⟨87, 1, .ints .u32 r3⟩]) := by kernel_rfl
theorem goodQ70 (N : Nat) (SQ97 : TSQ97) (hQ97 : GoodF Pg 89 (FQ97 SQ97)) : GoodF Pg 45 (FQ70 (GQ70 N SQ97)) := by
  refine good_fs (cx := ⟨Pg, ofList [(89, (FQ97 SQ97))], isref, N⟩) (ofList_cons hQ97 (ofList_nil _)) shFQ70 (spQ70 (GQ70 N SQ97)) (anQ70 N SQ97) 0 0 (by kernel_rfl) (fun i_ hi_ => by omega) ?_
  intro a k h
  unfold spQ70 at h
  split at h
  · exact ⟨[], rfl, rfl, (eqQ70 _ _ _ _ _ _ _ _ _).trans h⟩
  · cases h

def anQ33 (N : Nat) (SQ103 : TSQ103) (SQ88 : TSQ88) (SQ34 : TSQ34) (SQ5 : TSQ5) (SQ4 : TSQ4) : Nat -> Option Ann := fun b_ => none
theorem eqQ33 (N : Nat) (SQ103 : TSQ103) (SQ88 : TSQ88) (SQ34 : TSQ34) (SQ5 : TSQ5) (SQ4 : TSQ4) (a_0 : Bool) (a_1 : List Int) (a_2 : Int) (b_0 : Bool) (b_1 : List Int) (b_2 : Int) (c_ : V -> List Blk -> Bool) : bodyV ⟨Pg, ofList [(92, (FQ103 SQ103)), (93, (FQ88 SQ88)), (91, (FQ34 SQ34)), (85, (FQ5 SQ5)), (94, (FQ4 SQ4))], isref, N⟩ (anQ33 N SQ103 SQ88 SQ34 SQ5 SQ4) 46 (shFQ33.args [.bool a_0, .ints a_1, .int a_2, .bool b_0, .ints b_1, .int b_2]) [] c_ = GQ33 N SQ103 SQ88 SQ34 SQ5 SQ4 a_0 a_1 a_2 b_0 b_1 b_2 (fun r0 r1 => c_ (.tup [.int .i64 r0, .int .i64 r1]) []) := by kernel_rfl
theorem goodQ33 (N : Nat) (SQ103 : TSQ103) (SQ88 : TSQ88) (SQ34 : TSQ34) (SQ5 : TSQ5) (SQ4 : TSQ4) (hQ103 : GoodF Pg 92 (FQ103 SQ103)) (hQ88 : GoodF Pg 93 (FQ88 SQ88)) (hQ34 : GoodF Pg 91 (FQ34 SQ34)) (hQ5 : GoodF Pg 85 (FQ5 SQ5)) (hQ4 : GoodF Pg 94 (FQ4 SQ4)) : GoodF Pg 46 (FQ33 (GQ33 N SQ103 SQ88 SQ34 SQ5 SQ4)) := by
  refine good_fs (cx := ⟨Pg, ofList [(92, (FQ103 SQ103)), (93, (FQ88 SQ88)), (91, (FQ34 SQ34)), (85, (FQ5 SQ5)), (94, (FQ4 SQ4))], isref, N⟩) (ofList_cons hQ103 (ofList_cons hQ88 (ofList_cons hQ34 (ofList_cons hQ5 (ofList_cons hQ4 (ofList_nil _)))))) shFQ33 (spQ33 (GQ33 N SQ103 SQ88 SQ34 SQ5 SQ4)) (anQ33 N SQ103 SQ88 SQ34 SQ5 SQ4) 0 0 (by kernel_rfl) (fun i_ hi_ => by omega) ?_
  intro a k h
  unfold spQ33 at h
  split at h
  · exact ⟨[], rfl, rfl, (eqQ33 _ _ _ _ _ _ _ _ _ _ _ _ _).trans h⟩
  · cases h

def anQ72 (N : Nat) (SQ10 : TSQ10) (SQ52 : TSQ52) (SQ69 : TSQ69) (SQ70 : TSQ70) (SQ33 : TSQ33) : Nat -> Option Ann := fun b_ => none
def lsQ164 (d_ : List V) (u_ : List (Option Blk)) (q_0 q_1 q_2 q_3 : Fl) (b7 : List Int) (off_6 : Bool) (off_7 : Int) : St := ⟨(dqs d_ 0 7 (.ptr 8 0 :: (dqs d_ 7 39 []))), [(u_.getD 0 none), (u_.getD 1 none), (u_.getD 2 none), (u_.getD 3 none), (u_.getD 4 none), (u_.getD 5 none), (u_.getD 6 none), some ⟨87, 1, .ints .u32 b7⟩, some ⟨84, 1, .cells [.bool off_6, .slw 7, .int .i64 off_7]⟩]⟩
def lsQ163 (d_ : List V) (u_ : List (Option Blk)) (q_0 q_1 q_2 q_3 : Fl) (off_4 : Bool) (off_5 : Int) : St := ⟨(dqs d_ 0 7 (.ptr 7 0 :: (dqs d_ 7 39 []))), [(u_.getD 0 none), (u_.getD 1 none), (u_.getD 2 none), (u_.getD 3 none), (u_.getD 4 none), (u_.getD 5 none), (u_.getD 6 none), some ⟨84, 1, .cells [.bool off_4, .nil, .int .i64 off_5]⟩]⟩
def lsQ155 (d_ : List V) (u_ : List (Option Blk)) (q_0 q_1 q_2 q_3 : Fl) (b3 : List Int) (n_2 : Bool) (n_3 : Int) : St := ⟨(dqs d_ 0 4 (.ptr 4 0 :: (dqs d_ 4 42 []))), [(u_.getD 0 none), (u_.getD 1 none), (u_.getD 2 none), some ⟨87, 1, .ints .u32 b3⟩, some ⟨84, 1, .cells [.bool n_2, .slw 3, .int .i64 n_3]⟩]⟩
def lsQ162 (d_ : List V) (u_ : List (Option Blk)) (q_0 q_1 q_2 q_3 : Fl) (b6 : List Int) (off_2 : Bool) (off_3 : Int) : St := ⟨(dqs d_ 0 7 (.ptr 7 0 :: (dqs d_ 7 39 []))), [(u_.getD 0 none), (u_.getD 1 none), (u_.getD 2 none), (u_.getD 3 none), (u_.getD 4 none), (u_.getD 5 none), some ⟨87, 1, .ints .u32 b6⟩, some ⟨84, 1, .cells [.bool off_2, .slw 6, .int .i64 off_3]⟩]⟩
def lsQ161 (d_ : List V) (u_ : List (Option Blk)) (q_0 q_1 q_2 q_3 : Fl) (off : Bool) (off_1 : Int) : St := ⟨(dqs d_ 0 7 (.ptr 6 0 :: (dqs d_ 7 39 []))), [(u_.getD 0 none), (u_.getD 1 none), (u_.getD 2 none), (u_.getD 3 none), (u_.getD 4 none), (u_.getD 5 none), some ⟨84, 1, .cells [.bool off, .nil, .int .i64 off_1]⟩]⟩
def lsQ154 (d_ : List V) (u_ : List (Option Blk)) (q_0 q_1 q_2 q_3 : Fl) (n : Bool) (n_1 : Int) : St := ⟨(dqs d_ 0 4 (.ptr 3 0 :: (dqs d_ 4 42 []))), [(u_.getD 0 none), (u_.getD 1 none), (u_.getD 2 none), some ⟨84, 1, .cells [.bool n, .nil, .int .i64 n_1]⟩]⟩
theorem jnQ164 (N : Nat) (SQ10 : TSQ10) (SQ52 : TSQ52) (SQ69 : TSQ69) (SQ70 : TSQ70) (SQ33 : TSQ33) (d_ : List V) (u_ : List (Option Blk)) (q_0 q_1 q_2 q_3 : Fl) (b7 : List Int) (off_6 : Bool) (off_7 : Int) (c_ : V -> List Blk -> Bool) : codesV ⟨Pg, ofList [(42, (FQ10 SQ10)), (43, (FQ52 SQ52)), (44, (FQ69 SQ69)), (45, (FQ70 SQ70)), (46, (FQ33 SQ33))], isref, N⟩ 0 (anQ72 N SQ10 SQ52 SQ69 SQ70 SQ33) ((cds Pg 11).drop 11) 0 (lsQ164 d_ u_ q_0 q_1 q_2 q_3 b7 off_6 off_7) (finV Pg 11 0 c_) = JQ164 N SQ10 SQ52 SQ69 SQ70 SQ33 q_0 q_1 q_2 q_3 b7 off_6 off_7 (fun r0 => c_ (.bool r0) []) := by kernel_rfl
theorem jnQ163 (N : Nat) (SQ10 : TSQ10) (SQ52 : TSQ52) (SQ69 : TSQ69) (SQ70 : TSQ70) (SQ33 : TSQ33) (d_ : List V) (u_ : List (Option Blk)) (q_0 q_1 q_2 q_3 : Fl) (off_4 : Bool) (off_5 : Int) (c_ : V -> List Blk -> Bool) : codesV ⟨Pg, ofList [(42, (FQ10 SQ10)), (43, (FQ52 SQ52)), (44, (FQ69 SQ69)), (45, (FQ70 SQ70)), (46, (FQ33 SQ33))], isref, N⟩ 0 (anQ72 N SQ10 SQ52 SQ69 SQ70 SQ33) ((cds Pg 11).drop 11) 0 (lsQ163 d_ u_ q_0 q_1 q_2 q_3 off_4 off_5) (finV Pg 11 0 c_) = JQ163 N SQ10 SQ52 SQ69 SQ70 SQ33 q_0 q_1 q_2 q_3 off_4 off_5 (fun r0 => c_ (.bool r0) []) := by kernel_rfl
theorem hdQ155 (N : Nat) (SQ10 : TSQ10) (SQ52 : TSQ52) (SQ69 : TSQ69) (SQ70 : TSQ70) (SQ33 : TSQ33) (d_ : List V) (u_ : List (Option Blk)) (q_0 q_1 q_2 q_3 : Fl) (b3 : List Int) (n_2 : Bool) (n_3 : Int) (c_ : V -> List Blk -> Bool) (κn_ : St -> Bool) : codesV ⟨Pg, ofList [(42, (FQ10 SQ10)), (43, (FQ52 SQ52)), (44, (FQ69 SQ69)), (45, (FQ70 SQ70)), (46, (FQ33 SQ33))], isref, N⟩ 0 (anQ72 N SQ10 SQ52 SQ69 SQ70 SQ33) (sg Pg 11 7 4) 0 (lsQ155 d_ u_ q_0 q_1 q_2 q_3 b3 n_2 n_3) { (finV Pg 11 0 c_) with nrm := κn_ } = (SQ70 n_2 b3 n_3 false [1] 0 (fun cr_5 nr_12 nr_13 => (cond (nr_13 != 0) (c_ (.bool false) []) (κn_ (lsQ163 (dqs d_ 0 4 (.ptr 4 0 :: (.int .i64 nr_13 :: (.ptr 6 0 :: (dqs d_ 7 15 (.slw 5 :: (.agg [.bool false, .slw 5, .int .i64 0] :: (.tup [.agg [.bool cr_5, .nil, .int .i64 nr_12], .int .i64 nr_13] :: (.agg [.bool n_2, .slw 3, .int .i64 n_3] :: (.agg [.bool false, .slw 5, .int .i64 0] :: (.tup [.agg [.bool cr_5, .nil, .int .i64 nr_12], .int .i64 nr_13] :: (.agg [.bool cr_5, .nil, .int .i64 nr_12] :: (.int .i64 nr_13 :: (.int .i64 nr_13 :: (.bool false :: (dqs d_ 32 14 [])))))))))))))))) [(u_.getD 0 none), (u_.getD 1 none), (u_.getD 2 none), some ⟨87, 1, .ints .u32 b3⟩, some ⟨84, 1, .cells [.bool n_2, .slw 3, .int .i64 n_3]⟩, some ⟨87, 1, .ints .u32 [1]⟩, some ⟨84, 1, .cells [.bool false, .slw 5, .int .i64 0]⟩] q_0 q_1 q_2 q_3 cr_5 nr_12)))) (fun cr_6 nr_14 nr_15 nsr_2 => (cond (nr_15 != 0) (c_ (.bool false) []) (κn_ (lsQ164 (dqs d_ 0 4 (.ptr 4 0 :: (.int .i64 nr_15 :: (.ptr 6 0 :: (dqs d_ 7 15 (.slw 5 :: (.agg [.bool false, .slw 5, .int .i64 0] :: (.tup [.agg [.bool cr_6, .slw 7, .int .i64 nr_14], .int .i64 nr_15] :: (.agg [.bool n_2, .slw 3, .int .i64 n_3] :: (.agg [.bool false, .slw 5, .int .i64 0] :: (.tup [.agg [.bool cr_6, .slw 7, .int .i64 nr_14], .int .i64 nr_15] :: (.agg [.bool cr_6, .slw 7, .int .i64 nr_14] :: (.int .i64 nr_15 :: (.int .i64 nr_15 :: (.bool false :: (dqs d_ 32 14 [])))))))))))))))) [(u_.getD 0 none), (u_.getD 1 none), (u_.getD 2 none), some ⟨87, 1, .ints .u32 b3⟩, some ⟨84, 1, .cells [.bool n_2, .slw 3, .int .i64 n_3]⟩, some ⟨87, 1, .ints .u32 [1]⟩, some ⟨84, 1, .cells [.bool false, .slw 5, .int .i64 0]⟩] q_0 q_1 q_2 q_3 nsr_2 cr_6 nr_14))))) := by kernel_rfl
theorem jnQ155 (N : Nat) (SQ10 : TSQ10) (SQ52 : TSQ52) (SQ69 : TSQ69) (SQ70 : TSQ70) (SQ33 : TSQ33) (d_ : List V) (u_ : List (Option Blk)) (q_0 q_1 q_2 q_3 : Fl) (b3 : List Int) (n_2 : Bool) (n_3 : Int) (c_ : V -> List Blk -> Bool) : codesV ⟨Pg, ofList [(42, (FQ10 SQ10)), (43, (FQ52 SQ52)), (44, (FQ69 SQ69)), (45, (FQ70 SQ70)), (46, (FQ33 SQ33))], isref, N⟩ 0 (anQ72 N SQ10 SQ52 SQ69 SQ70 SQ33) ((cds Pg 11).drop 7) 0 (lsQ155 d_ u_ q_0 q_1 q_2 q_3 b3 n_2 n_3) (finV Pg 11 0 c_) = JQ155 N SQ10 SQ52 SQ69 SQ70 SQ33 q_0 q_1 q_2 q_3 b3 n_2 n_3 (fun r0 => c_ (.bool r0) []) := by
  rw [codesV_cut 7 4 11 rfl]
  refine (hdQ155 N SQ10 SQ52 SQ69 SQ70 SQ33 d_ u_ q_0 q_1 q_2 q_3 b3 n_2 n_3 c_ _).trans ?_
  simp only [jnQ163, jnQ164]
  kernel_rfl
theorem jnQ162 (N : Nat) (SQ10 : TSQ10) (SQ52 : TSQ52) (SQ69 : TSQ69) (SQ70 : TSQ70) (SQ33 : TSQ33) (d_ : List V) (u_ : List (Option Blk)) (q_0 q_1 q_2 q_3 : Fl) (b6 : List Int) (off_2 : Bool) (off_3 : Int) (c_ : V -> List Blk -> Bool) : codesV ⟨Pg, ofList [(42, (FQ10 SQ10)), (43, (FQ52 SQ52)), (44, (FQ69 SQ69)), (45, (FQ70 SQ70)), (46, (FQ33 SQ33))], isref, N⟩ 0 (anQ72 N SQ10 SQ52 SQ69 SQ70 SQ33) ((cds Pg 11).drop 11) 0 (lsQ162 d_ u_ q_0 q_1 q_2 q_3 b6 off_2 off_3) (finV Pg 11 0 c_) = JQ162 N SQ10 SQ52 SQ69 SQ70 SQ33 q_0 q_1 q_2 q_3 b6 off_2 off_3 (fun r0 => c_ (.bool r0) []) := by kernel_rfl
theorem jnQ161 (N : Nat) (SQ10 : TSQ10) (SQ52 : TSQ52) (SQ69 : TSQ69) (SQ70 : TSQ70) (SQ33 : TSQ33) (d_ : List V) (u_ : List (Option Blk)) (q_0 q_1 q_2 q_3 : Fl) (off : Bool) (off_1 : Int) (c_ : V -> List Blk -> Bool) : codesV ⟨Pg, ofList [(42, (FQ10 SQ10)), (43, (FQ52 SQ52)), (44, (FQ69 SQ69)), (45, (FQ70 SQ70)), (46, (FQ33 SQ33))], isref, N⟩ 0 (anQ72 N SQ10 SQ52 SQ69 SQ70 SQ33) ((cds Pg 11).drop 11) 0 (lsQ161 d_ u_ q_0 q_1 q_2 q_3 off off_1) (finV Pg 11 0 c_) = JQ161 N SQ10 SQ52 SQ69 SQ70 SQ33 q_0 q_1 q_2 q_3 off off_1 (fun r0 => c_ (.bool r0) []) := by kernel_rfl
theorem hdQ154 (N : Nat) (SQ10 : TSQ10) (SQ52 : TSQ52) (SQ69 : TSQ69) (SQ70 : TSQ70) (SQ33 : TSQ33) (d_ : List V) (u_ : List (Option Blk)) (q_0 q_1 q_2 q_3 : Fl) (n : Bool) (n_1 : Int) (c_ : V -> List Blk -> Bool) (κn_ : St -> Bool) : codesV ⟨Pg, ofList [(42, (FQ10 SQ10)), (43, (FQ52 SQ52)), (44, (FQ69 SQ69)), (45, (FQ70 SQ70)), (46, (FQ33 SQ33))], isref, N⟩ 0 (anQ72 N SQ10 SQ52 SQ69 SQ70 SQ33) (sg Pg 11 7 4) 0 (lsQ154 d_ u_ q_0 q_1 q_2 q_3 n n_1) { (finV Pg 11 0 c_) with nrm := κn_ } = (SQ70 n [] n_1 false [1] 0 (fun cr_3 nr_4 nr_5 => (cond (nr_5 != 0) (c_ (.bool false) []) (κn_ (lsQ161 (dqs d_ 0 4 (.ptr 3 0 :: (.int .i64 nr_5 :: (.ptr 5 0 :: (dqs d_ 7 15 (.slw 4 :: (.agg [.bool false, .slw 4, .int .i64 0] :: (.tup [.agg [.bool cr_3, .nil, .int .i64 nr_4], .int .i64 nr_5] :: (.agg [.bool n, .nil, .int .i64 n_1] :: (.agg [.bool false, .slw 4, .int .i64 0] :: (.tup [.agg [.bool cr_3, .nil, .int .i64 nr_4], .int .i64 nr_5] :: (.agg [.bool cr_3, .nil, .int .i64 nr_4] :: (.int .i64 nr_5 :: (.int .i64 nr_5 :: (.bool false :: (dqs d_ 32 14 [])))))))))))))))) [(u_.getD 0 none), (u_.getD 1 none), (u_.getD 2 none), some ⟨84, 1, .cells [.bool n, .nil, .int .i64 n_1]⟩, some ⟨87, 1, .ints .u32 [1]⟩, some ⟨84, 1, .cells [.bool false, .slw 4, .int .i64 0]⟩] q_0 q_1 q_2 q_3 cr_3 nr_4)))) (fun cr_4 nr_6 nr_7 nsr_1 => (cond (nr_7 != 0) (c_ (.bool false) []) (κn_ (lsQ162 (dqs d_ 0 4 (.ptr 3 0 :: (.int .i64 nr_7 :: (.ptr 5 0 :: (dqs d_ 7 15 (.slw 4 :: (.agg [.bool false, .slw 4, .int .i64 0] :: (.tup [.agg [.bool cr_4, .slw 6, .int .i64 nr_6], .int .i64 nr_7] :: (.agg [.bool n, .nil, .int .i64 n_1] :: (.agg [.bool false, .slw 4, .int .i64 0] :: (.tup [.agg [.bool cr_4, .slw 6, .int .i64 nr_6], .int .i64 nr_7] :: (.agg [.bool cr_4, .slw 6, .int .i64 nr_6] :: (.int .i64 nr_7 :: (.int .i64 nr_7 :: (.bool false :: (dqs d_ 32 14 [])))))))))))))))) [(u_.getD 0 none), (u_.getD 1 none), (u_.getD 2 none), some ⟨84, 1, .cells [.bool n, .nil, .int .i64 n_1]⟩, some ⟨87, 1, .ints .u32 [1]⟩, some ⟨84, 1, .cells [.bool false, .slw 4, .int .i64 0]⟩] q_0 q_1 q_2 q_3 nsr_1 cr_4 nr_6))))) := by kernel_rfl
theorem jnQ154 (N : Nat) (SQ10 : TSQ10) (SQ52 : TSQ52) (SQ69 : TSQ69) (SQ70 : TSQ70) (SQ33 : TSQ33) (d_ : List V) (u_ : List (Option Blk)) (q_0 q_1 q_2 q_3 : Fl) (n : Bool) (n_1 : Int) (c_ : V -> List Blk -> Bool) : codesV ⟨Pg, ofList [(42, (FQ10 SQ10)), (43, (FQ52 SQ52)), (44, (FQ69 SQ69)), (45, (FQ70 SQ70)), (46, (FQ33 SQ33))], isref, N⟩ 0 (anQ72 N SQ10 SQ52 SQ69 SQ70 SQ33) ((cds Pg 11).drop 7) 0 (lsQ154 d_ u_ q_0 q_1 q_2 q_3 n n_1) (finV Pg 11 0 c_) = JQ154 N SQ10 SQ52 SQ69 SQ70 SQ33 q_0 q_1 q_2 q_3 n n_1 (fun r0 => c_ (.bool r0) []) := by
  rw [codesV_cut 7 4 11 rfl]
  refine (hdQ154 N SQ10 SQ52 SQ69 SQ70 SQ33 d_ u_ q_0 q_1 q_2 q_3 n n_1 c_ _).trans ?_
  simp only [jnQ161, jnQ162]
  kernel_rfl
theorem hd_quat_Good_w (N : Nat) (SQ10 : TSQ10) (SQ52 : TSQ52) (SQ69 : TSQ69) (SQ70 : TSQ70) (SQ33 : TSQ33) (q_0 q_1 q_2 q_3 : Fl) (c_ : V -> List Blk -> Bool) (κn_ : St -> Bool) : codesV ⟨Pg, ofList [(42, (FQ10 SQ10)), (43, (FQ52 SQ52)), (44, (FQ69 SQ69)), (45, (FQ70 SQ70)), (46, (FQ33 SQ33))], isref, N⟩ 0 (anQ72 N SQ10 SQ52 SQ69 SQ70 SQ33) (sg Pg 11 0 7) 0 (st0 Pg 11 (shFQ72.args [.fl q_0, .fl q_1, .fl q_2, .fl q_3]) []) { (finV Pg 11 0 c_) with nrm := κn_ } = (SQ10 q_0 q_1 q_2 q_3 (fun cr => (cond (!cr) (c_ (.bool false) []) (SQ52 q_0 q_1 q_2 q_3 (SQ69 [q_0, q_1, q_2, q_3] [q_0, q_1, q_2, q_3] (fun cr_1 nr nr_1 => (cond (nr_1 != 0) (c_ (.bool false) []) (κn_ (lsQ154 [.agg [.flt q_0, .flt q_1, .flt q_2, .flt q_3], .ptr 0 0, .bool false, .ptr 2 0, .int .i64 nr_1, .any, .any, .any, .agg [.flt q_0, .flt q_1, .flt q_2, .flt q_3], .slw 1, .bool cr, .bool false, .agg [.flt q_0, .flt q_1, .flt q_2, .flt q_3], .agg [.flt q_0, .flt q_1, .flt q_2, .flt q_3], .tup [.agg [.bool cr_1, .nil, .int .i64 nr], .int .i64 nr_1], .sl 2 0 (4 - 0), .sl 2 0 (4 - 0), .tup [.agg [.bool cr_1, .nil, .int .i64 nr], .int .i64 nr_1], .agg [.bool cr_1, .nil, .int .i64 nr], .int .i64 nr_1, .int .i64 nr_1, .bool false, .any, .any, .any, .any, .any, .any, .any, .any, .any, .any, .any, .any, .any, .any, .any, .any, .any, .any, .any, .any, .any, .any, .any, .any] [some ⟨30, 1, .cells [.flt q_0, .flt q_1, .flt q_2, .flt q_3]⟩, some ⟨30, 4, .cells [.flt q_0, .flt q_1, .flt q_2, .flt q_3]⟩, some ⟨80, 1, .flts [q_0, q_1, q_2, q_3]⟩] q_0 q_1 q_2 q_3 cr_1 nr)))) (fun cr_2 nr_2 nr_3 nsr => (cond (nr_3 != 0) (c_ (.bool false) []) (κn_ (lsQ155 [.agg [.flt q_0, .flt q_1, .flt q_2, .flt q_3], .ptr 0 0, .bool false, .ptr 2 0, .int .i64 nr_3, .any, .any, .any, .agg [.flt q_0, .flt q_1, .flt q_2, .flt q_3], .slw 1, .bool cr, .bool false, .agg [.flt q_0, .flt q_1, .flt q_2, .flt q_3], .agg [.flt q_0, .flt q_1, .flt q_2, .flt q_3], .tup [.agg [.bool cr_2, .slw 3, .int .i64 nr_2], .int .i64 nr_3], .sl 2 0 (4 - 0), .sl 2 0 (4 - 0), .tup [.agg [.bool cr_2, .slw 3, .int .i64 nr_2], .int .i64 nr_3], .agg [.bool cr_2, .slw 3, .int .i64 nr_2], .int .i64 nr_3, .int .i64 nr_3, .bool false, .any, .any, .any, .any, .any, .any, .any, .any, .any, .any, .any, .any, .any, .any, .any, .any, .any, .any, .any, .any, .any, .any, .any, .any] [some ⟨30, 1, .cells [.flt q_0, .flt q_1, .flt q_2, .flt q_3]⟩, some ⟨30, 4, .cells [.flt q_0, .flt q_1, .flt q_2, .flt q_3]⟩, some ⟨80, 1, .flts [q_0, q_1, q_2, q_3]⟩] q_0 q_1 q_2 q_3 nsr cr_2 nr_2))))))))) := by kernel_rfl
theorem jn_quat_Good_w (N : Nat) (SQ10 : TSQ10) (SQ52 : TSQ52) (SQ69 : TSQ69) (SQ70 : TSQ70) (SQ33 : TSQ33) (q_0 q_1 q_2 q_3 : Fl) (c_ : V -> List Blk -> Bool) : codesV ⟨Pg, ofList [(42, (FQ10 SQ10)), (43, (FQ52 SQ52)), (44, (FQ69 SQ69)), (45, (FQ70 SQ70)), (46, (FQ33 SQ33))], isref, N⟩ 0 (anQ72 N SQ10 SQ52 SQ69 SQ70 SQ33) ((cds Pg 11).drop 0) 0 (st0 Pg 11 (shFQ72.args [.fl q_0, .fl q_1, .fl q_2, .fl q_3]) []) (finV Pg 11 0 c_) = GQ72 N SQ10 SQ52 SQ69 SQ70 SQ33 q_0 q_1 q_2 q_3 (fun r0 => c_ (.bool r0) []) := by
  rw [codesV_cut 0 7 7 rfl]
  refine (hd_quat_Good_w N SQ10 SQ52 SQ69 SQ70 SQ33 q_0 q_1 q_2 q_3 c_ _).trans ?_
  simp only [jnQ154, jnQ155]
  kernel_rfl
theorem eqQ72 (N : Nat) (SQ10 : TSQ10) (SQ52 : TSQ52) (SQ69 : TSQ69) (SQ70 : TSQ70) (SQ33 : TSQ33) (q_0 q_1 q_2 q_3 : Fl) (c_ : V -> List Blk -> Bool) : bodyV ⟨Pg, ofList [(42, (FQ10 SQ10)), (43, (FQ52 SQ52)), (44, (FQ69 SQ69)), (45, (FQ70 SQ70)), (46, (FQ33 SQ33))], isref, N⟩ (anQ72 N SQ10 SQ52 SQ69 SQ70 SQ33) 11 (shFQ72.args [.fl q_0, .fl q_1, .fl q_2, .fl q_3]) [] c_ = GQ72 N SQ10 SQ52 SQ69 SQ70 SQ33 q_0 q_1 q_2 q_3 (fun r0 => c_ (.bool r0) []) :=
  (bodyV_codes (by kernel_rfl)).trans (jn_quat_Good_w N SQ10 SQ52 SQ69 SQ70 SQ33 q_0 q_1 q_2 q_3 c_)
theorem goodQ72 (N : Nat) (SQ10 : TSQ10) (SQ52 : TSQ52) (SQ69 : TSQ69) (SQ70 : TSQ70) (SQ33 : TSQ33) (hQ10 : GoodF Pg 42 (FQ10 SQ10)) (hQ52 : GoodF Pg 43 (FQ52 SQ52)) (hQ69 : GoodF Pg 44 (FQ69 SQ69)) (hQ70 : GoodF Pg 45 (FQ70 SQ70)) (hQ33 : GoodF Pg 46 (FQ33 SQ33)) : GoodF Pg 11 (FQ72 (GQ72 N SQ10 SQ52 SQ69 SQ70 SQ33)) := by
  refine good_fs (cx := ⟨Pg, ofList [(42, (FQ10 SQ10)), (43, (FQ52 SQ52)), (44, (FQ69 SQ69)), (45, (FQ70 SQ70)), (46, (FQ33 SQ33))], isref, N⟩) (ofList_cons hQ10 (ofList_cons hQ52 (ofList_cons hQ69 (ofList_cons hQ70 (ofList_cons hQ33 (ofList_nil _)))))) shFQ72 (spQ72 (GQ72 N SQ10 SQ52 SQ69 SQ70 SQ33)) (anQ72 N SQ10 SQ52 SQ69 SQ70 SQ33) 0 0 (by kernel_rfl) (fun i_ hi_ => by omega) ?_
  intro a k h
  unfold spQ72 at h
  split at h
  · exact ⟨[], rfl, rfl, (eqQ72 _ _ _ _ _ _ _ _ _ _ _).trans h⟩
  · cases h

def anQ68 (N : Nat) : Nat -> Option Ann := fun b_ => none
theorem eqQ68 (N : Nat) (c_ : V -> List Blk -> Bool) : bodyV ⟨Pg, ofList [], isref, N⟩ (anQ68 N) 41 (shFQ68.args []) [] c_ = GQ68 N (fun r0 r1 r2 r3 => c_ (.agg [.flt r0, .flt r1, .flt r2, .flt r3]) []) := by kernel_rfl
theorem goodQ68 (N : Nat) : GoodF Pg 41 (FQ68 (GQ68 N)) := by
  refine good_fs (cx := ⟨Pg, ofList [], isref, N⟩) (ofList_nil _) shFQ68 (spQ68 (GQ68 N)) (anQ68 N) 0 0 (by kernel_rfl) (fun i_ hi_ => by omega) ?_
  intro a k h
  unfold spQ68 at h
  split at h
  · exact ⟨[], rfl, rfl, (eqQ68 _ _).trans h⟩
  · cases h

def anQ42 (N : Nat) (SQ114 : TSQ114) (SQ81 : TSQ81) (SQ130 : TSQ130) (SQ72 : TSQ72) (SQ68 : TSQ68) : Nat -> Option Ann := fun b_ => none
theorem eqQ42 (N : Nat) (SQ114 : TSQ114) (SQ81 : TSQ81) (SQ130 : TSQ130) (SQ72 : TSQ72) (SQ68 : TSQ68) (c_ : V -> List Blk -> Bool) : bodyV ⟨Pg, ofList [(35, (FQ114 SQ114)), (13, (FQ81 SQ81)), (40, (FQ130 SQ130)), (11, (FQ72 SQ72)), (41, (FQ68 SQ68))], isref, N⟩ (anQ42 N SQ114 SQ81 SQ130 SQ72 SQ68) 8 (shFQ42.args []) [] c_ = GQ42 N SQ114 SQ81 SQ130 SQ72 SQ68 (fun r0 => c_ (.bool r0) []) := by kernel_rfl
theorem goodQ42 (N : Nat) (SQ114 : TSQ114) (SQ81 : TSQ81) (SQ130 : TSQ130) (SQ72 : TSQ72) (SQ68 : TSQ68) (hQ114 : GoodF Pg 35 (FQ114 SQ114)) (hQ81 : GoodF Pg 13 (FQ81 SQ81)) (hQ130 : GoodF Pg 40 (FQ130 SQ130)) (hQ72 : GoodF Pg 11 (FQ72 SQ72)) (hQ68 : GoodF Pg 41 (FQ68 SQ68)) : GoodF Pg 8 (FQ42 (GQ42 N SQ114 SQ81 SQ130 SQ72 SQ68)) := by
  refine good_fs (cx := ⟨Pg, ofList [(35, (FQ114 SQ114)), (13, (FQ81 SQ81)), (40, (FQ130 SQ130)), (11, (FQ72 SQ72)), (41, (FQ68 SQ68))], isref, N⟩) (ofList_cons hQ114 (ofList_cons hQ81 (ofList_cons hQ130 (ofList_cons hQ72 (ofList_cons hQ68 (ofList_nil _)))))) shFQ42 (spQ42 (GQ42 N SQ114 SQ81 SQ130 SQ72 SQ68)) (anQ42 N SQ114 SQ81 SQ130 SQ72 SQ68) 0 0 (by kernel_rfl) (fun i_ hi_ => by omega) ?_
  intro a k h
  unfold spQ42 at h
  split at h
  · exact ⟨[], rfl, rfl, (eqQ42 _ _ _ _ _ _ _).trans h⟩
  · cases h

def anQ50 (N : Nat) (SQ75 : TSQ75) : Nat -> Option Ann := fun b_ => none
theorem eqQ50 (N : Nat) (SQ75 : TSQ75) (b : Int) (c_ : V -> List Blk -> Bool) : bodyV ⟨Pg, ofList [(82, (FQ75 SQ75))], isref, N⟩ (anQ50 N SQ75) 39 (shFQ50.args [.int b]) [] c_ = GQ50 N SQ75 b (fun r0 => c_ (.flt r0) []) := by kernel_rfl
theorem goodQ50 (N : Nat) (SQ75 : TSQ75) (hQ75 : GoodF Pg 82 (FQ75 SQ75)) : GoodF Pg 39 (FQ50 (GQ50 N SQ75)) := by
  refine good_fs (cx := ⟨Pg, ofList [(82, (FQ75 SQ75))], isref, N⟩) (ofList_cons hQ75 (ofList_nil _)) shFQ50 (spQ50 (GQ50 N SQ75)) (anQ50 N SQ75) 0 0 (by kernel_rfl) (fun i_ hi_ => by omega) ?_
  intro a k h
  unfold spQ50 at h
  split at h
  · exact ⟨[], rfl, rfl, (eqQ50 _ _ _ _).trans h⟩
  · cases h

def anQ40 (N : Nat) (SQ50 : TSQ50) : Nat -> Option Ann := fun b_ => none
theorem eqQ40 (N : Nat) (SQ50 : TSQ50) (q_0 q_1 q_2 q_3 : Int) (c_ : V -> List Blk -> Bool) : bodyV ⟨Pg, ofList [(39, (FQ50 SQ50))], isref, N⟩ (anQ40 N SQ50) 9 (shFQ40.args [.int q_0, .int q_1, .int q_2, .int q_3]) [] c_ = GQ40 N SQ50 q_0 q_1 q_2 q_3 (fun r0 r1 r2 r3 => c_ (.agg [.flt r0, .flt r1, .flt r2, .flt r3]) []) := by kernel_rfl
theorem goodQ40 (N : Nat) (SQ50 : TSQ50) (hQ50 : GoodF Pg 39 (FQ50 SQ50)) : GoodF Pg 9 (FQ40 (GQ40 N SQ50)) := by
  refine good_fs (cx := ⟨Pg, ofList [(39, (FQ50 SQ50))], isref, N⟩) (ofList_cons hQ50 (ofList_nil _)) shFQ40 (spQ40 (GQ40 N SQ50)) (anQ40 N SQ50) 0 0 (by kernel_rfl) (fun i_ hi_ => by omega) ?_
  intro a k h
  unfold spQ40 at h
  split at h
  · exact ⟨[], rfl, rfl, (eqQ40 _ _ _ _ _ _ _).trans h⟩
  · cases h

def anQ43 (N : Nat) (SQ50 : TSQ50) : Nat -> Option Ann := fun b_ => none
theorem eqQ43 (N : Nat) (SQ50 : TSQ50) (v_0 v_1 v_2 : Int) (c_ : V -> List Blk -> Bool) : bodyV ⟨Pg, ofList [(39, (FQ50 SQ50))], isref, N⟩ (anQ43 N SQ50) 10 (shFQ43.args [.int v_0, .int v_1, .int v_2]) [] c_ = GQ43 N SQ50 v_0 v_1 v_2 (fun r0 r1 r2 => c_ (.agg [.flt r0, .flt r1, .flt r2]) []) := by kernel_rfl
theorem goodQ43 (N : Nat) (SQ50 : TSQ50) (hQ50 : GoodF Pg 39 (FQ50 SQ50)) : GoodF Pg 10 (FQ43 (GQ43 N SQ50)) := by
  refine good_fs (cx := ⟨Pg, ofList [(39, (FQ50 SQ50))], isref, N⟩) (ofList_cons hQ50 (ofList_nil _)) shFQ43 (spQ43 (GQ43 N SQ50)) (anQ43 N SQ50) 0 0 (by kernel_rfl) (fun i_ hi_ => by omega) ?_
  intro a k h
  unfold spQ43 at h
  split at h
  · exact ⟨[], rfl, rfl, (eqQ43 _ _ _ _ _ _).trans h⟩
  · cases h

def anQ46 (N : Nat) (S_m_Abs : TS_m_Abs) (SQ102 : TSQ102) : Nat -> Option Ann := fun b_ => none
theorem eqQ46 (N : Nat) (S_m_Abs : TS_m_Abs) (SQ102 : TSQ102) (v_0 v_1 v_2 : Fl) (c_ : V -> List Blk -> Bool) : bodyV ⟨Pg, ofList [(47, (F_m_Abs S_m_Abs)), (26, (FQ102 SQ102))], isref, (N + 24)⟩ (anQ46 (N + 24) S_m_Abs SQ102) 12 (shFQ46.args [.fl v_0, .fl v_1, .fl v_2]) [] c_ = GQ46 (N + 24) S_m_Abs SQ102 v_0 v_1 v_2 (fun r0 => c_ (.bool r0) []) := by kernel_rfl
theorem goodQ46 (N : Nat) (S_m_Abs : TS_m_Abs) (SQ102 : TSQ102) (h_m_Abs : GoodF Pg 47 (F_m_Abs S_m_Abs)) (hQ102 : GoodF Pg 26 (FQ102 SQ102)) : GoodF Pg 12 (FQ46 (GQ46 (N + 24) S_m_Abs SQ102)) := by
  refine good_fs (cx := ⟨Pg, ofList [(47, (F_m_Abs S_m_Abs)), (26, (FQ102 SQ102))], isref, (N + 24)⟩) (ofList_cons h_m_Abs (ofList_cons hQ102 (ofList_nil _))) shFQ46 (spQ46 (GQ46 (N + 24) S_m_Abs SQ102)) (anQ46 (N + 24) S_m_Abs SQ102) 1 0 (by kernel_rfl) (fun i_ hi_ => by
    match i_, hi_ with
    | 0, _ => exact (fun hk e => by rw [show hookOf ((anQ46 (N + 24) S_m_Abs SQ102) (lp Pg 12 0).1) = none from by kernel_rfl] at e; cases e)
    | (q + 1), h => omega) ?_
  intro a k h
  unfold spQ46 at h
  split at h
  · exact ⟨[], rfl, rfl, (eqQ46 _ _ _ _ _ _ _).trans h⟩
  · cases h

def sh_st_binnacleref00_cut_w_0 : StSh := ⟨(.sl 0 :: (sqs 20 [])), [some (87, 1, .ints .u32)]⟩
def sx0_st_binnacleref00_cut_w_0 : StSh := ⟨(.sl 0 :: (sqs 20 [])), [some (87, 1, .ints .u32)]⟩
def hk_st_binnacleref00_cut_w_0 (N : Nat) : List Atom -> K -> Bool := fun a_ κ => match a_ with
  | [.nat m_1, .nat m_2, .ints m_3] => iterG N (stQ165 N m_1 m_3 (fun r1 => κ.ext 0 (sx0_st_binnacleref00_cut_w_0.build [.nat m_1, .nat r1, .ints m_3]))) m_2
  | _ => false
def anQ9 (N : Nat) : Nat -> Option Ann := fun b_ => cond (b_ == 0) (some ⟨⟨[0], [(0, some 0, 0)], []⟩, [(0, ⟨[0], [], []⟩)], some ⟨[2], [], []⟩, some (mkHooks [(sh_st_binnacleref00_cut_w_0, hk_st_binnacleref00_cut_w_0 N)])⟩) (none)
theorem eq_st_binnacleref00_cut_w_0 (N : Nat) (κ : K) (m_1 m_2 : Nat) (m_3 : List Int) : iter N (fun s k => codeV ⟨Pg, ofList [], isref, N⟩ 1 (anQ9 N) (lp Pg 147 0).2 (lp Pg 147 0).1 s (roundK Pg 1 ((anQ9 N) (lp Pg 147 0).1) κ k)) (sh_st_binnacleref00_cut_w_0.build [.nat m_1, .nat m_2, .ints m_3]) = iterG N (stQ165 N m_1 m_3 (fun r1 => κ.ext 0 (sx0_st_binnacleref00_cut_w_0.build [.nat m_1, .nat r1, .ints m_3]))) m_2 :=
  iter_tr (fun v_ => sh_st_binnacleref00_cut_w_0.build [.nat m_1, .nat v_, .ints m_3]) (fun v_ K_ => by kernel_rfl) N m_2
theorem hk1_st_binnacleref00_cut_w_0 (N : Nat) : HookFor ⟨Pg, ofList [], isref, N⟩ 1 (anQ9 N) (lp Pg 147 0) (sh_st_binnacleref00_cut_w_0, hk_st_binnacleref00_cut_w_0 N) := by
  intro a κ h
  simp only at h
  unfold hk_st_binnacleref00_cut_w_0 at h
  split at h
  · exact (eq_st_binnacleref00_cut_w_0 _ _ _ _ _).trans h
  · cases h
theorem ho_binnacleref00_cut_w_0 (N : Nat) : HookOk ⟨Pg, ofList [], isref, N⟩ 1 (anQ9 N) (lp Pg 147 0) :=
  hooks_ok [(sh_st_binnacleref00_cut_w_0, hk_st_binnacleref00_cut_w_0 N)] (by kernel_rfl) ⟨hk1_st_binnacleref00_cut_w_0 _, trivial⟩
theorem eqQ9 (N : Nat) (b : List Int) (c_ : V -> List Blk -> Bool) : bodyZ ⟨Pg, ofList [], isref, N⟩ (anQ9 N) 147 (shFQ9.args [.ints b]) [⟨87, 1, .ints .u32 b⟩] c_ = GQ9 N b (fun r0 r1 => c_ (.sl 0 r0 r1) [⟨87, 1, .ints .u32 b⟩]) := by kernel_rfl
theorem goodQ9 (N : Nat) : GoodF Pg 147 (FQ9 (GQ9 N)) := by
  refine good_fsZ (cx := ⟨Pg, ofList [], isref, N⟩) (ofList_nil _) shFQ9 (spQ9 (GQ9 N)) (anQ9 N) 1 1 (by kernel_rfl) (fun i_ hi_ => by
    match i_, hi_ with
    | 0, _ => exact ho_binnacleref00_cut_w_0 _
    | (q + 1), h => omega) ?_
  intro a k h
  unfold spQ9 at h
  split at h
  · exact ⟨[_], rfl, rfl, (eqQ9 _ _ _).trans h⟩
  · cases h

def anQ94 (N : Nat) (SQ9 : TSQ9) : Nat -> Option Ann := fun b_ => none
theorem eqQ94 (N : Nat) (SQ9 : TSQ9) (n : Int) (c_ : V -> List Blk -> Bool) : bodyZ ⟨Pg, ofList [(147, (FQ9 SQ9))], isref, N⟩ (anQ94 N SQ9) 117 (shFQ94.args [.int n]) [] c_ = GQ94 N SQ9 n (fun r0 => c_ (.roi .u32 r0) []) := by kernel_rfl
theorem goodQ94 (N : Nat) (SQ9 : TSQ9) (hQ9 : GoodF Pg 147 (FQ9 SQ9)) : GoodF Pg 117 (FQ94 (GQ94 N SQ9)) := by
  refine good_fsZ (cx := ⟨Pg, ofList [(147, (FQ9 SQ9))], isref, N⟩) (ofList_cons hQ9 (ofList_nil _)) shFQ94 (spQ94 (GQ94 N SQ9)) (anQ94 N SQ9) 0 0 (by kernel_rfl) (fun i_ hi_ => by omega) ?_
  intro a k h
  unfold spQ94 at h
  split at h
  · exact ⟨[], rfl, rfl, (eqQ94 _ _ _ _).trans h⟩
  · cases h

def sh_st_binnacleref00_cut_0 : StSh := ⟨(.roi .u32 :: (sqs 20 [])), []⟩
def sx0_st_binnacleref00_cut_0 : StSh := ⟨(.roi .u32 :: (sqs 20 [])), []⟩
def hk_st_binnacleref00_cut_0 (N : Nat) : List Atom -> K -> Bool := fun a_ κ => match a_ with
  | [.ints m_1] => iterG N (st_z00_cut_0 N (fun r0 => κ.ext 0 (sx0_st_binnacleref00_cut_0.build [.ints r0]))) m_1
  | _ => false
def anQ136 (N : Nat) : Nat -> Option Ann := fun b_ => cond (b_ == 0) (some ⟨⟨[0], [], []⟩, [(0, ⟨[0], [], []⟩)], some ⟨[2], [], []⟩, some (mkHooks [(sh_st_binnacleref00_cut_0, hk_st_binnacleref00_cut_0 N)])⟩) (none)
theorem eq_st_binnacleref00_cut_0 (N : Nat) (κ : K) (m_1 : List Int) : iter N (fun s k => codeV ⟨Pg, ofList [], isref, N⟩ 0 (anQ136 N) (lp Pg 147 0).2 (lp Pg 147 0).1 s (roundK Pg 0 ((anQ136 N) (lp Pg 147 0).1) κ k)) (sh_st_binnacleref00_cut_0.build [.ints m_1]) = iterG N (st_z00_cut_0 N (fun r0 => κ.ext 0 (sx0_st_binnacleref00_cut_0.build [.ints r0]))) m_1 :=
  iter_tr (fun v_ => sh_st_binnacleref00_cut_0.build [.ints v_]) (fun v_ K_ => by kernel_rfl) N m_1
theorem hk1_st_binnacleref00_cut_0 (N : Nat) : HookFor ⟨Pg, ofList [], isref, N⟩ 0 (anQ136 N) (lp Pg 147 0) (sh_st_binnacleref00_cut_0, hk_st_binnacleref00_cut_0 N) := by
  intro a κ h
  simp only at h
  unfold hk_st_binnacleref00_cut_0 at h
  split at h
  · exact (eq_st_binnacleref00_cut_0 _ _ _).trans h
  · cases h
theorem ho_binnacleref00_cut_0 (N : Nat) : HookOk ⟨Pg, ofList [], isref, N⟩ 0 (anQ136 N) (lp Pg 147 0) :=
  hooks_ok [(sh_st_binnacleref00_cut_0, hk_st_binnacleref00_cut_0 N)] (by kernel_rfl) ⟨hk1_st_binnacleref00_cut_0 _, trivial⟩
theorem eqQ136 (N : Nat) (m : List Int) (c_ : V -> List Blk -> Bool) : bodyZ ⟨Pg, ofList [], isref, N⟩ (anQ136 N) 147 (shFQ136.args [.ints m]) [] c_ = GQ136 N m (fun r0 => c_ (.roi .u32 r0) []) := by kernel_rfl
theorem goodQ136 (N : Nat) : GoodF Pg 147 (FQ136 (GQ136 N)) := by
  refine good_fsZ (cx := ⟨Pg, ofList [], isref, N⟩) (ofList_nil _) shFQ136 (spQ136 (GQ136 N)) (anQ136 N) 1 0 (by kernel_rfl) (fun i_ hi_ => by
    match i_, hi_ with
    | 0, _ => exact ho_binnacleref00_cut_0 _
    | (q + 1), h => omega) ?_
  intro a k h
  unfold spQ136 at h
  split at h
  · exact ⟨[], rfl, rfl, (eqQ136 _ _ _).trans h⟩
  · cases h

def anQ44 (N : Nat) (SQ136 : TSQ136) : Nat -> Option Ann := fun b_ => none
theorem eqQ44 (N : Nat) (SQ136 : TSQ136) (neg : Bool) (m : List Int) (b : Bool) (c_ : V -> List Blk -> Bool) : bodyZ ⟨Pg, ofList [(147, (FQ136 SQ136))], isref, N⟩ (anQ44 N SQ136) 99 (shFQ44.args [.bool neg, .ints m, .bool b]) [⟨98, 1, .cells [.bool b, .nil]⟩] c_ = GQ44 N SQ136 neg m b (fun r0 r1 => c_ (.ptr 0 0) [⟨98, 1, .cells [.bool r0, .roi .u32 r1]⟩]) := by kernel_rfl
theorem goodQ44 (N : Nat) (SQ136 : TSQ136) (hQ136 : GoodF Pg 147 (FQ136 SQ136)) : GoodF Pg 99 (FQ44 (GQ44 N SQ136)) := by
  refine good_fsZ (cx := ⟨Pg, ofList [(147, (FQ136 SQ136))], isref, N⟩) (ofList_cons hQ136 (ofList_nil _)) shFQ44 (spQ44 (GQ44 N SQ136)) (anQ44 N SQ136) 0 1 (by kernel_rfl) (fun i_ hi_ => by omega) ?_
  intro a k h
  unfold spQ44 at h
  split at h
  · exact ⟨[_], rfl, rfl, (eqQ44 _ _ _ _ _ _).trans h⟩
  · cases h

def anQ71 (N : Nat) (SQ94 : TSQ94) (SQ44 : TSQ44) : Nat -> Option Ann := fun b_ => none
theorem eqQ71 (N : Nat) (SQ94 : TSQ94) (SQ44 : TSQ44) (n : Int) (b : Bool) (c_ : V -> List Blk -> Bool) : bodyZ ⟨Pg, ofList [(117, (FQ94 SQ94)), (99, (FQ44 SQ44))], isref, N⟩ (anQ71 N SQ94 SQ44) 96 (shFQ71.args [.int n, .bool b]) [⟨98, 1, .cells [.bool b, .nil]⟩] c_ = GQ71 N SQ94 SQ44 n b (fun r0 r1 => c_ (.ptr 0 0) [⟨98, 1, .cells [.bool r0, .roi .u32 r1]⟩]) := by kernel_rfl
theorem goodQ71 (N : Nat) (SQ94 : TSQ94) (SQ44 : TSQ44) (hQ94 : GoodF Pg 117 (FQ94 SQ94)) (hQ44 : GoodF Pg 99 (FQ44 SQ44)) : GoodF Pg 96 (FQ71 (GQ71 N SQ94 SQ44)) := by
  refine good_fsZ (cx := ⟨Pg, ofList [(117, (FQ94 SQ94)), (99, (FQ44 SQ44))], isref, N⟩) (ofList_cons hQ94 (ofList_cons hQ44 (ofList_nil _))) shFQ71 (spQ71 (GQ71 N SQ94 SQ44)) (anQ71 N SQ94 SQ44) 0 1 (by kernel_rfl) (fun i_ hi_ => by omega) ?_
  intro a k h
  unfold spQ71 at h
  split at h
  · exact ⟨[_], rfl, rfl, (eqQ71 _ _ _ _ _ _).trans h⟩
  · cases h

end Go.Proofs.YtnfgnjciliapaaaGreatDoor
