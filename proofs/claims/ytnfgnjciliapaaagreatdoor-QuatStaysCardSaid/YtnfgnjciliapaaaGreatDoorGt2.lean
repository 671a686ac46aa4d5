/-
  THE TIES: each printed meaning is what the program does (written by program).
  Conditions: none.
-/
import Derived.Test.YtnfgnjciliapaaaGreatDoorGs
namespace Go.Proofs.YtnfgnjciliapaaaGreatDoor
open Go Go.Mach Go.Proofs
set_option linter.unusedVariables false
set_option maxRecDepth 50000

def sh_st_v_dyad_exact_put_p0r_0 : StSh := ⟨(.any :: (.any :: (.ptr 1 0 :: (.any :: (.ptr 2 0 :: (.ptr 3 0 :: (.ptr 4 0 :: (sqs 52 [])))))))), [some (126, 1, .cells [.bool, .roi .u64]), some (84, 1, .cells [.bool, .nil, .int .i64]), some (84, 1, .cells [.bool, .slw 5, .int .i64]), some (126, 1, .cells [.bool, .roi .u64]), some (126, 1, .cells [.bool, .roi .u64]), some (87, 1, .ints .u32)]⟩
def sx0_st_v_dyad_exact_put_p0r_0 : StSh := ⟨(.any :: (.any :: (.ptr 1 0 :: (.any :: (.ptr 2 0 :: (sqs 54 [])))))), [some (126, 1, .cells [.bool, .roi .u64]), some (84, 1, .cells [.bool, .nil, .int .i64]), some (84, 1, .cells [.bool, .slw 3, .int .i64]), some (87, 1, .ints .u32)]⟩
def hk_st_v_dyad_exact_put_p0r_0 (N : Nat) (SQ22 : TSQ22) (SQ2 : TSQ2) (SQ39 : TSQ39) (SQ61 : TSQ61) (SQ38 : TSQ38) (SQ25 : TSQ25) (SQ40 : TSQ40) (SQ18 : TSQ18) : List Atom -> K -> Bool := fun a_ κ => match a_ with
  | [.bool b0_2, .ints b0_3, .bool t2_2, .int t2_3, .bool d_2, .int d_3, .bool mask_2, .ints mask_3, .bool m_2, .ints m_3, .ints b5] => iterG N (stQ186 N SQ22 SQ2 SQ39 SQ61 SQ38 SQ25 SQ40 SQ18 b0_2 b0_3 t2_2 t2_3 d_2 d_3 mask_2 mask_3 (fun r6 => κ.ext 0 (sx0_st_v_dyad_exact_put_p0r_0.build [.bool b0_2, .ints b0_3, .bool t2_2, .int t2_3, .bool d_2, .int d_3, .ints r6]))) (m_2, m_3, b5)
  | _ => false
def anQ15 (N : Nat) (SQ22 : TSQ22) (SQ2 : TSQ2) (SQ39 : TSQ39) (SQ61 : TSQ61) (SQ38 : TSQ38) (SQ25 : TSQ25) (SQ40 : TSQ40) (SQ18 : TSQ18) : Nat -> Option Ann := fun b_ => cond (b_ == 0) (some ⟨⟨[2, 4, 5, 6], [(4, some 1, 87)], []⟩, [(0, ⟨[2, 4], [], []⟩)], some ⟨[2, 3], [], []⟩, some (mkHooks [(sh_st_v_dyad_exact_put_p0r_0, hk_st_v_dyad_exact_put_p0r_0 N SQ22 SQ2 SQ39 SQ61 SQ38 SQ25 SQ40 SQ18)])⟩) (none)
theorem eq_st_v_dyad_exact_put_p0r_0 (N : Nat) (SQ22 : TSQ22) (SQ2 : TSQ2) (SQ39 : TSQ39) (SQ61 : TSQ61) (SQ38 : TSQ38) (SQ25 : TSQ25) (SQ40 : TSQ40) (SQ18 : TSQ18) (κ : K) (b0_2 : Bool) (b0_3 : List Int) (t2_2 : Bool) (t2_3 : Int) (d_2 : Bool) (d_3 : Int) (mask_2 : Bool) (mask_3 : List Int) (m_2 : Bool) (m_3 b5 : List Int) : iter N (fun s k => codeV ⟨Pg, ofList [(132, (FQ22 SQ22)), (94, (FQ2 SQ2)), (133, (FQ39 SQ39)), (134, (FQ61 SQ61)), (135, (FQ38 SQ38)), (137, (FQ25 SQ25)), (138, (FQ40 SQ40)), (136, (FQ18 SQ18))], isref, N⟩ 1 (anQ15 N SQ22 SQ2 SQ39 SQ61 SQ38 SQ25 SQ40 SQ18) (lp Pg 88 0).2 (lp Pg 88 0).1 s (roundK Pg 1 ((anQ15 N SQ22 SQ2 SQ39 SQ61 SQ38 SQ25 SQ40 SQ18) (lp Pg 88 0).1) κ k)) (sh_st_v_dyad_exact_put_p0r_0.build [.bool b0_2, .ints b0_3, .bool t2_2, .int t2_3, .bool d_2, .int d_3, .bool mask_2, .ints mask_3, .bool m_2, .ints m_3, .ints b5]) = iterG N (stQ186 N SQ22 SQ2 SQ39 SQ61 SQ38 SQ25 SQ40 SQ18 b0_2 b0_3 t2_2 t2_3 d_2 d_3 mask_2 mask_3 (fun r6 => κ.ext 0 (sx0_st_v_dyad_exact_put_p0r_0.build [.bool b0_2, .ints b0_3, .bool t2_2, .int t2_3, .bool d_2, .int d_3, .ints r6]))) (m_2, m_3, b5) :=
  iter_tr (fun (v_ : Bool × List Int × List Int) => sh_st_v_dyad_exact_put_p0r_0.build [.bool b0_2, .ints b0_3, .bool t2_2, .int t2_3, .bool d_2, .int d_3, .bool mask_2, .ints mask_3, .bool v_.1, .ints v_.2.1, .ints v_.2.2]) (fun v_ K_ => by obtain ⟨m_2, m_3, b5⟩ := v_; kernel_rfl) N (m_2, m_3, b5)
theorem hk1_st_v_dyad_exact_put_p0r_0 (N : Nat) (SQ22 : TSQ22) (SQ2 : TSQ2) (SQ39 : TSQ39) (SQ61 : TSQ61) (SQ38 : TSQ38) (SQ25 : TSQ25) (SQ40 : TSQ40) (SQ18 : TSQ18) : HookFor ⟨Pg, ofList [(132, (FQ22 SQ22)), (94, (FQ2 SQ2)), (133, (FQ39 SQ39)), (134, (FQ61 SQ61)), (135, (FQ38 SQ38)), (137, (FQ25 SQ25)), (138, (FQ40 SQ40)), (136, (FQ18 SQ18))], isref, N⟩ 1 (anQ15 N SQ22 SQ2 SQ39 SQ61 SQ38 SQ25 SQ40 SQ18) (lp Pg 88 0) (sh_st_v_dyad_exact_put_p0r_0, hk_st_v_dyad_exact_put_p0r_0 N SQ22 SQ2 SQ39 SQ61 SQ38 SQ25 SQ40 SQ18) := by
  intro a κ h
  simp only at h
  unfold hk_st_v_dyad_exact_put_p0r_0 at h
  split at h
  · exact (eq_st_v_dyad_exact_put_p0r_0 _ _ _ _ _ _ _ _ _ _ _ _ _ _ _ _ _ _ _ _ _).trans h
  · cases h
theorem ho_v_dyad_exact_put_p0r_0 (N : Nat) (SQ22 : TSQ22) (SQ2 : TSQ2) (SQ39 : TSQ39) (SQ61 : TSQ61) (SQ38 : TSQ38) (SQ25 : TSQ25) (SQ40 : TSQ40) (SQ18 : TSQ18) : HookOk ⟨Pg, ofList [(132, (FQ22 SQ22)), (94, (FQ2 SQ2)), (133, (FQ39 SQ39)), (134, (FQ61 SQ61)), (135, (FQ38 SQ38)), (137, (FQ25 SQ25)), (138, (FQ40 SQ40)), (136, (FQ18 SQ18))], isref, N⟩ 1 (anQ15 N SQ22 SQ2 SQ39 SQ61 SQ38 SQ25 SQ40 SQ18) (lp Pg 88 0) :=
  hooks_ok [(sh_st_v_dyad_exact_put_p0r_0, hk_st_v_dyad_exact_put_p0r_0 N SQ22 SQ2 SQ39 SQ61 SQ38 SQ25 SQ40 SQ18)] (by kernel_rfl) ⟨hk1_st_v_dyad_exact_put_p0r_0 _ _ _ _ _ _ _ _ _, trivial⟩
theorem eqQ15 (N : Nat) (SQ22 : TSQ22) (SQ2 : TSQ2) (SQ39 : TSQ39) (SQ61 : TSQ61) (SQ38 : TSQ38) (SQ25 : TSQ25) (SQ40 : TSQ40) (SQ18 : TSQ18) (x : Int) (b : Bool) (b_1 : List Int) (c_ : V -> List Blk -> Bool) : bodyV ⟨Pg, ofList [(132, (FQ22 SQ22)), (94, (FQ2 SQ2)), (133, (FQ39 SQ39)), (134, (FQ61 SQ61)), (135, (FQ38 SQ38)), (137, (FQ25 SQ25)), (138, (FQ40 SQ40)), (136, (FQ18 SQ18))], isref, N⟩ (anQ15 N SQ22 SQ2 SQ39 SQ61 SQ38 SQ25 SQ40 SQ18) 88 (shFQ15.args [.int x, .bool b, .ints b_1]) [⟨126, 1, .cells [.bool b, .roi .u64 b_1]⟩] c_ = GQ15 N SQ22 SQ2 SQ39 SQ61 SQ38 SQ25 SQ40 SQ18 x b b_1 (fun r0 r1 r2 => c_ (.tup [.agg [.bool r0, .nil, .int .i64 r1], .int .i64 r2]) [⟨126, 1, .cells [.bool b, .roi .u64 b_1]⟩]) (fun r0 r1 r2 r5 => c_ (.tup [.agg [.bool r0, .slw 1, .int .i64 r1], .int .i64 r2]) [⟨126, 1, .cells [.bool b, .roi .u64 b_1]⟩, ⟨87, 1, .ints .u32 r5⟩]) := by kernel_rfl
theorem goodQ15 (N : Nat) (SQ22 : TSQ22) (SQ2 : TSQ2) (SQ39 : TSQ39) (SQ61 : TSQ61) (SQ38 : TSQ38) (SQ25 : TSQ25) (SQ40 : TSQ40) (SQ18 : TSQ18) (hQ22 : GoodF Pg 132 (FQ22 SQ22)) (hQ2 : GoodF Pg 94 (FQ2 SQ2)) (hQ39 : GoodF Pg 133 (FQ39 SQ39)) (hQ61 : GoodF Pg 134 (FQ61 SQ61)) (hQ38 : GoodF Pg 135 (FQ38 SQ38)) (hQ25 : GoodF Pg 137 (FQ25 SQ25)) (hQ40 : GoodF Pg 138 (FQ40 SQ40)) (hQ18 : GoodF Pg 136 (FQ18 SQ18)) : GoodF Pg 88 (FQ15 (GQ15 N SQ22 SQ2 SQ39 SQ61 SQ38 SQ25 SQ40 SQ18)) := by
  refine good_fs (cx := ⟨Pg, ofList [(132, (FQ22 SQ22)), (94, (FQ2 SQ2)), (133, (FQ39 SQ39)), (134, (FQ61 SQ61)), (135, (FQ38 SQ38)), (137, (FQ25 SQ25)), (138, (FQ40 SQ40)), (136, (FQ18 SQ18))], isref, N⟩) (ofList_cons hQ22 (ofList_cons hQ2 (ofList_cons hQ39 (ofList_cons hQ61 (ofList_cons hQ38 (ofList_cons hQ25 (ofList_cons hQ40 (ofList_cons hQ18 (ofList_nil _))))))))) shFQ15 (spQ15 (GQ15 N SQ22 SQ2 SQ39 SQ61 SQ38 SQ25 SQ40 SQ18)) (anQ15 N SQ22 SQ2 SQ39 SQ61 SQ38 SQ25 SQ40 SQ18) 1 1 (by kernel_rfl) (fun i_ hi_ => by
    match i_, hi_ with
    | 0, _ => exact ho_v_dyad_exact_put_p0r_0 _ _ _ _ _ _ _ _ _
    | (q + 1), h => omega) ?_
  intro a k h
  unfold spQ15 at h
  split at h
  · exact ⟨[_], rfl, rfl, (eqQ15 _ _ _ _ _ _ _ _ _ _ _ _ _).trans h⟩
  · cases h

def sh_st_dyad_Dot_0 : StSh := ⟨(.any :: (.rof :: (.any :: (.any :: (.ptr 0 0 :: (.any :: (.ptr 1 0 :: (sqs 19 (.rof :: (.int .i64 :: (.int .i64 :: (sqs 19 [])))))))))))), [some (84, 1, .cells [.bool, .nil, .int .i64]), some (128, 1, .cells [.ptr 2 0, .int .i64]), some (126, 1, .cells [.bool, .roi .u64])]⟩
def sx0_st_dyad_Dot_0 : StSh := ⟨(sqs 4 (.ptr 0 0 :: (.any :: (.ptr 1 0 :: (sqs 41 []))))), [some (84, 1, .cells [.bool, .nil, .int .i64]), some (128, 1, .cells [.ptr 2 0, .int .i64]), some (126, 1, .cells [.bool, .roi .u64])]⟩
def hk_st_dyad_Dot_0 (N : Nat) (SQ69 : TSQ69) (SQ146 : TSQ146) (SQ19 : TSQ19) (SQ21 : TSQ21) (SQ3 : TSQ3) (SQ15 : TSQ15) : List Atom -> K -> Bool := fun a_ κ => match a_ with
  | [.fls b_2, .fls t26_1, .int t27_1, .int t28_1, .bool t4_2, .int t4_3, .int s_1, .bool b2_1, .ints b2_2] => iterG N (st_dyad_Dot_0 N SQ69 SQ146 SQ19 SQ21 SQ3 SQ15 b_2 t26_1 t27_1 t4_2 t4_3 (fun r2 r3 r4 => κ.ext 0 (sx0_st_dyad_Dot_0.build [.bool t4_2, .int t4_3, .int r2, .bool r3, .ints r4]))) (t28_1, s_1, b2_1, b2_2)
  | _ => false
def anQ85 (N : Nat) (SQ69 : TSQ69) (SQ146 : TSQ146) (SQ19 : TSQ19) (SQ21 : TSQ21) (SQ3 : TSQ3) (SQ15 : TSQ15) : Nat -> Option Ann := fun b_ => cond (b_ == 0) (some ⟨⟨[1, 4, 6, 26, 27, 28], [], [(2, 1, some .u64)]⟩, [(0, ⟨[4, 6], [], []⟩)], some ⟨[4, 5], [], []⟩, some (mkHooks [(sh_st_dyad_Dot_0, hk_st_dyad_Dot_0 N SQ69 SQ146 SQ19 SQ21 SQ3 SQ15)])⟩) (none)
theorem eq_st_dyad_Dot_0 (N : Nat) (SQ69 : TSQ69) (SQ146 : TSQ146) (SQ19 : TSQ19) (SQ21 : TSQ21) (SQ3 : TSQ3) (SQ15 : TSQ15) (κ : K) (b_2 t26_1 : List Fl) (t27_1 t28_1 : Int) (t4_2 : Bool) (t4_3 s_1 : Int) (b2_1 : Bool) (b2_2 : List Int) : iter N (fun s k => codeV ⟨Pg, ofList [(84, (FQ69 SQ69)), (86, (FQ146 SQ146)), (87, (FQ19 SQ19)), (85, (orFs (FQ21 SQ21) (FQ3 SQ3) shFQ21)), (88, (FQ15 SQ15))], isref, N⟩ 0 (anQ85 N SQ69 SQ146 SQ19 SQ21 SQ3 SQ15) (lp Pg 44 0).2 (lp Pg 44 0).1 s (roundK Pg 0 ((anQ85 N SQ69 SQ146 SQ19 SQ21 SQ3 SQ15) (lp Pg 44 0).1) κ k)) (sh_st_dyad_Dot_0.build [.fls b_2, .fls t26_1, .int t27_1, .int t28_1, .bool t4_2, .int t4_3, .int s_1, .bool b2_1, .ints b2_2]) = iterG N (st_dyad_Dot_0 N SQ69 SQ146 SQ19 SQ21 SQ3 SQ15 b_2 t26_1 t27_1 t4_2 t4_3 (fun r2 r3 r4 => κ.ext 0 (sx0_st_dyad_Dot_0.build [.bool t4_2, .int t4_3, .int r2, .bool r3, .ints r4]))) (t28_1, s_1, b2_1, b2_2) :=
  iter_tr (fun (v_ : Int × Int × Bool × List Int) => sh_st_dyad_Dot_0.build [.fls b_2, .fls t26_1, .int t27_1, .int v_.1, .bool t4_2, .int t4_3, .int v_.2.1, .bool v_.2.2.1, .ints v_.2.2.2]) (fun v_ K_ => by obtain ⟨t28_1, s_1, b2_1, b2_2⟩ := v_; kernel_rfl) N (t28_1, s_1, b2_1, b2_2)
theorem hk1_st_dyad_Dot_0 (N : Nat) (SQ69 : TSQ69) (SQ146 : TSQ146) (SQ19 : TSQ19) (SQ21 : TSQ21) (SQ3 : TSQ3) (SQ15 : TSQ15) : HookFor ⟨Pg, ofList [(84, (FQ69 SQ69)), (86, (FQ146 SQ146)), (87, (FQ19 SQ19)), (85, (orFs (FQ21 SQ21) (FQ3 SQ3) shFQ21)), (88, (FQ15 SQ15))], isref, N⟩ 0 (anQ85 N SQ69 SQ146 SQ19 SQ21 SQ3 SQ15) (lp Pg 44 0) (sh_st_dyad_Dot_0, hk_st_dyad_Dot_0 N SQ69 SQ146 SQ19 SQ21 SQ3 SQ15) := by
  intro a κ h
  simp only at h
  unfold hk_st_dyad_Dot_0 at h
  split at h
  · exact (eq_st_dyad_Dot_0 _ _ _ _ _ _ _ _ _ _ _ _ _ _ _ _ _).trans h
  · cases h
theorem ho_dyad_Dot_0 (N : Nat) (SQ69 : TSQ69) (SQ146 : TSQ146) (SQ19 : TSQ19) (SQ21 : TSQ21) (SQ3 : TSQ3) (SQ15 : TSQ15) : HookOk ⟨Pg, ofList [(84, (FQ69 SQ69)), (86, (FQ146 SQ146)), (87, (FQ19 SQ19)), (85, (orFs (FQ21 SQ21) (FQ3 SQ3) shFQ21)), (88, (FQ15 SQ15))], isref, N⟩ 0 (anQ85 N SQ69 SQ146 SQ19 SQ21 SQ3 SQ15) (lp Pg 44 0) :=
  hooks_ok [(sh_st_dyad_Dot_0, hk_st_dyad_Dot_0 N SQ69 SQ146 SQ19 SQ21 SQ3 SQ15)] (by kernel_rfl) ⟨hk1_st_dyad_Dot_0 _ _ _ _ _ _ _, trivial⟩
theorem eqQ85 (N : Nat) (SQ69 : TSQ69) (SQ146 : TSQ146) (SQ19 : TSQ19) (SQ21 : TSQ21) (SQ3 : TSQ3) (SQ15 : TSQ15) (a b : List Fl) (c_ : V -> List Blk -> Bool) : bodyV ⟨Pg, ofList [(84, (FQ69 SQ69)), (86, (FQ146 SQ146)), (87, (FQ19 SQ19)), (85, (orFs (FQ21 SQ21) (FQ3 SQ3) shFQ21)), (88, (FQ15 SQ15))], isref, N⟩ (anQ85 N SQ69 SQ146 SQ19 SQ21 SQ3 SQ15) 44 (shFQ85.args [.fls a, .fls b]) [] c_ = GQ85 N SQ69 SQ146 SQ19 SQ21 SQ3 SQ15 a b (fun r0 r1 r2 => c_ (.tup [.agg [.bool r0, .nil, .int .i64 r1], .int .i64 r2]) []) (fun r0 r1 r2 r3 => c_ (.tup [.agg [.bool r0, .slw 0, .int .i64 r1], .int .i64 r2]) [⟨87, 1, .ints .u32 r3⟩]) := by kernel_rfl
theorem goodQ85 (N : Nat) (SQ69 : TSQ69) (SQ146 : TSQ146) (SQ19 : TSQ19) (SQ21 : TSQ21) (SQ3 : TSQ3) (SQ15 : TSQ15) (hQ69 : GoodF Pg 84 (FQ69 SQ69)) (hQ146 : GoodF Pg 86 (FQ146 SQ146)) (hQ19 : GoodF Pg 87 (FQ19 SQ19)) (hQ21 : GoodF Pg 85 (FQ21 SQ21)) (hQ3 : GoodF Pg 85 (FQ3 SQ3)) (hQ15 : GoodF Pg 88 (FQ15 SQ15)) : GoodF Pg 44 (FQ85 (GQ85 N SQ69 SQ146 SQ19 SQ21 SQ3 SQ15)) := by
  refine good_fs (cx := ⟨Pg, ofList [(84, (FQ69 SQ69)), (86, (FQ146 SQ146)), (87, (FQ19 SQ19)), (85, (orFs (FQ21 SQ21) (FQ3 SQ3) shFQ21)), (88, (FQ15 SQ15))], isref, N⟩) (ofList_cons hQ69 (ofList_cons hQ146 (ofList_cons hQ19 (ofList_cons (good_or hQ21 hQ3) (ofList_cons hQ15 (ofList_nil _)))))) shFQ85 (spQ85 (GQ85 N SQ69 SQ146 SQ19 SQ21 SQ3 SQ15)) (anQ85 N SQ69 SQ146 SQ19 SQ21 SQ3 SQ15) 1 0 (by kernel_rfl) (fun i_ hi_ => by
    match i_, hi_ with
    | 0, _ => exact ho_dyad_Dot_0 _ _ _ _ _ _ _
    | (q + 1), h => omega) ?_
  intro a k h
  unfold spQ85 at h
  split at h
  · exact ⟨[], rfl, rfl, (eqQ85 _ _ _ _ _ _ _ _ _ _).trans h⟩
  · cases h

def anQ122 (N : Nat) : Nat -> Option Ann := fun b_ => none
theorem eqQ122 (N : Nat) (d_0 : Bool) (d_1 : List Int) (d_2 : Int) (c_ : V -> List Blk -> Bool) : bodyV ⟨Pg, ofList [], isref, N⟩ (anQ122 N) 92 (shFQ122.args [.bool d_0, .ints d_1, .int d_2]) [] c_ = GQ122 N d_0 d_1 d_2 (fun r0 => c_ (.bool r0) []) := by kernel_rfl
theorem goodQ122 (N : Nat) : GoodF Pg 92 (FQ122 (GQ122 N)) := by
  refine good_fs (cx := ⟨Pg, ofList [], isref, N⟩) (ofList_nil _) shFQ122 (spQ122 (GQ122 N)) (anQ122 N) 0 0 (by kernel_rfl) (fun i_ hi_ => by omega) ?_
  intro a k h
  unfold spQ122 at h
  split at h
  · exact ⟨[], rfl, rfl, (eqQ122 _ _ _ _ _).trans h⟩
  · cases h

def anQ47 (N : Nat) (SQ103 : TSQ103) (SQ0 : TSQ0) : Nat -> Option Ann := fun b_ => none
theorem eqQ47 (N : Nat) (SQ103 : TSQ103) (SQ0 : TSQ0) (n : Int) (b : Bool) (c_ : V -> List Blk -> Bool) : bodyZ ⟨Pg, ofList [(169, (FQ103 SQ103)), (139, (FQ0 SQ0))], isref, N⟩ (anQ47 N SQ103 SQ0) 141 (shFQ47.args [.int n, .bool b]) [⟨126, 1, .cells [.bool b, .nil]⟩] c_ = GQ47 N SQ103 SQ0 n b (fun r0 r1 => c_ (.ptr 0 0) [⟨126, 1, .cells [.bool r0, .roi .u64 r1]⟩]) := by kernel_rfl
theorem goodQ47 (N : Nat) (SQ103 : TSQ103) (SQ0 : TSQ0) (hQ103 : GoodF Pg 169 (FQ103 SQ103)) (hQ0 : GoodF Pg 139 (FQ0 SQ0)) : GoodF Pg 141 (FQ47 (GQ47 N SQ103 SQ0)) := by
  refine good_fsZ (cx := ⟨Pg, ofList [(169, (FQ103 SQ103)), (139, (FQ0 SQ0))], isref, N⟩) (ofList_cons hQ103 (ofList_cons hQ0 (ofList_nil _))) shFQ47 (spQ47 (GQ47 N SQ103 SQ0)) (anQ47 N SQ103 SQ0) 0 1 (by kernel_rfl) (fun i_ hi_ => by omega) ?_
  intro a k h
  unfold spQ47 at h
  split at h
  · exact ⟨[_], rfl, rfl, (eqQ47 _ _ _ _ _ _).trans h⟩
  · cases h

def anQ46 (N : Nat) : Nat -> Option Ann := fun b_ => none
theorem eqQ46 (N : Nat) (neg : Bool) (abs_0 abs_1 : Nat) (b : Bool) (b_1 b_2 : List Int) (c_ : V -> List Blk -> Bool) : bodyZ ⟨Pg, ofList [], isref, N⟩ (anQ46 N) 139 (shFQ46.args [.bool neg, .nat abs_0, .nat abs_1, .bool b, .ints b_1, .ints b_2]) [⟨126, 1, .cells [.bool b, .roi .u64 b_1]⟩, ⟨22, 1, .ints .u64 b_2⟩] c_ = GQ46 N neg abs_0 abs_1 b b_1 b_2 (fun r0 => c_ (.ptr 0 0) [⟨126, 1, .cells [.bool r0, .sl 1 abs_0 abs_1]⟩, ⟨22, 1, .ints .u64 b_2⟩]) := by kernel_rfl
theorem goodQ46 (N : Nat) : GoodF Pg 139 (FQ46 (GQ46 N)) := by
  refine good_fsZ (cx := ⟨Pg, ofList [], isref, N⟩) (ofList_nil _) shFQ46 (spQ46 (GQ46 N)) (anQ46 N) 0 2 (by kernel_rfl) (fun i_ hi_ => by omega) ?_
  intro a k h
  unfold spQ46 at h
  split at h
  · exact ⟨[_, _], rfl, rfl, (eqQ46 _ _ _ _ _ _ _ _).trans h⟩
  · cases h

def sh_st_big_Int_Or_p0p0p1rr_0 : StSh := ⟨(.ptr 0 0 :: (.ptr 0 0 :: (.ptr 1 0 :: (sqs 4 (.slw 2 :: (sqs 14 (.int .i64 :: (.int .i64 :: (sqs 23 []))))))))), [some (126, 1, .cells [.bool, .roi .u64]), some (126, 1, .cells [.bool, .roi .u64]), some (22, 1, .ints .u64)]⟩
def sx0_st_big_Int_Or_p0p0p1rr_0 : StSh := ⟨(.ptr 0 0 :: (sqs 6 (.slw 2 :: (sqs 39 [])))), [some (126, 1, .cells [.bool, .roi .u64]), some (126, 1, .cells [.bool, .roi .u64]), some (22, 1, .ints .u64)]⟩
def hk_st_big_Int_Or_p0p0p1rr_0 (N : Nat) (SQ20 : TSQ20) (SQ1 : TSQ1) (SQ46 : TSQ46) : List Atom -> K -> Bool := fun a_ κ => match a_ with
  | [.int t22, .int t23, .bool z, .ints z_1, .bool y, .ints y_1, .ints r] => iterG N (stQ187 N SQ20 SQ1 SQ46 t22 z z_1 y y_1 (fun r4 => κ.ext 0 (sx0_st_big_Int_Or_p0p0p1rr_0.build [.bool z, .ints z_1, .bool y, .ints y_1, .ints r4]))) (t23, r)
  | _ => false
def anQ33 (N : Nat) (SQ20 : TSQ20) (SQ1 : TSQ1) (SQ46 : TSQ46) : Nat -> Option Ann := fun b_ => cond (b_ == 0) (some ⟨⟨[0, 1, 2, 7, 22, 23], [], []⟩, [(0, ⟨[0, 7], [], []⟩)], some ⟨[6], [], []⟩, some (mkHooks [(sh_st_big_Int_Or_p0p0p1rr_0, hk_st_big_Int_Or_p0p0p1rr_0 N SQ20 SQ1 SQ46)])⟩) (none)
theorem eq_st_big_Int_Or_p0p0p1rr_0 (N : Nat) (SQ20 : TSQ20) (SQ1 : TSQ1) (SQ46 : TSQ46) (κ : K) (t22 t23 : Int) (z : Bool) (z_1 : List Int) (y : Bool) (y_1 r : List Int) : iter N (fun s k => codeV ⟨Pg, ofList [(170, (FQ20 SQ20)), (167, (FQ1 SQ1)), (139, (FQ46 SQ46))], isref, N⟩ 2 (anQ33 N SQ20 SQ1 SQ46) (lp Pg 142 0).2 (lp Pg 142 0).1 s (roundK Pg 2 ((anQ33 N SQ20 SQ1 SQ46) (lp Pg 142 0).1) κ k)) (sh_st_big_Int_Or_p0p0p1rr_0.build [.int t22, .int t23, .bool z, .ints z_1, .bool y, .ints y_1, .ints r]) = iterG N (stQ187 N SQ20 SQ1 SQ46 t22 z z_1 y y_1 (fun r4 => κ.ext 0 (sx0_st_big_Int_Or_p0p0p1rr_0.build [.bool z, .ints z_1, .bool y, .ints y_1, .ints r4]))) (t23, r) :=
  iter_tr (fun (v_ : Int × List Int) => sh_st_big_Int_Or_p0p0p1rr_0.build [.int t22, .int v_.1, .bool z, .ints z_1, .bool y, .ints y_1, .ints v_.2]) (fun v_ K_ => by obtain ⟨t23, r⟩ := v_; kernel_rfl) N (t23, r)
theorem hk1_st_big_Int_Or_p0p0p1rr_0 (N : Nat) (SQ20 : TSQ20) (SQ1 : TSQ1) (SQ46 : TSQ46) : HookFor ⟨Pg, ofList [(170, (FQ20 SQ20)), (167, (FQ1 SQ1)), (139, (FQ46 SQ46))], isref, N⟩ 2 (anQ33 N SQ20 SQ1 SQ46) (lp Pg 142 0) (sh_st_big_Int_Or_p0p0p1rr_0, hk_st_big_Int_Or_p0p0p1rr_0 N SQ20 SQ1 SQ46) := by
  intro a κ h
  simp only at h
  unfold hk_st_big_Int_Or_p0p0p1rr_0 at h
  split at h
  · exact (eq_st_big_Int_Or_p0p0p1rr_0 _ _ _ _ _ _ _ _ _ _ _ _).trans h
  · cases h
theorem ho_big_Int_Or_p0p0p1rr_0 (N : Nat) (SQ20 : TSQ20) (SQ1 : TSQ1) (SQ46 : TSQ46) : HookOk ⟨Pg, ofList [(170, (FQ20 SQ20)), (167, (FQ1 SQ1)), (139, (FQ46 SQ46))], isref, N⟩ 2 (anQ33 N SQ20 SQ1 SQ46) (lp Pg 142 0) :=
  hooks_ok [(sh_st_big_Int_Or_p0p0p1rr_0, hk_st_big_Int_Or_p0p0p1rr_0 N SQ20 SQ1 SQ46)] (by kernel_rfl) ⟨hk1_st_big_Int_Or_p0p0p1rr_0 _ _ _ _, trivial⟩
theorem eqQ33 (N : Nat) (SQ20 : TSQ20) (SQ1 : TSQ1) (SQ46 : TSQ46) (b : Bool) (b_1 : List Int) (b_2 : Bool) (b_3 : List Int) (c_ : V -> List Blk -> Bool) : bodyZ ⟨Pg, ofList [(170, (FQ20 SQ20)), (167, (FQ1 SQ1)), (139, (FQ46 SQ46))], isref, N⟩ (anQ33 N SQ20 SQ1 SQ46) 142 (shFQ33.args [.bool b, .ints b_1, .bool b_2, .ints b_3]) [⟨126, 1, .cells [.bool b, .roi .u64 b_1]⟩, ⟨126, 1, .cells [.bool b_2, .roi .u64 b_3]⟩] c_ = GQ33 N SQ20 SQ1 SQ46 b b_1 b_2 b_3 (fun r0 r1 => c_ (.ptr 0 0) [⟨126, 1, .cells [.bool r0, .roi .u64 r1]⟩, ⟨126, 1, .cells [.bool b_2, .roi .u64 b_3]⟩]) := by kernel_rfl
theorem goodQ33 (N : Nat) (SQ20 : TSQ20) (SQ1 : TSQ1) (SQ46 : TSQ46) (hQ20 : GoodF Pg 170 (FQ20 SQ20)) (hQ1 : GoodF Pg 167 (FQ1 SQ1)) (hQ46 : GoodF Pg 139 (FQ46 SQ46)) : GoodF Pg 142 (FQ33 (GQ33 N SQ20 SQ1 SQ46)) := by
  refine good_fsZ (cx := ⟨Pg, ofList [(170, (FQ20 SQ20)), (167, (FQ1 SQ1)), (139, (FQ46 SQ46))], isref, N⟩) (ofList_cons hQ20 (ofList_cons hQ1 (ofList_cons hQ46 (ofList_nil _)))) shFQ33 (spQ33 (GQ33 N SQ20 SQ1 SQ46)) (anQ33 N SQ20 SQ1 SQ46) 1 2 (by kernel_rfl) (fun i_ hi_ => by
    match i_, hi_ with
    | 0, _ => exact ho_big_Int_Or_p0p0p1rr_0 _ _ _ _
    | (q + 1), h => omega) ?_
  intro a k h
  unfold spQ33 at h
  split at h
  · exact ⟨[_, _], rfl, rfl, (eqQ33 _ _ _ _ _ _ _ _ _).trans h⟩
  · cases h

def anQ48 (N : Nat) (SQ103 : TSQ103) (SQ35 : TSQ35) : Nat -> Option Ann := fun b_ => none
theorem eqQ48 (N : Nat) (SQ103 : TSQ103) (SQ35 : TSQ35) (n : Int) (b : Bool) (b_1 : List Int) (c_ : V -> List Blk -> Bool) : bodyZ ⟨Pg, ofList [(169, (FQ103 SQ103)), (139, (FQ35 SQ35))], isref, N⟩ (anQ48 N SQ103 SQ35) 141 (shFQ48.args [.int n, .bool b, .ints b_1]) [⟨126, 1, .cells [.bool b, .roi .u64 b_1]⟩] c_ = GQ48 N SQ103 SQ35 n b b_1 (fun r0 r1 => c_ (.ptr 0 0) [⟨126, 1, .cells [.bool r0, .roi .u64 r1]⟩]) := by kernel_rfl
theorem goodQ48 (N : Nat) (SQ103 : TSQ103) (SQ35 : TSQ35) (hQ103 : GoodF Pg 169 (FQ103 SQ103)) (hQ35 : GoodF Pg 139 (FQ35 SQ35)) : GoodF Pg 141 (FQ48 (GQ48 N SQ103 SQ35)) := by
  refine good_fsZ (cx := ⟨Pg, ofList [(169, (FQ103 SQ103)), (139, (FQ35 SQ35))], isref, N⟩) (ofList_cons hQ103 (ofList_cons hQ35 (ofList_nil _))) shFQ48 (spQ48 (GQ48 N SQ103 SQ35)) (anQ48 N SQ103 SQ35) 0 1 (by kernel_rfl) (fun i_ hi_ => by omega) ?_
  intro a k h
  unfold spQ48 at h
  split at h
  · exact ⟨[_], rfl, rfl, (eqQ48 _ _ _ _ _ _ _).trans h⟩
  · cases h

def sh_st_dyad_take_0 : StSh := ⟨(.any :: (.ptr 0 0 :: (.ptr 1 0 :: (.ptr 2 0 :: (.int .i64 :: (sqs 31 [])))))), [some (84, 1, .cells [.bool, .roi .u32, .int .i64]), some (128, 1, .cells [.val, .int .i64]), some (126, 1, .cells [.bool, .roi .u64])]⟩
def sx0_st_dyad_take_0 : StSh := ⟨(.any :: (.ptr 0 0 :: (.ptr 1 0 :: (.ptr 2 0 :: (sqs 32 []))))), [some (84, 1, .cells [.bool, .roi .u32, .int .i64]), some (128, 1, .cells [.val, .int .i64]), some (126, 1, .cells [.bool, .roi .u64])]⟩
def hk_st_dyad_take_0 (N : Nat) (SQ47 : TSQ47) (SQ61 : TSQ61) (SQ33 : TSQ33) (SQ48 : TSQ48) (SQ27 : TSQ27) : List Atom -> K -> Bool := fun a_ κ => match a_ with
  | [.int i_1, .bool d_3, .ints d_4, .int d_5, .val t2_2, .int t2_3, .bool n_1, .ints n_2] => iterG N (st_dyad_take_0 N SQ47 SQ61 SQ33 SQ48 SQ27 d_3 d_4 d_5 t2_2 t2_3 (fun r5 r6 => κ.ext 0 (sx0_st_dyad_take_0.build [.bool d_3, .ints d_4, .int d_5, .val t2_2, .int t2_3, .bool r5, .ints r6]))) (i_1, n_1, n_2)
  | _ => false
def anQ107 (N : Nat) (SQ47 : TSQ47) (SQ61 : TSQ61) (SQ33 : TSQ33) (SQ48 : TSQ48) (SQ27 : TSQ27) : Nat -> Option Ann := fun b_ => cond (b_ == 0) (some ⟨⟨[1, 2, 3, 4], [], [(2, 1, some .u64)]⟩, [(0, ⟨[1, 2, 3], [], []⟩)], some ⟨[2], [], []⟩, some (mkHooks [(sh_st_dyad_take_0, hk_st_dyad_take_0 N SQ47 SQ61 SQ33 SQ48 SQ27)])⟩) (none)
theorem eq_st_dyad_take_0 (N : Nat) (SQ47 : TSQ47) (SQ61 : TSQ61) (SQ33 : TSQ33) (SQ48 : TSQ48) (SQ27 : TSQ27) (κ : K) (i_1 : Int) (d_3 : Bool) (d_4 : List Int) (d_5 : Int) (t2_2 : Value) (t2_3 : Int) (n_1 : Bool) (n_2 : List Int) : iter N (fun s k => codeV ⟨Pg, ofList [(141, (orFs (FQ47 SQ47) (FQ48 SQ48) shFQ47)), (134, (FQ61 SQ61)), (142, (FQ33 SQ33)), (91, (FQ27 SQ27))], isref, N⟩ 0 (anQ107 N SQ47 SQ61 SQ33 SQ48 SQ27) (lp Pg 93 0).2 (lp Pg 93 0).1 s (roundK Pg 0 ((anQ107 N SQ47 SQ61 SQ33 SQ48 SQ27) (lp Pg 93 0).1) κ k)) (sh_st_dyad_take_0.build [.int i_1, .bool d_3, .ints d_4, .int d_5, .val t2_2, .int t2_3, .bool n_1, .ints n_2]) = iterG N (st_dyad_take_0 N SQ47 SQ61 SQ33 SQ48 SQ27 d_3 d_4 d_5 t2_2 t2_3 (fun r5 r6 => κ.ext 0 (sx0_st_dyad_take_0.build [.bool d_3, .ints d_4, .int d_5, .val t2_2, .int t2_3, .bool r5, .ints r6]))) (i_1, n_1, n_2) :=
  iter_tr (fun (v_ : Int × Bool × List Int) => sh_st_dyad_take_0.build [.int v_.1, .bool d_3, .ints d_4, .int d_5, .val t2_2, .int t2_3, .bool v_.2.1, .ints v_.2.2]) (fun v_ K_ => by obtain ⟨i_1, n_1, n_2⟩ := v_; kernel_rfl) N (i_1, n_1, n_2)
theorem hk1_st_dyad_take_0 (N : Nat) (SQ47 : TSQ47) (SQ61 : TSQ61) (SQ33 : TSQ33) (SQ48 : TSQ48) (SQ27 : TSQ27) : HookFor ⟨Pg, ofList [(141, (orFs (FQ47 SQ47) (FQ48 SQ48) shFQ47)), (134, (FQ61 SQ61)), (142, (FQ33 SQ33)), (91, (FQ27 SQ27))], isref, N⟩ 0 (anQ107 N SQ47 SQ61 SQ33 SQ48 SQ27) (lp Pg 93 0) (sh_st_dyad_take_0, hk_st_dyad_take_0 N SQ47 SQ61 SQ33 SQ48 SQ27) := by
  intro a κ h
  simp only at h
  unfold hk_st_dyad_take_0 at h
  split at h
  · exact (eq_st_dyad_take_0 _ _ _ _ _ _ _ _ _ _ _ _ _ _ _).trans h
  · cases h
theorem ho_dyad_take_0 (N : Nat) (SQ47 : TSQ47) (SQ61 : TSQ61) (SQ33 : TSQ33) (SQ48 : TSQ48) (SQ27 : TSQ27) : HookOk ⟨Pg, ofList [(141, (orFs (FQ47 SQ47) (FQ48 SQ48) shFQ47)), (134, (FQ61 SQ61)), (142, (FQ33 SQ33)), (91, (FQ27 SQ27))], isref, N⟩ 0 (anQ107 N SQ47 SQ61 SQ33 SQ48 SQ27) (lp Pg 93 0) :=
  hooks_ok [(sh_st_dyad_take_0, hk_st_dyad_take_0 N SQ47 SQ61 SQ33 SQ48 SQ27)] (by kernel_rfl) ⟨hk1_st_dyad_take_0 _ _ _ _ _ _, trivial⟩
theorem eqQ107 (N : Nat) (SQ47 : TSQ47) (SQ61 : TSQ61) (SQ33 : TSQ33) (SQ48 : TSQ48) (SQ27 : TSQ27) (d_0 : Bool) (d_1 : List Int) (d_2 : Int) (c_ : V -> List Blk -> Bool) : bodyV ⟨Pg, ofList [(141, (orFs (FQ47 SQ47) (FQ48 SQ48) shFQ47)), (134, (FQ61 SQ61)), (142, (FQ33 SQ33)), (91, (FQ27 SQ27))], isref, N⟩ (anQ107 N SQ47 SQ61 SQ33 SQ48 SQ27) 93 (shFQ107.args [.bool d_0, .ints d_1, .int d_2]) [] c_ = GQ107 N SQ47 SQ61 SQ33 SQ48 SQ27 d_0 d_1 d_2 (fun r1 r2 => c_ (.agg [.ptr 0 0, .int .i64 d_2]) [⟨126, 1, .cells [.bool r1, .roi .u64 r2]⟩]) := by kernel_rfl
theorem goodQ107 (N : Nat) (SQ47 : TSQ47) (SQ61 : TSQ61) (SQ33 : TSQ33) (SQ48 : TSQ48) (SQ27 : TSQ27) (hQ47 : GoodF Pg 141 (FQ47 SQ47)) (hQ61 : GoodF Pg 134 (FQ61 SQ61)) (hQ33 : GoodF Pg 142 (FQ33 SQ33)) (hQ48 : GoodF Pg 141 (FQ48 SQ48)) (hQ27 : GoodF Pg 91 (FQ27 SQ27)) : GoodF Pg 93 (FQ107 (GQ107 N SQ47 SQ61 SQ33 SQ48 SQ27)) := by
  refine good_fs (cx := ⟨Pg, ofList [(141, (orFs (FQ47 SQ47) (FQ48 SQ48) shFQ47)), (134, (FQ61 SQ61)), (142, (FQ33 SQ33)), (91, (FQ27 SQ27))], isref, N⟩) (ofList_cons (good_or hQ47 hQ48) (ofList_cons hQ61 (ofList_cons hQ33 (ofList_cons hQ27 (ofList_nil _))))) shFQ107 (spQ107 (GQ107 N SQ47 SQ61 SQ33 SQ48 SQ27)) (anQ107 N SQ47 SQ61 SQ33 SQ48 SQ27) 1 0 (by kernel_rfl) (fun i_ hi_ => by
    match i_, hi_ with
    | 0, _ => exact ho_dyad_take_0 _ _ _ _ _ _
    | (q + 1), h => omega) ?_
  intro a k h
  unfold spQ107 at h
  split at h
  · exact ⟨[], rfl, rfl, (eqQ107 _ _ _ _ _ _ _ _ _ _).trans h⟩
  · cases h

def anQ44 (N : Nat) (SQ77 : TSQ77) (SQ0 : TSQ0) : Nat -> Option Ann := fun b_ => none
theorem eqQ44 (N : Nat) (SQ77 : TSQ77) (SQ0 : TSQ0) (b b_1 : Bool) (b_2 : List Int) (c_ : V -> List Blk -> Bool) : bodyZ ⟨Pg, ofList [(140, (FQ77 SQ77)), (139, (FQ0 SQ0))], isref, N⟩ (anQ44 N SQ77 SQ0) 91 (shFQ44.args [.bool b, .bool b_1, .ints b_2]) [⟨126, 1, .cells [.bool b, .nil]⟩, ⟨126, 1, .cells [.bool b_1, .roi .u64 b_2]⟩] c_ = GQ44 N SQ77 SQ0 b b_1 b_2 (fun r0 r1 => c_ (.ptr 0 0) [⟨126, 1, .cells [.bool r0, .roi .u64 r1]⟩, ⟨126, 1, .cells [.bool b_1, .roi .u64 b_2]⟩]) := by kernel_rfl
theorem goodQ44 (N : Nat) (SQ77 : TSQ77) (SQ0 : TSQ0) (hQ77 : GoodF Pg 140 (FQ77 SQ77)) (hQ0 : GoodF Pg 139 (FQ0 SQ0)) : GoodF Pg 91 (FQ44 (GQ44 N SQ77 SQ0)) := by
  refine good_fsZ (cx := ⟨Pg, ofList [(140, (FQ77 SQ77)), (139, (FQ0 SQ0))], isref, N⟩) (ofList_cons hQ77 (ofList_cons hQ0 (ofList_nil _))) shFQ44 (spQ44 (GQ44 N SQ77 SQ0)) (anQ44 N SQ77 SQ0) 0 2 (by kernel_rfl) (fun i_ hi_ => by omega) ?_
  intro a k h
  unfold spQ44 at h
  split at h
  · exact ⟨[_, _], rfl, rfl, (eqQ44 _ _ _ _ _ _ _).trans h⟩
  · cases h

def anQ70 (N : Nat) (SQ44 : TSQ44) (SQ3 : TSQ3) : Nat -> Option Ann := fun b_ => none
theorem eqQ70 (N : Nat) (SQ44 : TSQ44) (SQ3 : TSQ3) (x y : Int) (b : Bool) (b_1 : List Int) (b_2 : Bool) (b_3 : List Int) (c_ : V -> List Blk -> Bool) : bodyV ⟨Pg, ofList [(91, (FQ44 SQ44)), (85, (FQ3 SQ3))], isref, N⟩ (anQ70 N SQ44 SQ3) 90 (shFQ70.args [.int x, .int y, .bool b, .ints b_1, .bool b_2, .ints b_3]) [⟨126, 1, .cells [.bool b, .roi .u64 b_1]⟩, ⟨126, 1, .cells [.bool b_2, .roi .u64 b_3]⟩] c_ = GQ70 N SQ44 SQ3 x y b b_1 b_2 b_3 (fun r0 r5 r6 => c_ (.agg [.ptr 2 0, .int .i64 r0]) [⟨126, 1, .cells [.bool b, .roi .u64 b_1]⟩, ⟨126, 1, .cells [.bool b_2, .roi .u64 b_3]⟩, ⟨126, 1, .cells [.bool r5, .roi .u64 r6]⟩]) (c_ (.agg [.ptr 0 0, .int .i64 x]) [⟨126, 1, .cells [.bool b, .roi .u64 b_1]⟩, ⟨126, 1, .cells [.bool b_2, .roi .u64 b_3]⟩]) := by kernel_rfl
theorem goodQ70 (N : Nat) (SQ44 : TSQ44) (SQ3 : TSQ3) (hQ44 : GoodF Pg 91 (FQ44 SQ44)) (hQ3 : GoodF Pg 85 (FQ3 SQ3)) : GoodF Pg 90 (FQ70 (GQ70 N SQ44 SQ3)) := by
  refine good_fs (cx := ⟨Pg, ofList [(91, (FQ44 SQ44)), (85, (FQ3 SQ3))], isref, N⟩) (ofList_cons hQ44 (ofList_cons hQ3 (ofList_nil _))) shFQ70 (spQ70 (GQ70 N SQ44 SQ3)) (anQ70 N SQ44 SQ3) 0 2 (by kernel_rfl) (fun i_ hi_ => by omega) ?_
  intro a k h
  unfold spQ70 at h
  split at h
  · exact ⟨[_, _], rfl, rfl, (eqQ70 _ _ _ _ _ _ _ _ _ _).trans h⟩
  · cases h

def anQ117 (N : Nat) (SQ122 : TSQ122) (SQ107 : TSQ107) (SQ70 : TSQ70) (SQ15 : TSQ15) : Nat -> Option Ann := fun b_ => none
theorem eqQ117 (N : Nat) (SQ122 : TSQ122) (SQ107 : TSQ107) (SQ70 : TSQ70) (SQ15 : TSQ15) (a_0 : Bool) (a_1 : List Int) (a_2 : Int) (b_0 : Bool) (b_1 : List Int) (b_2 : Int) (c_ : V -> List Blk -> Bool) : bodyV ⟨Pg, ofList [(92, (FQ122 SQ122)), (93, (FQ107 SQ107)), (90, (FQ70 SQ70)), (88, (FQ15 SQ15))], isref, N⟩ (anQ117 N SQ122 SQ107 SQ70 SQ15) 89 (shFQ117.args [.bool a_0, .ints a_1, .int a_2, .bool b_0, .ints b_1, .int b_2]) [] c_ = GQ117 N SQ122 SQ107 SQ70 SQ15 a_0 a_1 a_2 b_0 b_1 b_2 (fun r0 r1 r2 => c_ (.tup [.agg [.bool r0, .nil, .int .i64 r1], .int .i64 r2]) []) (fun r0 r1 r2 r3 => c_ (.tup [.agg [.bool r0, .slw 0, .int .i64 r1], .int .i64 r2]) [⟨87, 1, .ints .u32 r3⟩]) := by kernel_rfl
theorem goodQ117 (N : Nat) (SQ122 : TSQ122) (SQ107 : TSQ107) (SQ70 : TSQ70) (SQ15 : TSQ15) (hQ122 : GoodF Pg 92 (FQ122 SQ122)) (hQ107 : GoodF Pg 93 (FQ107 SQ107)) (hQ70 : GoodF Pg 90 (FQ70 SQ70)) (hQ15 : GoodF Pg 88 (FQ15 SQ15)) : GoodF Pg 89 (FQ117 (GQ117 N SQ122 SQ107 SQ70 SQ15)) := by
  refine good_fs (cx := ⟨Pg, ofList [(92, (FQ122 SQ122)), (93, (FQ107 SQ107)), (90, (FQ70 SQ70)), (88, (FQ15 SQ15))], isref, N⟩) (ofList_cons hQ122 (ofList_cons hQ107 (ofList_cons hQ70 (ofList_cons hQ15 (ofList_nil _))))) shFQ117 (spQ117 (GQ117 N SQ122 SQ107 SQ70 SQ15)) (anQ117 N SQ122 SQ107 SQ70 SQ15) 0 0 (by kernel_rfl) (fun i_ hi_ => by omega) ?_
  intro a k h
  unfold spQ117 at h
  split at h
  · exact ⟨[], rfl, rfl, (eqQ117 _ _ _ _ _ _ _ _ _ _ _ _).trans h⟩
  · cases h

def anQ86 (N : Nat) (SQ117 : TSQ117) : Nat -> Option Ann := fun b_ => none
theorem eqQ86 (N : Nat) (SQ117 : TSQ117) (a_0 : Bool) (a_1 : List Int) (a_2 : Int) (b_0 : Bool) (b_1 : List Int) (b_2 : Int) (c_ : V -> List Blk -> Bool) : bodyV ⟨Pg, ofList [(89, (FQ117 SQ117))], isref, N⟩ (anQ86 N SQ117) 45 (shFQ86.args [.bool a_0, .ints a_1, .int a_2, .bool b_0, .ints b_1, .int b_2]) [] c_ = GQ86 N SQ117 a_0 a_1 a_2 b_0 b_1 b_2 (fun r0 r1 r2 => c_ (.tup [.agg [.bool r0, .nil, .int .i64 r1], .int .i64 r2]) []) (fun r0 r1 r2 r3 => c_ (.tup [.agg [.bool r0, .slw 0, .int .i64 r1], .int .i64 r2]) [⟨87, 1, .ints .u32 r3⟩]) := by kernel_rfl
theorem goodQ86 (N : Nat) (SQ117 : TSQ117) (hQ117 : GoodF Pg 89 (FQ117 SQ117)) : GoodF Pg 45 (FQ86 (GQ86 N SQ117)) := by
  refine good_fs (cx := ⟨Pg, ofList [(89, (FQ117 SQ117))], isref, N⟩) (ofList_cons hQ117 (ofList_nil _)) shFQ86 (spQ86 (GQ86 N SQ117)) (anQ86 N SQ117) 0 0 (by kernel_rfl) (fun i_ hi_ => by omega) ?_
  intro a k h
  unfold spQ86 at h
  split at h
  · exact ⟨[], rfl, rfl, (eqQ86 _ _ _ _ _ _ _ _ _).trans h⟩
  · cases h

def anQ41 (N : Nat) (SQ122 : TSQ122) (SQ107 : TSQ107) (SQ44 : TSQ44) (SQ3 : TSQ3) (SQ2 : TSQ2) : Nat -> Option Ann := fun b_ => none
theorem eqQ41 (N : Nat) (SQ122 : TSQ122) (SQ107 : TSQ107) (SQ44 : TSQ44) (SQ3 : TSQ3) (SQ2 : TSQ2) (a_0 : Bool) (a_1 : List Int) (a_2 : Int) (b_0 : Bool) (b_1 : List Int) (b_2 : Int) (c_ : V -> List Blk -> Bool) : bodyV ⟨Pg, ofList [(92, (FQ122 SQ122)), (93, (FQ107 SQ107)), (91, (FQ44 SQ44)), (85, (FQ3 SQ3)), (94, (FQ2 SQ2))], isref, N⟩ (anQ41 N SQ122 SQ107 SQ44 SQ3 SQ2) 46 (shFQ41.args [.bool a_0, .ints a_1, .int a_2, .bool b_0, .ints b_1, .int b_2]) [] c_ = GQ41 N SQ122 SQ107 SQ44 SQ3 SQ2 a_0 a_1 a_2 b_0 b_1 b_2 (fun r0 r1 => c_ (.tup [.int .i64 r0, .int .i64 r1]) []) := by kernel_rfl
theorem goodQ41 (N : Nat) (SQ122 : TSQ122) (SQ107 : TSQ107) (SQ44 : TSQ44) (SQ3 : TSQ3) (SQ2 : TSQ2) (hQ122 : GoodF Pg 92 (FQ122 SQ122)) (hQ107 : GoodF Pg 93 (FQ107 SQ107)) (hQ44 : GoodF Pg 91 (FQ44 SQ44)) (hQ3 : GoodF Pg 85 (FQ3 SQ3)) (hQ2 : GoodF Pg 94 (FQ2 SQ2)) : GoodF Pg 46 (FQ41 (GQ41 N SQ122 SQ107 SQ44 SQ3 SQ2)) := by
  refine good_fs (cx := ⟨Pg, ofList [(92, (FQ122 SQ122)), (93, (FQ107 SQ107)), (91, (FQ44 SQ44)), (85, (FQ3 SQ3)), (94, (FQ2 SQ2))], isref, N⟩) (ofList_cons hQ122 (ofList_cons hQ107 (ofList_cons hQ44 (ofList_cons hQ3 (ofList_cons hQ2 (ofList_nil _)))))) shFQ41 (spQ41 (GQ41 N SQ122 SQ107 SQ44 SQ3 SQ2)) (anQ41 N SQ122 SQ107 SQ44 SQ3 SQ2) 0 0 (by kernel_rfl) (fun i_ hi_ => by omega) ?_
  intro a k h
  unfold spQ41 at h
  split at h
  · exact ⟨[], rfl, rfl, (eqQ41 _ _ _ _ _ _ _ _ _ _ _ _ _).trans h⟩
  · cases h

def anQ92 (N : Nat) (SQ17 : TSQ17) (SQ26 : TSQ26) (SQ85 : TSQ85) (SQ86 : TSQ86) (SQ41 : TSQ41) : Nat -> Option Ann := fun b_ => none
def lsQ200 (d_ : List V) (u_ : List (Option Blk)) (q_0 q_1 q_2 q_3 : Fl) (b7 : List Int) (off_6 : Bool) (off_7 : Int) : St := ⟨(dqs d_ 0 7 (.ptr 8 0 :: (dqs d_ 7 39 []))), [(u_.getD 0 none), (u_.getD 1 none), (u_.getD 2 none), (u_.getD 3 none), (u_.getD 4 none), (u_.getD 5 none), (u_.getD 6 none), some ⟨87, 1, .ints .u32 b7⟩, some ⟨84, 1, .cells [.bool off_6, .slw 7, .int .i64 off_7]⟩]⟩
def lsQ199 (d_ : List V) (u_ : List (Option Blk)) (q_0 q_1 q_2 q_3 : Fl) (off_4 : Bool) (off_5 : Int) : St := ⟨(dqs d_ 0 7 (.ptr 7 0 :: (dqs d_ 7 39 []))), [(u_.getD 0 none), (u_.getD 1 none), (u_.getD 2 none), (u_.getD 3 none), (u_.getD 4 none), (u_.getD 5 none), (u_.getD 6 none), some ⟨84, 1, .cells [.bool off_4, .nil, .int .i64 off_5]⟩]⟩
def lsQ190 (d_ : List V) (u_ : List (Option Blk)) (q_0 q_1 q_2 q_3 : Fl) (b3 : List Int) (n_2 : Bool) (n_3 : Int) : St := ⟨(dqs d_ 0 4 (.ptr 4 0 :: (dqs d_ 4 42 []))), [(u_.getD 0 none), (u_.getD 1 none), (u_.getD 2 none), some ⟨87, 1, .ints .u32 b3⟩, some ⟨84, 1, .cells [.bool n_2, .slw 3, .int .i64 n_3]⟩]⟩
def lsQ198 (d_ : List V) (u_ : List (Option Blk)) (q_0 q_1 q_2 q_3 : Fl) (b6 : List Int) (off_2 : Bool) (off_3 : Int) : St := ⟨(dqs d_ 0 7 (.ptr 7 0 :: (dqs d_ 7 39 []))), [(u_.getD 0 none), (u_.getD 1 none), (u_.getD 2 none), (u_.getD 3 none), (u_.getD 4 none), (u_.getD 5 none), some ⟨87, 1, .ints .u32 b6⟩, some ⟨84, 1, .cells [.bool off_2, .slw 6, .int .i64 off_3]⟩]⟩
def lsQ197 (d_ : List V) (u_ : List (Option Blk)) (q_0 q_1 q_2 q_3 : Fl) (off : Bool) (off_1 : Int) : St := ⟨(dqs d_ 0 7 (.ptr 6 0 :: (dqs d_ 7 39 []))), [(u_.getD 0 none), (u_.getD 1 none), (u_.getD 2 none), (u_.getD 3 none), (u_.getD 4 none), (u_.getD 5 none), some ⟨84, 1, .cells [.bool off, .nil, .int .i64 off_1]⟩]⟩
def lsQ189 (d_ : List V) (u_ : List (Option Blk)) (q_0 q_1 q_2 q_3 : Fl) (n : Bool) (n_1 : Int) : St := ⟨(dqs d_ 0 4 (.ptr 3 0 :: (dqs d_ 4 42 []))), [(u_.getD 0 none), (u_.getD 1 none), (u_.getD 2 none), some ⟨84, 1, .cells [.bool n, .nil, .int .i64 n_1]⟩]⟩
theorem jnQ200 (N : Nat) (SQ17 : TSQ17) (SQ26 : TSQ26) (SQ85 : TSQ85) (SQ86 : TSQ86) (SQ41 : TSQ41) (d_ : List V) (u_ : List (Option Blk)) (q_0 q_1 q_2 q_3 : Fl) (b7 : List Int) (off_6 : Bool) (off_7 : Int) (c_ : V -> List Blk -> Bool) : codesV ⟨Pg, ofList [(42, (FQ17 SQ17)), (43, (FQ26 SQ26)), (44, (FQ85 SQ85)), (45, (FQ86 SQ86)), (46, (FQ41 SQ41))], isref, N⟩ 0 (anQ92 N SQ17 SQ26 SQ85 SQ86 SQ41) ((cds Pg 11).drop 11) 0 (lsQ200 d_ u_ q_0 q_1 q_2 q_3 b7 off_6 off_7) (finV Pg 11 0 c_) = JQ200 N SQ17 SQ26 SQ85 SQ86 SQ41 q_0 q_1 q_2 q_3 b7 off_6 off_7 (fun r0 => c_ (.bool r0) []) := by kernel_rfl
theorem jnQ199 (N : Nat) (SQ17 : TSQ17) (SQ26 : TSQ26) (SQ85 : TSQ85) (SQ86 : TSQ86) (SQ41 : TSQ41) (d_ : List V) (u_ : List (Option Blk)) (q_0 q_1 q_2 q_3 : Fl) (off_4 : Bool) (off_5 : Int) (c_ : V -> List Blk -> Bool) : codesV ⟨Pg, ofList [(42, (FQ17 SQ17)), (43, (FQ26 SQ26)), (44, (FQ85 SQ85)), (45, (FQ86 SQ86)), (46, (FQ41 SQ41))], isref, N⟩ 0 (anQ92 N SQ17 SQ26 SQ85 SQ86 SQ41) ((cds Pg 11).drop 11) 0 (lsQ199 d_ u_ q_0 q_1 q_2 q_3 off_4 off_5) (finV Pg 11 0 c_) = JQ199 N SQ17 SQ26 SQ85 SQ86 SQ41 q_0 q_1 q_2 q_3 off_4 off_5 (fun r0 => c_ (.bool r0) []) := by kernel_rfl
theorem hdQ190 (N : Nat) (SQ17 : TSQ17) (SQ26 : TSQ26) (SQ85 : TSQ85) (SQ86 : TSQ86) (SQ41 : TSQ41) (d_ : List V) (u_ : List (Option Blk)) (q_0 q_1 q_2 q_3 : Fl) (b3 : List Int) (n_2 : Bool) (n_3 : Int) (c_ : V -> List Blk -> Bool) (κn_ : St -> Bool) : codesV ⟨Pg, ofList [(42, (FQ17 SQ17)), (43, (FQ26 SQ26)), (44, (FQ85 SQ85)), (45, (FQ86 SQ86)), (46, (FQ41 SQ41))], isref, N⟩ 0 (anQ92 N SQ17 SQ26 SQ85 SQ86 SQ41) (sg Pg 11 7 4) 0 (lsQ190 d_ u_ q_0 q_1 q_2 q_3 b3 n_2 n_3) { (finV Pg 11 0 c_) with nrm := κn_ } = (SQ86 n_2 b3 n_3 false [1] 0 (fun cr_5 nr_12 nr_13 => (cond (nr_13 != 0) (c_ (.bool false) []) (κn_ (lsQ199 (dqs d_ 0 4 (.ptr 4 0 :: (.int .i64 nr_13 :: (.ptr 6 0 :: (dqs d_ 7 15 (.slw 5 :: (.agg [.bool false, .slw 5, .int .i64 0] :: (.tup [.agg [.bool cr_5, .nil, .int .i64 nr_12], .int .i64 nr_13] :: (.agg [.bool n_2, .slw 3, .int .i64 n_3] :: (.agg [.bool false, .slw 5, .int .i64 0] :: (.tup [.agg [.bool cr_5, .nil, .int .i64 nr_12], .int .i64 nr_13] :: (.agg [.bool cr_5, .nil, .int .i64 nr_12] :: (.int .i64 nr_13 :: (.int .i64 nr_13 :: (.bool false :: (dqs d_ 32 14 [])))))))))))))))) [(u_.getD 0 none), (u_.getD 1 none), (u_.getD 2 none), some ⟨87, 1, .ints .u32 b3⟩, some ⟨84, 1, .cells [.bool n_2, .slw 3, .int .i64 n_3]⟩, some ⟨87, 1, .ints .u32 [1]⟩, some ⟨84, 1, .cells [.bool false, .slw 5, .int .i64 0]⟩] q_0 q_1 q_2 q_3 cr_5 nr_12)))) (fun cr_6 nr_14 nr_15 nsr_2 => (cond (nr_15 != 0) (c_ (.bool false) []) (κn_ (lsQ200 (dqs d_ 0 4 (.ptr 4 0 :: (.int .i64 nr_15 :: (.ptr 6 0 :: (dqs d_ 7 15 (.slw 5 :: (.agg [.bool false, .slw 5, .int .i64 0] :: (.tup [.agg [.bool cr_6, .slw 7, .int .i64 nr_14], .int .i64 nr_15] :: (.agg [.bool n_2, .slw 3, .int .i64 n_3] :: (.agg [.bool false, .slw 5, .int .i64 0] :: (.tup [.agg [.bool cr_6, .slw 7, .int .i64 nr_14], .int .i64 nr_15] :: (.agg [.bool cr_6, .slw 7, .int .i64 nr_14] :: (.int .i64 nr_15 :: (.int .i64 nr_15 :: (.bool false :: (dqs d_ 32 14 [])))))))))))))))) [(u_.getD 0 none), (u_.getD 1 none), (u_.getD 2 none), some ⟨87, 1, .ints .u32 b3⟩, some ⟨84, 1, .cells [.bool n_2, .slw 3, .int .i64 n_3]⟩, some ⟨87, 1, .ints .u32 [1]⟩, some ⟨84, 1, .cells [.bool false, .slw 5, .int .i64 0]⟩] q_0 q_1 q_2 q_3 nsr_2 cr_6 nr_14))))) := by kernel_rfl
theorem jnQ190 (N : Nat) (SQ17 : TSQ17) (SQ26 : TSQ26) (SQ85 : TSQ85) (SQ86 : TSQ86) (SQ41 : TSQ41) (d_ : List V) (u_ : List (Option Blk)) (q_0 q_1 q_2 q_3 : Fl) (b3 : List Int) (n_2 : Bool) (n_3 : Int) (c_ : V -> List Blk -> Bool) : codesV ⟨Pg, ofList [(42, (FQ17 SQ17)), (43, (FQ26 SQ26)), (44, (FQ85 SQ85)), (45, (FQ86 SQ86)), (46, (FQ41 SQ41))], isref, N⟩ 0 (anQ92 N SQ17 SQ26 SQ85 SQ86 SQ41) ((cds Pg 11).drop 7) 0 (lsQ190 d_ u_ q_0 q_1 q_2 q_3 b3 n_2 n_3) (finV Pg 11 0 c_) = JQ190 N SQ17 SQ26 SQ85 SQ86 SQ41 q_0 q_1 q_2 q_3 b3 n_2 n_3 (fun r0 => c_ (.bool r0) []) := by
  rw [codesV_cut 7 4 11 rfl]
  refine (hdQ190 N SQ17 SQ26 SQ85 SQ86 SQ41 d_ u_ q_0 q_1 q_2 q_3 b3 n_2 n_3 c_ _).trans ?_
  simp only [jnQ199, jnQ200]
  kernel_rfl
theorem jnQ198 (N : Nat) (SQ17 : TSQ17) (SQ26 : TSQ26) (SQ85 : TSQ85) (SQ86 : TSQ86) (SQ41 : TSQ41) (d_ : List V) (u_ : List (Option Blk)) (q_0 q_1 q_2 q_3 : Fl) (b6 : List Int) (off_2 : Bool) (off_3 : Int) (c_ : V -> List Blk -> Bool) : codesV ⟨Pg, ofList [(42, (FQ17 SQ17)), (43, (FQ26 SQ26)), (44, (FQ85 SQ85)), (45, (FQ86 SQ86)), (46, (FQ41 SQ41))], isref, N⟩ 0 (anQ92 N SQ17 SQ26 SQ85 SQ86 SQ41) ((cds Pg 11).drop 11) 0 (lsQ198 d_ u_ q_0 q_1 q_2 q_3 b6 off_2 off_3) (finV Pg 11 0 c_) = JQ198 N SQ17 SQ26 SQ85 SQ86 SQ41 q_0 q_1 q_2 q_3 b6 off_2 off_3 (fun r0 => c_ (.bool r0) []) := by kernel_rfl
theorem jnQ197 (N : Nat) (SQ17 : TSQ17) (SQ26 : TSQ26) (SQ85 : TSQ85) (SQ86 : TSQ86) (SQ41 : TSQ41) (d_ : List V) (u_ : List (Option Blk)) (q_0 q_1 q_2 q_3 : Fl) (off : Bool) (off_1 : Int) (c_ : V -> List Blk -> Bool) : codesV ⟨Pg, ofList [(42, (FQ17 SQ17)), (43, (FQ26 SQ26)), (44, (FQ85 SQ85)), (45, (FQ86 SQ86)), (46, (FQ41 SQ41))], isref, N⟩ 0 (anQ92 N SQ17 SQ26 SQ85 SQ86 SQ41) ((cds Pg 11).drop 11) 0 (lsQ197 d_ u_ q_0 q_1 q_2 q_3 off off_1) (finV Pg 11 0 c_) = JQ197 N SQ17 SQ26 SQ85 SQ86 SQ41 q_0 q_1 q_2 q_3 off off_1 (fun r0 => c_ (.bool r0) []) := by kernel_rfl
theorem hdQ189 (N : Nat) (SQ17 : TSQ17) (SQ26 : TSQ26) (SQ85 : TSQ85) (SQ86 : TSQ86) (SQ41 : TSQ41) (d_ : List V) (u_ : List (Option Blk)) (q_0 q_1 q_2 q_3 : Fl) (n : Bool) (n_1 : Int) (c_ : V -> List Blk -> Bool) (κn_ : St -> Bool) : codesV ⟨Pg, ofList [(42, (FQ17 SQ17)), (43, (FQ26 SQ26)), (44, (FQ85 SQ85)), (45, (FQ86 SQ86)), (46, (FQ41 SQ41))], isref, N⟩ 0 (anQ92 N SQ17 SQ26 SQ85 SQ86 SQ41) (sg Pg 11 7 4) 0 (lsQ189 d_ u_ q_0 q_1 q_2 q_3 n n_1) { (finV Pg 11 0 c_) with nrm := κn_ } = (SQ86 n [] n_1 false [1] 0 (fun cr_3 nr_4 nr_5 => (cond (nr_5 != 0) (c_ (.bool false) []) (κn_ (lsQ197 (dqs d_ 0 4 (.ptr 3 0 :: (.int .i64 nr_5 :: (.ptr 5 0 :: (dqs d_ 7 15 (.slw 4 :: (.agg [.bool false, .slw 4, .int .i64 0] :: (.tup [.agg [.bool cr_3, .nil, .int .i64 nr_4], .int .i64 nr_5] :: (.agg [.bool n, .nil, .int .i64 n_1] :: (.agg [.bool false, .slw 4, .int .i64 0] :: (.tup [.agg [.bool cr_3, .nil, .int .i64 nr_4], .int .i64 nr_5] :: (.agg [.bool cr_3, .nil, .int .i64 nr_4] :: (.int .i64 nr_5 :: (.int .i64 nr_5 :: (.bool false :: (dqs d_ 32 14 [])))))))))))))))) [(u_.getD 0 none), (u_.getD 1 none), (u_.getD 2 none), some ⟨84, 1, .cells [.bool n, .nil, .int .i64 n_1]⟩, some ⟨87, 1, .ints .u32 [1]⟩, some ⟨84, 1, .cells [.bool false, .slw 4, .int .i64 0]⟩] q_0 q_1 q_2 q_3 cr_3 nr_4)))) (fun cr_4 nr_6 nr_7 nsr_1 => (cond (nr_7 != 0) (c_ (.bool false) []) (κn_ (lsQ198 (dqs d_ 0 4 (.ptr 3 0 :: (.int .i64 nr_7 :: (.ptr 5 0 :: (dqs d_ 7 15 (.slw 4 :: (.agg [.bool false, .slw 4, .int .i64 0] :: (.tup [.agg [.bool cr_4, .slw 6, .int .i64 nr_6], .int .i64 nr_7] :: (.agg [.bool n, .nil, .int .i64 n_1] :: (.agg [.bool false, .slw 4, .int .i64 0] :: (.tup [.agg [.bool cr_4, .slw 6, .int .i64 nr_6], .int .i64 nr_7] :: (.agg [.bool cr_4, .slw 6, .int .i64 nr_6] :: (.int .i64 nr_7 :: (.int .i64 nr_7 :: (.bool false :: (dqs d_ 32 14 [])))))))))))))))) [(u_.getD 0 none), (u_.getD 1 none), (u_.getD 2 none), some ⟨84, 1, .cells [.bool n, .nil, .int .i64 n_1]⟩, some ⟨87, 1, .ints .u32 [1]⟩, some ⟨84, 1, .cells [.bool false, .slw 4, .int .i64 0]⟩] q_0 q_1 q_2 q_3 nsr_1 cr_4 nr_6))))) := by kernel_rfl
theorem jnQ189 (N : Nat) (SQ17 : TSQ17) (SQ26 : TSQ26) (SQ85 : TSQ85) (SQ86 : TSQ86) (SQ41 : TSQ41) (d_ : List V) (u_ : List (Option Blk)) (q_0 q_1 q_2 q_3 : Fl) (n : Bool) (n_1 : Int) (c_ : V -> List Blk -> Bool) : codesV ⟨Pg, ofList [(42, (FQ17 SQ17)), (43, (FQ26 SQ26)), (44, (FQ85 SQ85)), (45, (FQ86 SQ86)), (46, (FQ41 SQ41))], isref, N⟩ 0 (anQ92 N SQ17 SQ26 SQ85 SQ86 SQ41) ((cds Pg 11).drop 7) 0 (lsQ189 d_ u_ q_0 q_1 q_2 q_3 n n_1) (finV Pg 11 0 c_) = JQ189 N SQ17 SQ26 SQ85 SQ86 SQ41 q_0 q_1 q_2 q_3 n n_1 (fun r0 => c_ (.bool r0) []) := by
  rw [codesV_cut 7 4 11 rfl]
  refine (hdQ189 N SQ17 SQ26 SQ85 SQ86 SQ41 d_ u_ q_0 q_1 q_2 q_3 n n_1 c_ _).trans ?_
  simp only [jnQ197, jnQ198]
  kernel_rfl
theorem hd_quat_Good_w (N : Nat) (SQ17 : TSQ17) (SQ26 : TSQ26) (SQ85 : TSQ85) (SQ86 : TSQ86) (SQ41 : TSQ41) (q_0 q_1 q_2 q_3 : Fl) (c_ : V -> List Blk -> Bool) (κn_ : St -> Bool) : codesV ⟨Pg, ofList [(42, (FQ17 SQ17)), (43, (FQ26 SQ26)), (44, (FQ85 SQ85)), (45, (FQ86 SQ86)), (46, (FQ41 SQ41))], isref, N⟩ 0 (anQ92 N SQ17 SQ26 SQ85 SQ86 SQ41) (sg Pg 11 0 7) 0 (st0 Pg 11 (shFQ92.args [.fl q_0, .fl q_1, .fl q_2, .fl q_3]) []) { (finV Pg 11 0 c_) with nrm := κn_ } = (SQ17 q_0 q_1 q_2 q_3 (fun cr => (cond (!cr) (c_ (.bool false) []) (SQ26 q_0 q_1 q_2 q_3 (SQ85 [q_0, q_1, q_2, q_3] [q_0, q_1, q_2, q_3] (fun cr_1 nr nr_1 => (cond (nr_1 != 0) (c_ (.bool false) []) (κn_ (lsQ189 [.agg [.flt q_0, .flt q_1, .flt q_2, .flt q_3], .ptr 0 0, .bool false, .ptr 2 0, .int .i64 nr_1, .any, .any, .any, .agg [.flt q_0, .flt q_1, .flt q_2, .flt q_3], .slw 1, .bool cr, .bool false, .agg [.flt q_0, .flt q_1, .flt q_2, .flt q_3], .agg [.flt q_0, .flt q_1, .flt q_2, .flt q_3], .tup [.agg [.bool cr_1, .nil, .int .i64 nr], .int .i64 nr_1], .sl 2 0 (4 - 0), .sl 2 0 (4 - 0), .tup [.agg [.bool cr_1, .nil, .int .i64 nr], .int .i64 nr_1], .agg [.bool cr_1, .nil, .int .i64 nr], .int .i64 nr_1, .int .i64 nr_1, .bool false, .any, .any, .any, .any, .any, .any, .any, .any, .any, .any, .any, .any, .any, .any, .any, .any, .any, .any, .any, .any, .any, .any, .any, .any] [some ⟨30, 1, .cells [.flt q_0, .flt q_1, .flt q_2, .flt q_3]⟩, some ⟨30, 4, .cells [.flt q_0, .flt q_1, .flt q_2, .flt q_3]⟩, some ⟨80, 1, .flts [q_0, q_1, q_2, q_3]⟩] q_0 q_1 q_2 q_3 cr_1 nr)))) (fun cr_2 nr_2 nr_3 nsr => (cond (nr_3 != 0) (c_ (.bool false) []) (κn_ (lsQ190 [.agg [.flt q_0, .flt q_1, .flt q_2, .flt q_3], .ptr 0 0, .bool false, .ptr 2 0, .int .i64 nr_3, .any, .any, .any, .agg [.flt q_0, .flt q_1, .flt q_2, .flt q_3], .slw 1, .bool cr, .bool false, .agg [.flt q_0, .flt q_1, .flt q_2, .flt q_3], .agg [.flt q_0, .flt q_1, .flt q_2, .flt q_3], .tup [.agg [.bool cr_2, .slw 3, .int .i64 nr_2], .int .i64 nr_3], .sl 2 0 (4 - 0), .sl 2 0 (4 - 0), .tup [.agg [.bool cr_2, .slw 3, .int .i64 nr_2], .int .i64 nr_3], .agg [.bool cr_2, .slw 3, .int .i64 nr_2], .int .i64 nr_3, .int .i64 nr_3, .bool false, .any, .any, .any, .any, .any, .any, .any, .any, .any, .any, .any, .any, .any, .any, .any, .any, .any, .any, .any, .any, .any, .any, .any, .any] [some ⟨30, 1, .cells [.flt q_0, .flt q_1, .flt q_2, .flt q_3]⟩, some ⟨30, 4, .cells [.flt q_0, .flt q_1, .flt q_2, .flt q_3]⟩, some ⟨80, 1, .flts [q_0, q_1, q_2, q_3]⟩] q_0 q_1 q_2 q_3 nsr cr_2 nr_2))))))))) := by kernel_rfl
theorem jn_quat_Good_w (N : Nat) (SQ17 : TSQ17) (SQ26 : TSQ26) (SQ85 : TSQ85) (SQ86 : TSQ86) (SQ41 : TSQ41) (q_0 q_1 q_2 q_3 : Fl) (c_ : V -> List Blk -> Bool) : codesV ⟨Pg, ofList [(42, (FQ17 SQ17)), (43, (FQ26 SQ26)), (44, (FQ85 SQ85)), (45, (FQ86 SQ86)), (46, (FQ41 SQ41))], isref, N⟩ 0 (anQ92 N SQ17 SQ26 SQ85 SQ86 SQ41) ((cds Pg 11).drop 0) 0 (st0 Pg 11 (shFQ92.args [.fl q_0, .fl q_1, .fl q_2, .fl q_3]) []) (finV Pg 11 0 c_) = GQ92 N SQ17 SQ26 SQ85 SQ86 SQ41 q_0 q_1 q_2 q_3 (fun r0 => c_ (.bool r0) []) := by
  rw [codesV_cut 0 7 7 rfl]
  refine (hd_quat_Good_w N SQ17 SQ26 SQ85 SQ86 SQ41 q_0 q_1 q_2 q_3 c_ _).trans ?_
  simp only [jnQ189, jnQ190]
  kernel_rfl
theorem eqQ92 (N : Nat) (SQ17 : TSQ17) (SQ26 : TSQ26) (SQ85 : TSQ85) (SQ86 : TSQ86) (SQ41 : TSQ41) (q_0 q_1 q_2 q_3 : Fl) (c_ : V -> List Blk -> Bool) : bodyV ⟨Pg, ofList [(42, (FQ17 SQ17)), (43, (FQ26 SQ26)), (44, (FQ85 SQ85)), (45, (FQ86 SQ86)), (46, (FQ41 SQ41))], isref, N⟩ (anQ92 N SQ17 SQ26 SQ85 SQ86 SQ41) 11 (shFQ92.args [.fl q_0, .fl q_1, .fl q_2, .fl q_3]) [] c_ = GQ92 N SQ17 SQ26 SQ85 SQ86 SQ41 q_0 q_1 q_2 q_3 (fun r0 => c_ (.bool r0) []) :=
  (bodyV_codes (by kernel_rfl)).trans (jn_quat_Good_w N SQ17 SQ26 SQ85 SQ86 SQ41 q_0 q_1 q_2 q_3 c_)
theorem goodQ92 (N : Nat) (SQ17 : TSQ17) (SQ26 : TSQ26) (SQ85 : TSQ85) (SQ86 : TSQ86) (SQ41 : TSQ41) (hQ17 : GoodF Pg 42 (FQ17 SQ17)) (hQ26 : GoodF Pg 43 (FQ26 SQ26)) (hQ85 : GoodF Pg 44 (FQ85 SQ85)) (hQ86 : GoodF Pg 45 (FQ86 SQ86)) (hQ41 : GoodF Pg 46 (FQ41 SQ41)) : GoodF Pg 11 (FQ92 (GQ92 N SQ17 SQ26 SQ85 SQ86 SQ41)) := by
  refine good_fs (cx := ⟨Pg, ofList [(42, (FQ17 SQ17)), (43, (FQ26 SQ26)), (44, (FQ85 SQ85)), (45, (FQ86 SQ86)), (46, (FQ41 SQ41))], isref, N⟩) (ofList_cons hQ17 (ofList_cons hQ26 (ofList_cons hQ85 (ofList_cons hQ86 (ofList_cons hQ41 (ofList_nil _)))))) shFQ92 (spQ92 (GQ92 N SQ17 SQ26 SQ85 SQ86 SQ41)) (anQ92 N SQ17 SQ26 SQ85 SQ86 SQ41) 0 0 (by kernel_rfl) (fun i_ hi_ => by omega) ?_
  intro a k h
  unfold spQ92 at h
  split at h
  · exact ⟨[], rfl, rfl, (eqQ92 _ _ _ _ _ _ _ _ _ _ _).trans h⟩
  · cases h

def anQ84 (N : Nat) : Nat -> Option Ann := fun b_ => none
theorem eqQ84 (N : Nat) (c_ : V -> List Blk -> Bool) : bodyV ⟨Pg, ofList [], isref, N⟩ (anQ84 N) 41 (shFQ84.args []) [] c_ = GQ84 N (fun r0 r1 r2 r3 => c_ (.agg [.flt r0, .flt r1, .flt r2, .flt r3]) []) := by kernel_rfl
theorem goodQ84 (N : Nat) : GoodF Pg 41 (FQ84 (GQ84 N)) := by
  refine good_fs (cx := ⟨Pg, ofList [], isref, N⟩) (ofList_nil _) shFQ84 (spQ84 (GQ84 N)) (anQ84 N) 0 0 (by kernel_rfl) (fun i_ hi_ => by omega) ?_
  intro a k h
  unfold spQ84 at h
  split at h
  · exact ⟨[], rfl, rfl, (eqQ84 _ _).trans h⟩
  · cases h

def anQ9 (N : Nat) (SQ13 : TSQ13) (SQ142 : TSQ142) (SQ123 : TSQ123) (SQ92 : TSQ92) (SQ84 : TSQ84) : Nat -> Option Ann := fun b_ => none
theorem eqQ9 (N : Nat) (SQ13 : TSQ13) (SQ142 : TSQ142) (SQ123 : TSQ123) (SQ92 : TSQ92) (SQ84 : TSQ84) (c_ : V -> List Blk -> Bool) : bodyV ⟨Pg, ofList [(35, (FQ13 SQ13)), (13, (FQ142 SQ142)), (40, (FQ123 SQ123)), (11, (FQ92 SQ92)), (41, (FQ84 SQ84))], isref, N⟩ (anQ9 N SQ13 SQ142 SQ123 SQ92 SQ84) 8 (shFQ9.args []) [] c_ = GQ9 N SQ13 SQ142 SQ123 SQ92 SQ84 (fun r0 => c_ (.bool r0) []) := by kernel_rfl
theorem goodQ9 (N : Nat) (SQ13 : TSQ13) (SQ142 : TSQ142) (SQ123 : TSQ123) (SQ92 : TSQ92) (SQ84 : TSQ84) (hQ13 : GoodF Pg 35 (FQ13 SQ13)) (hQ142 : GoodF Pg 13 (FQ142 SQ142)) (hQ123 : GoodF Pg 40 (FQ123 SQ123)) (hQ92 : GoodF Pg 11 (FQ92 SQ92)) (hQ84 : GoodF Pg 41 (FQ84 SQ84)) : GoodF Pg 8 (FQ9 (GQ9 N SQ13 SQ142 SQ123 SQ92 SQ84)) := by
  refine good_fs (cx := ⟨Pg, ofList [(35, (FQ13 SQ13)), (13, (FQ142 SQ142)), (40, (FQ123 SQ123)), (11, (FQ92 SQ92)), (41, (FQ84 SQ84))], isref, N⟩) (ofList_cons hQ13 (ofList_cons hQ142 (ofList_cons hQ123 (ofList_cons hQ92 (ofList_cons hQ84 (ofList_nil _)))))) shFQ9 (spQ9 (GQ9 N SQ13 SQ142 SQ123 SQ92 SQ84)) (anQ9 N SQ13 SQ142 SQ123 SQ92 SQ84) 0 0 (by kernel_rfl) (fun i_ hi_ => by omega) ?_
  intro a k h
  unfold spQ9 at h
  split at h
  · exact ⟨[], rfl, rfl, (eqQ9 _ _ _ _ _ _ _).trans h⟩
  · cases h

def anQ11 (N : Nat) (SQ82 : TSQ82) : Nat -> Option Ann := fun b_ => none
theorem eqQ11 (N : Nat) (SQ82 : TSQ82) (b : Int) (c_ : V -> List Blk -> Bool) : bodyV ⟨Pg, ofList [(82, (FQ82 SQ82))], isref, N⟩ (anQ11 N SQ82) 39 (shFQ11.args [.int b]) [] c_ = GQ11 N SQ82 b (fun r0 => c_ (.flt r0) []) := by kernel_rfl
theorem goodQ11 (N : Nat) (SQ82 : TSQ82) (hQ82 : GoodF Pg 82 (FQ82 SQ82)) : GoodF Pg 39 (FQ11 (GQ11 N SQ82)) := by
  refine good_fs (cx := ⟨Pg, ofList [(82, (FQ82 SQ82))], isref, N⟩) (ofList_cons hQ82 (ofList_nil _)) shFQ11 (spQ11 (GQ11 N SQ82)) (anQ11 N SQ82) 0 0 (by kernel_rfl) (fun i_ hi_ => by omega) ?_
  intro a k h
  unfold spQ11 at h
  split at h
  · exact ⟨[], rfl, rfl, (eqQ11 _ _ _ _).trans h⟩
  · cases h

def anQ5 (N : Nat) (SQ11 : TSQ11) : Nat -> Option Ann := fun b_ => none
theorem eqQ5 (N : Nat) (SQ11 : TSQ11) (q_0 q_1 q_2 q_3 : Int) (c_ : V -> List Blk -> Bool) : bodyV ⟨Pg, ofList [(39, (FQ11 SQ11))], isref, N⟩ (anQ5 N SQ11) 9 (shFQ5.args [.int q_0, .int q_1, .int q_2, .int q_3]) [] c_ = GQ5 N SQ11 q_0 q_1 q_2 q_3 (fun r0 r1 r2 r3 => c_ (.agg [.flt r0, .flt r1, .flt r2, .flt r3]) []) := by kernel_rfl
theorem goodQ5 (N : Nat) (SQ11 : TSQ11) (hQ11 : GoodF Pg 39 (FQ11 SQ11)) : GoodF Pg 9 (FQ5 (GQ5 N SQ11)) := by
  refine good_fs (cx := ⟨Pg, ofList [(39, (FQ11 SQ11))], isref, N⟩) (ofList_cons hQ11 (ofList_nil _)) shFQ5 (spQ5 (GQ5 N SQ11)) (anQ5 N SQ11) 0 0 (by kernel_rfl) (fun i_ hi_ => by omega) ?_
  intro a k h
  unfold spQ5 at h
  split at h
  · exact ⟨[], rfl, rfl, (eqQ5 _ _ _ _ _ _ _).trans h⟩
  · cases h

def anQ128 (N : Nat) : Nat -> Option Ann := fun b_ => none
theorem eqQ128 (N : Nat) (q_0 q_1 q_2 q_3 : Fl) (c_ : V -> List Blk -> Bool) : bodyV ⟨Pg, ofList [], isref, N⟩ (anQ128 N) 108 (shFQ128.args [.fl q_0, .fl q_1, .fl q_2, .fl q_3]) [] c_ = GQ128 N q_0 q_1 q_2 q_3 (fun r0 => c_ (.slw 0) [⟨28, 1, .flts r0⟩]) := by kernel_rfl
theorem goodQ128 (N : Nat) : GoodF Pg 108 (FQ128 (GQ128 N)) := by
  refine good_fs (cx := ⟨Pg, ofList [], isref, N⟩) (ofList_nil _) shFQ128 (spQ128 (GQ128 N)) (anQ128 N) 0 0 (by kernel_rfl) (fun i_ hi_ => by omega) ?_
  intro a k h
  unfold spQ128 at h
  split at h
  · exact ⟨[], rfl, rfl, (eqQ128 _ _ _ _ _ _).trans h⟩
  · cases h

def anQ162 (N : Nat) (SQ114 : TSQ114) : Nat -> Option Ann := fun b_ => none
theorem eqQ162 (N : Nat) (SQ114 : TSQ114) (x : Fl) (c_ : V -> List Blk -> Bool) : bodyV ⟨Pg, ofList [(95, (FQ114 SQ114))], isref, N⟩ (anQ162 N SQ114) 151 (shFQ162.args [.fl x]) [] c_ = GQ162 N SQ114 x (fun r0 => c_ (.int .u64 r0) []) := by kernel_rfl
theorem goodQ162 (N : Nat) (SQ114 : TSQ114) (hQ114 : GoodF Pg 95 (FQ114 SQ114)) : GoodF Pg 151 (FQ162 (GQ162 N SQ114)) := by
  refine good_fs (cx := ⟨Pg, ofList [(95, (FQ114 SQ114))], isref, N⟩) (ofList_cons hQ114 (ofList_nil _)) shFQ162 (spQ162 (GQ162 N SQ114)) (anQ162 N SQ114) 0 0 (by kernel_rfl) (fun i_ hi_ => by omega) ?_
  intro a k h
  unfold spQ162 at h
  split at h
  · exact ⟨[], rfl, rfl, (eqQ162 _ _ _ _).trans h⟩
  · cases h

def anQ90 (N : Nat) (SQ162 : TSQ162) : Nat -> Option Ann := fun b_ => none
theorem eqQ90 (N : Nat) (SQ162 : TSQ162) (x : Fl) (c_ : V -> List Blk -> Bool) : bodyV ⟨Pg, ofList [(151, (FQ162 SQ162))], isref, N⟩ (anQ90 N SQ162) 115 (shFQ90.args [.fl x]) [] c_ = GQ90 N SQ162 x (fun r0 r1 r2 => c_ (.tup [.bool r0, .int .i64 r1, .int .u64 r2]) []) := by kernel_rfl
theorem goodQ90 (N : Nat) (SQ162 : TSQ162) (hQ162 : GoodF Pg 151 (FQ162 SQ162)) : GoodF Pg 115 (FQ90 (GQ90 N SQ162)) := by
  refine good_fs (cx := ⟨Pg, ofList [(151, (FQ162 SQ162))], isref, N⟩) (ofList_cons hQ162 (ofList_nil _)) shFQ90 (spQ90 (GQ90 N SQ162)) (anQ90 N SQ162) 0 0 (by kernel_rfl) (fun i_ hi_ => by omega) ?_
  intro a k h
  unfold spQ90 at h
  split at h
  · exact ⟨[], rfl, rfl, (eqQ90 _ _ _ _).trans h⟩
  · cases h

def anQ109 (N : Nat) : Nat -> Option Ann := fun b_ => none
theorem eqQ109 (N : Nat) (exp frac most : Int) (c_ : V -> List Blk -> Bool) : bodyV ⟨Pg, ofList [], isref, N⟩ (anQ109 N) 175 (shFQ109.args [.int exp, .int frac, .int most]) [] c_ = GQ109 N exp frac most (fun r0 => c_ (.int .i64 r0) []) := by kernel_rfl
theorem goodQ109 (N : Nat) : GoodF Pg 175 (FQ109 (GQ109 N)) := by
  refine good_fs (cx := ⟨Pg, ofList [], isref, N⟩) (ofList_nil _) shFQ109 (spQ109 (GQ109 N)) (anQ109 N) 0 0 (by kernel_rfl) (fun i_ hi_ => by omega) ?_
  intro a k h
  unfold spQ109 at h
  split at h
  · exact ⟨[], rfl, rfl, (eqQ109 _ _ _ _ _).trans h⟩
  · cases h

def anQ140 (N : Nat) (SQ90 : TSQ90) (SQ109 : TSQ109) : Nat -> Option Ann := fun b_ => none
theorem eqQ140 (N : Nat) (SQ90 : TSQ90) (SQ109 : TSQ109) (x : Fl) (c_ : V -> List Blk -> Bool) : bodyV ⟨Pg, ofList [(115, (FQ90 SQ90)), (175, (FQ109 SQ109))], isref, N⟩ (anQ140 N SQ90 SQ109) 150 (shFQ140.args [.fl x]) [] c_ = GQ140 N SQ90 SQ109 x (fun r0 => c_ (.int .i64 r0) []) := by kernel_rfl
theorem goodQ140 (N : Nat) (SQ90 : TSQ90) (SQ109 : TSQ109) (hQ90 : GoodF Pg 115 (FQ90 SQ90)) (hQ109 : GoodF Pg 175 (FQ109 SQ109)) : GoodF Pg 150 (FQ140 (GQ140 N SQ90 SQ109)) := by
  refine good_fs (cx := ⟨Pg, ofList [(115, (FQ90 SQ90)), (175, (FQ109 SQ109))], isref, N⟩) (ofList_cons hQ90 (ofList_cons hQ109 (ofList_nil _))) shFQ140 (spQ140 (GQ140 N SQ90 SQ109)) (anQ140 N SQ90 SQ109) 0 0 (by kernel_rfl) (fun i_ hi_ => by omega) ?_
  intro a k h
  unfold spQ140 at h
  split at h
  · exact ⟨[], rfl, rfl, (eqQ140 _ _ _ _ _).trans h⟩
  · cases h

def anQ99 (N : Nat) (SQ140 : TSQ140) : Nat -> Option Ann := fun b_ => none
theorem eqQ99 (N : Nat) (SQ140 : TSQ140) (x : Fl) (c_ : V -> List Blk -> Bool) : bodyV ⟨Pg, ofList [(150, (FQ140 SQ140))], isref, N⟩ (anQ99 N SQ140) 107 (shFQ99.args [.fl x]) [] c_ = GQ99 N SQ140 x (fun r0 => c_ (.bool r0) []) := by kernel_rfl
theorem goodQ99 (N : Nat) (SQ140 : TSQ140) (hQ140 : GoodF Pg 150 (FQ140 SQ140)) : GoodF Pg 107 (FQ99 (GQ99 N SQ140)) := by
  refine good_fs (cx := ⟨Pg, ofList [(150, (FQ140 SQ140))], isref, N⟩) (ofList_cons hQ140 (ofList_nil _)) shFQ99 (spQ99 (GQ99 N SQ140)) (anQ99 N SQ140) 0 0 (by kernel_rfl) (fun i_ hi_ => by omega) ?_
  intro a k h
  unfold spQ99 at h
  split at h
  · exact ⟨[], rfl, rfl, (eqQ99 _ _ _ _).trans h⟩
  · cases h

def sh_st_binnacleref01_AllFinite_0 : StSh := ⟨(sqs 5 (.rof :: (.int .i64 :: (.int .i64 :: (sqs 7 []))))), []⟩
def sx0_st_binnacleref01_AllFinite_0 : StSh := ⟨(.any :: (.any :: (.bool :: (sqs 12 [])))), []⟩
def sx1_st_binnacleref01_AllFinite_0 : StSh := ⟨(sqs 15 []), []⟩
def hk_st_binnacleref01_AllFinite_0 (N : Nat) (SQ99 : TSQ99) : List Atom -> K -> Bool := fun a_ κ => match a_ with
  | [.fls t5, .int t6, .int t7] => iterG N (stQ202 N SQ99 t5 t6 (fun r0 => κ.ret (sx0_st_binnacleref01_AllFinite_0.build [.bool r0])) (κ.ext 0 (sx1_st_binnacleref01_AllFinite_0.build []))) t7
  | _ => false
def anQ91 (N : Nat) (SQ99 : TSQ99) : Nat -> Option Ann := fun b_ => cond (b_ == 0) (some ⟨⟨[5, 6, 7], [], []⟩, [(0, ⟨[], [], []⟩)], some ⟨[2], [], []⟩, some (mkHooks [(sh_st_binnacleref01_AllFinite_0, hk_st_binnacleref01_AllFinite_0 N SQ99)])⟩) (none)
theorem eq_st_binnacleref01_AllFinite_0 (N : Nat) (SQ99 : TSQ99) (κ : K) (t5 : List Fl) (t6 t7 : Int) : iter N (fun s k => codeV ⟨Pg, ofList [(107, (FQ99 SQ99))], isref, N⟩ 0 (anQ91 N SQ99) (lp Pg 102 0).2 (lp Pg 102 0).1 s (roundK Pg 0 ((anQ91 N SQ99) (lp Pg 102 0).1) κ k)) (sh_st_binnacleref01_AllFinite_0.build [.fls t5, .int t6, .int t7]) = iterG N (stQ202 N SQ99 t5 t6 (fun r0 => κ.ret (sx0_st_binnacleref01_AllFinite_0.build [.bool r0])) (κ.ext 0 (sx1_st_binnacleref01_AllFinite_0.build []))) t7 :=
  iter_tr (fun v_ => sh_st_binnacleref01_AllFinite_0.build [.fls t5, .int t6, .int v_]) (fun v_ K_ => by kernel_rfl) N t7
theorem hk1_st_binnacleref01_AllFinite_0 (N : Nat) (SQ99 : TSQ99) : HookFor ⟨Pg, ofList [(107, (FQ99 SQ99))], isref, N⟩ 0 (anQ91 N SQ99) (lp Pg 102 0) (sh_st_binnacleref01_AllFinite_0, hk_st_binnacleref01_AllFinite_0 N SQ99) := by
  intro a κ h
  simp only at h
  unfold hk_st_binnacleref01_AllFinite_0 at h
  split at h
  · exact (eq_st_binnacleref01_AllFinite_0 _ _ _ _ _ _).trans h
  · cases h
theorem ho_binnacleref01_AllFinite_0 (N : Nat) (SQ99 : TSQ99) : HookOk ⟨Pg, ofList [(107, (FQ99 SQ99))], isref, N⟩ 0 (anQ91 N SQ99) (lp Pg 102 0) :=
  hooks_ok [(sh_st_binnacleref01_AllFinite_0, hk_st_binnacleref01_AllFinite_0 N SQ99)] (by kernel_rfl) ⟨hk1_st_binnacleref01_AllFinite_0 _ _, trivial⟩
theorem eqQ91 (N : Nat) (SQ99 : TSQ99) (l : List Fl) (c_ : V -> List Blk -> Bool) : bodyV ⟨Pg, ofList [(107, (FQ99 SQ99))], isref, N⟩ (anQ91 N SQ99) 102 (shFQ91.args [.fls l]) [] c_ = GQ91 N SQ99 l (fun r0 => c_ (.bool r0) []) := by kernel_rfl
theorem goodQ91 (N : Nat) (SQ99 : TSQ99) (hQ99 : GoodF Pg 107 (FQ99 SQ99)) : GoodF Pg 102 (FQ91 (GQ91 N SQ99)) := by
  refine good_fs (cx := ⟨Pg, ofList [(107, (FQ99 SQ99))], isref, N⟩) (ofList_cons hQ99 (ofList_nil _)) shFQ91 (spQ91 (GQ91 N SQ99)) (anQ91 N SQ99) 1 0 (by kernel_rfl) (fun i_ hi_ => by
    match i_, hi_ with
    | 0, _ => exact ho_binnacleref01_AllFinite_0 _ _
    | (q + 1), h => omega) ?_
  intro a k h
  unfold spQ91 at h
  split at h
  · exact ⟨[], rfl, rfl, (eqQ91 _ _ _ _).trans h⟩
  · cases h

def anQ132 (N : Nat) (SQ128 : TSQ128) (SQ91 : TSQ91) : Nat -> Option Ann := fun b_ => none
theorem eqQ132 (N : Nat) (SQ128 : TSQ128) (SQ91 : TSQ91) (q_0 q_1 q_2 q_3 : Fl) (c_ : V -> List Blk -> Bool) : bodyV ⟨Pg, ofList [(108, (FQ128 SQ128)), (102, (FQ91 SQ91))], isref, N⟩ (anQ132 N SQ128 SQ91) 78 (shFQ132.args [.fl q_0, .fl q_1, .fl q_2, .fl q_3]) [] c_ = GQ132 N SQ128 SQ91 q_0 q_1 q_2 q_3 (fun r0 => c_ (.bool r0) []) := by kernel_rfl
theorem goodQ132 (N : Nat) (SQ128 : TSQ128) (SQ91 : TSQ91) (hQ128 : GoodF Pg 108 (FQ128 SQ128)) (hQ91 : GoodF Pg 102 (FQ91 SQ91)) : GoodF Pg 78 (FQ132 (GQ132 N SQ128 SQ91)) := by
  refine good_fs (cx := ⟨Pg, ofList [(108, (FQ128 SQ128)), (102, (FQ91 SQ91))], isref, N⟩) (ofList_cons hQ128 (ofList_cons hQ91 (ofList_nil _))) shFQ132 (spQ132 (GQ132 N SQ128 SQ91)) (anQ132 N SQ128 SQ91) 0 0 (by kernel_rfl) (fun i_ hi_ => by omega) ?_
  intro a k h
  unfold spQ132 at h
  split at h
  · exact ⟨[], rfl, rfl, (eqQ132 _ _ _ _ _ _ _ _).trans h⟩
  · cases h

end Go.Proofs.YtnfgnjciliapaaaGreatDoor
