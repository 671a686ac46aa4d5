/-
  THE TIES: each printed meaning is what the program does (written by program).
  Conditions: none.
-/
import Derived.Test.YtnfgnjciliapaaaGreatDoorGs
namespace Go.Proofs.YtnfgnjciliapaaaGreatDoor
open Go Go.Mach Go.Proofs
set_option linter.unusedVariables false
set_option maxRecDepth 50000
def sh_st_v_dyad_exact_put_p0r_0 : StSh := ⟨(.any :: (.any :: (.ptr 1 0 :: (.any :: (.ptr 2 0 :: (.ptr 3 0 :: (.ptr 4 0 :: (sqs 52 [])))))))), [some (126, 1, .cells [.bool, .roi .u64]), some (84, 1, .cells [.bool, .nil, .int .i64]), some (84, 1, .cells [.bool, .slw 5, .int .i64]), some (126, 1, .cells [.bool, .roi .u64]), some (126, 1, .cells [.bool, .roi .u64]), some (87, 1, .ints .u32)]⟩
def sx0_st_v_dyad_exact_put_p0r_0 : StSh := ⟨(.any :: (.any :: (.ptr 1 0 :: (.any :: (.ptr 2 0 :: (sqs 54 [])))))), [some (126, 1, .cells [.bool, .roi .u64]), some (84, 1, .cells [.bool, .nil, .int .i64]), some (84, 1, .cells [.bool, .slw 3, .int .i64]), some (87, 1, .ints .u32)]⟩
def hk_st_v_dyad_exact_put_p0r_0 (N : Nat) (SZ22 : TSZ22) (SZ7 : TSZ7) (SZ36 : TSZ36) (SZ55 : TSZ55) (SZ35 : TSZ35) (SZ24 : TSZ24) (SZ37 : TSZ37) (SZ16 : TSZ16) : List Atom -> K -> Bool := fun a_ κ => match a_ with
 | [.bool b0_2, .ints b0_3, .bool t2_2, .int t2_3, .bool d_2, .int d_3, .bool mask_2, .ints mask_3, .bool m_2, .ints m_3, .ints b5] => iterG N (stZ167 N SZ22 SZ7 SZ36 SZ55 SZ35 SZ24 SZ37 SZ16 b0_2 b0_3 t2_2 t2_3 d_2 d_3 mask_2 mask_3 (fun r6 => κ.ext 0 (sx0_st_v_dyad_exact_put_p0r_0.build [.bool b0_2, .ints b0_3, .bool t2_2, .int t2_3, .bool d_2, .int d_3, .ints r6]))) (m_2, m_3, b5)
 | _ => false
def anZ12 (N : Nat) (SZ22 : TSZ22) (SZ7 : TSZ7) (SZ36 : TSZ36) (SZ55 : TSZ55) (SZ35 : TSZ35) (SZ24 : TSZ24) (SZ37 : TSZ37) (SZ16 : TSZ16) : Nat -> Option Ann := fun b_ => cond (b_ == 0) (some ⟨⟨[2, 4, 5, 6], [(4, some 1, 87)], []⟩, [(0, ⟨[2, 4], [], []⟩)], some ⟨[2, 3], [], []⟩, some (mkHooks [(sh_st_v_dyad_exact_put_p0r_0, hk_st_v_dyad_exact_put_p0r_0 N SZ22 SZ7 SZ36 SZ55 SZ35 SZ24 SZ37 SZ16)])⟩) (none)
theorem eq_st_v_dyad_exact_put_p0r_0 (N : Nat) (SZ22 : TSZ22) (SZ7 : TSZ7) (SZ36 : TSZ36) (SZ55 : TSZ55) (SZ35 : TSZ35) (SZ24 : TSZ24) (SZ37 : TSZ37) (SZ16 : TSZ16) (κ : K) (b0_2 : Bool) (b0_3 : List Int) (t2_2 : Bool) (t2_3 : Int) (d_2 : Bool) (d_3 : Int) (mask_2 : Bool) (mask_3 : List Int) (m_2 : Bool) (m_3 b5 : List Int) : iter N (fun s k => codeV ⟨Pg, ofList [(132, (FZ22 SZ22)), (94, (FZ7 SZ7)), (133, (FZ36 SZ36)), (134, (FZ55 SZ55)), (135, (FZ35 SZ35)), (137, (FZ24 SZ24)), (138, (FZ37 SZ37)), (136, (FZ16 SZ16))], isref, N⟩ 1 (anZ12 N SZ22 SZ7 SZ36 SZ55 SZ35 SZ24 SZ37 SZ16) (lp Pg 88 0).2 (lp Pg 88 0).1 s (roundK Pg 1 ((anZ12 N SZ22 SZ7 SZ36 SZ55 SZ35 SZ24 SZ37 SZ16) (lp Pg 88 0).1) κ k)) (sh_st_v_dyad_exact_put_p0r_0.build [.bool b0_2, .ints b0_3, .bool t2_2, .int t2_3, .bool d_2, .int d_3, .bool mask_2, .ints mask_3, .bool m_2, .ints m_3, .ints b5]) = iterG N (stZ167 N SZ22 SZ7 SZ36 SZ55 SZ35 SZ24 SZ37 SZ16 b0_2 b0_3 t2_2 t2_3 d_2 d_3 mask_2 mask_3 (fun r6 => κ.ext 0 (sx0_st_v_dyad_exact_put_p0r_0.build [.bool b0_2, .ints b0_3, .bool t2_2, .int t2_3, .bool d_2, .int d_3, .ints r6]))) (m_2, m_3, b5) :=
 iter_tr (fun (v_ : Bool × List Int × List Int) => sh_st_v_dyad_exact_put_p0r_0.build [.bool b0_2, .ints b0_3, .bool t2_2, .int t2_3, .bool d_2, .int d_3, .bool mask_2, .ints mask_3, .bool v_.1, .ints v_.2.1, .ints v_.2.2]) (fun v_ K_ => by obtain ⟨m_2, m_3, b5⟩ := v_; kernel_rfl) N (m_2, m_3, b5)
theorem hk1_st_v_dyad_exact_put_p0r_0 (N : Nat) (SZ22 : TSZ22) (SZ7 : TSZ7) (SZ36 : TSZ36) (SZ55 : TSZ55) (SZ35 : TSZ35) (SZ24 : TSZ24) (SZ37 : TSZ37) (SZ16 : TSZ16) : HookFor ⟨Pg, ofList [(132, (FZ22 SZ22)), (94, (FZ7 SZ7)), (133, (FZ36 SZ36)), (134, (FZ55 SZ55)), (135, (FZ35 SZ35)), (137, (FZ24 SZ24)), (138, (FZ37 SZ37)), (136, (FZ16 SZ16))], isref, N⟩ 1 (anZ12 N SZ22 SZ7 SZ36 SZ55 SZ35 SZ24 SZ37 SZ16) (lp Pg 88 0) (sh_st_v_dyad_exact_put_p0r_0, hk_st_v_dyad_exact_put_p0r_0 N SZ22 SZ7 SZ36 SZ55 SZ35 SZ24 SZ37 SZ16) := by
 intro a κ h
 simp only at h
 unfold hk_st_v_dyad_exact_put_p0r_0 at h
 split at h
 ·exact (eq_st_v_dyad_exact_put_p0r_0 _ _ _ _ _ _ _ _ _ _ _ _ _ _ _ _ _ _ _ _ _).trans h
 ·cases h
theorem ho_v_dyad_exact_put_p0r_0 (N : Nat) (SZ22 : TSZ22) (SZ7 : TSZ7) (SZ36 : TSZ36) (SZ55 : TSZ55) (SZ35 : TSZ35) (SZ24 : TSZ24) (SZ37 : TSZ37) (SZ16 : TSZ16) : HookOk ⟨Pg, ofList [(132, (FZ22 SZ22)), (94, (FZ7 SZ7)), (133, (FZ36 SZ36)), (134, (FZ55 SZ55)), (135, (FZ35 SZ35)), (137, (FZ24 SZ24)), (138, (FZ37 SZ37)), (136, (FZ16 SZ16))], isref, N⟩ 1 (anZ12 N SZ22 SZ7 SZ36 SZ55 SZ35 SZ24 SZ37 SZ16) (lp Pg 88 0) :=
 hooks_ok [(sh_st_v_dyad_exact_put_p0r_0, hk_st_v_dyad_exact_put_p0r_0 N SZ22 SZ7 SZ36 SZ55 SZ35 SZ24 SZ37 SZ16)] (by kernel_rfl) ⟨hk1_st_v_dyad_exact_put_p0r_0 _ _ _ _ _ _ _ _ _, trivial⟩
theorem eqZ12 (N : Nat) (SZ22 : TSZ22) (SZ7 : TSZ7) (SZ36 : TSZ36) (SZ55 : TSZ55) (SZ35 : TSZ35) (SZ24 : TSZ24) (SZ37 : TSZ37) (SZ16 : TSZ16) (x : Int) (b : Bool) (b_1 : List Int) (c_ : V -> List Blk -> Bool) : bodyV ⟨Pg, ofList [(132, (FZ22 SZ22)), (94, (FZ7 SZ7)), (133, (FZ36 SZ36)), (134, (FZ55 SZ55)), (135, (FZ35 SZ35)), (137, (FZ24 SZ24)), (138, (FZ37 SZ37)), (136, (FZ16 SZ16))], isref, N⟩ (anZ12 N SZ22 SZ7 SZ36 SZ55 SZ35 SZ24 SZ37 SZ16) 88 (shFZ12.args [.int x, .bool b, .ints b_1]) [⟨126, 1, .cells [.bool b, .roi .u64 b_1]⟩] c_ = GZ12 N SZ22 SZ7 SZ36 SZ55 SZ35 SZ24 SZ37 SZ16 x b b_1 (fun r0 r1 r2 => c_ (.tup [.agg [.bool r0, .nil, .int .i64 r1], .int .i64 r2]) [⟨126, 1, .cells [.bool b, .roi .u64 b_1]⟩]) (fun r0 r1 r2 r5 => c_ (.tup [.agg [.bool r0, .slw 1, .int .i64 r1], .int .i64 r2]) [⟨126, 1, .cells [.bool b, .roi .u64 b_1]⟩, ⟨87, 1, .ints .u32 r5⟩]) := by kernel_rfl
theorem goodZ12 (N : Nat) (SZ22 : TSZ22) (SZ7 : TSZ7) (SZ36 : TSZ36) (SZ55 : TSZ55) (SZ35 : TSZ35) (SZ24 : TSZ24) (SZ37 : TSZ37) (SZ16 : TSZ16) (hZ22 : GoodF Pg 132 (FZ22 SZ22)) (hZ7 : GoodF Pg 94 (FZ7 SZ7)) (hZ36 : GoodF Pg 133 (FZ36 SZ36)) (hZ55 : GoodF Pg 134 (FZ55 SZ55)) (hZ35 : GoodF Pg 135 (FZ35 SZ35)) (hZ24 : GoodF Pg 137 (FZ24 SZ24)) (hZ37 : GoodF Pg 138 (FZ37 SZ37)) (hZ16 : GoodF Pg 136 (FZ16 SZ16)) : GoodF Pg 88 (FZ12 (GZ12 N SZ22 SZ7 SZ36 SZ55 SZ35 SZ24 SZ37 SZ16)) := by
 refine good_fs (cx := ⟨Pg, ofList [(132, (FZ22 SZ22)), (94, (FZ7 SZ7)), (133, (FZ36 SZ36)), (134, (FZ55 SZ55)), (135, (FZ35 SZ35)), (137, (FZ24 SZ24)), (138, (FZ37 SZ37)), (136, (FZ16 SZ16))], isref, N⟩) (ofList_cons hZ22 (ofList_cons hZ7 (ofList_cons hZ36 (ofList_cons hZ55 (ofList_cons hZ35 (ofList_cons hZ24 (ofList_cons hZ37 (ofList_cons hZ16 (ofList_nil _))))))))) shFZ12 (spZ12 (GZ12 N SZ22 SZ7 SZ36 SZ55 SZ35 SZ24 SZ37 SZ16)) (anZ12 N SZ22 SZ7 SZ36 SZ55 SZ35 SZ24 SZ37 SZ16) 1 1 (by kernel_rfl) (fun i_ hi_ => by
  match i_, hi_ with
  | 0, _ => exact ho_v_dyad_exact_put_p0r_0 _ _ _ _ _ _ _ _ _
  | (q + 1), h => omega) ?_
 intro a k h
 unfold spZ12 at h
 split at h
 ·exact ⟨[_], rfl, rfl, (eqZ12 _ _ _ _ _ _ _ _ _ _ _ _ _).trans h⟩
 ·cases h
def sh_st_dyad_Dot_0 : StSh := ⟨(.any :: (.rof :: (.any :: (.any :: (.ptr 0 0 :: (.any :: (.ptr 1 0 :: (sqs 19 (.rof :: (.int .i64 :: (.int .i64 :: (sqs 19 [])))))))))))), [some (84, 1, .cells [.bool, .nil, .int .i64]), some (128, 1, .cells [.ptr 2 0, .int .i64]), some (126, 1, .cells [.bool, .roi .u64])]⟩
def sx0_st_dyad_Dot_0 : StSh := ⟨(sqs 4 (.ptr 0 0 :: (.any :: (.ptr 1 0 :: (sqs 41 []))))), [some (84, 1, .cells [.bool, .nil, .int .i64]), some (128, 1, .cells [.ptr 2 0, .int .i64]), some (126, 1, .cells [.bool, .roi .u64])]⟩
def hk_st_dyad_Dot_0 (N : Nat) (SZ66 : TSZ66) (SZ135 : TSZ135) (SZ17 : TSZ17) (SZ21 : TSZ21) (SZ8 : TSZ8) (SZ12 : TSZ12) : List Atom -> K -> Bool := fun a_ κ => match a_ with
 | [.fls b_2, .fls t26_1, .int t27_1, .int t28_1, .bool t4_2, .int t4_3, .int s_1, .bool b2_1, .ints b2_2] => iterG N (st_dyad_Dot_0 N SZ66 SZ135 SZ17 SZ21 SZ8 SZ12 b_2 t26_1 t27_1 t4_2 t4_3 (fun r2 r3 r4 => κ.ext 0 (sx0_st_dyad_Dot_0.build [.bool t4_2, .int t4_3, .int r2, .bool r3, .ints r4]))) (t28_1, s_1, b2_1, b2_2)
 | _ => false
def anZ83 (N : Nat) (SZ66 : TSZ66) (SZ135 : TSZ135) (SZ17 : TSZ17) (SZ21 : TSZ21) (SZ8 : TSZ8) (SZ12 : TSZ12) : Nat -> Option Ann := fun b_ => cond (b_ == 0) (some ⟨⟨[1, 4, 6, 26, 27, 28], [], [(2, 1, some .u64)]⟩, [(0, ⟨[4, 6], [], []⟩)], some ⟨[4, 5], [], []⟩, some (mkHooks [(sh_st_dyad_Dot_0, hk_st_dyad_Dot_0 N SZ66 SZ135 SZ17 SZ21 SZ8 SZ12)])⟩) (none)
theorem eq_st_dyad_Dot_0 (N : Nat) (SZ66 : TSZ66) (SZ135 : TSZ135) (SZ17 : TSZ17) (SZ21 : TSZ21) (SZ8 : TSZ8) (SZ12 : TSZ12) (κ : K) (b_2 t26_1 : List Fl) (t27_1 t28_1 : Int) (t4_2 : Bool) (t4_3 s_1 : Int) (b2_1 : Bool) (b2_2 : List Int) : iter N (fun s k => codeV ⟨Pg, ofList [(84, (FZ66 SZ66)), (86, (FZ135 SZ135)), (87, (FZ17 SZ17)), (85, (orFs (FZ21 SZ21) (FZ8 SZ8) shFZ21)), (88, (FZ12 SZ12))], isref, N⟩ 0 (anZ83 N SZ66 SZ135 SZ17 SZ21 SZ8 SZ12) (lp Pg 44 0).2 (lp Pg 44 0).1 s (roundK Pg 0 ((anZ83 N SZ66 SZ135 SZ17 SZ21 SZ8 SZ12) (lp Pg 44 0).1) κ k)) (sh_st_dyad_Dot_0.build [.fls b_2, .fls t26_1, .int t27_1, .int t28_1, .bool t4_2, .int t4_3, .int s_1, .bool b2_1, .ints b2_2]) = iterG N (st_dyad_Dot_0 N SZ66 SZ135 SZ17 SZ21 SZ8 SZ12 b_2 t26_1 t27_1 t4_2 t4_3 (fun r2 r3 r4 => κ.ext 0 (sx0_st_dyad_Dot_0.build [.bool t4_2, .int t4_3, .int r2, .bool r3, .ints r4]))) (t28_1, s_1, b2_1, b2_2) :=
 iter_tr (fun (v_ : Int × Int × Bool × List Int) => sh_st_dyad_Dot_0.build [.fls b_2, .fls t26_1, .int t27_1, .int v_.1, .bool t4_2, .int t4_3, .int v_.2.1, .bool v_.2.2.1, .ints v_.2.2.2]) (fun v_ K_ => by obtain ⟨t28_1, s_1, b2_1, b2_2⟩ := v_; kernel_rfl) N (t28_1, s_1, b2_1, b2_2)
theorem hk1_st_dyad_Dot_0 (N : Nat) (SZ66 : TSZ66) (SZ135 : TSZ135) (SZ17 : TSZ17) (SZ21 : TSZ21) (SZ8 : TSZ8) (SZ12 : TSZ12) : HookFor ⟨Pg, ofList [(84, (FZ66 SZ66)), (86, (FZ135 SZ135)), (87, (FZ17 SZ17)), (85, (orFs (FZ21 SZ21) (FZ8 SZ8) shFZ21)), (88, (FZ12 SZ12))], isref, N⟩ 0 (anZ83 N SZ66 SZ135 SZ17 SZ21 SZ8 SZ12) (lp Pg 44 0) (sh_st_dyad_Dot_0, hk_st_dyad_Dot_0 N SZ66 SZ135 SZ17 SZ21 SZ8 SZ12) := by
 intro a κ h
 simp only at h
 unfold hk_st_dyad_Dot_0 at h
 split at h
 ·exact (eq_st_dyad_Dot_0 _ _ _ _ _ _ _ _ _ _ _ _ _ _ _ _ _).trans h
 ·cases h
theorem ho_dyad_Dot_0 (N : Nat) (SZ66 : TSZ66) (SZ135 : TSZ135) (SZ17 : TSZ17) (SZ21 : TSZ21) (SZ8 : TSZ8) (SZ12 : TSZ12) : HookOk ⟨Pg, ofList [(84, (FZ66 SZ66)), (86, (FZ135 SZ135)), (87, (FZ17 SZ17)), (85, (orFs (FZ21 SZ21) (FZ8 SZ8) shFZ21)), (88, (FZ12 SZ12))], isref, N⟩ 0 (anZ83 N SZ66 SZ135 SZ17 SZ21 SZ8 SZ12) (lp Pg 44 0) :=
 hooks_ok [(sh_st_dyad_Dot_0, hk_st_dyad_Dot_0 N SZ66 SZ135 SZ17 SZ21 SZ8 SZ12)] (by kernel_rfl) ⟨hk1_st_dyad_Dot_0 _ _ _ _ _ _ _, trivial⟩
theorem eqZ83 (N : Nat) (SZ66 : TSZ66) (SZ135 : TSZ135) (SZ17 : TSZ17) (SZ21 : TSZ21) (SZ8 : TSZ8) (SZ12 : TSZ12) (a b : List Fl) (c_ : V -> List Blk -> Bool) : bodyV ⟨Pg, ofList [(84, (FZ66 SZ66)), (86, (FZ135 SZ135)), (87, (FZ17 SZ17)), (85, (orFs (FZ21 SZ21) (FZ8 SZ8) shFZ21)), (88, (FZ12 SZ12))], isref, N⟩ (anZ83 N SZ66 SZ135 SZ17 SZ21 SZ8 SZ12) 44 (shFZ83.args [.fls a, .fls b]) [] c_ = GZ83 N SZ66 SZ135 SZ17 SZ21 SZ8 SZ12 a b (fun r0 r1 r2 => c_ (.tup [.agg [.bool r0, .nil, .int .i64 r1], .int .i64 r2]) []) (fun r0 r1 r2 r3 => c_ (.tup [.agg [.bool r0, .slw 0, .int .i64 r1], .int .i64 r2]) [⟨87, 1, .ints .u32 r3⟩]) := by kernel_rfl
theorem goodZ83 (N : Nat) (SZ66 : TSZ66) (SZ135 : TSZ135) (SZ17 : TSZ17) (SZ21 : TSZ21) (SZ8 : TSZ8) (SZ12 : TSZ12) (hZ66 : GoodF Pg 84 (FZ66 SZ66)) (hZ135 : GoodF Pg 86 (FZ135 SZ135)) (hZ17 : GoodF Pg 87 (FZ17 SZ17)) (hZ21 : GoodF Pg 85 (FZ21 SZ21)) (hZ8 : GoodF Pg 85 (FZ8 SZ8)) (hZ12 : GoodF Pg 88 (FZ12 SZ12)) : GoodF Pg 44 (FZ83 (GZ83 N SZ66 SZ135 SZ17 SZ21 SZ8 SZ12)) := by
 refine good_fs (cx := ⟨Pg, ofList [(84, (FZ66 SZ66)), (86, (FZ135 SZ135)), (87, (FZ17 SZ17)), (85, (orFs (FZ21 SZ21) (FZ8 SZ8) shFZ21)), (88, (FZ12 SZ12))], isref, N⟩) (ofList_cons hZ66 (ofList_cons hZ135 (ofList_cons hZ17 (ofList_cons (good_or hZ21 hZ8) (ofList_cons hZ12 (ofList_nil _)))))) shFZ83 (spZ83 (GZ83 N SZ66 SZ135 SZ17 SZ21 SZ8 SZ12)) (anZ83 N SZ66 SZ135 SZ17 SZ21 SZ8 SZ12) 1 0 (by kernel_rfl) (fun i_ hi_ => by
  match i_, hi_ with
  | 0, _ => exact ho_dyad_Dot_0 _ _ _ _ _ _ _
  | (q + 1), h => omega) ?_
 intro a k h
 unfold spZ83 at h
 split at h
 ·exact ⟨[], rfl, rfl, (eqZ83 _ _ _ _ _ _ _ _ _ _).trans h⟩
 ·cases h
def anZ113 (N : Nat) : Nat -> Option Ann := fun b_ => none
theorem eqZ113 (N : Nat) (d_0 : Bool) (d_1 : List Int) (d_2 : Int) (c_ : V -> List Blk -> Bool) : bodyV ⟨Pg, ofList [], isref, N⟩ (anZ113 N) 92 (shFZ113.args [.bool d_0, .ints d_1, .int d_2]) [] c_ = GZ113 N d_0 d_1 d_2 (fun r0 => c_ (.bool r0) []) := by kernel_rfl
theorem goodZ113 (N : Nat) : GoodF Pg 92 (FZ113 (GZ113 N)) := by
 refine good_fs (cx := ⟨Pg, ofList [], isref, N⟩) (ofList_nil _) shFZ113 (spZ113 (GZ113 N)) (anZ113 N) 0 0 (by kernel_rfl) (fun i_ hi_ => by omega) ?_
 intro a k h
 unfold spZ113 at h
 split at h
 ·exact ⟨[], rfl, rfl, (eqZ113 _ _ _ _ _).trans h⟩
 ·cases h
def anZ42 (N : Nat) (SZ97 : TSZ97) (SZ4 : TSZ4) : Nat -> Option Ann := fun b_ => none
theorem eqZ42 (N : Nat) (SZ97 : TSZ97) (SZ4 : TSZ4) (n : Int) (b : Bool) (c_ : V -> List Blk -> Bool) : bodyZ ⟨Pg, ofList [(169, (FZ97 SZ97)), (139, (FZ4 SZ4))], isref, N⟩ (anZ42 N SZ97 SZ4) 141 (shFZ42.args [.int n, .bool b]) [⟨126, 1, .cells [.bool b, .nil]⟩] c_ = GZ42 N SZ97 SZ4 n b (fun r0 r1 => c_ (.ptr 0 0) [⟨126, 1, .cells [.bool r0, .roi .u64 r1]⟩]) := by kernel_rfl
theorem goodZ42 (N : Nat) (SZ97 : TSZ97) (SZ4 : TSZ4) (hZ97 : GoodF Pg 169 (FZ97 SZ97)) (hZ4 : GoodF Pg 139 (FZ4 SZ4)) : GoodF Pg 141 (FZ42 (GZ42 N SZ97 SZ4)) := by
 refine good_fsZ (cx := ⟨Pg, ofList [(169, (FZ97 SZ97)), (139, (FZ4 SZ4))], isref, N⟩) (ofList_cons hZ97 (ofList_cons hZ4 (ofList_nil _))) shFZ42 (spZ42 (GZ42 N SZ97 SZ4)) (anZ42 N SZ97 SZ4) 0 1 (by kernel_rfl) (fun i_ hi_ => by omega) ?_
 intro a k h
 unfold spZ42 at h
 split at h
 ·exact ⟨[_], rfl, rfl, (eqZ42 _ _ _ _ _ _).trans h⟩
 ·cases h
def anZ41 (N : Nat) : Nat -> Option Ann := fun b_ => none
theorem eqZ41 (N : Nat) (neg : Bool) (abs_0 abs_1 : Nat) (b : Bool) (b_1 b_2 : List Int) (c_ : V -> List Blk -> Bool) : bodyZ ⟨Pg, ofList [], isref, N⟩ (anZ41 N) 139 (shFZ41.args [.bool neg, .nat abs_0, .nat abs_1, .bool b, .ints b_1, .ints b_2]) [⟨126, 1, .cells [.bool b, .roi .u64 b_1]⟩, ⟨22, 1, .ints .u64 b_2⟩] c_ = GZ41 N neg abs_0 abs_1 b b_1 b_2 (fun r0 => c_ (.ptr 0 0) [⟨126, 1, .cells [.bool r0, .sl 1 abs_0 abs_1]⟩, ⟨22, 1, .ints .u64 b_2⟩]) := by kernel_rfl
theorem goodZ41 (N : Nat) : GoodF Pg 139 (FZ41 (GZ41 N)) := by
 refine good_fsZ (cx := ⟨Pg, ofList [], isref, N⟩) (ofList_nil _) shFZ41 (spZ41 (GZ41 N)) (anZ41 N) 0 2 (by kernel_rfl) (fun i_ hi_ => by omega) ?_
 intro a k h
 unfold spZ41 at h
 split at h
 ·exact ⟨[_, _], rfl, rfl, (eqZ41 _ _ _ _ _ _ _ _).trans h⟩
 ·cases h
def sh_st_big_Int_Or_p0p0p1rr_0 : StSh := ⟨(.ptr 0 0 :: (.ptr 0 0 :: (.ptr 1 0 :: (sqs 4 (.slw 2 :: (sqs 14 (.int .i64 :: (.int .i64 :: (sqs 23 []))))))))), [some (126, 1, .cells [.bool, .roi .u64]), some (126, 1, .cells [.bool, .roi .u64]), some (22, 1, .ints .u64)]⟩
def sx0_st_big_Int_Or_p0p0p1rr_0 : StSh := ⟨(.ptr 0 0 :: (sqs 6 (.slw 2 :: (sqs 39 [])))), [some (126, 1, .cells [.bool, .roi .u64]), some (126, 1, .cells [.bool, .roi .u64]), some (22, 1, .ints .u64)]⟩
def hk_st_big_Int_Or_p0p0p1rr_0 (N : Nat) (SZ18 : TSZ18) (SZ5 : TSZ5) (SZ41 : TSZ41) : List Atom -> K -> Bool := fun a_ κ => match a_ with
 | [.int t22, .int t23, .bool z, .ints z_1, .bool y, .ints y_1, .ints r] => iterG N (stZ168 N SZ18 SZ5 SZ41 t22 z z_1 y y_1 (fun r4 => κ.ext 0 (sx0_st_big_Int_Or_p0p0p1rr_0.build [.bool z, .ints z_1, .bool y, .ints y_1, .ints r4]))) (t23, r)
 | _ => false
def anZ30 (N : Nat) (SZ18 : TSZ18) (SZ5 : TSZ5) (SZ41 : TSZ41) : Nat -> Option Ann := fun b_ => cond (b_ == 0) (some ⟨⟨[0, 1, 2, 7, 22, 23], [], []⟩, [(0, ⟨[0, 7], [], []⟩)], some ⟨[6], [], []⟩, some (mkHooks [(sh_st_big_Int_Or_p0p0p1rr_0, hk_st_big_Int_Or_p0p0p1rr_0 N SZ18 SZ5 SZ41)])⟩) (none)
theorem eq_st_big_Int_Or_p0p0p1rr_0 (N : Nat) (SZ18 : TSZ18) (SZ5 : TSZ5) (SZ41 : TSZ41) (κ : K) (t22 t23 : Int) (z : Bool) (z_1 : List Int) (y : Bool) (y_1 r : List Int) : iter N (fun s k => codeV ⟨Pg, ofList [(170, (FZ18 SZ18)), (167, (FZ5 SZ5)), (139, (FZ41 SZ41))], isref, N⟩ 2 (anZ30 N SZ18 SZ5 SZ41) (lp Pg 142 0).2 (lp Pg 142 0).1 s (roundK Pg 2 ((anZ30 N SZ18 SZ5 SZ41) (lp Pg 142 0).1) κ k)) (sh_st_big_Int_Or_p0p0p1rr_0.build [.int t22, .int t23, .bool z, .ints z_1, .bool y, .ints y_1, .ints r]) = iterG N (stZ168 N SZ18 SZ5 SZ41 t22 z z_1 y y_1 (fun r4 => κ.ext 0 (sx0_st_big_Int_Or_p0p0p1rr_0.build [.bool z, .ints z_1, .bool y, .ints y_1, .ints r4]))) (t23, r) :=
 iter_tr (fun (v_ : Int × List Int) => sh_st_big_Int_Or_p0p0p1rr_0.build [.int t22, .int v_.1, .bool z, .ints z_1, .bool y, .ints y_1, .ints v_.2]) (fun v_ K_ => by obtain ⟨t23, r⟩ := v_; kernel_rfl) N (t23, r)
theorem hk1_st_big_Int_Or_p0p0p1rr_0 (N : Nat) (SZ18 : TSZ18) (SZ5 : TSZ5) (SZ41 : TSZ41) : HookFor ⟨Pg, ofList [(170, (FZ18 SZ18)), (167, (FZ5 SZ5)), (139, (FZ41 SZ41))], isref, N⟩ 2 (anZ30 N SZ18 SZ5 SZ41) (lp Pg 142 0) (sh_st_big_Int_Or_p0p0p1rr_0, hk_st_big_Int_Or_p0p0p1rr_0 N SZ18 SZ5 SZ41) := by
 intro a κ h
 simp only at h
 unfold hk_st_big_Int_Or_p0p0p1rr_0 at h
 split at h
 ·exact (eq_st_big_Int_Or_p0p0p1rr_0 _ _ _ _ _ _ _ _ _ _ _ _).trans h
 ·cases h
theorem ho_big_Int_Or_p0p0p1rr_0 (N : Nat) (SZ18 : TSZ18) (SZ5 : TSZ5) (SZ41 : TSZ41) : HookOk ⟨Pg, ofList [(170, (FZ18 SZ18)), (167, (FZ5 SZ5)), (139, (FZ41 SZ41))], isref, N⟩ 2 (anZ30 N SZ18 SZ5 SZ41) (lp Pg 142 0) :=
 hooks_ok [(sh_st_big_Int_Or_p0p0p1rr_0, hk_st_big_Int_Or_p0p0p1rr_0 N SZ18 SZ5 SZ41)] (by kernel_rfl) ⟨hk1_st_big_Int_Or_p0p0p1rr_0 _ _ _ _, trivial⟩
theorem eqZ30 (N : Nat) (SZ18 : TSZ18) (SZ5 : TSZ5) (SZ41 : TSZ41) (b : Bool) (b_1 : List Int) (b_2 : Bool) (b_3 : List Int) (c_ : V -> List Blk -> Bool) : bodyZ ⟨Pg, ofList [(170, (FZ18 SZ18)), (167, (FZ5 SZ5)), (139, (FZ41 SZ41))], isref, N⟩ (anZ30 N SZ18 SZ5 SZ41) 142 (shFZ30.args [.bool b, .ints b_1, .bool b_2, .ints b_3]) [⟨126, 1, .cells [.bool b, .roi .u64 b_1]⟩, ⟨126, 1, .cells [.bool b_2, .roi .u64 b_3]⟩] c_ = GZ30 N SZ18 SZ5 SZ41 b b_1 b_2 b_3 (fun r0 r1 => c_ (.ptr 0 0) [⟨126, 1, .cells [.bool r0, .roi .u64 r1]⟩, ⟨126, 1, .cells [.bool b_2, .roi .u64 b_3]⟩]) := by kernel_rfl
theorem goodZ30 (N : Nat) (SZ18 : TSZ18) (SZ5 : TSZ5) (SZ41 : TSZ41) (hZ18 : GoodF Pg 170 (FZ18 SZ18)) (hZ5 : GoodF Pg 167 (FZ5 SZ5)) (hZ41 : GoodF Pg 139 (FZ41 SZ41)) : GoodF Pg 142 (FZ30 (GZ30 N SZ18 SZ5 SZ41)) := by
 refine good_fsZ (cx := ⟨Pg, ofList [(170, (FZ18 SZ18)), (167, (FZ5 SZ5)), (139, (FZ41 SZ41))], isref, N⟩) (ofList_cons hZ18 (ofList_cons hZ5 (ofList_cons hZ41 (ofList_nil _)))) shFZ30 (spZ30 (GZ30 N SZ18 SZ5 SZ41)) (anZ30 N SZ18 SZ5 SZ41) 1 2 (by kernel_rfl) (fun i_ hi_ => by
  match i_, hi_ with
  | 0, _ => exact ho_big_Int_Or_p0p0p1rr_0 _ _ _ _
  | (q + 1), h => omega) ?_
 intro a k h
 unfold spZ30 at h
 split at h
 ·exact ⟨[_, _], rfl, rfl, (eqZ30 _ _ _ _ _ _ _ _ _).trans h⟩
 ·cases h
def anZ43 (N : Nat) (SZ97 : TSZ97) (SZ31 : TSZ31) : Nat -> Option Ann := fun b_ => none
theorem eqZ43 (N : Nat) (SZ97 : TSZ97) (SZ31 : TSZ31) (n : Int) (b : Bool) (b_1 : List Int) (c_ : V -> List Blk -> Bool) : bodyZ ⟨Pg, ofList [(169, (FZ97 SZ97)), (139, (FZ31 SZ31))], isref, N⟩ (anZ43 N SZ97 SZ31) 141 (shFZ43.args [.int n, .bool b, .ints b_1]) [⟨126, 1, .cells [.bool b, .roi .u64 b_1]⟩] c_ = GZ43 N SZ97 SZ31 n b b_1 (fun r0 r1 => c_ (.ptr 0 0) [⟨126, 1, .cells [.bool r0, .roi .u64 r1]⟩]) := by kernel_rfl
theorem goodZ43 (N : Nat) (SZ97 : TSZ97) (SZ31 : TSZ31) (hZ97 : GoodF Pg 169 (FZ97 SZ97)) (hZ31 : GoodF Pg 139 (FZ31 SZ31)) : GoodF Pg 141 (FZ43 (GZ43 N SZ97 SZ31)) := by
 refine good_fsZ (cx := ⟨Pg, ofList [(169, (FZ97 SZ97)), (139, (FZ31 SZ31))], isref, N⟩) (ofList_cons hZ97 (ofList_cons hZ31 (ofList_nil _))) shFZ43 (spZ43 (GZ43 N SZ97 SZ31)) (anZ43 N SZ97 SZ31) 0 1 (by kernel_rfl) (fun i_ hi_ => by omega) ?_
 intro a k h
 unfold spZ43 at h
 split at h
 ·exact ⟨[_], rfl, rfl, (eqZ43 _ _ _ _ _ _ _).trans h⟩
 ·cases h
def sh_st_dyad_take_0 : StSh := ⟨(.any :: (.ptr 0 0 :: (.ptr 1 0 :: (.ptr 2 0 :: (.int .i64 :: (sqs 31 [])))))), [some (84, 1, .cells [.bool, .roi .u32, .int .i64]), some (128, 1, .cells [.val, .int .i64]), some (126, 1, .cells [.bool, .roi .u64])]⟩
def sx0_st_dyad_take_0 : StSh := ⟨(.any :: (.ptr 0 0 :: (.ptr 1 0 :: (.ptr 2 0 :: (sqs 32 []))))), [some (84, 1, .cells [.bool, .roi .u32, .int .i64]), some (128, 1, .cells [.val, .int .i64]), some (126, 1, .cells [.bool, .roi .u64])]⟩
def hk_st_dyad_take_0 (N : Nat) (SZ42 : TSZ42) (SZ55 : TSZ55) (SZ30 : TSZ30) (SZ43 : TSZ43) (SZ25 : TSZ25) : List Atom -> K -> Bool := fun a_ κ => match a_ with
 | [.int i_1, .bool d_5, .ints d_6, .int d_7, .val t2_2, .int t2_3, .bool n_1, .ints n_2] => iterG N (st_dyad_take_0 N SZ42 SZ55 SZ30 SZ43 SZ25 d_5 d_6 d_7 t2_2 t2_3 (fun r5 r6 => κ.ext 0 (sx0_st_dyad_take_0.build [.bool d_5, .ints d_6, .int d_7, .val t2_2, .int t2_3, .bool r5, .ints r6]))) (i_1, n_1, n_2)
 | _ => false
def anZ100 (N : Nat) (SZ42 : TSZ42) (SZ55 : TSZ55) (SZ30 : TSZ30) (SZ43 : TSZ43) (SZ25 : TSZ25) : Nat -> Option Ann := fun b_ => cond (b_ == 0) (some ⟨⟨[1, 2, 3, 4], [], [(2, 1, some .u64)]⟩, [(0, ⟨[1, 2, 3], [], []⟩)], some ⟨[2], [], []⟩, some (mkHooks [(sh_st_dyad_take_0, hk_st_dyad_take_0 N SZ42 SZ55 SZ30 SZ43 SZ25)])⟩) (none)
theorem eq_st_dyad_take_0 (N : Nat) (SZ42 : TSZ42) (SZ55 : TSZ55) (SZ30 : TSZ30) (SZ43 : TSZ43) (SZ25 : TSZ25) (κ : K) (i_1 : Int) (d_5 : Bool) (d_6 : List Int) (d_7 : Int) (t2_2 : Value) (t2_3 : Int) (n_1 : Bool) (n_2 : List Int) : iter N (fun s k => codeV ⟨Pg, ofList [(141, (orFs (FZ42 SZ42) (FZ43 SZ43) shFZ42)), (134, (FZ55 SZ55)), (142, (FZ30 SZ30)), (91, (FZ25 SZ25))], isref, N⟩ 0 (anZ100 N SZ42 SZ55 SZ30 SZ43 SZ25) (lp Pg 93 0).2 (lp Pg 93 0).1 s (roundK Pg 0 ((anZ100 N SZ42 SZ55 SZ30 SZ43 SZ25) (lp Pg 93 0).1) κ k)) (sh_st_dyad_take_0.build [.int i_1, .bool d_5, .ints d_6, .int d_7, .val t2_2, .int t2_3, .bool n_1, .ints n_2]) = iterG N (st_dyad_take_0 N SZ42 SZ55 SZ30 SZ43 SZ25 d_5 d_6 d_7 t2_2 t2_3 (fun r5 r6 => κ.ext 0 (sx0_st_dyad_take_0.build [.bool d_5, .ints d_6, .int d_7, .val t2_2, .int t2_3, .bool r5, .ints r6]))) (i_1, n_1, n_2) :=
 iter_tr (fun (v_ : Int × Bool × List Int) => sh_st_dyad_take_0.build [.int v_.1, .bool d_5, .ints d_6, .int d_7, .val t2_2, .int t2_3, .bool v_.2.1, .ints v_.2.2]) (fun v_ K_ => by obtain ⟨i_1, n_1, n_2⟩ := v_; kernel_rfl) N (i_1, n_1, n_2)
theorem hk1_st_dyad_take_0 (N : Nat) (SZ42 : TSZ42) (SZ55 : TSZ55) (SZ30 : TSZ30) (SZ43 : TSZ43) (SZ25 : TSZ25) : HookFor ⟨Pg, ofList [(141, (orFs (FZ42 SZ42) (FZ43 SZ43) shFZ42)), (134, (FZ55 SZ55)), (142, (FZ30 SZ30)), (91, (FZ25 SZ25))], isref, N⟩ 0 (anZ100 N SZ42 SZ55 SZ30 SZ43 SZ25) (lp Pg 93 0) (sh_st_dyad_take_0, hk_st_dyad_take_0 N SZ42 SZ55 SZ30 SZ43 SZ25) := by
 intro a κ h
 simp only at h
 unfold hk_st_dyad_take_0 at h
 split at h
 ·exact (eq_st_dyad_take_0 _ _ _ _ _ _ _ _ _ _ _ _ _ _ _).trans h
 ·cases h
theorem ho_dyad_take_0 (N : Nat) (SZ42 : TSZ42) (SZ55 : TSZ55) (SZ30 : TSZ30) (SZ43 : TSZ43) (SZ25 : TSZ25) : HookOk ⟨Pg, ofList [(141, (orFs (FZ42 SZ42) (FZ43 SZ43) shFZ42)), (134, (FZ55 SZ55)), (142, (FZ30 SZ30)), (91, (FZ25 SZ25))], isref, N⟩ 0 (anZ100 N SZ42 SZ55 SZ30 SZ43 SZ25) (lp Pg 93 0) :=
 hooks_ok [(sh_st_dyad_take_0, hk_st_dyad_take_0 N SZ42 SZ55 SZ30 SZ43 SZ25)] (by kernel_rfl) ⟨hk1_st_dyad_take_0 _ _ _ _ _ _, trivial⟩
theorem eqZ100 (N : Nat) (SZ42 : TSZ42) (SZ55 : TSZ55) (SZ30 : TSZ30) (SZ43 : TSZ43) (SZ25 : TSZ25) (d_0 : Bool) (d_1 : List Int) (d_2 : Int) (c_ : V -> List Blk -> Bool) : bodyV ⟨Pg, ofList [(141, (orFs (FZ42 SZ42) (FZ43 SZ43) shFZ42)), (134, (FZ55 SZ55)), (142, (FZ30 SZ30)), (91, (FZ25 SZ25))], isref, N⟩ (anZ100 N SZ42 SZ55 SZ30 SZ43 SZ25) 93 (shFZ100.args [.bool d_0, .ints d_1, .int d_2]) [] c_ = GZ100 N SZ42 SZ55 SZ30 SZ43 SZ25 d_0 d_1 d_2 (fun r1 r2 => c_ (.agg [.ptr 0 0, .int .i64 d_2]) [⟨126, 1, .cells [.bool r1, .roi .u64 r2]⟩]) := by kernel_rfl
theorem goodZ100 (N : Nat) (SZ42 : TSZ42) (SZ55 : TSZ55) (SZ30 : TSZ30) (SZ43 : TSZ43) (SZ25 : TSZ25) (hZ42 : GoodF Pg 141 (FZ42 SZ42)) (hZ55 : GoodF Pg 134 (FZ55 SZ55)) (hZ30 : GoodF Pg 142 (FZ30 SZ30)) (hZ43 : GoodF Pg 141 (FZ43 SZ43)) (hZ25 : GoodF Pg 91 (FZ25 SZ25)) : GoodF Pg 93 (FZ100 (GZ100 N SZ42 SZ55 SZ30 SZ43 SZ25)) := by
 refine good_fs (cx := ⟨Pg, ofList [(141, (orFs (FZ42 SZ42) (FZ43 SZ43) shFZ42)), (134, (FZ55 SZ55)), (142, (FZ30 SZ30)), (91, (FZ25 SZ25))], isref, N⟩) (ofList_cons (good_or hZ42 hZ43) (ofList_cons hZ55 (ofList_cons hZ30 (ofList_cons hZ25 (ofList_nil _))))) shFZ100 (spZ100 (GZ100 N SZ42 SZ55 SZ30 SZ43 SZ25)) (anZ100 N SZ42 SZ55 SZ30 SZ43 SZ25) 1 0 (by kernel_rfl) (fun i_ hi_ => by
  match i_, hi_ with
  | 0, _ => exact ho_dyad_take_0 _ _ _ _ _ _
  | (q + 1), h => omega) ?_
 intro a k h
 unfold spZ100 at h
 split at h
 ·exact ⟨[], rfl, rfl, (eqZ100 _ _ _ _ _ _ _ _ _ _).trans h⟩
 ·cases h
def anZ39 (N : Nat) (SZ73 : TSZ73) (SZ4 : TSZ4) : Nat -> Option Ann := fun b_ => none
theorem eqZ39 (N : Nat) (SZ73 : TSZ73) (SZ4 : TSZ4) (b b_1 : Bool) (b_2 : List Int) (c_ : V -> List Blk -> Bool) : bodyZ ⟨Pg, ofList [(140, (FZ73 SZ73)), (139, (FZ4 SZ4))], isref, N⟩ (anZ39 N SZ73 SZ4) 91 (shFZ39.args [.bool b, .bool b_1, .ints b_2]) [⟨126, 1, .cells [.bool b, .nil]⟩, ⟨126, 1, .cells [.bool b_1, .roi .u64 b_2]⟩] c_ = GZ39 N SZ73 SZ4 b b_1 b_2 (fun r0 r1 => c_ (.ptr 0 0) [⟨126, 1, .cells [.bool r0, .roi .u64 r1]⟩, ⟨126, 1, .cells [.bool b_1, .roi .u64 b_2]⟩]) := by kernel_rfl
theorem goodZ39 (N : Nat) (SZ73 : TSZ73) (SZ4 : TSZ4) (hZ73 : GoodF Pg 140 (FZ73 SZ73)) (hZ4 : GoodF Pg 139 (FZ4 SZ4)) : GoodF Pg 91 (FZ39 (GZ39 N SZ73 SZ4)) := by
 refine good_fsZ (cx := ⟨Pg, ofList [(140, (FZ73 SZ73)), (139, (FZ4 SZ4))], isref, N⟩) (ofList_cons hZ73 (ofList_cons hZ4 (ofList_nil _))) shFZ39 (spZ39 (GZ39 N SZ73 SZ4)) (anZ39 N SZ73 SZ4) 0 2 (by kernel_rfl) (fun i_ hi_ => by omega) ?_
 intro a k h
 unfold spZ39 at h
 split at h
 ·exact ⟨[_, _], rfl, rfl, (eqZ39 _ _ _ _ _ _ _).trans h⟩
 ·cases h
def anZ67 (N : Nat) (SZ39 : TSZ39) (SZ8 : TSZ8) : Nat -> Option Ann := fun b_ => none
theorem eqZ67 (N : Nat) (SZ39 : TSZ39) (SZ8 : TSZ8) (x y : Int) (b : Bool) (b_1 : List Int) (b_2 : Bool) (b_3 : List Int) (c_ : V -> List Blk -> Bool) : bodyV ⟨Pg, ofList [(91, (FZ39 SZ39)), (85, (FZ8 SZ8))], isref, N⟩ (anZ67 N SZ39 SZ8) 90 (shFZ67.args [.int x, .int y, .bool b, .ints b_1, .bool b_2, .ints b_3]) [⟨126, 1, .cells [.bool b, .roi .u64 b_1]⟩, ⟨126, 1, .cells [.bool b_2, .roi .u64 b_3]⟩] c_ = GZ67 N SZ39 SZ8 x y b b_1 b_2 b_3 (fun r0 r5 r6 => c_ (.agg [.ptr 2 0, .int .i64 r0]) [⟨126, 1, .cells [.bool b, .roi .u64 b_1]⟩, ⟨126, 1, .cells [.bool b_2, .roi .u64 b_3]⟩, ⟨126, 1, .cells [.bool r5, .roi .u64 r6]⟩]) (c_ (.agg [.ptr 0 0, .int .i64 x]) [⟨126, 1, .cells [.bool b, .roi .u64 b_1]⟩, ⟨126, 1, .cells [.bool b_2, .roi .u64 b_3]⟩]) := by kernel_rfl
theorem goodZ67 (N : Nat) (SZ39 : TSZ39) (SZ8 : TSZ8) (hZ39 : GoodF Pg 91 (FZ39 SZ39)) (hZ8 : GoodF Pg 85 (FZ8 SZ8)) : GoodF Pg 90 (FZ67 (GZ67 N SZ39 SZ8)) := by
 refine good_fs (cx := ⟨Pg, ofList [(91, (FZ39 SZ39)), (85, (FZ8 SZ8))], isref, N⟩) (ofList_cons hZ39 (ofList_cons hZ8 (ofList_nil _))) shFZ67 (spZ67 (GZ67 N SZ39 SZ8)) (anZ67 N SZ39 SZ8) 0 2 (by kernel_rfl) (fun i_ hi_ => by omega) ?_
 intro a k h
 unfold spZ67 at h
 split at h
 ·exact ⟨[_, _], rfl, rfl, (eqZ67 _ _ _ _ _ _ _ _ _ _).trans h⟩
 ·cases h
def anZ109 (N : Nat) (SZ113 : TSZ113) (SZ100 : TSZ100) (SZ67 : TSZ67) (SZ12 : TSZ12) : Nat -> Option Ann := fun b_ => none
theorem eqZ109 (N : Nat) (SZ113 : TSZ113) (SZ100 : TSZ100) (SZ67 : TSZ67) (SZ12 : TSZ12) (a_0 : Bool) (a_1 : List Int) (a_2 : Int) (b_0 : Bool) (b_1 : List Int) (b_2 : Int) (c_ : V -> List Blk -> Bool) : bodyV ⟨Pg, ofList [(92, (FZ113 SZ113)), (93, (FZ100 SZ100)), (90, (FZ67 SZ67)), (88, (FZ12 SZ12))], isref, N⟩ (anZ109 N SZ113 SZ100 SZ67 SZ12) 89 (shFZ109.args [.bool a_0, .ints a_1, .int a_2, .bool b_0, .ints b_1, .int b_2]) [] c_ = GZ109 N SZ113 SZ100 SZ67 SZ12 a_0 a_1 a_2 b_0 b_1 b_2 (fun r0 r1 r2 => c_ (.tup [.agg [.bool r0, .nil, .int .i64 r1], .int .i64 r2]) []) (fun r0 r1 r2 r3 => c_ (.tup [.agg [.bool r0, .slw 0, .int .i64 r1], .int .i64 r2]) [⟨87, 1, .ints .u32 r3⟩]) := by kernel_rfl
theorem goodZ109 (N : Nat) (SZ113 : TSZ113) (SZ100 : TSZ100) (SZ67 : TSZ67) (SZ12 : TSZ12) (hZ113 : GoodF Pg 92 (FZ113 SZ113)) (hZ100 : GoodF Pg 93 (FZ100 SZ100)) (hZ67 : GoodF Pg 90 (FZ67 SZ67)) (hZ12 : GoodF Pg 88 (FZ12 SZ12)) : GoodF Pg 89 (FZ109 (GZ109 N SZ113 SZ100 SZ67 SZ12)) := by
 refine good_fs (cx := ⟨Pg, ofList [(92, (FZ113 SZ113)), (93, (FZ100 SZ100)), (90, (FZ67 SZ67)), (88, (FZ12 SZ12))], isref, N⟩) (ofList_cons hZ113 (ofList_cons hZ100 (ofList_cons hZ67 (ofList_cons hZ12 (ofList_nil _))))) shFZ109 (spZ109 (GZ109 N SZ113 SZ100 SZ67 SZ12)) (anZ109 N SZ113 SZ100 SZ67 SZ12) 0 0 (by kernel_rfl) (fun i_ hi_ => by omega) ?_
 intro a k h
 unfold spZ109 at h
 split at h
 ·exact ⟨[], rfl, rfl, (eqZ109 _ _ _ _ _ _ _ _ _ _ _ _).trans h⟩
 ·cases h
def anZ84 (N : Nat) (SZ109 : TSZ109) : Nat -> Option Ann := fun b_ => none
theorem eqZ84 (N : Nat) (SZ109 : TSZ109) (a_0 : Bool) (a_1 : List Int) (a_2 : Int) (b_0 : Bool) (b_1 : List Int) (b_2 : Int) (c_ : V -> List Blk -> Bool) : bodyV ⟨Pg, ofList [(89, (FZ109 SZ109))], isref, N⟩ (anZ84 N SZ109) 45 (shFZ84.args [.bool a_0, .ints a_1, .int a_2, .bool b_0, .ints b_1, .int b_2]) [] c_ = GZ84 N SZ109 a_0 a_1 a_2 b_0 b_1 b_2 (fun r0 r1 r2 => c_ (.tup [.agg [.bool r0, .nil, .int .i64 r1], .int .i64 r2]) []) (fun r0 r1 r2 r3 => c_ (.tup [.agg [.bool r0, .slw 0, .int .i64 r1], .int .i64 r2]) [⟨87, 1, .ints .u32 r3⟩]) := by kernel_rfl
theorem goodZ84 (N : Nat) (SZ109 : TSZ109) (hZ109 : GoodF Pg 89 (FZ109 SZ109)) : GoodF Pg 45 (FZ84 (GZ84 N SZ109)) := by
 refine good_fs (cx := ⟨Pg, ofList [(89, (FZ109 SZ109))], isref, N⟩) (ofList_cons hZ109 (ofList_nil _)) shFZ84 (spZ84 (GZ84 N SZ109)) (anZ84 N SZ109) 0 0 (by kernel_rfl) (fun i_ hi_ => by omega) ?_
 intro a k h
 unfold spZ84 at h
 split at h
 ·exact ⟨[], rfl, rfl, (eqZ84 _ _ _ _ _ _ _ _ _).trans h⟩
 ·cases h
def anZ38 (N : Nat) (SZ113 : TSZ113) (SZ100 : TSZ100) (SZ39 : TSZ39) (SZ8 : TSZ8) (SZ7 : TSZ7) : Nat -> Option Ann := fun b_ => none
theorem eqZ38 (N : Nat) (SZ113 : TSZ113) (SZ100 : TSZ100) (SZ39 : TSZ39) (SZ8 : TSZ8) (SZ7 : TSZ7) (a_0 : Bool) (a_1 : List Int) (a_2 : Int) (b_0 : Bool) (b_1 : List Int) (b_2 : Int) (c_ : V -> List Blk -> Bool) : bodyV ⟨Pg, ofList [(92, (FZ113 SZ113)), (93, (FZ100 SZ100)), (91, (FZ39 SZ39)), (85, (FZ8 SZ8)), (94, (FZ7 SZ7))], isref, N⟩ (anZ38 N SZ113 SZ100 SZ39 SZ8 SZ7) 46 (shFZ38.args [.bool a_0, .ints a_1, .int a_2, .bool b_0, .ints b_1, .int b_2]) [] c_ = GZ38 N SZ113 SZ100 SZ39 SZ8 SZ7 a_0 a_1 a_2 b_0 b_1 b_2 (fun r0 r1 => c_ (.tup [.int .i64 r0, .int .i64 r1]) []) := by kernel_rfl
theorem goodZ38 (N : Nat) (SZ113 : TSZ113) (SZ100 : TSZ100) (SZ39 : TSZ39) (SZ8 : TSZ8) (SZ7 : TSZ7) (hZ113 : GoodF Pg 92 (FZ113 SZ113)) (hZ100 : GoodF Pg 93 (FZ100 SZ100)) (hZ39 : GoodF Pg 91 (FZ39 SZ39)) (hZ8 : GoodF Pg 85 (FZ8 SZ8)) (hZ7 : GoodF Pg 94 (FZ7 SZ7)) : GoodF Pg 46 (FZ38 (GZ38 N SZ113 SZ100 SZ39 SZ8 SZ7)) := by
 refine good_fs (cx := ⟨Pg, ofList [(92, (FZ113 SZ113)), (93, (FZ100 SZ100)), (91, (FZ39 SZ39)), (85, (FZ8 SZ8)), (94, (FZ7 SZ7))], isref, N⟩) (ofList_cons hZ113 (ofList_cons hZ100 (ofList_cons hZ39 (ofList_cons hZ8 (ofList_cons hZ7 (ofList_nil _)))))) shFZ38 (spZ38 (GZ38 N SZ113 SZ100 SZ39 SZ8 SZ7)) (anZ38 N SZ113 SZ100 SZ39 SZ8 SZ7) 0 0 (by kernel_rfl) (fun i_ hi_ => by omega) ?_
 intro a k h
 unfold spZ38 at h
 split at h
 ·exact ⟨[], rfl, rfl, (eqZ38 _ _ _ _ _ _ _ _ _ _ _ _ _).trans h⟩
 ·cases h
def anZ54 (N : Nat) (SZ10 : TSZ10) (SZ51 : TSZ51) (SZ83 : TSZ83) (SZ84 : TSZ84) (SZ38 : TSZ38) : Nat -> Option Ann := fun b_ => none
def lsZ180 (d_ : List V) (u_ : List (Option Blk)) (q_0 q_1 q_2 q_3 : Fl) (b7 : List Int) (off_6 : Bool) (off_7 : Int) : St := ⟨(dqs d_ 0 7 (.ptr 8 0 :: (dqs d_ 7 39 []))), [(u_.getD 0 none), (u_.getD 1 none), (u_.getD 2 none), (u_.getD 3 none), (u_.getD 4 none), (u_.getD 5 none), (u_.getD 6 none), some ⟨87, 1, .ints .u32 b7⟩, some ⟨84, 1, .cells [.bool off_6, .slw 7, .int .i64 off_7]⟩]⟩
def lsZ179 (d_ : List V) (u_ : List (Option Blk)) (q_0 q_1 q_2 q_3 : Fl) (off_4 : Bool) (off_5 : Int) : St := ⟨(dqs d_ 0 7 (.ptr 7 0 :: (dqs d_ 7 39 []))), [(u_.getD 0 none), (u_.getD 1 none), (u_.getD 2 none), (u_.getD 3 none), (u_.getD 4 none), (u_.getD 5 none), (u_.getD 6 none), some ⟨84, 1, .cells [.bool off_4, .nil, .int .i64 off_5]⟩]⟩
def lsZ170 (d_ : List V) (u_ : List (Option Blk)) (q_0 q_1 q_2 q_3 : Fl) (b3 : List Int) (n_2 : Bool) (n_3 : Int) : St := ⟨(dqs d_ 0 4 (.ptr 4 0 :: (dqs d_ 4 42 []))), [(u_.getD 0 none), (u_.getD 1 none), (u_.getD 2 none), some ⟨87, 1, .ints .u32 b3⟩, some ⟨84, 1, .cells [.bool n_2, .slw 3, .int .i64 n_3]⟩]⟩
def lsZ178 (d_ : List V) (u_ : List (Option Blk)) (q_0 q_1 q_2 q_3 : Fl) (b6 : List Int) (off_2 : Bool) (off_3 : Int) : St := ⟨(dqs d_ 0 7 (.ptr 7 0 :: (dqs d_ 7 39 []))), [(u_.getD 0 none), (u_.getD 1 none), (u_.getD 2 none), (u_.getD 3 none), (u_.getD 4 none), (u_.getD 5 none), some ⟨87, 1, .ints .u32 b6⟩, some ⟨84, 1, .cells [.bool off_2, .slw 6, .int .i64 off_3]⟩]⟩
def lsZ177 (d_ : List V) (u_ : List (Option Blk)) (q_0 q_1 q_2 q_3 : Fl) (off : Bool) (off_1 : Int) : St := ⟨(dqs d_ 0 7 (.ptr 6 0 :: (dqs d_ 7 39 []))), [(u_.getD 0 none), (u_.getD 1 none), (u_.getD 2 none), (u_.getD 3 none), (u_.getD 4 none), (u_.getD 5 none), some ⟨84, 1, .cells [.bool off, .nil, .int .i64 off_1]⟩]⟩
def lsZ169 (d_ : List V) (u_ : List (Option Blk)) (q_0 q_1 q_2 q_3 : Fl) (n : Bool) (n_1 : Int) : St := ⟨(dqs d_ 0 4 (.ptr 3 0 :: (dqs d_ 4 42 []))), [(u_.getD 0 none), (u_.getD 1 none), (u_.getD 2 none), some ⟨84, 1, .cells [.bool n, .nil, .int .i64 n_1]⟩]⟩
theorem jnZ180 (N : Nat) (SZ10 : TSZ10) (SZ51 : TSZ51) (SZ83 : TSZ83) (SZ84 : TSZ84) (SZ38 : TSZ38) (d_ : List V) (u_ : List (Option Blk)) (q_0 q_1 q_2 q_3 : Fl) (b7 : List Int) (off_6 : Bool) (off_7 : Int) (c_ : V -> List Blk -> Bool) : codesV ⟨Pg, ofList [(42, (FZ10 SZ10)), (43, (FZ51 SZ51)), (44, (FZ83 SZ83)), (45, (FZ84 SZ84)), (46, (FZ38 SZ38))], isref, N⟩ 0 (anZ54 N SZ10 SZ51 SZ83 SZ84 SZ38) ((cds Pg 11).drop 11) 0 (lsZ180 d_ u_ q_0 q_1 q_2 q_3 b7 off_6 off_7) (finV Pg 11 0 c_) = JZ180 N SZ10 SZ51 SZ83 SZ84 SZ38 q_0 q_1 q_2 q_3 b7 off_6 off_7 (fun r0 => c_ (.bool r0) []) := by kernel_rfl
theorem jnZ179 (N : Nat) (SZ10 : TSZ10) (SZ51 : TSZ51) (SZ83 : TSZ83) (SZ84 : TSZ84) (SZ38 : TSZ38) (d_ : List V) (u_ : List (Option Blk)) (q_0 q_1 q_2 q_3 : Fl) (off_4 : Bool) (off_5 : Int) (c_ : V -> List Blk -> Bool) : codesV ⟨Pg, ofList [(42, (FZ10 SZ10)), (43, (FZ51 SZ51)), (44, (FZ83 SZ83)), (45, (FZ84 SZ84)), (46, (FZ38 SZ38))], isref, N⟩ 0 (anZ54 N SZ10 SZ51 SZ83 SZ84 SZ38) ((cds Pg 11).drop 11) 0 (lsZ179 d_ u_ q_0 q_1 q_2 q_3 off_4 off_5) (finV Pg 11 0 c_) = JZ179 N SZ10 SZ51 SZ83 SZ84 SZ38 q_0 q_1 q_2 q_3 off_4 off_5 (fun r0 => c_ (.bool r0) []) := by kernel_rfl
theorem hdZ170 (N : Nat) (SZ10 : TSZ10) (SZ51 : TSZ51) (SZ83 : TSZ83) (SZ84 : TSZ84) (SZ38 : TSZ38) (d_ : List V) (u_ : List (Option Blk)) (q_0 q_1 q_2 q_3 : Fl) (b3 : List Int) (n_2 : Bool) (n_3 : Int) (c_ : V -> List Blk -> Bool) (κn_ : St -> Bool) : codesV ⟨Pg, ofList [(42, (FZ10 SZ10)), (43, (FZ51 SZ51)), (44, (FZ83 SZ83)), (45, (FZ84 SZ84)), (46, (FZ38 SZ38))], isref, N⟩ 0 (anZ54 N SZ10 SZ51 SZ83 SZ84 SZ38) (sg Pg 11 7 4) 0 (lsZ170 d_ u_ q_0 q_1 q_2 q_3 b3 n_2 n_3) { (finV Pg 11 0 c_) with nrm := κn_ } = (SZ84 n_2 b3 n_3 false [1] 0 (fun cr_5 n12 n13 => (cond (n13 != 0) (c_ (.bool false) []) (κn_ (lsZ179 (dqs d_ 0 4 (.ptr 4 0 :: (.int .i64 n13 :: (.ptr 6 0 :: (dqs d_ 7 15 (.slw 5 :: (.agg [.bool false, .slw 5, .int .i64 0] :: (.tup [.agg [.bool cr_5, .nil, .int .i64 n12], .int .i64 n13] :: (.agg [.bool n_2, .slw 3, .int .i64 n_3] :: (.agg [.bool false, .slw 5, .int .i64 0] :: (.tup [.agg [.bool cr_5, .nil, .int .i64 n12], .int .i64 n13] :: (.agg [.bool cr_5, .nil, .int .i64 n12] :: (.int .i64 n13 :: (.int .i64 n13 :: (.bool false :: (dqs d_ 32 14 [])))))))))))))))) [(u_.getD 0 none), (u_.getD 1 none), (u_.getD 2 none), some ⟨87, 1, .ints .u32 b3⟩, some ⟨84, 1, .cells [.bool n_2, .slw 3, .int .i64 n_3]⟩, some ⟨87, 1, .ints .u32 [1]⟩, some ⟨84, 1, .cells [.bool false, .slw 5, .int .i64 0]⟩] q_0 q_1 q_2 q_3 cr_5 n12)))) (fun cr_6 n14 n15 nsr_2 => (cond (n15 != 0) (c_ (.bool false) []) (κn_ (lsZ180 (dqs d_ 0 4 (.ptr 4 0 :: (.int .i64 n15 :: (.ptr 6 0 :: (dqs d_ 7 15 (.slw 5 :: (.agg [.bool false, .slw 5, .int .i64 0] :: (.tup [.agg [.bool cr_6, .slw 7, .int .i64 n14], .int .i64 n15] :: (.agg [.bool n_2, .slw 3, .int .i64 n_3] :: (.agg [.bool false, .slw 5, .int .i64 0] :: (.tup [.agg [.bool cr_6, .slw 7, .int .i64 n14], .int .i64 n15] :: (.agg [.bool cr_6, .slw 7, .int .i64 n14] :: (.int .i64 n15 :: (.int .i64 n15 :: (.bool false :: (dqs d_ 32 14 [])))))))))))))))) [(u_.getD 0 none), (u_.getD 1 none), (u_.getD 2 none), some ⟨87, 1, .ints .u32 b3⟩, some ⟨84, 1, .cells [.bool n_2, .slw 3, .int .i64 n_3]⟩, some ⟨87, 1, .ints .u32 [1]⟩, some ⟨84, 1, .cells [.bool false, .slw 5, .int .i64 0]⟩] q_0 q_1 q_2 q_3 nsr_2 cr_6 n14))))) := by kernel_rfl
theorem jnZ170 (N : Nat) (SZ10 : TSZ10) (SZ51 : TSZ51) (SZ83 : TSZ83) (SZ84 : TSZ84) (SZ38 : TSZ38) (d_ : List V) (u_ : List (Option Blk)) (q_0 q_1 q_2 q_3 : Fl) (b3 : List Int) (n_2 : Bool) (n_3 : Int) (c_ : V -> List Blk -> Bool) : codesV ⟨Pg, ofList [(42, (FZ10 SZ10)), (43, (FZ51 SZ51)), (44, (FZ83 SZ83)), (45, (FZ84 SZ84)), (46, (FZ38 SZ38))], isref, N⟩ 0 (anZ54 N SZ10 SZ51 SZ83 SZ84 SZ38) ((cds Pg 11).drop 7) 0 (lsZ170 d_ u_ q_0 q_1 q_2 q_3 b3 n_2 n_3) (finV Pg 11 0 c_) = JZ170 N SZ10 SZ51 SZ83 SZ84 SZ38 q_0 q_1 q_2 q_3 b3 n_2 n_3 (fun r0 => c_ (.bool r0) []) := by
 rw [codesV_cut 7 4 11 rfl]
 refine (hdZ170 N SZ10 SZ51 SZ83 SZ84 SZ38 d_ u_ q_0 q_1 q_2 q_3 b3 n_2 n_3 c_ _).trans ?_
 simp only [jnZ179, jnZ180]
 kernel_rfl
theorem jnZ178 (N : Nat) (SZ10 : TSZ10) (SZ51 : TSZ51) (SZ83 : TSZ83) (SZ84 : TSZ84) (SZ38 : TSZ38) (d_ : List V) (u_ : List (Option Blk)) (q_0 q_1 q_2 q_3 : Fl) (b6 : List Int) (off_2 : Bool) (off_3 : Int) (c_ : V -> List Blk -> Bool) : codesV ⟨Pg, ofList [(42, (FZ10 SZ10)), (43, (FZ51 SZ51)), (44, (FZ83 SZ83)), (45, (FZ84 SZ84)), (46, (FZ38 SZ38))], isref, N⟩ 0 (anZ54 N SZ10 SZ51 SZ83 SZ84 SZ38) ((cds Pg 11).drop 11) 0 (lsZ178 d_ u_ q_0 q_1 q_2 q_3 b6 off_2 off_3) (finV Pg 11 0 c_) = JZ178 N SZ10 SZ51 SZ83 SZ84 SZ38 q_0 q_1 q_2 q_3 b6 off_2 off_3 (fun r0 => c_ (.bool r0) []) := by kernel_rfl
theorem jnZ177 (N : Nat) (SZ10 : TSZ10) (SZ51 : TSZ51) (SZ83 : TSZ83) (SZ84 : TSZ84) (SZ38 : TSZ38) (d_ : List V) (u_ : List (Option Blk)) (q_0 q_1 q_2 q_3 : Fl) (off : Bool) (off_1 : Int) (c_ : V -> List Blk -> Bool) : codesV ⟨Pg, ofList [(42, (FZ10 SZ10)), (43, (FZ51 SZ51)), (44, (FZ83 SZ83)), (45, (FZ84 SZ84)), (46, (FZ38 SZ38))], isref, N⟩ 0 (anZ54 N SZ10 SZ51 SZ83 SZ84 SZ38) ((cds Pg 11).drop 11) 0 (lsZ177 d_ u_ q_0 q_1 q_2 q_3 off off_1) (finV Pg 11 0 c_) = JZ177 N SZ10 SZ51 SZ83 SZ84 SZ38 q_0 q_1 q_2 q_3 off off_1 (fun r0 => c_ (.bool r0) []) := by kernel_rfl
theorem hdZ169 (N : Nat) (SZ10 : TSZ10) (SZ51 : TSZ51) (SZ83 : TSZ83) (SZ84 : TSZ84) (SZ38 : TSZ38) (d_ : List V) (u_ : List (Option Blk)) (q_0 q_1 q_2 q_3 : Fl) (n : Bool) (n_1 : Int) (c_ : V -> List Blk -> Bool) (κn_ : St -> Bool) : codesV ⟨Pg, ofList [(42, (FZ10 SZ10)), (43, (FZ51 SZ51)), (44, (FZ83 SZ83)), (45, (FZ84 SZ84)), (46, (FZ38 SZ38))], isref, N⟩ 0 (anZ54 N SZ10 SZ51 SZ83 SZ84 SZ38) (sg Pg 11 7 4) 0 (lsZ169 d_ u_ q_0 q_1 q_2 q_3 n n_1) { (finV Pg 11 0 c_) with nrm := κn_ } = (SZ84 n [] n_1 false [1] 0 (fun cr_3 nr_4 n5 => (cond (n5 != 0) (c_ (.bool false) []) (κn_ (lsZ177 (dqs d_ 0 4 (.ptr 3 0 :: (.int .i64 n5 :: (.ptr 5 0 :: (dqs d_ 7 15 (.slw 4 :: (.agg [.bool false, .slw 4, .int .i64 0] :: (.tup [.agg [.bool cr_3, .nil, .int .i64 nr_4], .int .i64 n5] :: (.agg [.bool n, .nil, .int .i64 n_1] :: (.agg [.bool false, .slw 4, .int .i64 0] :: (.tup [.agg [.bool cr_3, .nil, .int .i64 nr_4], .int .i64 n5] :: (.agg [.bool cr_3, .nil, .int .i64 nr_4] :: (.int .i64 n5 :: (.int .i64 n5 :: (.bool false :: (dqs d_ 32 14 [])))))))))))))))) [(u_.getD 0 none), (u_.getD 1 none), (u_.getD 2 none), some ⟨84, 1, .cells [.bool n, .nil, .int .i64 n_1]⟩, some ⟨87, 1, .ints .u32 [1]⟩, some ⟨84, 1, .cells [.bool false, .slw 4, .int .i64 0]⟩] q_0 q_1 q_2 q_3 cr_3 nr_4)))) (fun cr_4 n6 n7 nsr_1 => (cond (n7 != 0) (c_ (.bool false) []) (κn_ (lsZ178 (dqs d_ 0 4 (.ptr 3 0 :: (.int .i64 n7 :: (.ptr 5 0 :: (dqs d_ 7 15 (.slw 4 :: (.agg [.bool false, .slw 4, .int .i64 0] :: (.tup [.agg [.bool cr_4, .slw 6, .int .i64 n6], .int .i64 n7] :: (.agg [.bool n, .nil, .int .i64 n_1] :: (.agg [.bool false, .slw 4, .int .i64 0] :: (.tup [.agg [.bool cr_4, .slw 6, .int .i64 n6], .int .i64 n7] :: (.agg [.bool cr_4, .slw 6, .int .i64 n6] :: (.int .i64 n7 :: (.int .i64 n7 :: (.bool false :: (dqs d_ 32 14 [])))))))))))))))) [(u_.getD 0 none), (u_.getD 1 none), (u_.getD 2 none), some ⟨84, 1, .cells [.bool n, .nil, .int .i64 n_1]⟩, some ⟨87, 1, .ints .u32 [1]⟩, some ⟨84, 1, .cells [.bool false, .slw 4, .int .i64 0]⟩] q_0 q_1 q_2 q_3 nsr_1 cr_4 n6))))) := by kernel_rfl
theorem jnZ169 (N : Nat) (SZ10 : TSZ10) (SZ51 : TSZ51) (SZ83 : TSZ83) (SZ84 : TSZ84) (SZ38 : TSZ38) (d_ : List V) (u_ : List (Option Blk)) (q_0 q_1 q_2 q_3 : Fl) (n : Bool) (n_1 : Int) (c_ : V -> List Blk -> Bool) : codesV ⟨Pg, ofList [(42, (FZ10 SZ10)), (43, (FZ51 SZ51)), (44, (FZ83 SZ83)), (45, (FZ84 SZ84)), (46, (FZ38 SZ38))], isref, N⟩ 0 (anZ54 N SZ10 SZ51 SZ83 SZ84 SZ38) ((cds Pg 11).drop 7) 0 (lsZ169 d_ u_ q_0 q_1 q_2 q_3 n n_1) (finV Pg 11 0 c_) = JZ169 N SZ10 SZ51 SZ83 SZ84 SZ38 q_0 q_1 q_2 q_3 n n_1 (fun r0 => c_ (.bool r0) []) := by
 rw [codesV_cut 7 4 11 rfl]
 refine (hdZ169 N SZ10 SZ51 SZ83 SZ84 SZ38 d_ u_ q_0 q_1 q_2 q_3 n n_1 c_ _).trans ?_
 simp only [jnZ177, jnZ178]
 kernel_rfl
theorem hd_quat_Good_w (N : Nat) (SZ10 : TSZ10) (SZ51 : TSZ51) (SZ83 : TSZ83) (SZ84 : TSZ84) (SZ38 : TSZ38) (q_0 q_1 q_2 q_3 : Fl) (c_ : V -> List Blk -> Bool) (κn_ : St -> Bool) : codesV ⟨Pg, ofList [(42, (FZ10 SZ10)), (43, (FZ51 SZ51)), (44, (FZ83 SZ83)), (45, (FZ84 SZ84)), (46, (FZ38 SZ38))], isref, N⟩ 0 (anZ54 N SZ10 SZ51 SZ83 SZ84 SZ38) (sg Pg 11 0 7) 0 (st0 Pg 11 (shFZ54.args [.fl q_0, .fl q_1, .fl q_2, .fl q_3]) []) { (finV Pg 11 0 c_) with nrm := κn_ } = (SZ10 q_0 q_1 q_2 q_3 (fun cr => (cond (!cr) (c_ (.bool false) []) (SZ51 q_0 q_1 q_2 q_3 (SZ83 [q_0, q_1, q_2, q_3] [q_0, q_1, q_2, q_3] (fun cr_1 nr nr_1 => (cond (nr_1 != 0) (c_ (.bool false) []) (κn_ (lsZ169 [.agg [.flt q_0, .flt q_1, .flt q_2, .flt q_3], .ptr 0 0, .bool false, .ptr 2 0, .int .i64 nr_1, .any, .any, .any, .agg [.flt q_0, .flt q_1, .flt q_2, .flt q_3], .slw 1, .bool cr, .bool false, .agg [.flt q_0, .flt q_1, .flt q_2, .flt q_3], .agg [.flt q_0, .flt q_1, .flt q_2, .flt q_3], .tup [.agg [.bool cr_1, .nil, .int .i64 nr], .int .i64 nr_1], .sl 2 0 (4 - 0), .sl 2 0 (4 - 0), .tup [.agg [.bool cr_1, .nil, .int .i64 nr], .int .i64 nr_1], .agg [.bool cr_1, .nil, .int .i64 nr], .int .i64 nr_1, .int .i64 nr_1, .bool false, .any, .any, .any, .any, .any, .any, .any, .any, .any, .any, .any, .any, .any, .any, .any, .any, .any, .any, .any, .any, .any, .any, .any, .any] [some ⟨30, 1, .cells [.flt q_0, .flt q_1, .flt q_2, .flt q_3]⟩, some ⟨30, 4, .cells [.flt q_0, .flt q_1, .flt q_2, .flt q_3]⟩, some ⟨80, 1, .flts [q_0, q_1, q_2, q_3]⟩] q_0 q_1 q_2 q_3 cr_1 nr)))) (fun cr_2 nr_2 nr_3 nsr => (cond (nr_3 != 0) (c_ (.bool false) []) (κn_ (lsZ170 [.agg [.flt q_0, .flt q_1, .flt q_2, .flt q_3], .ptr 0 0, .bool false, .ptr 2 0, .int .i64 nr_3, .any, .any, .any, .agg [.flt q_0, .flt q_1, .flt q_2, .flt q_3], .slw 1, .bool cr, .bool false, .agg [.flt q_0, .flt q_1, .flt q_2, .flt q_3], .agg [.flt q_0, .flt q_1, .flt q_2, .flt q_3], .tup [.agg [.bool cr_2, .slw 3, .int .i64 nr_2], .int .i64 nr_3], .sl 2 0 (4 - 0), .sl 2 0 (4 - 0), .tup [.agg [.bool cr_2, .slw 3, .int .i64 nr_2], .int .i64 nr_3], .agg [.bool cr_2, .slw 3, .int .i64 nr_2], .int .i64 nr_3, .int .i64 nr_3, .bool false, .any, .any, .any, .any, .any, .any, .any, .any, .any, .any, .any, .any, .any, .any, .any, .any, .any, .any, .any, .any, .any, .any, .any, .any] [some ⟨30, 1, .cells [.flt q_0, .flt q_1, .flt q_2, .flt q_3]⟩, some ⟨30, 4, .cells [.flt q_0, .flt q_1, .flt q_2, .flt q_3]⟩, some ⟨80, 1, .flts [q_0, q_1, q_2, q_3]⟩] q_0 q_1 q_2 q_3 nsr cr_2 nr_2))))))))) := by kernel_rfl
theorem jn_quat_Good_w (N : Nat) (SZ10 : TSZ10) (SZ51 : TSZ51) (SZ83 : TSZ83) (SZ84 : TSZ84) (SZ38 : TSZ38) (q_0 q_1 q_2 q_3 : Fl) (c_ : V -> List Blk -> Bool) : codesV ⟨Pg, ofList [(42, (FZ10 SZ10)), (43, (FZ51 SZ51)), (44, (FZ83 SZ83)), (45, (FZ84 SZ84)), (46, (FZ38 SZ38))], isref, N⟩ 0 (anZ54 N SZ10 SZ51 SZ83 SZ84 SZ38) ((cds Pg 11).drop 0) 0 (st0 Pg 11 (shFZ54.args [.fl q_0, .fl q_1, .fl q_2, .fl q_3]) []) (finV Pg 11 0 c_) = GZ54 N SZ10 SZ51 SZ83 SZ84 SZ38 q_0 q_1 q_2 q_3 (fun r0 => c_ (.bool r0) []) := by
 rw [codesV_cut 0 7 7 rfl]
 refine (hd_quat_Good_w N SZ10 SZ51 SZ83 SZ84 SZ38 q_0 q_1 q_2 q_3 c_ _).trans ?_
 simp only [jnZ169, jnZ170]
 kernel_rfl
theorem eqZ54 (N : Nat) (SZ10 : TSZ10) (SZ51 : TSZ51) (SZ83 : TSZ83) (SZ84 : TSZ84) (SZ38 : TSZ38) (q_0 q_1 q_2 q_3 : Fl) (c_ : V -> List Blk -> Bool) : bodyV ⟨Pg, ofList [(42, (FZ10 SZ10)), (43, (FZ51 SZ51)), (44, (FZ83 SZ83)), (45, (FZ84 SZ84)), (46, (FZ38 SZ38))], isref, N⟩ (anZ54 N SZ10 SZ51 SZ83 SZ84 SZ38) 11 (shFZ54.args [.fl q_0, .fl q_1, .fl q_2, .fl q_3]) [] c_ = GZ54 N SZ10 SZ51 SZ83 SZ84 SZ38 q_0 q_1 q_2 q_3 (fun r0 => c_ (.bool r0) []) :=
 (bodyV_codes (by kernel_rfl)).trans (jn_quat_Good_w N SZ10 SZ51 SZ83 SZ84 SZ38 q_0 q_1 q_2 q_3 c_)
theorem goodZ54 (N : Nat) (SZ10 : TSZ10) (SZ51 : TSZ51) (SZ83 : TSZ83) (SZ84 : TSZ84) (SZ38 : TSZ38) (hZ10 : GoodF Pg 42 (FZ10 SZ10)) (hZ51 : GoodF Pg 43 (FZ51 SZ51)) (hZ83 : GoodF Pg 44 (FZ83 SZ83)) (hZ84 : GoodF Pg 45 (FZ84 SZ84)) (hZ38 : GoodF Pg 46 (FZ38 SZ38)) : GoodF Pg 11 (FZ54 (GZ54 N SZ10 SZ51 SZ83 SZ84 SZ38)) := by
 refine good_fs (cx := ⟨Pg, ofList [(42, (FZ10 SZ10)), (43, (FZ51 SZ51)), (44, (FZ83 SZ83)), (45, (FZ84 SZ84)), (46, (FZ38 SZ38))], isref, N⟩) (ofList_cons hZ10 (ofList_cons hZ51 (ofList_cons hZ83 (ofList_cons hZ84 (ofList_cons hZ38 (ofList_nil _)))))) shFZ54 (spZ54 (GZ54 N SZ10 SZ51 SZ83 SZ84 SZ38)) (anZ54 N SZ10 SZ51 SZ83 SZ84 SZ38) 0 0 (by kernel_rfl) (fun i_ hi_ => by omega) ?_
 intro a k h
 unfold spZ54 at h
 split at h
 ·exact ⟨[], rfl, rfl, (eqZ54 _ _ _ _ _ _ _ _ _ _ _).trans h⟩
 ·cases h
def anZ81 (N : Nat) : Nat -> Option Ann := fun b_ => none
theorem eqZ81 (N : Nat) (c_ : V -> List Blk -> Bool) : bodyV ⟨Pg, ofList [], isref, N⟩ (anZ81 N) 41 (shFZ81.args []) [] c_ = GZ81 N (fun r0 r1 r2 r3 => c_ (.agg [.flt r0, .flt r1, .flt r2, .flt r3]) []) := by kernel_rfl
theorem goodZ81 (N : Nat) : GoodF Pg 41 (FZ81 (GZ81 N)) := by
 refine good_fs (cx := ⟨Pg, ofList [], isref, N⟩) (ofList_nil _) shFZ81 (spZ81 (GZ81 N)) (anZ81 N) 0 0 (by kernel_rfl) (fun i_ hi_ => by omega) ?_
 intro a k h
 unfold spZ81 at h
 split at h
 ·exact ⟨[], rfl, rfl, (eqZ81 _ _).trans h⟩
 ·cases h
def anZ19 (N : Nat) (SZ62 : TSZ62) (SZ127 : TSZ127) (SZ118 : TSZ118) (SZ54 : TSZ54) (SZ81 : TSZ81) : Nat -> Option Ann := fun b_ => none
theorem eqZ19 (N : Nat) (SZ62 : TSZ62) (SZ127 : TSZ127) (SZ118 : TSZ118) (SZ54 : TSZ54) (SZ81 : TSZ81) (c_ : V -> List Blk -> Bool) : bodyV ⟨Pg, ofList [(35, (FZ62 SZ62)), (13, (FZ127 SZ127)), (40, (FZ118 SZ118)), (11, (FZ54 SZ54)), (41, (FZ81 SZ81))], isref, N⟩ (anZ19 N SZ62 SZ127 SZ118 SZ54 SZ81) 8 (shFZ19.args []) [] c_ = GZ19 N SZ62 SZ127 SZ118 SZ54 SZ81 (fun r0 => c_ (.bool r0) []) := by kernel_rfl
theorem goodZ19 (N : Nat) (SZ62 : TSZ62) (SZ127 : TSZ127) (SZ118 : TSZ118) (SZ54 : TSZ54) (SZ81 : TSZ81) (hZ62 : GoodF Pg 35 (FZ62 SZ62)) (hZ127 : GoodF Pg 13 (FZ127 SZ127)) (hZ118 : GoodF Pg 40 (FZ118 SZ118)) (hZ54 : GoodF Pg 11 (FZ54 SZ54)) (hZ81 : GoodF Pg 41 (FZ81 SZ81)) : GoodF Pg 8 (FZ19 (GZ19 N SZ62 SZ127 SZ118 SZ54 SZ81)) := by
 refine good_fs (cx := ⟨Pg, ofList [(35, (FZ62 SZ62)), (13, (FZ127 SZ127)), (40, (FZ118 SZ118)), (11, (FZ54 SZ54)), (41, (FZ81 SZ81))], isref, N⟩) (ofList_cons hZ62 (ofList_cons hZ127 (ofList_cons hZ118 (ofList_cons hZ54 (ofList_cons hZ81 (ofList_nil _)))))) shFZ19 (spZ19 (GZ19 N SZ62 SZ127 SZ118 SZ54 SZ81)) (anZ19 N SZ62 SZ127 SZ118 SZ54 SZ81) 0 0 (by kernel_rfl) (fun i_ hi_ => by omega) ?_
 intro a k h
 unfold spZ19 at h
 split at h
 ·exact ⟨[], rfl, rfl, (eqZ19 _ _ _ _ _ _ _).trans h⟩
 ·cases h
def anZ50 (N : Nat) (SZ89 : TSZ89) : Nat -> Option Ann := fun b_ => none
theorem eqZ50 (N : Nat) (SZ89 : TSZ89) (b : Int) (c_ : V -> List Blk -> Bool) : bodyV ⟨Pg, ofList [(82, (FZ89 SZ89))], isref, N⟩ (anZ50 N SZ89) 39 (shFZ50.args [.int b]) [] c_ = GZ50 N SZ89 b (fun r0 => c_ (.flt r0) []) := by kernel_rfl
theorem goodZ50 (N : Nat) (SZ89 : TSZ89) (hZ89 : GoodF Pg 82 (FZ89 SZ89)) : GoodF Pg 39 (FZ50 (GZ50 N SZ89)) := by
 refine good_fs (cx := ⟨Pg, ofList [(82, (FZ89 SZ89))], isref, N⟩) (ofList_cons hZ89 (ofList_nil _)) shFZ50 (spZ50 (GZ50 N SZ89)) (anZ50 N SZ89) 0 0 (by kernel_rfl) (fun i_ hi_ => by omega) ?_
 intro a k h
 unfold spZ50 at h
 split at h
 ·exact ⟨[], rfl, rfl, (eqZ50 _ _ _ _).trans h⟩
 ·cases h
def anZ15 (N : Nat) (SZ50 : TSZ50) : Nat -> Option Ann := fun b_ => none
theorem eqZ15 (N : Nat) (SZ50 : TSZ50) (q_0 q_1 q_2 q_3 : Int) (c_ : V -> List Blk -> Bool) : bodyV ⟨Pg, ofList [(39, (FZ50 SZ50))], isref, N⟩ (anZ15 N SZ50) 9 (shFZ15.args [.int q_0, .int q_1, .int q_2, .int q_3]) [] c_ = GZ15 N SZ50 q_0 q_1 q_2 q_3 (fun r0 r1 r2 r3 => c_ (.agg [.flt r0, .flt r1, .flt r2, .flt r3]) []) := by kernel_rfl
theorem goodZ15 (N : Nat) (SZ50 : TSZ50) (hZ50 : GoodF Pg 39 (FZ50 SZ50)) : GoodF Pg 9 (FZ15 (GZ15 N SZ50)) := by
 refine good_fs (cx := ⟨Pg, ofList [(39, (FZ50 SZ50))], isref, N⟩) (ofList_cons hZ50 (ofList_nil _)) shFZ15 (spZ15 (GZ15 N SZ50)) (anZ15 N SZ50) 0 0 (by kernel_rfl) (fun i_ hi_ => by omega) ?_
 intro a k h
 unfold spZ15 at h
 split at h
 ·exact ⟨[], rfl, rfl, (eqZ15 _ _ _ _ _ _ _).trans h⟩
 ·cases h
def anZ20 (N : Nat) (SZ50 : TSZ50) : Nat -> Option Ann := fun b_ => none
theorem eqZ20 (N : Nat) (SZ50 : TSZ50) (v_0 v_1 v_2 : Int) (c_ : V -> List Blk -> Bool) : bodyV ⟨Pg, ofList [(39, (FZ50 SZ50))], isref, N⟩ (anZ20 N SZ50) 10 (shFZ20.args [.int v_0, .int v_1, .int v_2]) [] c_ = GZ20 N SZ50 v_0 v_1 v_2 (fun r0 r1 r2 => c_ (.agg [.flt r0, .flt r1, .flt r2]) []) := by kernel_rfl
theorem goodZ20 (N : Nat) (SZ50 : TSZ50) (hZ50 : GoodF Pg 39 (FZ50 SZ50)) : GoodF Pg 10 (FZ20 (GZ20 N SZ50)) := by
 refine good_fs (cx := ⟨Pg, ofList [(39, (FZ50 SZ50))], isref, N⟩) (ofList_cons hZ50 (ofList_nil _)) shFZ20 (spZ20 (GZ20 N SZ50)) (anZ20 N SZ50) 0 0 (by kernel_rfl) (fun i_ hi_ => by omega) ?_
 intro a k h
 unfold spZ20 at h
 split at h
 ·exact ⟨[], rfl, rfl, (eqZ20 _ _ _ _ _ _).trans h⟩
 ·cases h
def anZ58 (N : Nat) (SZ10 : TSZ10) (SZ14 : TSZ14) : Nat -> Option Ann := fun b_ => none
theorem eqZ58 (N : Nat) (SZ10 : TSZ10) (SZ14 : TSZ14) (q_0 q_1 q_2 q_3 : Fl) (c_ : V -> List Blk -> Bool) : bodyV ⟨Pg, ofList [(42, (FZ10 SZ10)), (48, (FZ14 SZ14))], isref, N⟩ (anZ58 N SZ10 SZ14) 24 (shFZ58.args [.fl q_0, .fl q_1, .fl q_2, .fl q_3]) [] c_ = GZ58 N SZ10 SZ14 q_0 q_1 q_2 q_3 (fun r0 r1 r2 => c_ (.tup [.agg [.int .i64 r0, .int .i64 r1, .nil], .int .i64 r2]) []) (fun r0 r1 r2 r3 => c_ (.tup [.agg [.int .i64 r0, .int .i64 r1, .slw 0], .int .i64 r2]) [⟨28, 1, .flts r3⟩]) := by kernel_rfl
theorem goodZ58 (N : Nat) (SZ10 : TSZ10) (SZ14 : TSZ14) (hZ10 : GoodF Pg 42 (FZ10 SZ10)) (hZ14 : GoodF Pg 48 (FZ14 SZ14)) : GoodF Pg 24 (FZ58 (GZ58 N SZ10 SZ14)) := by
 refine good_fs (cx := ⟨Pg, ofList [(42, (FZ10 SZ10)), (48, (FZ14 SZ14))], isref, N⟩) (ofList_cons hZ10 (ofList_cons hZ14 (ofList_nil _))) shFZ58 (spZ58 (GZ58 N SZ10 SZ14)) (anZ58 N SZ10 SZ14) 0 0 (by kernel_rfl) (fun i_ hi_ => by omega) ?_
 intro a k h
 unfold spZ58 at h
 split at h
 ·exact ⟨[], rfl, rfl, (eqZ58 _ _ _ _ _ _ _ _).trans h⟩
 ·cases h
def anZ107 (N : Nat) : Nat -> Option Ann := fun b_ => none
theorem eqZ107 (N : Nat) (n : Int) (c_ : V -> List Blk -> Bool) : bodyV ⟨Pg, ofList [], isref, N⟩ (anZ107 N) 118 (shFZ107.args [.int n]) [] c_ = GZ107 N n (fun r0 => c_ (.bool r0) []) := by kernel_rfl
theorem goodZ107 (N : Nat) : GoodF Pg 118 (FZ107 (GZ107 N)) := by
 refine good_fs (cx := ⟨Pg, ofList [], isref, N⟩) (ofList_nil _) shFZ107 (spZ107 (GZ107 N)) (anZ107 N) 0 0 (by kernel_rfl) (fun i_ hi_ => by omega) ?_
 intro a k h
 unfold spZ107 at h
 split at h
 ·exact ⟨[], rfl, rfl, (eqZ107 _ _ _).trans h⟩
 ·cases h
def anZ72 (N : Nat) (SZ107 : TSZ107) (SZ66 : TSZ66) : Nat -> Option Ann := fun b_ => none
theorem eqZ72 (N : Nat) (SZ107 : TSZ107) (SZ66 : TSZ66) (m_0 m_1 : Int) (m_2 : List Fl) (c_ : V -> List Blk -> Bool) : bodyV ⟨Pg, ofList [(118, (FZ107 SZ107)), (84, (FZ66 SZ66))], isref, N⟩ (anZ72 N SZ107 SZ66) 70 (shFZ72.args [.int m_0, .int m_1, .fls m_2]) [] c_ = GZ72 N SZ107 SZ66 m_0 m_1 m_2 (fun r0 => c_ (.int .i64 r0) []) := by kernel_rfl
theorem goodZ72 (N : Nat) (SZ107 : TSZ107) (SZ66 : TSZ66) (hZ107 : GoodF Pg 118 (FZ107 SZ107)) (hZ66 : GoodF Pg 84 (FZ66 SZ66)) : GoodF Pg 70 (FZ72 (GZ72 N SZ107 SZ66)) := by
 refine good_fs (cx := ⟨Pg, ofList [(118, (FZ107 SZ107)), (84, (FZ66 SZ66))], isref, N⟩) (ofList_cons hZ107 (ofList_cons hZ66 (ofList_nil _))) shFZ72 (spZ72 (GZ72 N SZ107 SZ66)) (anZ72 N SZ107 SZ66) 0 0 (by kernel_rfl) (fun i_ hi_ => by omega) ?_
 intro a k h
 unfold spZ72 at h
 split at h
 ·exact ⟨[], rfl, rfl, (eqZ72 _ _ _ _ _ _ _).trans h⟩
 ·cases h
def anZ27 (N : Nat) : Nat -> Option Ann := fun b_ => none
theorem eqZ27 (N : Nat) (i j b b_1 : Int) (b_2 : List Fl) (c_ : V -> List Blk -> Bool) : bodyV ⟨Pg, ofList [], isref, N⟩ (anZ27 N) 71 (shFZ27.args [.int i, .int j, .int b, .int b_1, .fls b_2]) [⟨55, 1, .cells [.int .i64 b, .int .i64 b_1, .rof b_2]⟩] c_ = GZ27 N i j b b_1 b_2 (fun r0 => c_ (.flt r0) [⟨55, 1, .cells [.int .i64 b, .int .i64 b_1, .rof b_2]⟩]) := by kernel_rfl
theorem goodZ27 (N : Nat) : GoodF Pg 71 (FZ27 (GZ27 N)) := by
 refine good_fs (cx := ⟨Pg, ofList [], isref, N⟩) (ofList_nil _) shFZ27 (spZ27 (GZ27 N)) (anZ27 N) 0 1 (by kernel_rfl) (fun i_ hi_ => by omega) ?_
 intro a k h
 unfold spZ27 at h
 split at h
 ·exact ⟨[_], rfl, rfl, (eqZ27 _ _ _ _ _ _ _).trans h⟩
 ·cases h
end Go.Proofs.YtnfgnjciliapaaaGreatDoor
