/-
  THE TIES: each printed meaning is what the program does (written by program).
  Conditions: none.
-/
import Derived.Test.YtgngdkjghdohiaaGreatGp
namespace Go.Proofs.YtgngdkjghdohiaaGreat
open Go Go.Mach Go.Proofs
set_option linter.unusedVariables false
set_option maxRecDepth 50000

def sh_st_anatomy_Finite_0 : StSh := ⟨(sqs 6 (.rof :: (.int .i64 :: (.int .i64 :: (sqs 12 []))))), []⟩
def sx0_st_anatomy_Finite_0 : StSh := ⟨(.any :: (.any :: (.bool :: (sqs 18 [])))), []⟩
def sx1_st_anatomy_Finite_0 : StSh := ⟨(sqs 21 []), []⟩
def hk_st_anatomy_Finite_0 (N : Nat) (SZ93 : TSZ93) : List Atom -> K -> Bool := fun a_ κ => match a_ with
  | [.fls t6, .int t7, .int t8] => iterG N (st_an_Finite_0 N SZ93 t6 t7 (fun r0 => κ.ret (sx0_st_anatomy_Finite_0.build [.bool r0])) (κ.ext 0 (sx1_st_anatomy_Finite_0.build []))) t8
  | _ => false
def anZ17 (N : Nat) (SZ93 : TSZ93) : Nat -> Option Ann := fun b_ => cond (b_ == 0) (some ⟨⟨[6, 7, 8], [], []⟩, [(0, ⟨[], [], []⟩)], some ⟨[2], [], []⟩, some (mkHooks [(sh_st_anatomy_Finite_0, hk_st_anatomy_Finite_0 N SZ93)])⟩) (none)
theorem eq_st_anatomy_Finite_0 (N : Nat) (SZ93 : TSZ93) (κ : K) (t6 : List Fl) (t7 t8 : Int) : iter N (fun s k => codeV ⟨Pg, ofList [(159, (FZ93 SZ93))], isref, N⟩ 0 (anZ17 N SZ93) (lp Pg 92 0).2 (lp Pg 92 0).1 s (roundK Pg 0 ((anZ17 N SZ93) (lp Pg 92 0).1) κ k)) (sh_st_anatomy_Finite_0.build [.fls t6, .int t7, .int t8]) = iterG N (st_an_Finite_0 N SZ93 t6 t7 (fun r0 => κ.ret (sx0_st_anatomy_Finite_0.build [.bool r0])) (κ.ext 0 (sx1_st_anatomy_Finite_0.build []))) t8 :=
  iter_tr (fun v_ => sh_st_anatomy_Finite_0.build [.fls t6, .int t7, .int v_]) (fun v_ K_ => by kernel_rfl) N t8
theorem hk1_st_anatomy_Finite_0 (N : Nat) (SZ93 : TSZ93) : HookFor ⟨Pg, ofList [(159, (FZ93 SZ93))], isref, N⟩ 0 (anZ17 N SZ93) (lp Pg 92 0) (sh_st_anatomy_Finite_0, hk_st_anatomy_Finite_0 N SZ93) := by
  intro a κ h
  simp only at h
  unfold hk_st_anatomy_Finite_0 at h
  split at h
  · exact (eq_st_anatomy_Finite_0 _ _ _ _ _ _).trans h
  · cases h
theorem ho_anatomy_Finite_0 (N : Nat) (SZ93 : TSZ93) : HookOk ⟨Pg, ofList [(159, (FZ93 SZ93))], isref, N⟩ 0 (anZ17 N SZ93) (lp Pg 92 0) :=
  hooks_ok [(sh_st_anatomy_Finite_0, hk_st_anatomy_Finite_0 N SZ93)] (by kernel_rfl) ⟨hk1_st_anatomy_Finite_0 _ _, trivial⟩
theorem eqZ17 (N : Nat) (SZ93 : TSZ93) (l : List Fl) (c_ : V -> List Blk -> Bool) : bodyV ⟨Pg, ofList [(159, (FZ93 SZ93))], isref, N⟩ (anZ17 N SZ93) 92 (shFZ17.args [.fls l]) [] c_ = GZ17 N SZ93 l (fun r0 => c_ (.bool r0) []) := by kernel_rfl
theorem goodZ17 (N : Nat) (SZ93 : TSZ93) (hZ93 : GoodF Pg 159 (FZ93 SZ93)) : GoodF Pg 92 (FZ17 (GZ17 N SZ93)) := by
  refine good_fs (cx := ⟨Pg, ofList [(159, (FZ93 SZ93))], isref, N⟩) (ofList_cons hZ93 (ofList_nil _)) shFZ17 (spZ17 (GZ17 N SZ93)) (anZ17 N SZ93) 1 0 (by kernel_rfl) (fun i_ hi_ => by
    match i_, hi_ with
    | 0, _ => exact ho_anatomy_Finite_0 _ _
    | (q + 1), h => omega) ?_
  intro a k h
  unfold spZ17 at h
  split at h
  · exact ⟨[], rfl, rfl, (eqZ17 _ _ _ _).trans h⟩
  · cases h

def anZ80 (N : Nat) (SZ17 : TSZ17) : Nat -> Option Ann := fun b_ => none
theorem eqZ80 (N : Nat) (SZ17 : TSZ17) (x : List Fl) (c_ : V -> List Blk -> Bool) : bodyV ⟨Pg, ofList [(92, (FZ17 SZ17))], isref, N⟩ (anZ80 N SZ17) 117 (shFZ80.args [.fls x]) [] c_ = GZ80 N SZ17 x (fun r0 => c_ (.int .i64 r0) []) := by kernel_rfl
theorem goodZ80 (N : Nat) (SZ17 : TSZ17) (hZ17 : GoodF Pg 92 (FZ17 SZ17)) : GoodF Pg 117 (FZ80 (GZ80 N SZ17)) := by
  refine good_fs (cx := ⟨Pg, ofList [(92, (FZ17 SZ17))], isref, N⟩) (ofList_cons hZ17 (ofList_nil _)) shFZ80 (spZ80 (GZ80 N SZ17)) (anZ80 N SZ17) 0 0 (by kernel_rfl) (fun i_ hi_ => by omega) ?_
  intro a k h
  unfold spZ80 at h
  split at h
  · exact ⟨[], rfl, rfl, (eqZ80 _ _ _ _).trans h⟩
  · cases h

def anZ10 (N : Nat) : Nat -> Option Ann := fun b_ => none
theorem eqZ10 (N : Nat) (i j : Int) (b : List Fl) (c_ : V -> List Blk -> Bool) : bodyV ⟨Pg, ofList [], isref, N⟩ (anZ10 N) 199 (shFZ10.args [.int i, .int j, .fls b]) [⟨29, 1, .cells [.rof b]⟩] c_ = GZ10 N i j b (fun r0 => c_ (.flt r0) [⟨29, 1, .cells [.rof b]⟩]) := by kernel_rfl
theorem goodZ10 (N : Nat) : GoodF Pg 199 (FZ10 (GZ10 N)) := by
  refine good_fs (cx := ⟨Pg, ofList [], isref, N⟩) (ofList_nil _) shFZ10 (spZ10 (GZ10 N)) (anZ10 N) 0 1 (by kernel_rfl) (fun i_ hi_ => by omega) ?_
  intro a k h
  unfold spZ10 at h
  split at h
  · exact ⟨[_], rfl, rfl, (eqZ10 _ _ _ _ _).trans h⟩
  · cases h

def sh_st_matrix_fill_fr_2 : StSh := ⟨(.any :: (.int .i64 :: (.fn 199 [.ptr 0 0] :: (.any :: (.any :: (.any :: (.ptr 1 0 :: (.ptr 2 0 :: (.int .i64 :: (sqs 8 (.int .i64 :: (.int .i64 :: (.any :: (.any :: (.int .i64 :: (.int .i64 :: (sqs 14 []))))))))))))))))), [some (29, 1, .cells [.rof]), some (64, 1, .cells [.int .i64, .int .i64, .nil]), some (64, 1, .cells [.int .i64, .int .i64, .slw 3]), some (25, 1, .flts)]⟩
def sx0_st_matrix_fill_fr_2 : StSh := ⟨(.any :: (.int .i64 :: (.fn 199 [.ptr 0 0] :: (.any :: (.any :: (.any :: (.ptr 1 0 :: (.ptr 2 0 :: (sqs 9 (.int .i64 :: (.int .i64 :: (sqs 18 [])))))))))))), [some (29, 1, .cells [.rof]), some (64, 1, .cells [.int .i64, .int .i64, .nil]), some (64, 1, .cells [.int .i64, .int .i64, .slw 3]), some (25, 1, .flts)]⟩
def hk_st_matrix_fill_fr_2 (N : Nat) (SZ10 : TSZ10) : List Atom -> K -> Bool := fun a_ κ => match a_ with
  | [.int cols_2, .int i, .int t17_1, .int t18_1, .int t21, .int t22, .fls at__1, .int t6_2, .int t6_3, .int m_2, .int m_3, .fls b3_1] => iterG N (st_matrix_fill_fr_2 N SZ10 cols_2 i t17_1 t18_1 t21 at__1 t6_2 t6_3 m_2 m_3 (fun r8 => κ.ext 2 (sx0_st_matrix_fill_fr_2.build [.int cols_2, .int t17_1, .int t18_1, .fls at__1, .int t6_2, .int t6_3, .int m_2, .int m_3, .fls r8]))) (t22, b3_1)
  | _ => false
def sh_st_matrix_fill_fr_0 : StSh := ⟨(.any :: (.int .i64 :: (.fn 199 [.ptr 0 0] :: (.any :: (.any :: (.any :: (.ptr 1 0 :: (.ptr 2 0 :: (sqs 9 (.int .i64 :: (.int .i64 :: (sqs 18 [])))))))))))), [some (29, 1, .cells [.rof]), some (64, 1, .cells [.int .i64, .int .i64, .nil]), some (64, 1, .cells [.int .i64, .int .i64, .slw 3]), some (25, 1, .flts)]⟩
def sx0_st_matrix_fill_fr_0 : StSh := ⟨(sqs 6 (.ptr 1 0 :: (.ptr 2 0 :: (sqs 29 [])))), [some (29, 1, .cells [.rof]), some (64, 1, .cells [.int .i64, .int .i64, .nil]), some (64, 1, .cells [.int .i64, .int .i64, .slw 3]), some (25, 1, .flts)]⟩
def hk_st_matrix_fill_fr_0 (N : Nat) (SZ10 : TSZ10) : List Atom -> K -> Bool := fun a_ κ => match a_ with
  | [.int cols_1, .int t17, .int t18, .fls at_, .int t6, .int t6_1, .int m, .int m_1, .fls b3] => iterG N (st_matrix_fill_fr_0 N SZ10 cols_1 t17 at_ t6 t6_1 m m_1 (fun r5 => κ.ext 0 (sx0_st_matrix_fill_fr_0.build [.fls at_, .int t6, .int t6_1, .int m, .int m_1, .fls r5]))) (t18, b3)
  | _ => false
def anZ35 (N : Nat) (SZ10 : TSZ10) : Nat -> Option Ann := fun b_ => cond (b_ == 2) (some ⟨⟨[1, 2, 6, 7, 8, 17, 18, 21, 22], [], []⟩, [(2, ⟨[1, 2, 6, 7, 17, 18], [], []⟩)], some ⟨[6], [], []⟩, some (mkHooks [(sh_st_matrix_fill_fr_2, hk_st_matrix_fill_fr_2 N SZ10)])⟩) (cond (b_ == 0) (some ⟨⟨[1, 2, 6, 7, 17, 18], [], []⟩, [(0, ⟨[6, 7], [], []⟩)], some ⟨[6], [], []⟩, some (mkHooks [(sh_st_matrix_fill_fr_0, hk_st_matrix_fill_fr_0 N SZ10)])⟩) (none))
theorem eq_st_matrix_fill_fr_2 (N : Nat) (SZ10 : TSZ10) (κ : K) (cols_2 i t17_1 t18_1 t21 t22 : Int) (at__1 : List Fl) (t6_2 t6_3 m_2 m_3 : Int) (b3_1 : List Fl) : iter N (fun s k => codeV ⟨Pg, ofList [(199, (FZ10 SZ10))], isref, N⟩ 1 (anZ35 N SZ10) (lp Pg 174 1).2 (lp Pg 174 1).1 s (roundK Pg 1 ((anZ35 N SZ10) (lp Pg 174 1).1) κ k)) (sh_st_matrix_fill_fr_2.build [.int cols_2, .int i, .int t17_1, .int t18_1, .int t21, .int t22, .fls at__1, .int t6_2, .int t6_3, .int m_2, .int m_3, .fls b3_1]) = iterG N (st_matrix_fill_fr_2 N SZ10 cols_2 i t17_1 t18_1 t21 at__1 t6_2 t6_3 m_2 m_3 (fun r8 => κ.ext 2 (sx0_st_matrix_fill_fr_2.build [.int cols_2, .int t17_1, .int t18_1, .fls at__1, .int t6_2, .int t6_3, .int m_2, .int m_3, .fls r8]))) (t22, b3_1) :=
  iter_tr (fun (v_ : Int × List Fl) => sh_st_matrix_fill_fr_2.build [.int cols_2, .int i, .int t17_1, .int t18_1, .int t21, .int v_.1, .fls at__1, .int t6_2, .int t6_3, .int m_2, .int m_3, .fls v_.2]) (fun v_ K_ => by obtain ⟨t22, b3_1⟩ := v_; kernel_rfl) N (t22, b3_1)
theorem hk1_st_matrix_fill_fr_2 (N : Nat) (SZ10 : TSZ10) : HookFor ⟨Pg, ofList [(199, (FZ10 SZ10))], isref, N⟩ 1 (anZ35 N SZ10) (lp Pg 174 1) (sh_st_matrix_fill_fr_2, hk_st_matrix_fill_fr_2 N SZ10) := by
  intro a κ h
  simp only at h
  unfold hk_st_matrix_fill_fr_2 at h
  split at h
  · exact (eq_st_matrix_fill_fr_2 _ _ _ _ _ _ _ _ _ _ _ _ _ _ _).trans h
  · cases h
theorem eq_st_matrix_fill_fr_0 (N : Nat) (SZ10 : TSZ10) (κ : K) (cols_1 t17 t18 : Int) (at_ : List Fl) (t6 t6_1 m m_1 : Int) (b3 : List Fl) : iter N (fun s k => codeV ⟨Pg, ofList [(199, (FZ10 SZ10))], isref, N⟩ 1 (anZ35 N SZ10) (lp Pg 174 0).2 (lp Pg 174 0).1 s (roundK Pg 1 ((anZ35 N SZ10) (lp Pg 174 0).1) κ k)) (sh_st_matrix_fill_fr_0.build [.int cols_1, .int t17, .int t18, .fls at_, .int t6, .int t6_1, .int m, .int m_1, .fls b3]) = iterG N (st_matrix_fill_fr_0 N SZ10 cols_1 t17 at_ t6 t6_1 m m_1 (fun r5 => κ.ext 0 (sx0_st_matrix_fill_fr_0.build [.fls at_, .int t6, .int t6_1, .int m, .int m_1, .fls r5]))) (t18, b3) :=
  iter_tr (fun (v_ : Int × List Fl) => sh_st_matrix_fill_fr_0.build [.int cols_1, .int t17, .int v_.1, .fls at_, .int t6, .int t6_1, .int m, .int m_1, .fls v_.2]) (fun v_ K_ => by obtain ⟨t18, b3⟩ := v_; kernel_rfl) N (t18, b3)
theorem hk1_st_matrix_fill_fr_0 (N : Nat) (SZ10 : TSZ10) : HookFor ⟨Pg, ofList [(199, (FZ10 SZ10))], isref, N⟩ 1 (anZ35 N SZ10) (lp Pg 174 0) (sh_st_matrix_fill_fr_0, hk_st_matrix_fill_fr_0 N SZ10) := by
  intro a κ h
  simp only at h
  unfold hk_st_matrix_fill_fr_0 at h
  split at h
  · exact (eq_st_matrix_fill_fr_0 _ _ _ _ _ _ _ _ _ _ _ _).trans h
  · cases h
theorem ho_matrix_fill_fr_2 (N : Nat) (SZ10 : TSZ10) : HookOk ⟨Pg, ofList [(199, (FZ10 SZ10))], isref, N⟩ 1 (anZ35 N SZ10) (lp Pg 174 1) :=
  hooks_ok [(sh_st_matrix_fill_fr_2, hk_st_matrix_fill_fr_2 N SZ10)] (by kernel_rfl) ⟨hk1_st_matrix_fill_fr_2 _ _, trivial⟩
theorem ho_matrix_fill_fr_0 (N : Nat) (SZ10 : TSZ10) : HookOk ⟨Pg, ofList [(199, (FZ10 SZ10))], isref, N⟩ 1 (anZ35 N SZ10) (lp Pg 174 0) :=
  hooks_ok [(sh_st_matrix_fill_fr_0, hk_st_matrix_fill_fr_0 N SZ10)] (by kernel_rfl) ⟨hk1_st_matrix_fill_fr_0 _ _, trivial⟩
theorem eqZ35 (N : Nat) (SZ10 : TSZ10) (rows cols : Int) (b : List Fl) (c_ : V -> List Blk -> Bool) : bodyV ⟨Pg, ofList [(199, (FZ10 SZ10))], isref, N⟩ (anZ35 N SZ10) 174 (shFZ35.args [.int rows, .int cols, .fls b]) [⟨29, 1, .cells [.rof b]⟩] c_ = GZ35 N SZ10 rows cols b (fun r3 => c_ (.agg [.int .i64 rows, .int .i64 cols, .slw 1]) [⟨29, 1, .cells [.rof b]⟩, ⟨25, 1, .flts r3⟩]) := by kernel_rfl
theorem goodZ35 (N : Nat) (SZ10 : TSZ10) (hZ10 : GoodF Pg 199 (FZ10 SZ10)) : GoodF Pg 174 (FZ35 (GZ35 N SZ10)) := by
  refine good_fs (cx := ⟨Pg, ofList [(199, (FZ10 SZ10))], isref, N⟩) (ofList_cons hZ10 (ofList_nil _)) shFZ35 (spZ35 (GZ35 N SZ10)) (anZ35 N SZ10) 2 1 (by kernel_rfl) (fun i_ hi_ => by
    match i_, hi_ with
    | 0, _ => exact ho_matrix_fill_fr_0 _ _
    | 1, _ => exact ho_matrix_fill_fr_2 _ _
    | (q + 2), h => omega) ?_
  intro a k h
  unfold spZ35 at h
  split at h
  · exact ⟨[_], rfl, rfl, (eqZ35 _ _ _ _ _ _).trans h⟩
  · cases h

def anZ79 (N : Nat) (SZ80 : TSZ80) (SZ35 : TSZ35) : Nat -> Option Ann := fun b_ => none
theorem eqZ79 (N : Nat) (SZ80 : TSZ80) (SZ35 : TSZ35) (d : List Fl) (c_ : V -> List Blk -> Bool) : bodyV ⟨Pg, ofList [(117, (FZ80 SZ80)), (174, (FZ35 SZ35))], isref, N⟩ (anZ79 N SZ80 SZ35) 160 (shFZ79.args [.fls d]) [] c_ = GZ79 N SZ80 SZ35 d (fun r0 r1 r2 => c_ (.tup [.agg [.int .i64 r0, .int .i64 r1, .nil], .int .i64 r2]) []) (fun r0 r1 r2 r3 => c_ (.tup [.agg [.int .i64 r0, .int .i64 r1, .slw 0], .int .i64 r2]) [⟨25, 1, .flts r3⟩]) := by kernel_rfl
theorem goodZ79 (N : Nat) (SZ80 : TSZ80) (SZ35 : TSZ35) (hZ80 : GoodF Pg 117 (FZ80 SZ80)) (hZ35 : GoodF Pg 174 (FZ35 SZ35)) : GoodF Pg 160 (FZ79 (GZ79 N SZ80 SZ35)) := by
  refine good_fs (cx := ⟨Pg, ofList [(117, (FZ80 SZ80)), (174, (FZ35 SZ35))], isref, N⟩) (ofList_cons hZ80 (ofList_cons hZ35 (ofList_nil _))) shFZ79 (spZ79 (GZ79 N SZ80 SZ35)) (anZ79 N SZ80 SZ35) 0 0 (by kernel_rfl) (fun i_ hi_ => by omega) ?_
  intro a k h
  unfold spZ79 at h
  split at h
  · exact ⟨[], rfl, rfl, (eqZ79 _ _ _ _ _).trans h⟩
  · cases h

def anZ101 (N : Nat) (SZ79 : TSZ79) : Nat -> Option Ann := fun b_ => none
theorem eqZ101 (N : Nat) (SZ79 : TSZ79) (a b : Fl) (c_ : V -> List Blk -> Bool) : bodyV ⟨Pg, ofList [(160, (FZ79 SZ79))], isref, N⟩ (anZ101 N SZ79) 93 (shFZ101.args [.fl a, .fl b]) [] c_ = GZ101 N SZ79 a b (fun r0 r1 r2 => c_ (.tup [.agg [.int .i64 r0, .int .i64 r1, .nil], .int .i64 r2]) []) (fun r0 r1 r2 r3 => c_ (.tup [.agg [.int .i64 r0, .int .i64 r1, .slw 0], .int .i64 r2]) [⟨25, 1, .flts r3⟩]) := by kernel_rfl
theorem goodZ101 (N : Nat) (SZ79 : TSZ79) (hZ79 : GoodF Pg 160 (FZ79 SZ79)) : GoodF Pg 93 (FZ101 (GZ101 N SZ79)) := by
  refine good_fs (cx := ⟨Pg, ofList [(160, (FZ79 SZ79))], isref, N⟩) (ofList_cons hZ79 (ofList_nil _)) shFZ101 (spZ101 (GZ101 N SZ79)) (anZ101 N SZ79) 0 0 (by kernel_rfl) (fun i_ hi_ => by omega) ?_
  intro a k h
  unfold spZ101 at h
  split at h
  · exact ⟨[], rfl, rfl, (eqZ101 _ _ _ _ _).trans h⟩
  · cases h

def anZ114 (N : Nat) (SZ34 : TSZ34) (SZ17 : TSZ17) (SZ101 : TSZ101) : Nat -> Option Ann := fun b_ => none
theorem eqZ114 (N : Nat) (SZ34 : TSZ34) (SZ17 : TSZ17) (SZ101 : TSZ101) (q_0 q_1 q_2 q_3 turn bias : Fl) (c_ : V -> List Blk -> Bool) : bodyV ⟨Pg, ofList [(91, (FZ34 SZ34)), (92, (FZ17 SZ17)), (93, (FZ101 SZ101))], isref, (N + 24)⟩ (anZ114 (N + 24) SZ34 SZ17 SZ101) 36 (shFZ114.args [.fl q_0, .fl q_1, .fl q_2, .fl q_3, .fl turn, .fl bias]) [] c_ = GZ114 (N + 24) SZ34 SZ17 SZ101 q_0 q_1 q_2 q_3 turn bias (fun r0 r1 r2 r3 r4 r5 r6 r7 r8 r9 => c_ (.tup [.agg [.flt r0, .flt r1, .flt r2, .flt r3, .flt r4, .flt r5, .flt r6, .int .i64 r7, .int .i64 r8, .nil], .int .i64 r9]) []) (fun r0 r1 r2 r3 r4 r5 r6 r7 r8 r9 r10 => c_ (.tup [.agg [.flt r0, .flt r1, .flt r2, .flt r3, .flt r4, .flt r5, .flt r6, .int .i64 r7, .int .i64 r8, .slw 0], .int .i64 r9]) [⟨25, 1, .flts r10⟩]) := by kernel_rfl
theorem goodZ114 (N : Nat) (SZ34 : TSZ34) (SZ17 : TSZ17) (SZ101 : TSZ101) (hZ34 : GoodF Pg 91 (FZ34 SZ34)) (hZ17 : GoodF Pg 92 (FZ17 SZ17)) (hZ101 : GoodF Pg 93 (FZ101 SZ101)) : GoodF Pg 36 (FZ114 (GZ114 (N + 24) SZ34 SZ17 SZ101)) := by
  refine good_fs (cx := ⟨Pg, ofList [(91, (FZ34 SZ34)), (92, (FZ17 SZ17)), (93, (FZ101 SZ101))], isref, (N + 24)⟩) (ofList_cons hZ34 (ofList_cons hZ17 (ofList_cons hZ101 (ofList_nil _)))) shFZ114 (spZ114 (GZ114 (N + 24) SZ34 SZ17 SZ101)) (anZ114 (N + 24) SZ34 SZ17 SZ101) 1 0 (by kernel_rfl) (fun i_ hi_ => by
    match i_, hi_ with
    | 0, _ => exact (fun hk e => by rw [show hookOf ((anZ114 (N + 24) SZ34 SZ17 SZ101) (lp Pg 36 0).1) = none from by kernel_rfl] at e; cases e)
    | (q + 1), h => omega) ?_
  intro a k h
  unfold spZ114 at h
  split at h
  · exact ⟨[], rfl, rfl, (eqZ114 _ _ _ _ _ _ _ _ _ _ _).trans h⟩
  · cases h

def anZ123 (N : Nat) (SZ17 : TSZ17) : Nat -> Option Ann := fun b_ => none
theorem eqZ123 (N : Nat) (SZ17 : TSZ17) (v_0 v_1 v_2 : Fl) (c_ : V -> List Blk -> Bool) : bodyV ⟨Pg, ofList [(92, (FZ17 SZ17))], isref, N⟩ (anZ123 N SZ17) 37 (shFZ123.args [.fl v_0, .fl v_1, .fl v_2]) [] c_ = GZ123 N SZ17 v_0 v_1 v_2 (fun r0 r1 r2 => c_ (.tup [.agg [.int .i64 r0, .int .i64 r1, .nil], .int .i64 r2]) []) (fun r0 r1 r2 r3 => c_ (.tup [.agg [.int .i64 r0, .int .i64 r1, .slw 0], .int .i64 r2]) [⟨25, 1, .flts r3⟩]) := by kernel_rfl
theorem goodZ123 (N : Nat) (SZ17 : TSZ17) (hZ17 : GoodF Pg 92 (FZ17 SZ17)) : GoodF Pg 37 (FZ123 (GZ123 N SZ17)) := by
  refine good_fs (cx := ⟨Pg, ofList [(92, (FZ17 SZ17))], isref, N⟩) (ofList_cons hZ17 (ofList_nil _)) shFZ123 (spZ123 (GZ123 N SZ17)) (anZ123 N SZ17) 0 0 (by kernel_rfl) (fun i_ hi_ => by omega) ?_
  intro a k h
  unfold spZ123 at h
  split at h
  · exact ⟨[], rfl, rfl, (eqZ123 _ _ _ _ _ _).trans h⟩
  · cases h

def sh_st_binnaclelaw25_bits_0 : StSh := ⟨(.rof :: (.rof :: (sqs 10 (.int .i64 :: (.int .i64 :: (sqs 14 [])))))), []⟩
def sx0_st_binnaclelaw25_bits_0 : StSh := ⟨(sqs 4 (.bool :: (sqs 23 []))), []⟩
def sx1_st_binnaclelaw25_bits_0 : StSh := ⟨(sqs 28 []), []⟩
def hk_st_binnaclelaw25_bits_0 (N : Nat) (SZ57 : TSZ57) : List Atom -> K -> Bool := fun a_ κ => match a_ with
  | [.fls a_1, .fls b_1, .int t12, .int t13] => iterG N (st_zl_bits_0 N SZ57 a_1 b_1 t12 (fun r0 => κ.ret (sx0_st_binnaclelaw25_bits_0.build [.bool r0])) (κ.ext 0 (sx1_st_binnaclelaw25_bits_0.build []))) t13
  | _ => false
def anZ99 (N : Nat) (SZ57 : TSZ57) : Nat -> Option Ann := fun b_ => cond (b_ == 0) (some ⟨⟨[0, 1, 12, 13], [], []⟩, [(0, ⟨[], [], []⟩)], some ⟨[4], [], []⟩, some (mkHooks [(sh_st_binnaclelaw25_bits_0, hk_st_binnaclelaw25_bits_0 N SZ57)])⟩) (none)
theorem eq_st_binnaclelaw25_bits_0 (N : Nat) (SZ57 : TSZ57) (κ : K) (a_1 b_1 : List Fl) (t12 t13 : Int) : iter N (fun s k => codeV ⟨Pg, ofList [(90, (FZ57 SZ57))], isref, N⟩ 0 (anZ99 N SZ57) (lp Pg 39 0).2 (lp Pg 39 0).1 s (roundK Pg 0 ((anZ99 N SZ57) (lp Pg 39 0).1) κ k)) (sh_st_binnaclelaw25_bits_0.build [.fls a_1, .fls b_1, .int t12, .int t13]) = iterG N (st_zl_bits_0 N SZ57 a_1 b_1 t12 (fun r0 => κ.ret (sx0_st_binnaclelaw25_bits_0.build [.bool r0])) (κ.ext 0 (sx1_st_binnaclelaw25_bits_0.build []))) t13 :=
  iter_tr (fun v_ => sh_st_binnaclelaw25_bits_0.build [.fls a_1, .fls b_1, .int t12, .int v_]) (fun v_ K_ => by kernel_rfl) N t13
theorem hk1_st_binnaclelaw25_bits_0 (N : Nat) (SZ57 : TSZ57) : HookFor ⟨Pg, ofList [(90, (FZ57 SZ57))], isref, N⟩ 0 (anZ99 N SZ57) (lp Pg 39 0) (sh_st_binnaclelaw25_bits_0, hk_st_binnaclelaw25_bits_0 N SZ57) := by
  intro a κ h
  simp only at h
  unfold hk_st_binnaclelaw25_bits_0 at h
  split at h
  · exact (eq_st_binnaclelaw25_bits_0 _ _ _ _ _ _ _).trans h
  · cases h
theorem ho_binnaclelaw25_bits_0 (N : Nat) (SZ57 : TSZ57) : HookOk ⟨Pg, ofList [(90, (FZ57 SZ57))], isref, N⟩ 0 (anZ99 N SZ57) (lp Pg 39 0) :=
  hooks_ok [(sh_st_binnaclelaw25_bits_0, hk_st_binnaclelaw25_bits_0 N SZ57)] (by kernel_rfl) ⟨hk1_st_binnaclelaw25_bits_0 _ _, trivial⟩
theorem eqZ99 (N : Nat) (SZ57 : TSZ57) (a b : List Fl) (c_ : V -> List Blk -> Bool) : bodyV ⟨Pg, ofList [(90, (FZ57 SZ57))], isref, N⟩ (anZ99 N SZ57) 39 (shFZ99.args [.fls a, .fls b]) [] c_ = GZ99 N SZ57 a b (fun r0 => c_ (.bool r0) []) := by kernel_rfl
theorem goodZ99 (N : Nat) (SZ57 : TSZ57) (hZ57 : GoodF Pg 90 (FZ57 SZ57)) : GoodF Pg 39 (FZ99 (GZ99 N SZ57)) := by
  refine good_fs (cx := ⟨Pg, ofList [(90, (FZ57 SZ57))], isref, N⟩) (ofList_cons hZ57 (ofList_nil _)) shFZ99 (spZ99 (GZ99 N SZ57)) (anZ99 N SZ57) 1 0 (by kernel_rfl) (fun i_ hi_ => by
    match i_, hi_ with
    | 0, _ => exact ho_binnaclelaw25_bits_0 _ _
    | (q + 1), h => omega) ?_
  intro a k h
  unfold spZ99 at h
  split at h
  · exact ⟨[], rfl, rfl, (eqZ99 _ _ _ _ _).trans h⟩
  · cases h

def anZ109 (N : Nat) (SZ64 : TSZ64) (SZ99 : TSZ99) : Nat -> Option Ann := fun b_ => none
theorem eqZ109 (N : Nat) (SZ64 : TSZ64) (SZ99 : TSZ99) (a_0 a_1 a_2 a_3 b_0 b_1 b_2 b_3 : Fl) (c_ : V -> List Blk -> Bool) : bodyV ⟨Pg, ofList [(86, (FZ64 SZ64)), (39, (FZ99 SZ99))], isref, N⟩ (anZ109 N SZ64 SZ99) 38 (shFZ109.args [.fl a_0, .fl a_1, .fl a_2, .fl a_3, .fl b_0, .fl b_1, .fl b_2, .fl b_3]) [] c_ = GZ109 N SZ64 SZ99 a_0 a_1 a_2 a_3 b_0 b_1 b_2 b_3 (fun r0 => c_ (.bool r0) []) := by kernel_rfl
theorem goodZ109 (N : Nat) (SZ64 : TSZ64) (SZ99 : TSZ99) (hZ64 : GoodF Pg 86 (FZ64 SZ64)) (hZ99 : GoodF Pg 39 (FZ99 SZ99)) : GoodF Pg 38 (FZ109 (GZ109 N SZ64 SZ99)) := by
  refine good_fs (cx := ⟨Pg, ofList [(86, (FZ64 SZ64)), (39, (FZ99 SZ99))], isref, N⟩) (ofList_cons hZ64 (ofList_cons hZ99 (ofList_nil _))) shFZ109 (spZ109 (GZ109 N SZ64 SZ99)) (anZ109 N SZ64 SZ99) 0 0 (by kernel_rfl) (fun i_ hi_ => by omega) ?_
  intro a k h
  unfold spZ109 at h
  split at h
  · exact ⟨[], rfl, rfl, (eqZ109 _ _ _ _ _ _ _ _ _ _ _ _).trans h⟩
  · cases h

def anZ55 (N : Nat) (SZ114 : TSZ114) (SZ123 : TSZ123) (SZ109 : TSZ109) (SZ99 : TSZ99) : Nat -> Option Ann := fun b_ => none
theorem eqZ55 (N : Nat) (SZ114 : TSZ114) (SZ123 : TSZ123) (SZ109 : TSZ109) (SZ99 : TSZ99) (c_ : V -> List Blk -> Bool) : bodyV ⟨Pg, ofList [(36, (FZ114 SZ114)), (37, (FZ123 SZ123)), (38, (FZ109 SZ109)), (39, (FZ99 SZ99))], isref, N⟩ (anZ55 N SZ114 SZ123 SZ109 SZ99) 10 (shFZ55.args []) [] c_ = GZ55 N SZ114 SZ123 SZ109 SZ99 (fun r0 => c_ (.bool r0) []) := by kernel_rfl
theorem goodZ55 (N : Nat) (SZ114 : TSZ114) (SZ123 : TSZ123) (SZ109 : TSZ109) (SZ99 : TSZ99) (hZ114 : GoodF Pg 36 (FZ114 SZ114)) (hZ123 : GoodF Pg 37 (FZ123 SZ123)) (hZ109 : GoodF Pg 38 (FZ109 SZ109)) (hZ99 : GoodF Pg 39 (FZ99 SZ99)) : GoodF Pg 10 (FZ55 (GZ55 N SZ114 SZ123 SZ109 SZ99)) := by
  refine good_fs (cx := ⟨Pg, ofList [(36, (FZ114 SZ114)), (37, (FZ123 SZ123)), (38, (FZ109 SZ109)), (39, (FZ99 SZ99))], isref, N⟩) (ofList_cons hZ114 (ofList_cons hZ123 (ofList_cons hZ109 (ofList_cons hZ99 (ofList_nil _))))) shFZ55 (spZ55 (GZ55 N SZ114 SZ123 SZ109 SZ99)) (anZ55 N SZ114 SZ123 SZ109 SZ99) 0 0 (by kernel_rfl) (fun i_ hi_ => by omega) ?_
  intro a k h
  unfold spZ55 at h
  split at h
  · exact ⟨[], rfl, rfl, (eqZ55 _ _ _ _ _ _).trans h⟩
  · cases h

def anZ67 (N : Nat) (SZ102 : TSZ102) : Nat -> Option Ann := fun b_ => none
theorem eqZ67 (N : Nat) (SZ102 : TSZ102) (v_0 v_1 v_2 : Fl) (c_ : V -> List Blk -> Bool) : bodyV ⟨Pg, ofList [(40, (FZ102 SZ102))], isref, N⟩ (anZ67 N SZ102) 11 (shFZ67.args [.fl v_0, .fl v_1, .fl v_2]) [] c_ = GZ67 N SZ102 v_0 v_1 v_2 (fun r0 r1 r2 r3 r4 r5 r6 r7 r8 => c_ (.slw 0) [⟨42, 2, .cells [.ptr 1 0, .int .i64 r0, .ptr 2 0, .int .i64 r1, .ptr 3 0, .int .i64 r2]⟩, ⟨91, 1, .cells [.bool r3, .roi .u32 r4]⟩, ⟨91, 1, .cells [.bool r5, .roi .u32 r6]⟩, ⟨91, 1, .cells [.bool r7, .roi .u32 r8]⟩]) := by kernel_rfl
theorem goodZ67 (N : Nat) (SZ102 : TSZ102) (hZ102 : GoodF Pg 40 (FZ102 SZ102)) : GoodF Pg 11 (FZ67 (GZ67 N SZ102)) := by
  refine good_fs (cx := ⟨Pg, ofList [(40, (FZ102 SZ102))], isref, N⟩) (ofList_cons hZ102 (ofList_nil _)) shFZ67 (spZ67 (GZ67 N SZ102)) (anZ67 N SZ102) 0 0 (by kernel_rfl) (fun i_ hi_ => by omega) ?_
  intro a k h
  unfold spZ67 at h
  split at h
  · exact ⟨[], rfl, rfl, (eqZ67 _ _ _ _ _ _).trans h⟩
  · cases h

def anZ40 (N : Nat) (SZ60 : TSZ60) (SZ14 : TSZ14) : Nat -> Option Ann := fun b_ => none
theorem eqZ40 (N : Nat) (SZ60 : TSZ60) (SZ14 : TSZ14) (b b_1 : Bool) (b_2 : List Int) (c_ : V -> List Blk -> Bool) : bodyZ ⟨Pg, ofList [(97, (FZ60 SZ60)), (96, (FZ14 SZ14))], isref, N⟩ (anZ40 N SZ60 SZ14) 42 (shFZ40.args [.bool b, .bool b_1, .ints b_2]) [⟨91, 1, .cells [.bool b, .nil]⟩, ⟨91, 1, .cells [.bool b_1, .roi .u32 b_2]⟩] c_ = GZ40 N SZ60 SZ14 b b_1 b_2 (fun r0 r1 => c_ (.ptr 0 0) [⟨91, 1, .cells [.bool r0, .roi .u32 r1]⟩, ⟨91, 1, .cells [.bool b_1, .roi .u32 b_2]⟩]) := by kernel_rfl
theorem goodZ40 (N : Nat) (SZ60 : TSZ60) (SZ14 : TSZ14) (hZ60 : GoodF Pg 97 (FZ60 SZ60)) (hZ14 : GoodF Pg 96 (FZ14 SZ14)) : GoodF Pg 42 (FZ40 (GZ40 N SZ60 SZ14)) := by
  refine good_fsZ (cx := ⟨Pg, ofList [(97, (FZ60 SZ60)), (96, (FZ14 SZ14))], isref, N⟩) (ofList_cons hZ60 (ofList_cons hZ14 (ofList_nil _))) shFZ40 (spZ40 (GZ40 N SZ60 SZ14)) (anZ40 N SZ60 SZ14) 0 2 (by kernel_rfl) (fun i_ hi_ => by omega) ?_
  intro a k h
  unfold spZ40 at h
  split at h
  · exact ⟨[_, _], rfl, rfl, (eqZ40 _ _ _ _ _ _ _).trans h⟩
  · cases h

def anZ5 (N : Nat) (SZ40 : TSZ40) : Nat -> Option Ann := fun b_ => none
theorem eqZ5 (N : Nat) (SZ40 : TSZ40) (x y : Int) (b : Bool) (b_1 : List Int) (c_ : V -> List Blk -> Bool) : bodyV ⟨Pg, ofList [(42, (FZ40 SZ40))], isref, N⟩ (anZ5 N SZ40) 13 (shFZ5.args [.int x, .int y, .bool b, .ints b_1]) [⟨91, 1, .cells [.bool b, .roi .u32 b_1]⟩] c_ = GZ5 N SZ40 x y b b_1 (fun r0 r3 r4 => c_ (.agg [.ptr 1 0, .int .i64 r0]) [⟨91, 1, .cells [.bool b, .roi .u32 b_1]⟩, ⟨91, 1, .cells [.bool r3, .roi .u32 r4]⟩]) := by kernel_rfl
theorem goodZ5 (N : Nat) (SZ40 : TSZ40) (hZ40 : GoodF Pg 42 (FZ40 SZ40)) : GoodF Pg 13 (FZ5 (GZ5 N SZ40)) := by
  refine good_fs (cx := ⟨Pg, ofList [(42, (FZ40 SZ40))], isref, N⟩) (ofList_cons hZ40 (ofList_nil _)) shFZ5 (spZ5 (GZ5 N SZ40)) (anZ5 N SZ40) 0 1 (by kernel_rfl) (fun i_ hi_ => by omega) ?_
  intro a k h
  unfold spZ5 at h
  split at h
  · exact ⟨[_], rfl, rfl, (eqZ5 _ _ _ _ _ _ _).trans h⟩
  · cases h

def anZ9 (N : Nat) (SZ41 : TSZ41) (SZ5 : TSZ5) (SZ2 : TSZ2) (SZ0 : TSZ0) : Nat -> Option Ann := fun b_ => none
theorem eqZ9 (N : Nat) (SZ41 : TSZ41) (SZ5 : TSZ5) (SZ2 : TSZ2) (SZ0 : TSZ0) (b b_1 b_2 : Int) (b_3 : Bool) (b_4 : List Int) (b_5 : Bool) (b_6 : List Int) (b_7 : Bool) (b_8 : List Int) (c_ : V -> List Blk -> Bool) : bodyV ⟨Pg, ofList [(41, (FZ41 SZ41)), (13, (FZ5 SZ5)), (15, (orFs (FZ2 SZ2) (FZ0 SZ0) shFZ2))], isref, (N + 24)⟩ (anZ9 (N + 24) SZ41 SZ5 SZ2 SZ0) 12 (shFZ9.args [.int b, .int b_1, .int b_2, .bool b_3, .ints b_4, .bool b_5, .ints b_6, .bool b_7, .ints b_8]) [⟨42, 2, .cells [.ptr 1 0, .int .i64 b, .ptr 2 0, .int .i64 b_1, .ptr 3 0, .int .i64 b_2]⟩, ⟨91, 1, .cells [.bool b_3, .roi .u32 b_4]⟩, ⟨91, 1, .cells [.bool b_5, .roi .u32 b_6]⟩, ⟨91, 1, .cells [.bool b_7, .roi .u32 b_8]⟩] c_ = GZ9 (N + 24) SZ41 SZ5 SZ2 SZ0 b b_1 b_2 b_3 b_4 b_5 b_6 b_7 b_8 (fun r0 r10 r11 => c_ (.agg [.ptr 4 0, .int .i64 r0]) [⟨42, 2, .cells [.ptr 1 0, .int .i64 b, .ptr 2 0, .int .i64 b_1, .ptr 3 0, .int .i64 b_2]⟩, ⟨91, 1, .cells [.bool b_3, .roi .u32 b_4]⟩, ⟨91, 1, .cells [.bool b_5, .roi .u32 b_6]⟩, ⟨91, 1, .cells [.bool b_7, .roi .u32 b_8]⟩, ⟨91, 1, .cells [.bool r10, .roi .u32 r11]⟩]) := by kernel_rfl
theorem goodZ9 (N : Nat) (SZ41 : TSZ41) (SZ5 : TSZ5) (SZ2 : TSZ2) (SZ0 : TSZ0) (hZ41 : GoodF Pg 41 (FZ41 SZ41)) (hZ5 : GoodF Pg 13 (FZ5 SZ5)) (hZ2 : GoodF Pg 15 (FZ2 SZ2)) (hZ0 : GoodF Pg 15 (FZ0 SZ0)) : GoodF Pg 12 (FZ9 (GZ9 (N + 24) SZ41 SZ5 SZ2 SZ0)) := by
  refine good_fs (cx := ⟨Pg, ofList [(41, (FZ41 SZ41)), (13, (FZ5 SZ5)), (15, (orFs (FZ2 SZ2) (FZ0 SZ0) shFZ2))], isref, (N + 24)⟩) (ofList_cons hZ41 (ofList_cons hZ5 (ofList_cons (good_or hZ2 hZ0) (ofList_nil _)))) shFZ9 (spZ9 (GZ9 (N + 24) SZ41 SZ5 SZ2 SZ0)) (anZ9 (N + 24) SZ41 SZ5 SZ2 SZ0) 1 4 (by kernel_rfl) (fun i_ hi_ => by
    match i_, hi_ with
    | 0, _ => exact (fun hk e => by rw [show hookOf ((anZ9 (N + 24) SZ41 SZ5 SZ2 SZ0) (lp Pg 12 0).1) = none from by kernel_rfl] at e; cases e)
    | (q + 1), h => omega) ?_
  intro a k h
  unfold spZ9 at h
  split at h
  · exact ⟨[_, _, _, _], rfl, rfl, (eqZ9 _ _ _ _ _ _ _ _ _ _ _ _ _ _ _).trans h⟩
  · cases h

def anZ3 (N : Nat) (SZ41 : TSZ41) (SZ1 : TSZ1) (SZ2 : TSZ2) (SZ0 : TSZ0) : Nat -> Option Ann := fun b_ => none
theorem eqZ3 (N : Nat) (SZ41 : TSZ41) (SZ1 : TSZ1) (SZ2 : TSZ2) (SZ0 : TSZ0) (b b_1 b_2 b_3 b_4 b_5 : Int) (b_6 : Bool) (b_7 : List Int) (b_8 : Bool) (b_9 : List Int) (b_10 : Bool) (b_11 : List Int) (b_12 : Bool) (b_13 : List Int) (b_14 : Bool) (b_15 : List Int) (b_16 : Bool) (b_17 : List Int) (c_ : V -> List Blk -> Bool) : bodyV ⟨Pg, ofList [(41, (FZ41 SZ41)), (13, (FZ1 SZ1)), (15, (orFs (FZ2 SZ2) (FZ0 SZ0) shFZ2))], isref, (N + 24)⟩ (anZ3 (N + 24) SZ41 SZ1 SZ2 SZ0) 12 (shFZ3.args [.int b, .int b_1, .int b_2, .int b_3, .int b_4, .int b_5, .bool b_6, .ints b_7, .bool b_8, .ints b_9, .bool b_10, .ints b_11, .bool b_12, .ints b_13, .bool b_14, .ints b_15, .bool b_16, .ints b_17]) [⟨42, 2, .cells [.ptr 2 0, .int .i64 b, .ptr 3 0, .int .i64 b_1, .ptr 4 0, .int .i64 b_2]⟩, ⟨42, 2, .cells [.ptr 5 0, .int .i64 b_3, .ptr 6 0, .int .i64 b_4, .ptr 7 0, .int .i64 b_5]⟩, ⟨91, 1, .cells [.bool b_6, .roi .u32 b_7]⟩, ⟨91, 1, .cells [.bool b_8, .roi .u32 b_9]⟩, ⟨91, 1, .cells [.bool b_10, .roi .u32 b_11]⟩, ⟨91, 1, .cells [.bool b_12, .roi .u32 b_13]⟩, ⟨91, 1, .cells [.bool b_14, .roi .u32 b_15]⟩, ⟨91, 1, .cells [.bool b_16, .roi .u32 b_17]⟩] c_ = GZ3 (N + 24) SZ41 SZ1 SZ2 SZ0 b b_1 b_2 b_3 b_4 b_5 b_6 b_7 b_8 b_9 b_10 b_11 b_12 b_13 b_14 b_15 b_16 b_17 (fun r0 r19 r20 => c_ (.agg [.ptr 8 0, .int .i64 r0]) [⟨42, 2, .cells [.ptr 2 0, .int .i64 b, .ptr 3 0, .int .i64 b_1, .ptr 4 0, .int .i64 b_2]⟩, ⟨42, 2, .cells [.ptr 5 0, .int .i64 b_3, .ptr 6 0, .int .i64 b_4, .ptr 7 0, .int .i64 b_5]⟩, ⟨91, 1, .cells [.bool b_6, .roi .u32 b_7]⟩, ⟨91, 1, .cells [.bool b_8, .roi .u32 b_9]⟩, ⟨91, 1, .cells [.bool b_10, .roi .u32 b_11]⟩, ⟨91, 1, .cells [.bool b_12, .roi .u32 b_13]⟩, ⟨91, 1, .cells [.bool b_14, .roi .u32 b_15]⟩, ⟨91, 1, .cells [.bool b_16, .roi .u32 b_17]⟩, ⟨91, 1, .cells [.bool r19, .roi .u32 r20]⟩]) := by kernel_rfl
theorem goodZ3 (N : Nat) (SZ41 : TSZ41) (SZ1 : TSZ1) (SZ2 : TSZ2) (SZ0 : TSZ0) (hZ41 : GoodF Pg 41 (FZ41 SZ41)) (hZ1 : GoodF Pg 13 (FZ1 SZ1)) (hZ2 : GoodF Pg 15 (FZ2 SZ2)) (hZ0 : GoodF Pg 15 (FZ0 SZ0)) : GoodF Pg 12 (FZ3 (GZ3 (N + 24) SZ41 SZ1 SZ2 SZ0)) := by
  refine good_fs (cx := ⟨Pg, ofList [(41, (FZ41 SZ41)), (13, (FZ1 SZ1)), (15, (orFs (FZ2 SZ2) (FZ0 SZ0) shFZ2))], isref, (N + 24)⟩) (ofList_cons hZ41 (ofList_cons hZ1 (ofList_cons (good_or hZ2 hZ0) (ofList_nil _)))) shFZ3 (spZ3 (GZ3 (N + 24) SZ41 SZ1 SZ2 SZ0)) (anZ3 (N + 24) SZ41 SZ1 SZ2 SZ0) 1 8 (by kernel_rfl) (fun i_ hi_ => by
    match i_, hi_ with
    | 0, _ => exact (fun hk e => by rw [show hookOf ((anZ3 (N + 24) SZ41 SZ1 SZ2 SZ0) (lp Pg 12 0).1) = none from by kernel_rfl] at e; cases e)
    | (q + 1), h => omega) ?_
  intro a k h
  unfold spZ3 at h
  split at h
  · exact ⟨[_, _, _, _, _, _, _, _], rfl, rfl, (eqZ3 _ _ _ _ _ _ _ _ _ _ _ _ _ _ _ _ _ _ _ _ _ _ _ _).trans h⟩
  · cases h

def anZ49 (N : Nat) : Nat -> Option Ann := fun b_ => none
theorem eqZ49 (N : Nat) (a_0 a_1 a_2 b_0 b_1 b_2 : Fl) (c_ : V -> List Blk -> Bool) : bodyV ⟨Pg, ofList [], isref, N⟩ (anZ49 N) 49 (shFZ49.args [.fl a_0, .fl a_1, .fl a_2, .fl b_0, .fl b_1, .fl b_2]) [] c_ = GZ49 N a_0 a_1 a_2 b_0 b_1 b_2 (fun r0 r1 r2 => c_ (.agg [.flt r0, .flt r1, .flt r2]) []) := by kernel_rfl
theorem goodZ49 (N : Nat) : GoodF Pg 49 (FZ49 (GZ49 N)) := by
  refine good_fs (cx := ⟨Pg, ofList [], isref, N⟩) (ofList_nil _) shFZ49 (spZ49 (GZ49 N)) (anZ49 N) 0 0 (by kernel_rfl) (fun i_ hi_ => by omega) ?_
  intro a k h
  unfold spZ49 at h
  split at h
  · exact ⟨[], rfl, rfl, (eqZ49 _ _ _ _ _ _ _ _).trans h⟩
  · cases h

def anZ81 (N : Nat) (SZ8 : TSZ8) : Nat -> Option Ann := fun b_ => none
theorem eqZ81 (N : Nat) (SZ8 : TSZ8) (v_0 v_1 v_2 : Fl) (c_ : V -> List Blk -> Bool) : bodyV ⟨Pg, ofList [(48, (FZ8 SZ8))], isref, N⟩ (anZ81 N SZ8) 50 (shFZ81.args [.fl v_0, .fl v_1, .fl v_2]) [] c_ = GZ81 N SZ8 v_0 v_1 v_2 (fun r0 r1 r2 r3 => c_ (.tup [.agg [.flt r0, .flt r1, .flt r2], .int .i64 r3]) []) := by kernel_rfl
theorem goodZ81 (N : Nat) (SZ8 : TSZ8) (hZ8 : GoodF Pg 48 (FZ8 SZ8)) : GoodF Pg 50 (FZ81 (GZ81 N SZ8)) := by
  refine good_fs (cx := ⟨Pg, ofList [(48, (FZ8 SZ8))], isref, N⟩) (ofList_cons hZ8 (ofList_nil _)) shFZ81 (spZ81 (GZ81 N SZ8)) (anZ81 N SZ8) 0 0 (by kernel_rfl) (fun i_ hi_ => by omega) ?_
  intro a k h
  unfold spZ81 at h
  split at h
  · exact ⟨[], rfl, rfl, (eqZ81 _ _ _ _ _ _).trans h⟩
  · cases h

def anZ38 (N : Nat) (SZ15 : TSZ15) (SZ8 : TSZ8) (SZ49 : TSZ49) (SZ81 : TSZ81) : Nat -> Option Ann := fun b_ => none
theorem eqZ38 (N : Nat) (SZ15 : TSZ15) (SZ8 : TSZ8) (SZ49 : TSZ49) (SZ81 : TSZ81) (q_0 q_1 q_2 q_3 v_0 v_1 v_2 : Fl) (c_ : V -> List Blk -> Bool) : bodyV ⟨Pg, ofList [(47, (FZ15 SZ15)), (48, (FZ8 SZ8)), (49, (FZ49 SZ49)), (50, (FZ81 SZ81))], isref, (N + 24)⟩ (anZ38 (N + 24) SZ15 SZ8 SZ49 SZ81) 19 (shFZ38.args [.fl q_0, .fl q_1, .fl q_2, .fl q_3, .fl v_0, .fl v_1, .fl v_2]) [] c_ = GZ38 (N + 24) SZ15 SZ8 SZ49 SZ81 q_0 q_1 q_2 q_3 v_0 v_1 v_2 (fun r0 r1 r2 r3 => c_ (.tup [.agg [.flt r0, .flt r1, .flt r2], .int .i64 r3]) []) := by kernel_rfl
theorem goodZ38 (N : Nat) (SZ15 : TSZ15) (SZ8 : TSZ8) (SZ49 : TSZ49) (SZ81 : TSZ81) (hZ15 : GoodF Pg 47 (FZ15 SZ15)) (hZ8 : GoodF Pg 48 (FZ8 SZ8)) (hZ49 : GoodF Pg 49 (FZ49 SZ49)) (hZ81 : GoodF Pg 50 (FZ81 SZ81)) : GoodF Pg 19 (FZ38 (GZ38 (N + 24) SZ15 SZ8 SZ49 SZ81)) := by
  refine good_fs (cx := ⟨Pg, ofList [(47, (FZ15 SZ15)), (48, (FZ8 SZ8)), (49, (FZ49 SZ49)), (50, (FZ81 SZ81))], isref, (N + 24)⟩) (ofList_cons hZ15 (ofList_cons hZ8 (ofList_cons hZ49 (ofList_cons hZ81 (ofList_nil _))))) shFZ38 (spZ38 (GZ38 (N + 24) SZ15 SZ8 SZ49 SZ81)) (anZ38 (N + 24) SZ15 SZ8 SZ49 SZ81) 2 0 (by kernel_rfl) (fun i_ hi_ => by
    match i_, hi_ with
    | 0, _ => exact (fun hk e => by rw [show hookOf ((anZ38 (N + 24) SZ15 SZ8 SZ49 SZ81) (lp Pg 19 0).1) = none from by kernel_rfl] at e; cases e)
    | 1, _ => exact (fun hk e => by rw [show hookOf ((anZ38 (N + 24) SZ15 SZ8 SZ49 SZ81) (lp Pg 19 1).1) = none from by kernel_rfl] at e; cases e)
    | (q + 2), h => omega) ?_
  intro a k h
  unfold spZ38 at h
  split at h
  · exact ⟨[], rfl, rfl, (eqZ38 _ _ _ _ _ _ _ _ _ _ _ _ _).trans h⟩
  · cases h

def anZ22 (N : Nat) (SZ17 : TSZ17) : Nat -> Option Ann := fun b_ => none
theorem eqZ22 (N : Nat) (SZ17 : TSZ17) (v_0 v_1 v_2 : Fl) (c_ : V -> List Blk -> Bool) : bodyV ⟨Pg, ofList [(92, (FZ17 SZ17))], isref, N⟩ (anZ22 N SZ17) 51 (shFZ22.args [.fl v_0, .fl v_1, .fl v_2]) [] c_ = GZ22 N SZ17 v_0 v_1 v_2 (fun r0 => c_ (.int .i64 r0) []) := by kernel_rfl
theorem goodZ22 (N : Nat) (SZ17 : TSZ17) (hZ17 : GoodF Pg 92 (FZ17 SZ17)) : GoodF Pg 51 (FZ22 (GZ22 N SZ17)) := by
  refine good_fs (cx := ⟨Pg, ofList [(92, (FZ17 SZ17))], isref, N⟩) (ofList_cons hZ17 (ofList_nil _)) shFZ22 (spZ22 (GZ22 N SZ17)) (anZ22 N SZ17) 0 0 (by kernel_rfl) (fun i_ hi_ => by omega) ?_
  intro a k h
  unfold spZ22 at h
  split at h
  · exact ⟨[], rfl, rfl, (eqZ22 _ _ _ _ _ _).trans h⟩
  · cases h

def anZ117 (N : Nat) (SZ17 : TSZ17) : Nat -> Option Ann := fun b_ => none
theorem eqZ117 (N : Nat) (SZ17 : TSZ17) (x : List Fl) (c_ : V -> List Blk -> Bool) : bodyV ⟨Pg, ofList [(92, (FZ17 SZ17))], isref, N⟩ (anZ117 N SZ17) 107 (shFZ117.args [.fls x]) [] c_ = GZ117 N SZ17 x (fun r0 => c_ (.int .i64 r0) []) := by kernel_rfl
theorem goodZ117 (N : Nat) (SZ17 : TSZ17) (hZ17 : GoodF Pg 92 (FZ17 SZ17)) : GoodF Pg 107 (FZ117 (GZ117 N SZ17)) := by
  refine good_fs (cx := ⟨Pg, ofList [(92, (FZ17 SZ17))], isref, N⟩) (ofList_cons hZ17 (ofList_nil _)) shFZ117 (spZ117 (GZ117 N SZ17)) (anZ117 N SZ17) 0 0 (by kernel_rfl) (fun i_ hi_ => by omega) ?_
  intro a k h
  unfold spZ117 at h
  split at h
  · exact ⟨[], rfl, rfl, (eqZ117 _ _ _ _).trans h⟩
  · cases h

def sh_st_qr_power_0 : StSh := ⟨(.rof :: (.any :: (.any :: (.any :: (.flt :: (sqs 4 (.int .i64 :: (.int .i64 :: (sqs 19 []))))))))), []⟩
def sx0_st_qr_power_0 : StSh := ⟨(sqs 4 (.flt :: (sqs 25 []))), []⟩
def hk_st_qr_power_0 (N : Nat) (S_m_Abs : TS_m_Abs) (SZ74 : TSZ74) : List Atom -> K -> Bool := fun a_ κ => match a_ with
  | [.fls x_1, .fl most, .int t9, .int t10] => iterG N (st_qr_power_0 N S_m_Abs SZ74 x_1 t9 (fun r0 => κ.ext 0 (sx0_st_qr_power_0.build [.fl r0]))) (most, t10)
  | _ => false
def anZ100 (N : Nat) (S_m_Abs : TS_m_Abs) (SZ74 : TSZ74) : Nat -> Option Ann := fun b_ => cond (b_ == 0) (some ⟨⟨[0, 4, 9, 10], [], []⟩, [(0, ⟨[4], [], []⟩)], some ⟨[2, 3], [], []⟩, some (mkHooks [(sh_st_qr_power_0, hk_st_qr_power_0 N S_m_Abs SZ74)])⟩) (none)
theorem eq_st_qr_power_0 (N : Nat) (S_m_Abs : TS_m_Abs) (SZ74 : TSZ74) (κ : K) (x_1 : List Fl) (most : Fl) (t9 t10 : Int) : iter N (fun s k => codeV ⟨Pg, ofList [(35, (F_m_Abs S_m_Abs)), (157, (FZ74 SZ74))], isref, N⟩ 0 (anZ100 N S_m_Abs SZ74) (lp Pg 169 0).2 (lp Pg 169 0).1 s (roundK Pg 0 ((anZ100 N S_m_Abs SZ74) (lp Pg 169 0).1) κ k)) (sh_st_qr_power_0.build [.fls x_1, .fl most, .int t9, .int t10]) = iterG N (st_qr_power_0 N S_m_Abs SZ74 x_1 t9 (fun r0 => κ.ext 0 (sx0_st_qr_power_0.build [.fl r0]))) (most, t10) :=
  iter_tr (fun (v_ : Fl × Int) => sh_st_qr_power_0.build [.fls x_1, .fl v_.1, .int t9, .int v_.2]) (fun v_ K_ => by obtain ⟨most, t10⟩ := v_; kernel_rfl) N (most, t10)
theorem hk1_st_qr_power_0 (N : Nat) (S_m_Abs : TS_m_Abs) (SZ74 : TSZ74) : HookFor ⟨Pg, ofList [(35, (F_m_Abs S_m_Abs)), (157, (FZ74 SZ74))], isref, N⟩ 0 (anZ100 N S_m_Abs SZ74) (lp Pg 169 0) (sh_st_qr_power_0, hk_st_qr_power_0 N S_m_Abs SZ74) := by
  intro a κ h
  simp only at h
  unfold hk_st_qr_power_0 at h
  split at h
  · exact (eq_st_qr_power_0 _ _ _ _ _ _ _ _).trans h
  · cases h
theorem ho_qr_power_0 (N : Nat) (S_m_Abs : TS_m_Abs) (SZ74 : TSZ74) : HookOk ⟨Pg, ofList [(35, (F_m_Abs S_m_Abs)), (157, (FZ74 SZ74))], isref, N⟩ 0 (anZ100 N S_m_Abs SZ74) (lp Pg 169 0) :=
  hooks_ok [(sh_st_qr_power_0, hk_st_qr_power_0 N S_m_Abs SZ74)] (by kernel_rfl) ⟨hk1_st_qr_power_0 _ _ _, trivial⟩
theorem eqZ100 (N : Nat) (S_m_Abs : TS_m_Abs) (SZ74 : TSZ74) (x : List Fl) (c_ : V -> List Blk -> Bool) : bodyV ⟨Pg, ofList [(35, (F_m_Abs S_m_Abs)), (157, (FZ74 SZ74))], isref, N⟩ (anZ100 N S_m_Abs SZ74) 169 (shFZ100.args [.fls x]) [] c_ = GZ100 N S_m_Abs SZ74 x (fun r0 r1 => c_ (.tup [.int .i64 r0, .bool r1]) []) := by kernel_rfl
theorem goodZ100 (N : Nat) (S_m_Abs : TS_m_Abs) (SZ74 : TSZ74) (h_m_Abs : GoodF Pg 35 (F_m_Abs S_m_Abs)) (hZ74 : GoodF Pg 157 (FZ74 SZ74)) : GoodF Pg 169 (FZ100 (GZ100 N S_m_Abs SZ74)) := by
  refine good_fs (cx := ⟨Pg, ofList [(35, (F_m_Abs S_m_Abs)), (157, (FZ74 SZ74))], isref, N⟩) (ofList_cons h_m_Abs (ofList_cons hZ74 (ofList_nil _))) shFZ100 (spZ100 (GZ100 N S_m_Abs SZ74)) (anZ100 N S_m_Abs SZ74) 1 0 (by kernel_rfl) (fun i_ hi_ => by
    match i_, hi_ with
    | 0, _ => exact ho_qr_power_0 _ _ _
    | (q + 1), h => omega) ?_
  intro a k h
  unfold spZ100 at h
  split at h
  · exact ⟨[], rfl, rfl, (eqZ100 _ _ _ _ _).trans h⟩
  · cases h

def sh_st_qr_scaled_0 : StSh := ⟨(.rof :: (.int .i64 :: (sqs 4 (.slw 0 :: (.flt :: (sqs 5 (.int .i64 :: (.int .i64 :: (sqs 27 []))))))))), [some (25, 1, .flts)]⟩
def sx0_st_qr_scaled_0 : StSh := ⟨(sqs 6 (.slw 0 :: (.flt :: (sqs 34 [])))), [some (25, 1, .flts)]⟩
def hk_st_qr_scaled_0 (N : Nat) (SZ19 : TSZ19) (SZ103 : TSZ103) : List Atom -> K -> Bool := fun a_ κ => match a_ with
  | [.fls x_1, .int k__1, .fl s, .int t13, .int t14, .fls y] => iterG N (st_qr_scaled_0 N SZ19 SZ103 x_1 k__1 t13 (fun r0 r1 => κ.ext 0 (sx0_st_qr_scaled_0.build [.fl r0, .fls r1]))) (s, t14, y)
  | _ => false
def anZ86 (N : Nat) (SZ19 : TSZ19) (SZ103 : TSZ103) : Nat -> Option Ann := fun b_ => cond (b_ == 0) (some ⟨⟨[0, 1, 6, 7, 13, 14], [], []⟩, [(0, ⟨[6, 7], [], []⟩)], some ⟨[4, 5], [], []⟩, some (mkHooks [(sh_st_qr_scaled_0, hk_st_qr_scaled_0 N SZ19 SZ103)])⟩) (none)
theorem eq_st_qr_scaled_0 (N : Nat) (SZ19 : TSZ19) (SZ103 : TSZ103) (κ : K) (x_1 : List Fl) (k__1 : Int) (s : Fl) (t13 t14 : Int) (y : List Fl) : iter N (fun s k => codeV ⟨Pg, ofList [(22, (FZ19 SZ19)), (153, (FZ103 SZ103))], isref, N⟩ 0 (anZ86 N SZ19 SZ103) (lp Pg 170 0).2 (lp Pg 170 0).1 s (roundK Pg 0 ((anZ86 N SZ19 SZ103) (lp Pg 170 0).1) κ k)) (sh_st_qr_scaled_0.build [.fls x_1, .int k__1, .fl s, .int t13, .int t14, .fls y]) = iterG N (st_qr_scaled_0 N SZ19 SZ103 x_1 k__1 t13 (fun r0 r1 => κ.ext 0 (sx0_st_qr_scaled_0.build [.fl r0, .fls r1]))) (s, t14, y) :=
  iter_tr (fun (v_ : Fl × Int × List Fl) => sh_st_qr_scaled_0.build [.fls x_1, .int k__1, .fl v_.1, .int t13, .int v_.2.1, .fls v_.2.2]) (fun v_ K_ => by obtain ⟨s, t14, y⟩ := v_; kernel_rfl) N (s, t14, y)
theorem hk1_st_qr_scaled_0 (N : Nat) (SZ19 : TSZ19) (SZ103 : TSZ103) : HookFor ⟨Pg, ofList [(22, (FZ19 SZ19)), (153, (FZ103 SZ103))], isref, N⟩ 0 (anZ86 N SZ19 SZ103) (lp Pg 170 0) (sh_st_qr_scaled_0, hk_st_qr_scaled_0 N SZ19 SZ103) := by
  intro a κ h
  simp only at h
  unfold hk_st_qr_scaled_0 at h
  split at h
  · exact (eq_st_qr_scaled_0 _ _ _ _ _ _ _ _ _ _).trans h
  · cases h
theorem ho_qr_scaled_0 (N : Nat) (SZ19 : TSZ19) (SZ103 : TSZ103) : HookOk ⟨Pg, ofList [(22, (FZ19 SZ19)), (153, (FZ103 SZ103))], isref, N⟩ 0 (anZ86 N SZ19 SZ103) (lp Pg 170 0) :=
  hooks_ok [(sh_st_qr_scaled_0, hk_st_qr_scaled_0 N SZ19 SZ103)] (by kernel_rfl) ⟨hk1_st_qr_scaled_0 _ _ _, trivial⟩
theorem eqZ86 (N : Nat) (SZ19 : TSZ19) (SZ103 : TSZ103) (x : List Fl) (k_ : Int) (c_ : V -> List Blk -> Bool) : bodyV ⟨Pg, ofList [(22, (FZ19 SZ19)), (153, (FZ103 SZ103))], isref, N⟩ (anZ86 N SZ19 SZ103) 170 (shFZ86.args [.fls x, .int k_]) [] c_ = GZ86 N SZ19 SZ103 x k_ (fun r0 r1 => c_ (.tup [.slw 0, .flt r0]) [⟨25, 1, .flts r1⟩]) := by kernel_rfl
theorem goodZ86 (N : Nat) (SZ19 : TSZ19) (SZ103 : TSZ103) (hZ19 : GoodF Pg 22 (FZ19 SZ19)) (hZ103 : GoodF Pg 153 (FZ103 SZ103)) : GoodF Pg 170 (FZ86 (GZ86 N SZ19 SZ103)) := by
  refine good_fs (cx := ⟨Pg, ofList [(22, (FZ19 SZ19)), (153, (FZ103 SZ103))], isref, N⟩) (ofList_cons hZ19 (ofList_cons hZ103 (ofList_nil _))) shFZ86 (spZ86 (GZ86 N SZ19 SZ103)) (anZ86 N SZ19 SZ103) 1 0 (by kernel_rfl) (fun i_ hi_ => by
    match i_, hi_ with
    | 0, _ => exact ho_qr_scaled_0 _ _ _
    | (q + 1), h => omega) ?_
  intro a k h
  unfold spZ86 at h
  split at h
  · exact ⟨[], rfl, rfl, (eqZ86 _ _ _ _ _ _).trans h⟩
  · cases h

def anZ85 (N : Nat) (SZ100 : TSZ100) (SZ86 : TSZ86) (SZ19 : TSZ19) : Nat -> Option Ann := fun b_ => none
theorem eqZ85 (N : Nat) (SZ100 : TSZ100) (SZ86 : TSZ86) (SZ19 : TSZ19) (x : List Fl) (c_ : V -> List Blk -> Bool) : bodyV ⟨Pg, ofList [(169, (FZ100 SZ100)), (170, (FZ86 SZ86)), (22, (FZ19 SZ19))], isref, N⟩ (anZ85 N SZ100 SZ86 SZ19) 108 (shFZ85.args [.fls x]) [] c_ = GZ85 N SZ100 SZ86 SZ19 x (fun r0 => c_ (.flt r0) []) := by kernel_rfl
theorem goodZ85 (N : Nat) (SZ100 : TSZ100) (SZ86 : TSZ86) (SZ19 : TSZ19) (hZ100 : GoodF Pg 169 (FZ100 SZ100)) (hZ86 : GoodF Pg 170 (FZ86 SZ86)) (hZ19 : GoodF Pg 22 (FZ19 SZ19)) : GoodF Pg 108 (FZ85 (GZ85 N SZ100 SZ86 SZ19)) := by
  refine good_fs (cx := ⟨Pg, ofList [(169, (FZ100 SZ100)), (170, (FZ86 SZ86)), (22, (FZ19 SZ19))], isref, N⟩) (ofList_cons hZ100 (ofList_cons hZ86 (ofList_cons hZ19 (ofList_nil _)))) shFZ85 (spZ85 (GZ85 N SZ100 SZ86 SZ19)) (anZ85 N SZ100 SZ86 SZ19) 0 0 (by kernel_rfl) (fun i_ hi_ => by omega) ?_
  intro a k h
  unfold spZ85 at h
  split at h
  · exact ⟨[], rfl, rfl, (eqZ85 _ _ _ _ _ _).trans h⟩
  · cases h

def anZ92 (N : Nat) : Nat -> Option Ann := fun b_ => none
theorem eqZ92 (N : Nat) (x : Fl) (c_ : V -> List Blk -> Bool) : bodyV ⟨Pg, ofList [], isref, N⟩ (anZ92 N) 109 (shFZ92.args [.fl x]) [] c_ = GZ92 N x (fun r0 => c_ (.bool r0) []) := by kernel_rfl
theorem goodZ92 (N : Nat) : GoodF Pg 109 (FZ92 (GZ92 N)) := by
  refine good_fs (cx := ⟨Pg, ofList [], isref, N⟩) (ofList_nil _) shFZ92 (spZ92 (GZ92 N)) (anZ92 N) 0 0 (by kernel_rfl) (fun i_ hi_ => by omega) ?_
  intro a k h
  unfold spZ92 at h
  split at h
  · exact ⟨[], rfl, rfl, (eqZ92 _ _ _).trans h⟩
  · cases h

def anZ54 (N : Nat) (SZ117 : TSZ117) (SZ85 : TSZ85) (SZ92 : TSZ92) : Nat -> Option Ann := fun b_ => none
theorem eqZ54 (N : Nat) (SZ117 : TSZ117) (SZ85 : TSZ85) (SZ92 : TSZ92) (x : List Fl) (c_ : V -> List Blk -> Bool) : bodyV ⟨Pg, ofList [(107, (FZ117 SZ117)), (108, (FZ85 SZ85)), (109, (FZ92 SZ92))], isref, N⟩ (anZ54 N SZ117 SZ85 SZ92) 59 (shFZ54.args [.fls x]) [] c_ = GZ54 N SZ117 SZ85 SZ92 x (fun r0 r1 => c_ (.tup [.flt r0, .int .i64 r1]) []) := by kernel_rfl
theorem goodZ54 (N : Nat) (SZ117 : TSZ117) (SZ85 : TSZ85) (SZ92 : TSZ92) (hZ117 : GoodF Pg 107 (FZ117 SZ117)) (hZ85 : GoodF Pg 108 (FZ85 SZ85)) (hZ92 : GoodF Pg 109 (FZ92 SZ92)) : GoodF Pg 59 (FZ54 (GZ54 N SZ117 SZ85 SZ92)) := by
  refine good_fs (cx := ⟨Pg, ofList [(107, (FZ117 SZ117)), (108, (FZ85 SZ85)), (109, (FZ92 SZ92))], isref, N⟩) (ofList_cons hZ117 (ofList_cons hZ85 (ofList_cons hZ92 (ofList_nil _)))) shFZ54 (spZ54 (GZ54 N SZ117 SZ85 SZ92)) (anZ54 N SZ117 SZ85 SZ92) 0 0 (by kernel_rfl) (fun i_ hi_ => by omega) ?_
  intro a k h
  unfold spZ54 at h
  split at h
  · exact ⟨[], rfl, rfl, (eqZ54 _ _ _ _ _ _).trans h⟩
  · cases h

def anZ58 (N : Nat) (SZ54 : TSZ54) : Nat -> Option Ann := fun b_ => none
theorem eqZ58 (N : Nat) (SZ54 : TSZ54) (v_0 v_1 v_2 : Fl) (c_ : V -> List Blk -> Bool) : bodyV ⟨Pg, ofList [(59, (FZ54 SZ54))], isref, (N + 24)⟩ (anZ58 (N + 24) SZ54) 101 (shFZ58.args [.fl v_0, .fl v_1, .fl v_2]) [] c_ = GZ58 (N + 24) SZ54 v_0 v_1 v_2 (fun r0 r1 r2 r3 => c_ (.tup [.agg [.flt r0, .flt r1, .flt r2], .int .i64 r3]) []) := by kernel_rfl
theorem goodZ58 (N : Nat) (SZ54 : TSZ54) (hZ54 : GoodF Pg 59 (FZ54 SZ54)) : GoodF Pg 101 (FZ58 (GZ58 (N + 24) SZ54)) := by
  refine good_fs (cx := ⟨Pg, ofList [(59, (FZ54 SZ54))], isref, (N + 24)⟩) (ofList_cons hZ54 (ofList_nil _)) shFZ58 (spZ58 (GZ58 (N + 24) SZ54)) (anZ58 (N + 24) SZ54) 1 0 (by kernel_rfl) (fun i_ hi_ => by
    match i_, hi_ with
    | 0, _ => exact (fun hk e => by rw [show hookOf ((anZ58 (N + 24) SZ54) (lp Pg 101 0).1) = none from by kernel_rfl] at e; cases e)
    | (q + 1), h => omega) ?_
  intro a k h
  unfold spZ58 at h
  split at h
  · exact ⟨[], rfl, rfl, (eqZ58 _ _ _ _ _ _).trans h⟩
  · cases h

def anZ82 (N : Nat) (SZ8 : TSZ8) (SZ49 : TSZ49) (SZ81 : TSZ81) : Nat -> Option Ann := fun b_ => none
theorem eqZ82 (N : Nat) (SZ8 : TSZ8) (SZ49 : TSZ49) (SZ81 : TSZ81) (a_0 a_1 a_2 b_0 b_1 b_2 : Fl) (c_ : V -> List Blk -> Bool) : bodyV ⟨Pg, ofList [(48, (FZ8 SZ8)), (49, (FZ49 SZ49)), (50, (FZ81 SZ81))], isref, N⟩ (anZ82 N SZ8 SZ49 SZ81) 102 (shFZ82.args [.fl a_0, .fl a_1, .fl a_2, .fl b_0, .fl b_1, .fl b_2]) [] c_ = GZ82 N SZ8 SZ49 SZ81 a_0 a_1 a_2 b_0 b_1 b_2 (fun r0 r1 r2 r3 => c_ (.tup [.agg [.flt r0, .flt r1, .flt r2], .int .i64 r3]) []) := by kernel_rfl
theorem goodZ82 (N : Nat) (SZ8 : TSZ8) (SZ49 : TSZ49) (SZ81 : TSZ81) (hZ8 : GoodF Pg 48 (FZ8 SZ8)) (hZ49 : GoodF Pg 49 (FZ49 SZ49)) (hZ81 : GoodF Pg 50 (FZ81 SZ81)) : GoodF Pg 102 (FZ82 (GZ82 N SZ8 SZ49 SZ81)) := by
  refine good_fs (cx := ⟨Pg, ofList [(48, (FZ8 SZ8)), (49, (FZ49 SZ49)), (50, (FZ81 SZ81))], isref, N⟩) (ofList_cons hZ8 (ofList_cons hZ49 (ofList_cons hZ81 (ofList_nil _)))) shFZ82 (spZ82 (GZ82 N SZ8 SZ49 SZ81)) (anZ82 N SZ8 SZ49 SZ81) 0 0 (by kernel_rfl) (fun i_ hi_ => by omega) ?_
  intro a k h
  unfold spZ82 at h
  split at h
  · exact ⟨[], rfl, rfl, (eqZ82 _ _ _ _ _ _ _ _ _ _ _).trans h⟩
  · cases h

def anZ116 (N : Nat) (SZ58 : TSZ58) (SZ82 : TSZ82) (SZ22 : TSZ22) : Nat -> Option Ann := fun b_ => none
theorem eqZ116 (N : Nat) (SZ58 : TSZ58) (SZ82 : TSZ82) (SZ22 : TSZ22) (a_0 a_1 a_2 b_0 b_1 b_2 : Fl) (c_ : V -> List Blk -> Bool) : bodyV ⟨Pg, ofList [(101, (FZ58 SZ58)), (102, (FZ82 SZ82)), (51, (FZ22 SZ22))], isref, N⟩ (anZ116 N SZ58 SZ82 SZ22) 52 (shFZ116.args [.fl a_0, .fl a_1, .fl a_2, .fl b_0, .fl b_1, .fl b_2]) [] c_ = GZ116 N SZ58 SZ82 SZ22 a_0 a_1 a_2 b_0 b_1 b_2 (fun r0 r1 r2 r3 r4 r5 r6 r7 r8 r9 => c_ (.tup [.agg [.flt r0, .flt r1, .flt r2, .flt r3, .flt r4, .flt r5, .flt r6, .flt r7, .flt r8], .int .i64 r9]) []) := by kernel_rfl
theorem goodZ116 (N : Nat) (SZ58 : TSZ58) (SZ82 : TSZ82) (SZ22 : TSZ22) (hZ58 : GoodF Pg 101 (FZ58 SZ58)) (hZ82 : GoodF Pg 102 (FZ82 SZ82)) (hZ22 : GoodF Pg 51 (FZ22 SZ22)) : GoodF Pg 52 (FZ116 (GZ116 N SZ58 SZ82 SZ22)) := by
  refine good_fs (cx := ⟨Pg, ofList [(101, (FZ58 SZ58)), (102, (FZ82 SZ82)), (51, (FZ22 SZ22))], isref, N⟩) (ofList_cons hZ58 (ofList_cons hZ82 (ofList_cons hZ22 (ofList_nil _)))) shFZ116 (spZ116 (GZ116 N SZ58 SZ82 SZ22)) (anZ116 N SZ58 SZ82 SZ22) 0 0 (by kernel_rfl) (fun i_ hi_ => by omega) ?_
  intro a k h
  unfold spZ116 at h
  split at h
  · exact ⟨[], rfl, rfl, (eqZ116 _ _ _ _ _ _ _ _ _ _ _).trans h⟩
  · cases h

def anZ48 (N : Nat) (SZ62 : TSZ62) : Nat -> Option Ann := fun b_ => none
theorem eqZ48 (N : Nat) (SZ62 : TSZ62) (x : Fl) (b : Bool) (c_ : V -> List Blk -> Bool) : bodyV ⟨Pg, ofList [(103, (FZ62 SZ62))], isref, N⟩ (anZ48 N SZ62) 53 (shFZ48.args [.fl x, .bool b]) [⟨106, 1, .cells [.bool b]⟩] c_ = GZ48 N SZ62 x b (fun r1 => c_ (.flt x) [⟨106, 1, .cells [.bool r1]⟩]) := by kernel_rfl
theorem goodZ48 (N : Nat) (SZ62 : TSZ62) (hZ62 : GoodF Pg 103 (FZ62 SZ62)) : GoodF Pg 53 (FZ48 (GZ48 N SZ62)) := by
  refine good_fs (cx := ⟨Pg, ofList [(103, (FZ62 SZ62))], isref, N⟩) (ofList_cons hZ62 (ofList_nil _)) shFZ48 (spZ48 (GZ48 N SZ62)) (anZ48 N SZ62) 0 1 (by kernel_rfl) (fun i_ hi_ => by omega) ?_
  intro a k h
  unfold spZ48 at h
  split at h
  · exact ⟨[_], rfl, rfl, (eqZ48 _ _ _ _ _).trans h⟩
  · cases h

def anZ39 (N : Nat) (SZ48 : TSZ48) : Nat -> Option Ann := fun b_ => none
theorem eqZ39 (N : Nat) (SZ48 : TSZ48) (a b : Fl) (b_1 : Bool) (c_ : V -> List Blk -> Bool) : bodyV ⟨Pg, ofList [(53, (FZ48 SZ48))], isref, N⟩ (anZ39 N SZ48) 54 (shFZ39.args [.fl a, .fl b, .bool b_1]) [⟨106, 1, .cells [.bool b_1]⟩] c_ = GZ39 N SZ48 a b b_1 (fun r0 r1 => c_ (.flt r0) [⟨106, 1, .cells [.bool r1]⟩]) := by kernel_rfl
theorem goodZ39 (N : Nat) (SZ48 : TSZ48) (hZ48 : GoodF Pg 53 (FZ48 SZ48)) : GoodF Pg 54 (FZ39 (GZ39 N SZ48)) := by
  refine good_fs (cx := ⟨Pg, ofList [(53, (FZ48 SZ48))], isref, N⟩) (ofList_cons hZ48 (ofList_nil _)) shFZ39 (spZ39 (GZ39 N SZ48)) (anZ39 N SZ48) 0 1 (by kernel_rfl) (fun i_ hi_ => by omega) ?_
  intro a k h
  unfold spZ39 at h
  split at h
  · exact ⟨[_], rfl, rfl, (eqZ39 _ _ _ _ _ _).trans h⟩
  · cases h

def anZ83 (N : Nat) : Nat -> Option Ann := fun b_ => none
theorem eqZ83 (N : Nat) (b : Bool) (c_ : V -> List Blk -> Bool) : bodyV ⟨Pg, ofList [], isref, N⟩ (anZ83 N) 55 (shFZ83.args [.bool b]) [⟨106, 1, .cells [.bool b]⟩] c_ = GZ83 N b (c_ (.bool b) [⟨106, 1, .cells [.bool b]⟩]) := by kernel_rfl
theorem goodZ83 (N : Nat) : GoodF Pg 55 (FZ83 (GZ83 N)) := by
  refine good_fs (cx := ⟨Pg, ofList [], isref, N⟩) (ofList_nil _) shFZ83 (spZ83 (GZ83 N)) (anZ83 N) 0 1 (by kernel_rfl) (fun i_ hi_ => by omega) ?_
  intro a k h
  unfold spZ83 at h
  split at h
  · exact ⟨[_], rfl, rfl, (eqZ83 _ _ _).trans h⟩
  · cases h

def anZ73 (N : Nat) : Nat -> Option Ann := fun b_ => none
theorem eqZ73 (N : Nat) (n : Int) (c_ : V -> List Blk -> Bool) : bodyV ⟨Pg, ofList [], isref, N⟩ (anZ73 N) 115 (shFZ73.args [.int n]) [] c_ = GZ73 N n (fun r0 => c_ (.bool r0) []) := by kernel_rfl
theorem goodZ73 (N : Nat) : GoodF Pg 115 (FZ73 (GZ73 N)) := by
  refine good_fs (cx := ⟨Pg, ofList [], isref, N⟩) (ofList_nil _) shFZ73 (spZ73 (GZ73 N)) (anZ73 N) 0 0 (by kernel_rfl) (fun i_ hi_ => by omega) ?_
  intro a k h
  unfold spZ73 at h
  split at h
  · exact ⟨[], rfl, rfl, (eqZ73 _ _ _).trans h⟩
  · cases h

def anZ25 (N : Nat) (SZ73 : TSZ73) (SZ17 : TSZ17) : Nat -> Option Ann := fun b_ => none
theorem eqZ25 (N : Nat) (SZ73 : TSZ73) (SZ17 : TSZ17) (m_0 m_1 : Int) (m_2 : List Fl) (c_ : V -> List Blk -> Bool) : bodyV ⟨Pg, ofList [(115, (FZ73 SZ73)), (92, (FZ17 SZ17))], isref, N⟩ (anZ25 N SZ73 SZ17) 63 (shFZ25.args [.int m_0, .int m_1, .fls m_2]) [] c_ = GZ25 N SZ73 SZ17 m_0 m_1 m_2 (fun r0 => c_ (.int .i64 r0) []) := by kernel_rfl
theorem goodZ25 (N : Nat) (SZ73 : TSZ73) (SZ17 : TSZ17) (hZ73 : GoodF Pg 115 (FZ73 SZ73)) (hZ17 : GoodF Pg 92 (FZ17 SZ17)) : GoodF Pg 63 (FZ25 (GZ25 N SZ73 SZ17)) := by
  refine good_fs (cx := ⟨Pg, ofList [(115, (FZ73 SZ73)), (92, (FZ17 SZ17))], isref, N⟩) (ofList_cons hZ73 (ofList_cons hZ17 (ofList_nil _))) shFZ25 (spZ25 (GZ25 N SZ73 SZ17)) (anZ25 N SZ73 SZ17) 0 0 (by kernel_rfl) (fun i_ hi_ => by omega) ?_
  intro a k h
  unfold spZ25 at h
  split at h
  · exact ⟨[], rfl, rfl, (eqZ25 _ _ _ _ _ _ _).trans h⟩
  · cases h

def anZ12 (N : Nat) : Nat -> Option Ann := fun b_ => none
theorem eqZ12 (N : Nat) (i j b b_1 : Int) (b_2 : List Fl) (c_ : V -> List Blk -> Bool) : bodyV ⟨Pg, ofList [], isref, N⟩ (anZ12 N) 104 (shFZ12.args [.int i, .int j, .int b, .int b_1, .fls b_2]) [⟨64, 1, .cells [.int .i64 b, .int .i64 b_1, .rof b_2]⟩] c_ = GZ12 N i j b b_1 b_2 (fun r0 => c_ (.flt r0) [⟨64, 1, .cells [.int .i64 b, .int .i64 b_1, .rof b_2]⟩]) := by kernel_rfl
theorem goodZ12 (N : Nat) : GoodF Pg 104 (FZ12 (GZ12 N)) := by
  refine good_fs (cx := ⟨Pg, ofList [], isref, N⟩) (ofList_nil _) shFZ12 (spZ12 (GZ12 N)) (anZ12 N) 0 1 (by kernel_rfl) (fun i_ hi_ => by omega) ?_
  intro a k h
  unfold spZ12 at h
  split at h
  · exact ⟨[_], rfl, rfl, (eqZ12 _ _ _ _ _ _ _).trans h⟩
  · cases h

def anZ43 (N : Nat) (SZ15 : TSZ15) : Nat -> Option Ann := fun b_ => none
theorem eqZ43 (N : Nat) (SZ15 : TSZ15) (q_0 q_1 q_2 q_3 : Fl) (c_ : V -> List Blk -> Bool) : bodyV ⟨Pg, ofList [(47, (FZ15 SZ15))], isref, N⟩ (anZ43 N SZ15) 105 (shFZ43.args [.fl q_0, .fl q_1, .fl q_2, .fl q_3]) [] c_ = GZ43 N SZ15 q_0 q_1 q_2 q_3 (fun r0 r1 r2 r3 r4 => c_ (.tup [.agg [.flt r0, .flt r1, .flt r2, .flt r3], .int .i64 r4]) []) := by kernel_rfl
theorem goodZ43 (N : Nat) (SZ15 : TSZ15) (hZ15 : GoodF Pg 47 (FZ15 SZ15)) : GoodF Pg 105 (FZ43 (GZ43 N SZ15)) := by
  refine good_fs (cx := ⟨Pg, ofList [(47, (FZ15 SZ15))], isref, N⟩) (ofList_cons hZ15 (ofList_nil _)) shFZ43 (spZ43 (GZ43 N SZ15)) (anZ43 N SZ15) 0 0 (by kernel_rfl) (fun i_ hi_ => by omega) ?_
  intro a k h
  unfold spZ43 at h
  split at h
  · exact ⟨[], rfl, rfl, (eqZ43 _ _ _ _ _ _ _).trans h⟩
  · cases h

end Go.Proofs.YtgngdkjghdohiaaGreat
