/-
  THE TIES: each printed meaning is what the program does (written by program).
  Conditions: none.
-/
import Derived.Test.YtgngdkjghdohiaaGp
namespace Go.Proofs.Ytgngdkjghdohiaa
open Go Go.Mach Go.Proofs
set_option linter.unusedVariables false
set_option maxRecDepth 50000

def sh_st_binnacleref16_Update_2 : StSh := ⟨(sqs 4 (.ptr 0 0 :: (.any :: (.any :: (.any :: (.ptr 1 0 :: (.ptr 2 0 :: (.any :: (.any :: (.int .i64 :: (.ptr 3 0 :: (.any :: (.slw 4 :: (.slw 5 :: (.flt :: (.slw 6 :: (.ptr 7 0 :: (.int .i64 :: (.any :: (.any :: (.flt :: (.flt :: (.int .i64 :: (sqs 205 [])))))))))))))))))))))))), [some (32, 1, .cells [.rof, .int .i64, .int .i64, .rof]), some (32, 1, .cells [.nil, .int .i64, .int .i64, .nil]), some (53, 1, .cells [.flt, .flt, .flt, .nil]), some (87, 1, .cells [.bool]), some (48, 1, .flts), some (48, 1, .flts), some (48, 1, .flts), some (28, 1, .cells [.int .i64, .int .i64, .slw 8]), some (48, 1, .flts)]⟩
def sx0_st_binnacleref16_Update_2 : StSh := ⟨(sqs 4 (.ptr 0 0 :: (.any :: (.any :: (.any :: (.ptr 1 0 :: (.ptr 2 0 :: (.any :: (.any :: (.int .i64 :: (.ptr 3 0 :: (.any :: (.slw 4 :: (.slw 5 :: (.flt :: (.slw 6 :: (.ptr 7 0 :: (.int .i64 :: (sqs 210 []))))))))))))))))))), [some (32, 1, .cells [.rof, .int .i64, .int .i64, .rof]), some (32, 1, .cells [.nil, .int .i64, .int .i64, .nil]), some (53, 1, .cells [.flt, .flt, .flt, .nil]), some (87, 1, .cells [.bool]), some (48, 1, .flts), some (48, 1, .flts), some (48, 1, .flts), some (28, 1, .cells [.int .i64, .int .i64, .slw 8]), some (48, 1, .flts)]⟩
def hk_st_binnacleref16_Update_2 (N : Nat) (Sq8 : TSq8) (Sq32 : TSq32) (Sq1 : TSq1) (Sq45 : TSq45) (Sq7 : TSq7) (Sq6 : TSq6) (Sq10 : TSq10) (Sq31 : TSq31) (Sq20 : TSq20) (Sq21 : TSq21) (Sq14 : TSq14) (Sq3 : TSq3) : List Atom -> K -> Bool := fun a_ κ => match a_ with
  | [.int n_1, .fl y_1, .int j_1, .fl c, .fl t, .int i, .fls s_7, .int s_8, .int s_9, .fls s_10, .int t8_2, .int t8_3, .fl t9_3, .fl t9_4, .fl t9_5, .bool steps_1, .fls v_1, .fls a_1, .fls w_1, .int l_2, .int l_3, .fls b8_1] => iterG N (st_z16_Update_2 N Sq8 Sq32 Sq1 Sq45 Sq7 Sq6 Sq10 Sq31 Sq20 Sq21 Sq14 Sq3 n_1 y_1 j_1 c t s_7 s_8 s_9 s_10 t8_2 t8_3 t9_3 t9_4 t9_5 v_1 a_1 l_2 l_3 (fun r12 r15 r18 => κ.ext 2 (sx0_st_binnacleref16_Update_2.build [.int n_1, .fl y_1, .int j_1, .fls s_7, .int s_8, .int s_9, .fls s_10, .int t8_2, .int t8_3, .fl t9_3, .fl t9_4, .fl t9_5, .bool r12, .fls v_1, .fls a_1, .fls r15, .int l_2, .int l_3, .fls r18]))) (i, steps_1, w_1, b8_1)
  | _ => false
def sh_st_binnacleref16_Update_0 : StSh := ⟨(sqs 4 (.ptr 0 0 :: (.any :: (.any :: (.any :: (.ptr 1 0 :: (.ptr 2 0 :: (.any :: (.any :: (.int .i64 :: (.ptr 3 0 :: (.any :: (.slw 4 :: (.slw 5 :: (.flt :: (.slw 6 :: (.ptr 7 0 :: (.int .i64 :: (sqs 210 []))))))))))))))))))), [some (32, 1, .cells [.rof, .int .i64, .int .i64, .rof]), some (32, 1, .cells [.nil, .int .i64, .int .i64, .nil]), some (53, 1, .cells [.flt, .flt, .flt, .nil]), some (87, 1, .cells [.bool]), some (48, 1, .flts), some (48, 1, .flts), some (48, 1, .flts), some (28, 1, .cells [.int .i64, .int .i64, .slw 8]), some (48, 1, .flts)]⟩
def sx0_st_binnacleref16_Update_0 : StSh := ⟨(sqs 4 (.ptr 0 0 :: (.any :: (.any :: (.any :: (.ptr 1 0 :: (.ptr 2 0 :: (.any :: (.any :: (.int .i64 :: (.ptr 3 0 :: (.any :: (.any :: (.slw 4 :: (.flt :: (.slw 5 :: (.ptr 6 0 :: (sqs 211 [])))))))))))))))))), [some (32, 1, .cells [.rof, .int .i64, .int .i64, .rof]), some (32, 1, .cells [.nil, .int .i64, .int .i64, .nil]), some (53, 1, .cells [.flt, .flt, .flt, .nil]), some (87, 1, .cells [.bool]), some (48, 1, .flts), some (48, 1, .flts), some (28, 1, .cells [.int .i64, .int .i64, .slw 7]), some (48, 1, .flts)]⟩
def hk_st_binnacleref16_Update_0 (N : Nat) (Sq8 : TSq8) (Sq32 : TSq32) (Sq1 : TSq1) (Sq45 : TSq45) (Sq7 : TSq7) (Sq6 : TSq6) (Sq10 : TSq10) (Sq31 : TSq31) (Sq20 : TSq20) (Sq21 : TSq21) (Sq14 : TSq14) (Sq3 : TSq3) : List Atom -> K -> Bool := fun a_ κ => match a_ with
  | [.int n, .fl y, .int j, .fls s, .int s_4, .int s_5, .fls s_6, .int t8, .int t8_1, .fl t9, .fl t9_1, .fl t9_2, .bool steps, .fls v, .fls a, .fls w, .int l, .int l_1, .fls b8] => iterG N (st_z16_Update_0 N Sq8 Sq32 Sq1 Sq45 Sq7 Sq6 Sq10 Sq31 Sq20 Sq21 Sq14 Sq3 n y s s_4 s_5 s_6 t8 t8_1 t9 t9_1 t9_2 v a l l_1 (fun r11 r13 r16 => κ.ext 0 (sx0_st_binnacleref16_Update_0.build [.int n, .fl y, .fls s, .int s_4, .int s_5, .fls s_6, .int t8, .int t8_1, .fl t9, .fl t9_1, .fl t9_2, .bool r11, .fls a, .fls r13, .int l, .int l_1, .fls r16]))) (j, steps, w, b8)
  | _ => false
def sh_st_binnacleref16_Update_4 : StSh := ⟨(sqs 4 (.ptr 0 0 :: (.any :: (.any :: (.any :: (.ptr 1 0 :: (.ptr 2 0 :: (.any :: (.any :: (.int .i64 :: (.ptr 3 0 :: (.any :: (.any :: (.slw 4 :: (.flt :: (.slw 5 :: (.ptr 6 0 :: (sqs 7 (.slw 7 :: (.slw 8 :: (.int .i64 :: (sqs 201 [])))))))))))))))))))))), [some (32, 1, .cells [.rof, .int .i64, .int .i64, .rof]), some (32, 1, .cells [.nil, .int .i64, .int .i64, .nil]), some (53, 1, .cells [.flt, .flt, .flt, .nil]), some (87, 1, .cells [.bool]), some (48, 1, .flts), some (48, 1, .flts), some (28, 1, .cells [.int .i64, .int .i64, .slw 9]), some (48, 1, .flts), some (48, 1, .flts), some (48, 1, .flts)]⟩
def sx0_st_binnacleref16_Update_4 : StSh := ⟨(sqs 8 (.ptr 0 0 :: (.ptr 1 0 :: (.any :: (.any :: (.any :: (.ptr 2 0 :: (.any :: (.any :: (.slw 3 :: (.flt :: (.any :: (.ptr 4 0 :: (sqs 7 (.slw 5 :: (.slw 6 :: (sqs 202 []))))))))))))))))), [some (32, 1, .cells [.nil, .int .i64, .int .i64, .nil]), some (53, 1, .cells [.flt, .flt, .flt, .nil]), some (87, 1, .cells [.bool]), some (48, 1, .flts), some (28, 1, .cells [.int .i64, .int .i64, .slw 7]), some (48, 1, .flts), some (48, 1, .flts), some (48, 1, .flts)]⟩
def hk_st_binnacleref16_Update_4 (N : Nat) (Sq8 : TSq8) (Sq32 : TSq32) (Sq1 : TSq1) (Sq45 : TSq45) (Sq7 : TSq7) (Sq6 : TSq6) (Sq10 : TSq10) (Sq31 : TSq31) (Sq20 : TSq20) (Sq21 : TSq21) (Sq14 : TSq14) (Sq3 : TSq3) : List Atom -> K -> Bool := fun a_ κ => match a_ with
  | [.int n_4, .fl y_4, .int i_3, .fls s_19, .int s_20, .int s_21, .fls s_22, .int t8_8, .int t8_9, .fl t9_12, .fl t9_13, .fl t9_14, .bool steps_6, .fls a_4, .fls w_6, .int l_8, .int l_9, .fls k__1, .fls x, .fls b9] => iterG N (st_z16_Update_4 N Sq8 Sq32 Sq1 Sq45 Sq7 Sq6 Sq10 Sq31 Sq20 Sq21 Sq14 Sq3 n_4 y_4 s_19 s_20 s_21 s_22 t8_8 t8_9 t9_12 t9_13 t9_14 a_4 w_6 l_8 l_9 b9 (fun r6 r10 r11 => κ.ext 4 (sx0_st_binnacleref16_Update_4.build [.fl y_4, .int t8_8, .int t8_9, .fl t9_12, .fl t9_13, .fl t9_14, .bool r6, .fls a_4, .int l_8, .int l_9, .fls r10, .fls r11, .fls b9]))) (i_3, steps_6, k__1, x)
  | _ => false
def anq23 (N : Nat) (Sq8 : TSq8) (Sq32 : TSq32) (Sq1 : TSq1) (Sq45 : TSq45) (Sq7 : TSq7) (Sq6 : TSq6) (Sq10 : TSq10) (Sq31 : TSq31) (Sq20 : TSq20) (Sq21 : TSq21) (Sq14 : TSq14) (Sq3 : TSq3) : Nat -> Option Ann := fun b_ => cond (b_ == 2) (some ⟨⟨[4, 8, 9, 12, 13, 15, 16, 17, 18, 19, 20, 23, 24, 25], [], [], []⟩, [(2, ⟨[4, 8, 9, 12, 13, 15, 16, 17, 18, 19, 20], [], [], []⟩)], some ⟨[8, 9, 10], [], [], []⟩, some (mkHooks [(sh_st_binnacleref16_Update_2, hk_st_binnacleref16_Update_2 N Sq8 Sq32 Sq1 Sq45 Sq7 Sq6 Sq10 Sq31 Sq20 Sq21 Sq14 Sq3)])⟩) (cond (b_ == 0) (some ⟨⟨[4, 8, 9, 12, 13, 15, 16, 17, 18, 19, 20], [], [], []⟩, [(0, ⟨[4, 8, 9, 12, 13, 16, 17, 18, 19], [], [], []⟩)], some ⟨[8, 9, 10], [], [], []⟩, some (mkHooks [(sh_st_binnacleref16_Update_0, hk_st_binnacleref16_Update_0 N Sq8 Sq32 Sq1 Sq45 Sq7 Sq6 Sq10 Sq31 Sq20 Sq21 Sq14 Sq3)])⟩) (cond (b_ == 4) (some ⟨⟨[4, 8, 9, 12, 13, 16, 17, 18, 19, 27, 28, 29], [(27, none, 48), (28, none, 48)], [], []⟩, [(4, ⟨[8, 9, 13, 16, 17, 19, 27, 28], [], [], []⟩)], some ⟨[8, 9, 10], [], [], []⟩, some (mkHooks [(sh_st_binnacleref16_Update_4, hk_st_binnacleref16_Update_4 N Sq8 Sq32 Sq1 Sq45 Sq7 Sq6 Sq10 Sq31 Sq20 Sq21 Sq14 Sq3)])⟩) (none)))
theorem eq_st_binnacleref16_Update_2 (N : Nat) (Sq8 : TSq8) (Sq32 : TSq32) (Sq1 : TSq1) (Sq45 : TSq45) (Sq7 : TSq7) (Sq6 : TSq6) (Sq10 : TSq10) (Sq31 : TSq31) (Sq20 : TSq20) (Sq21 : TSq21) (Sq14 : TSq14) (Sq3 : TSq3) (κ : K) (n_1 : Int) (y_1 : Fl) (j_1 : Int) (c t : Fl) (i : Int) (s_7 : List Fl) (s_8 s_9 : Int) (s_10 : List Fl) (t8_2 t8_3 : Int) (t9_3 t9_4 t9_5 : Fl) (steps_1 : Bool) (v_1 a_1 w_1 : List Fl) (l_2 l_3 : Int) (b8_1 : List Fl) : iter N (fun s k => codeV ⟨Pg, ofList [(18, (Fq8 Sq8)), (40, (Fq32 Sq32)), (42, (Fq1 Sq1)), (41, (Fq45 Sq45)), (17, (Fq7 Sq7)), (43, (Fq6 Sq6)), (44, (Fq10 Sq10)), (45, (Fq31 Sq31)), (46, (Fq20 Sq20)), (47, (Fq21 Sq21)), (48, (Fq14 Sq14)), (49, (Fq3 Sq3))], isref, N⟩ 0 (anq23 N Sq8 Sq32 Sq1 Sq45 Sq7 Sq6 Sq10 Sq31 Sq20 Sq21 Sq14 Sq3) (lp Pg 20 1).2 (lp Pg 20 1).1 s (roundK Pg 0 ((anq23 N Sq8 Sq32 Sq1 Sq45 Sq7 Sq6 Sq10 Sq31 Sq20 Sq21 Sq14 Sq3) (lp Pg 20 1).1) κ k)) (sh_st_binnacleref16_Update_2.build [.int n_1, .fl y_1, .int j_1, .fl c, .fl t, .int i, .fls s_7, .int s_8, .int s_9, .fls s_10, .int t8_2, .int t8_3, .fl t9_3, .fl t9_4, .fl t9_5, .bool steps_1, .fls v_1, .fls a_1, .fls w_1, .int l_2, .int l_3, .fls b8_1]) = iterG N (st_z16_Update_2 N Sq8 Sq32 Sq1 Sq45 Sq7 Sq6 Sq10 Sq31 Sq20 Sq21 Sq14 Sq3 n_1 y_1 j_1 c t s_7 s_8 s_9 s_10 t8_2 t8_3 t9_3 t9_4 t9_5 v_1 a_1 l_2 l_3 (fun r12 r15 r18 => κ.ext 2 (sx0_st_binnacleref16_Update_2.build [.int n_1, .fl y_1, .int j_1, .fls s_7, .int s_8, .int s_9, .fls s_10, .int t8_2, .int t8_3, .fl t9_3, .fl t9_4, .fl t9_5, .bool r12, .fls v_1, .fls a_1, .fls r15, .int l_2, .int l_3, .fls r18]))) (i, steps_1, w_1, b8_1) :=
  iter_tr (fun (v_ : Int × Bool × List Fl × List Fl) => sh_st_binnacleref16_Update_2.build [.int n_1, .fl y_1, .int j_1, .fl c, .fl t, .int v_.1, .fls s_7, .int s_8, .int s_9, .fls s_10, .int t8_2, .int t8_3, .fl t9_3, .fl t9_4, .fl t9_5, .bool v_.2.1, .fls v_1, .fls a_1, .fls v_.2.2.1, .int l_2, .int l_3, .fls v_.2.2.2]) (fun v_ K_ => by obtain ⟨i, steps_1, w_1, b8_1⟩ := v_; kernel_rfl) N (i, steps_1, w_1, b8_1)
theorem hk1_st_binnacleref16_Update_2 (N : Nat) (Sq8 : TSq8) (Sq32 : TSq32) (Sq1 : TSq1) (Sq45 : TSq45) (Sq7 : TSq7) (Sq6 : TSq6) (Sq10 : TSq10) (Sq31 : TSq31) (Sq20 : TSq20) (Sq21 : TSq21) (Sq14 : TSq14) (Sq3 : TSq3) : HookFor ⟨Pg, ofList [(18, (Fq8 Sq8)), (40, (Fq32 Sq32)), (42, (Fq1 Sq1)), (41, (Fq45 Sq45)), (17, (Fq7 Sq7)), (43, (Fq6 Sq6)), (44, (Fq10 Sq10)), (45, (Fq31 Sq31)), (46, (Fq20 Sq20)), (47, (Fq21 Sq21)), (48, (Fq14 Sq14)), (49, (Fq3 Sq3))], isref, N⟩ 0 (anq23 N Sq8 Sq32 Sq1 Sq45 Sq7 Sq6 Sq10 Sq31 Sq20 Sq21 Sq14 Sq3) (lp Pg 20 1) (sh_st_binnacleref16_Update_2, hk_st_binnacleref16_Update_2 N Sq8 Sq32 Sq1 Sq45 Sq7 Sq6 Sq10 Sq31 Sq20 Sq21 Sq14 Sq3) := by
  intro a κ h
  simp only at h
  unfold hk_st_binnacleref16_Update_2 at h
  split at h
  · exact (eq_st_binnacleref16_Update_2 _ _ _ _ _ _ _ _ _ _ _ _ _ _ _ _ _ _ _ _ _ _ _ _ _ _ _ _ _ _ _ _ _ _ _ _).trans h
  · cases h
theorem eq_st_binnacleref16_Update_0 (N : Nat) (Sq8 : TSq8) (Sq32 : TSq32) (Sq1 : TSq1) (Sq45 : TSq45) (Sq7 : TSq7) (Sq6 : TSq6) (Sq10 : TSq10) (Sq31 : TSq31) (Sq20 : TSq20) (Sq21 : TSq21) (Sq14 : TSq14) (Sq3 : TSq3) (κ : K) (n : Int) (y : Fl) (j : Int) (s : List Fl) (s_4 s_5 : Int) (s_6 : List Fl) (t8 t8_1 : Int) (t9 t9_1 t9_2 : Fl) (steps : Bool) (v a w : List Fl) (l l_1 : Int) (b8 : List Fl) : iter N (fun s k => codeV ⟨Pg, ofList [(18, (Fq8 Sq8)), (40, (Fq32 Sq32)), (42, (Fq1 Sq1)), (41, (Fq45 Sq45)), (17, (Fq7 Sq7)), (43, (Fq6 Sq6)), (44, (Fq10 Sq10)), (45, (Fq31 Sq31)), (46, (Fq20 Sq20)), (47, (Fq21 Sq21)), (48, (Fq14 Sq14)), (49, (Fq3 Sq3))], isref, N⟩ 0 (anq23 N Sq8 Sq32 Sq1 Sq45 Sq7 Sq6 Sq10 Sq31 Sq20 Sq21 Sq14 Sq3) (lp Pg 20 0).2 (lp Pg 20 0).1 s (roundK Pg 0 ((anq23 N Sq8 Sq32 Sq1 Sq45 Sq7 Sq6 Sq10 Sq31 Sq20 Sq21 Sq14 Sq3) (lp Pg 20 0).1) κ k)) (sh_st_binnacleref16_Update_0.build [.int n, .fl y, .int j, .fls s, .int s_4, .int s_5, .fls s_6, .int t8, .int t8_1, .fl t9, .fl t9_1, .fl t9_2, .bool steps, .fls v, .fls a, .fls w, .int l, .int l_1, .fls b8]) = iterG N (st_z16_Update_0 N Sq8 Sq32 Sq1 Sq45 Sq7 Sq6 Sq10 Sq31 Sq20 Sq21 Sq14 Sq3 n y s s_4 s_5 s_6 t8 t8_1 t9 t9_1 t9_2 v a l l_1 (fun r11 r13 r16 => κ.ext 0 (sx0_st_binnacleref16_Update_0.build [.int n, .fl y, .fls s, .int s_4, .int s_5, .fls s_6, .int t8, .int t8_1, .fl t9, .fl t9_1, .fl t9_2, .bool r11, .fls a, .fls r13, .int l, .int l_1, .fls r16]))) (j, steps, w, b8) :=
  iter_tr (fun (v_ : Int × Bool × List Fl × List Fl) => sh_st_binnacleref16_Update_0.build [.int n, .fl y, .int v_.1, .fls s, .int s_4, .int s_5, .fls s_6, .int t8, .int t8_1, .fl t9, .fl t9_1, .fl t9_2, .bool v_.2.1, .fls v, .fls a, .fls v_.2.2.1, .int l, .int l_1, .fls v_.2.2.2]) (fun v_ K_ => by obtain ⟨j, steps, w, b8⟩ := v_; kernel_rfl) N (j, steps, w, b8)
theorem hk1_st_binnacleref16_Update_0 (N : Nat) (Sq8 : TSq8) (Sq32 : TSq32) (Sq1 : TSq1) (Sq45 : TSq45) (Sq7 : TSq7) (Sq6 : TSq6) (Sq10 : TSq10) (Sq31 : TSq31) (Sq20 : TSq20) (Sq21 : TSq21) (Sq14 : TSq14) (Sq3 : TSq3) : HookFor ⟨Pg, ofList [(18, (Fq8 Sq8)), (40, (Fq32 Sq32)), (42, (Fq1 Sq1)), (41, (Fq45 Sq45)), (17, (Fq7 Sq7)), (43, (Fq6 Sq6)), (44, (Fq10 Sq10)), (45, (Fq31 Sq31)), (46, (Fq20 Sq20)), (47, (Fq21 Sq21)), (48, (Fq14 Sq14)), (49, (Fq3 Sq3))], isref, N⟩ 0 (anq23 N Sq8 Sq32 Sq1 Sq45 Sq7 Sq6 Sq10 Sq31 Sq20 Sq21 Sq14 Sq3) (lp Pg 20 0) (sh_st_binnacleref16_Update_0, hk_st_binnacleref16_Update_0 N Sq8 Sq32 Sq1 Sq45 Sq7 Sq6 Sq10 Sq31 Sq20 Sq21 Sq14 Sq3) := by
  intro a κ h
  simp only at h
  unfold hk_st_binnacleref16_Update_0 at h
  split at h
  · exact (eq_st_binnacleref16_Update_0 _ _ _ _ _ _ _ _ _ _ _ _ _ _ _ _ _ _ _ _ _ _ _ _ _ _ _ _ _ _ _ _ _).trans h
  · cases h
theorem eq_st_binnacleref16_Update_4 (N : Nat) (Sq8 : TSq8) (Sq32 : TSq32) (Sq1 : TSq1) (Sq45 : TSq45) (Sq7 : TSq7) (Sq6 : TSq6) (Sq10 : TSq10) (Sq31 : TSq31) (Sq20 : TSq20) (Sq21 : TSq21) (Sq14 : TSq14) (Sq3 : TSq3) (κ : K) (n_4 : Int) (y_4 : Fl) (i_3 : Int) (s_19 : List Fl) (s_20 s_21 : Int) (s_22 : List Fl) (t8_8 t8_9 : Int) (t9_12 t9_13 t9_14 : Fl) (steps_6 : Bool) (a_4 w_6 : List Fl) (l_8 l_9 : Int) (k__1 x b9 : List Fl) : iter N (fun s k => codeV ⟨Pg, ofList [(18, (Fq8 Sq8)), (40, (Fq32 Sq32)), (42, (Fq1 Sq1)), (41, (Fq45 Sq45)), (17, (Fq7 Sq7)), (43, (Fq6 Sq6)), (44, (Fq10 Sq10)), (45, (Fq31 Sq31)), (46, (Fq20 Sq20)), (47, (Fq21 Sq21)), (48, (Fq14 Sq14)), (49, (Fq3 Sq3))], isref, N⟩ 0 (anq23 N Sq8 Sq32 Sq1 Sq45 Sq7 Sq6 Sq10 Sq31 Sq20 Sq21 Sq14 Sq3) (lp Pg 20 2).2 (lp Pg 20 2).1 s (roundK Pg 0 ((anq23 N Sq8 Sq32 Sq1 Sq45 Sq7 Sq6 Sq10 Sq31 Sq20 Sq21 Sq14 Sq3) (lp Pg 20 2).1) κ k)) (sh_st_binnacleref16_Update_4.build [.int n_4, .fl y_4, .int i_3, .fls s_19, .int s_20, .int s_21, .fls s_22, .int t8_8, .int t8_9, .fl t9_12, .fl t9_13, .fl t9_14, .bool steps_6, .fls a_4, .fls w_6, .int l_8, .int l_9, .fls k__1, .fls x, .fls b9]) = iterG N (st_z16_Update_4 N Sq8 Sq32 Sq1 Sq45 Sq7 Sq6 Sq10 Sq31 Sq20 Sq21 Sq14 Sq3 n_4 y_4 s_19 s_20 s_21 s_22 t8_8 t8_9 t9_12 t9_13 t9_14 a_4 w_6 l_8 l_9 b9 (fun r6 r10 r11 => κ.ext 4 (sx0_st_binnacleref16_Update_4.build [.fl y_4, .int t8_8, .int t8_9, .fl t9_12, .fl t9_13, .fl t9_14, .bool r6, .fls a_4, .int l_8, .int l_9, .fls r10, .fls r11, .fls b9]))) (i_3, steps_6, k__1, x) :=
  iter_tr (fun (v_ : Int × Bool × List Fl × List Fl) => sh_st_binnacleref16_Update_4.build [.int n_4, .fl y_4, .int v_.1, .fls s_19, .int s_20, .int s_21, .fls s_22, .int t8_8, .int t8_9, .fl t9_12, .fl t9_13, .fl t9_14, .bool v_.2.1, .fls a_4, .fls w_6, .int l_8, .int l_9, .fls v_.2.2.1, .fls v_.2.2.2, .fls b9]) (fun v_ K_ => by obtain ⟨i_3, steps_6, k__1, x⟩ := v_; kernel_rfl) N (i_3, steps_6, k__1, x)
theorem hk1_st_binnacleref16_Update_4 (N : Nat) (Sq8 : TSq8) (Sq32 : TSq32) (Sq1 : TSq1) (Sq45 : TSq45) (Sq7 : TSq7) (Sq6 : TSq6) (Sq10 : TSq10) (Sq31 : TSq31) (Sq20 : TSq20) (Sq21 : TSq21) (Sq14 : TSq14) (Sq3 : TSq3) : HookFor ⟨Pg, ofList [(18, (Fq8 Sq8)), (40, (Fq32 Sq32)), (42, (Fq1 Sq1)), (41, (Fq45 Sq45)), (17, (Fq7 Sq7)), (43, (Fq6 Sq6)), (44, (Fq10 Sq10)), (45, (Fq31 Sq31)), (46, (Fq20 Sq20)), (47, (Fq21 Sq21)), (48, (Fq14 Sq14)), (49, (Fq3 Sq3))], isref, N⟩ 0 (anq23 N Sq8 Sq32 Sq1 Sq45 Sq7 Sq6 Sq10 Sq31 Sq20 Sq21 Sq14 Sq3) (lp Pg 20 2) (sh_st_binnacleref16_Update_4, hk_st_binnacleref16_Update_4 N Sq8 Sq32 Sq1 Sq45 Sq7 Sq6 Sq10 Sq31 Sq20 Sq21 Sq14 Sq3) := by
  intro a κ h
  simp only at h
  unfold hk_st_binnacleref16_Update_4 at h
  split at h
  · exact (eq_st_binnacleref16_Update_4 _ _ _ _ _ _ _ _ _ _ _ _ _ _ _ _ _ _ _ _ _ _ _ _ _ _ _ _ _ _ _ _ _ _).trans h
  · cases h
theorem ho_binnacleref16_Update_2 (N : Nat) (Sq8 : TSq8) (Sq32 : TSq32) (Sq1 : TSq1) (Sq45 : TSq45) (Sq7 : TSq7) (Sq6 : TSq6) (Sq10 : TSq10) (Sq31 : TSq31) (Sq20 : TSq20) (Sq21 : TSq21) (Sq14 : TSq14) (Sq3 : TSq3) : HookOk ⟨Pg, ofList [(18, (Fq8 Sq8)), (40, (Fq32 Sq32)), (42, (Fq1 Sq1)), (41, (Fq45 Sq45)), (17, (Fq7 Sq7)), (43, (Fq6 Sq6)), (44, (Fq10 Sq10)), (45, (Fq31 Sq31)), (46, (Fq20 Sq20)), (47, (Fq21 Sq21)), (48, (Fq14 Sq14)), (49, (Fq3 Sq3))], isref, N⟩ 0 (anq23 N Sq8 Sq32 Sq1 Sq45 Sq7 Sq6 Sq10 Sq31 Sq20 Sq21 Sq14 Sq3) (lp Pg 20 1) :=
  hooks_ok [(sh_st_binnacleref16_Update_2, hk_st_binnacleref16_Update_2 N Sq8 Sq32 Sq1 Sq45 Sq7 Sq6 Sq10 Sq31 Sq20 Sq21 Sq14 Sq3)] (by kernel_rfl) ⟨hk1_st_binnacleref16_Update_2 _ _ _ _ _ _ _ _ _ _ _ _ _, trivial⟩
theorem ho_binnacleref16_Update_0 (N : Nat) (Sq8 : TSq8) (Sq32 : TSq32) (Sq1 : TSq1) (Sq45 : TSq45) (Sq7 : TSq7) (Sq6 : TSq6) (Sq10 : TSq10) (Sq31 : TSq31) (Sq20 : TSq20) (Sq21 : TSq21) (Sq14 : TSq14) (Sq3 : TSq3) : HookOk ⟨Pg, ofList [(18, (Fq8 Sq8)), (40, (Fq32 Sq32)), (42, (Fq1 Sq1)), (41, (Fq45 Sq45)), (17, (Fq7 Sq7)), (43, (Fq6 Sq6)), (44, (Fq10 Sq10)), (45, (Fq31 Sq31)), (46, (Fq20 Sq20)), (47, (Fq21 Sq21)), (48, (Fq14 Sq14)), (49, (Fq3 Sq3))], isref, N⟩ 0 (anq23 N Sq8 Sq32 Sq1 Sq45 Sq7 Sq6 Sq10 Sq31 Sq20 Sq21 Sq14 Sq3) (lp Pg 20 0) :=
  hooks_ok [(sh_st_binnacleref16_Update_0, hk_st_binnacleref16_Update_0 N Sq8 Sq32 Sq1 Sq45 Sq7 Sq6 Sq10 Sq31 Sq20 Sq21 Sq14 Sq3)] (by kernel_rfl) ⟨hk1_st_binnacleref16_Update_0 _ _ _ _ _ _ _ _ _ _ _ _ _, trivial⟩
theorem ho_binnacleref16_Update_4 (N : Nat) (Sq8 : TSq8) (Sq32 : TSq32) (Sq1 : TSq1) (Sq45 : TSq45) (Sq7 : TSq7) (Sq6 : TSq6) (Sq10 : TSq10) (Sq31 : TSq31) (Sq20 : TSq20) (Sq21 : TSq21) (Sq14 : TSq14) (Sq3 : TSq3) : HookOk ⟨Pg, ofList [(18, (Fq8 Sq8)), (40, (Fq32 Sq32)), (42, (Fq1 Sq1)), (41, (Fq45 Sq45)), (17, (Fq7 Sq7)), (43, (Fq6 Sq6)), (44, (Fq10 Sq10)), (45, (Fq31 Sq31)), (46, (Fq20 Sq20)), (47, (Fq21 Sq21)), (48, (Fq14 Sq14)), (49, (Fq3 Sq3))], isref, N⟩ 0 (anq23 N Sq8 Sq32 Sq1 Sq45 Sq7 Sq6 Sq10 Sq31 Sq20 Sq21 Sq14 Sq3) (lp Pg 20 2) :=
  hooks_ok [(sh_st_binnacleref16_Update_4, hk_st_binnacleref16_Update_4 N Sq8 Sq32 Sq1 Sq45 Sq7 Sq6 Sq10 Sq31 Sq20 Sq21 Sq14 Sq3)] (by kernel_rfl) ⟨hk1_st_binnacleref16_Update_4 _ _ _ _ _ _ _ _ _ _ _ _ _, trivial⟩
theorem eqq23 (N : Nat) (Sq8 : TSq8) (Sq32 : TSq32) (Sq1 : TSq1) (Sq45 : TSq45) (Sq7 : TSq7) (Sq6 : TSq6) (Sq10 : TSq10) (Sq31 : TSq31) (Sq20 : TSq20) (Sq21 : TSq21) (Sq14 : TSq14) (Sq3 : TSq3) (s_0 : List Fl) (s_1 s_2 : Int) (s_3 h : List Fl) (r z : Fl) (c_ : V -> List Blk -> Bool) : bodyZ false ⟨Pg, ofList [(18, (Fq8 Sq8)), (40, (Fq32 Sq32)), (42, (Fq1 Sq1)), (41, (Fq45 Sq45)), (17, (Fq7 Sq7)), (43, (Fq6 Sq6)), (44, (Fq10 Sq10)), (45, (Fq31 Sq31)), (46, (Fq20 Sq20)), (47, (Fq21 Sq21)), (48, (Fq14 Sq14)), (49, (Fq3 Sq3))], isref, N⟩ (anq23 N Sq8 Sq32 Sq1 Sq45 Sq7 Sq6 Sq10 Sq31 Sq20 Sq21 Sq14 Sq3) 20 (shFq23.args [.fls s_0, .int s_1, .int s_2, .fls s_3, .fls h, .fl r, .fl z]) [] c_ = Gq23 N Sq8 Sq32 Sq1 Sq45 Sq7 Sq6 Sq10 Sq31 Sq20 Sq21 Sq14 Sq3 s_0 s_1 s_2 s_3 h r z (fun r0 r1 r2 r3 r4 r5 r6 r7 r8 => c_ (.tup [.agg [.rof r0, .int .i64 r1, .int .i64 r2, .rof r3], .agg [.flt r4, .flt r5, .flt r6, .rof r7], .int .i64 r8]) []) := by kernel_rfl
theorem goodq23 (N : Nat) (Sq8 : TSq8) (Sq32 : TSq32) (Sq1 : TSq1) (Sq45 : TSq45) (Sq7 : TSq7) (Sq6 : TSq6) (Sq10 : TSq10) (Sq31 : TSq31) (Sq20 : TSq20) (Sq21 : TSq21) (Sq14 : TSq14) (Sq3 : TSq3) (hq8 : GoodF Pg 18 (Fq8 Sq8)) (hq32 : GoodF Pg 40 (Fq32 Sq32)) (hq1 : GoodF Pg 42 (Fq1 Sq1)) (hq45 : GoodF Pg 41 (Fq45 Sq45)) (hq7 : GoodF Pg 17 (Fq7 Sq7)) (hq6 : GoodF Pg 43 (Fq6 Sq6)) (hq10 : GoodF Pg 44 (Fq10 Sq10)) (hq31 : GoodF Pg 45 (Fq31 Sq31)) (hq20 : GoodF Pg 46 (Fq20 Sq20)) (hq21 : GoodF Pg 47 (Fq21 Sq21)) (hq14 : GoodF Pg 48 (Fq14 Sq14)) (hq3 : GoodF Pg 49 (Fq3 Sq3)) : GoodF Pg 20 (Fq23 (Gq23 N Sq8 Sq32 Sq1 Sq45 Sq7 Sq6 Sq10 Sq31 Sq20 Sq21 Sq14 Sq3)) := by
  refine good_fsZ (md := false) (cx := ⟨Pg, ofList [(18, (Fq8 Sq8)), (40, (Fq32 Sq32)), (42, (Fq1 Sq1)), (41, (Fq45 Sq45)), (17, (Fq7 Sq7)), (43, (Fq6 Sq6)), (44, (Fq10 Sq10)), (45, (Fq31 Sq31)), (46, (Fq20 Sq20)), (47, (Fq21 Sq21)), (48, (Fq14 Sq14)), (49, (Fq3 Sq3))], isref, N⟩) (ofList_cons hq8 (ofList_cons hq32 (ofList_cons hq1 (ofList_cons hq45 (ofList_cons hq7 (ofList_cons hq6 (ofList_cons hq10 (ofList_cons hq31 (ofList_cons hq20 (ofList_cons hq21 (ofList_cons hq14 (ofList_cons hq3 (ofList_nil _))))))))))))) shFq23 (spq23 (Gq23 N Sq8 Sq32 Sq1 Sq45 Sq7 Sq6 Sq10 Sq31 Sq20 Sq21 Sq14 Sq3)) (anq23 N Sq8 Sq32 Sq1 Sq45 Sq7 Sq6 Sq10 Sq31 Sq20 Sq21 Sq14 Sq3) 3 0 (by kernel_rfl) (fun i_ hi_ => by
    match i_, hi_ with
    | 0, _ => exact ho_binnacleref16_Update_0 _ _ _ _ _ _ _ _ _ _ _ _ _
    | 1, _ => exact ho_binnacleref16_Update_2 _ _ _ _ _ _ _ _ _ _ _ _ _
    | 2, _ => exact ho_binnacleref16_Update_4 _ _ _ _ _ _ _ _ _ _ _ _ _
    | (q + 3), h => omega) ?_
  intro a k h
  unfold spq23 at h
  split at h
  · exact ⟨[], rfl, rfl, (eqq23 _ _ _ _ _ _ _ _ _ _ _ _ _ _ _ _ _ _ _ _ _).trans h⟩
  · cases h

def sh_st_binnacleref16_Rows_0 : StSh := ⟨(.any :: (.any :: (.rof :: (.rof :: (.ptr 0 0 :: (.ptr 1 0 :: (.any :: (.any :: (.ptr 2 0 :: (sqs 4 (.slw 3 :: (.int .i64 :: (sqs 53 []))))))))))))), [some (32, 1, .cells [.rof, .int .i64, .int .i64, .rof]), some (28, 1, .cells [.int .i64, .int .i64, .rof]), some (32, 1, .cells [.nil, .int .i64, .int .i64, .nil]), some (53, 4, .recs RT1)]⟩
def sx0_st_binnacleref16_Rows_0 : StSh := ⟨(sqs 8 (.ptr 0 0 :: (.nil :: (.int .i64 :: (.int .i64 :: (sqs 56 [])))))), [some (32, 1, .cells [.nil, .int .i64, .int .i64, .nil])]⟩
def sx1_st_binnacleref16_Rows_0 : StSh := ⟨(sqs 4 (.ptr 0 0 :: (.any :: (.any :: (.any :: (.ptr 1 0 :: (sqs 4 (.slw 2 :: (sqs 54 []))))))))), [some (32, 1, .cells [.rof, .int .i64, .int .i64, .rof]), some (32, 1, .cells [.nil, .int .i64, .int .i64, .nil]), some (53, 4, .recs RT1)]⟩
def hk_st_binnacleref16_Rows_0 (N : Nat) (Sq8 : TSq8) (Sq39 : TSq39) (Sq7 : TSq7) (Sq49 : TSq49) (Sq23 : TSq23) : List Atom -> K -> Bool := fun a_ κ => match a_ with
  | [.fls r_2, .fls z_2, .int i_1, .fls s_7, .int s_8, .int s_9, .fls s_10, .int h_5, .int h_6, .fls h_7, .int t8_2, .int t8_3, .recs t12_ l] => RT.cast RT1 t12_ l (fun l => iterG N (stq82 N Sq8 Sq39 Sq7 Sq49 Sq23 r_2 z_2 h_5 h_6 h_7 t8_2 t8_3 (fun r0 r1 r2 r3 => κ.ret (sx0_st_binnacleref16_Rows_0.build [.int r0, .int r1, .int r2, .int r3])) (fun r0 r1 r2 r3 r6 => κ.ext 0 (sx1_st_binnacleref16_Rows_0.build [.fls r0, .int r1, .int r2, .fls r3, .int t8_2, .int t8_3, .recs RT1 r6]))) (i_1, s_7, s_8, s_9, s_10, l)) false
  | _ => false
def anq34 (N : Nat) (Sq8 : TSq8) (Sq39 : TSq39) (Sq7 : TSq7) (Sq49 : TSq49) (Sq23 : TSq23) : Nat -> Option Ann := fun b_ => cond (b_ == 0) (some ⟨⟨[2, 3, 4, 5, 8, 13, 14], [(13, none, 53)], [], [4]⟩, [(0, ⟨[4, 8, 13], [], [], []⟩)], some ⟨[8, 9, 10, 11], [], [], []⟩, some (mkHooks [(sh_st_binnacleref16_Rows_0, hk_st_binnacleref16_Rows_0 N Sq8 Sq39 Sq7 Sq49 Sq23)])⟩) (none)
theorem eq_st_binnacleref16_Rows_0 (N : Nat) (Sq8 : TSq8) (Sq39 : TSq39) (Sq7 : TSq7) (Sq49 : TSq49) (Sq23 : TSq23) (κ : K) (r_2 z_2 : List Fl) (i_1 : Int) (s_7 : List Fl) (s_8 s_9 : Int) (s_10 : List Fl) (h_5 h_6 : Int) (h_7 : List Fl) (t8_2 t8_3 : Int) (l : List RY1) : iter N (fun s k => codeV ⟨Pg, ofList [(18, (Fq8 Sq8)), (19, (Fq39 Sq39)), (17, (Fq7 Sq7)), (21, (Fq49 Sq49)), (20, (Fq23 Sq23))], isref, N⟩ 0 (anq34 N Sq8 Sq39 Sq7 Sq49 Sq23) (lp Pg 7 0).2 (lp Pg 7 0).1 s (roundK Pg 0 ((anq34 N Sq8 Sq39 Sq7 Sq49 Sq23) (lp Pg 7 0).1) κ k)) (sh_st_binnacleref16_Rows_0.build [.fls r_2, .fls z_2, .int i_1, .fls s_7, .int s_8, .int s_9, .fls s_10, .int h_5, .int h_6, .fls h_7, .int t8_2, .int t8_3, .recs RT1 l]) = iterG N (stq82 N Sq8 Sq39 Sq7 Sq49 Sq23 r_2 z_2 h_5 h_6 h_7 t8_2 t8_3 (fun r0 r1 r2 r3 => κ.ret (sx0_st_binnacleref16_Rows_0.build [.int r0, .int r1, .int r2, .int r3])) (fun r0 r1 r2 r3 r6 => κ.ext 0 (sx1_st_binnacleref16_Rows_0.build [.fls r0, .int r1, .int r2, .fls r3, .int t8_2, .int t8_3, .recs RT1 r6]))) (i_1, s_7, s_8, s_9, s_10, l) :=
  iter_tr (fun (v_ : Int × List Fl × Int × Int × List Fl × List RY1) => sh_st_binnacleref16_Rows_0.build [.fls r_2, .fls z_2, .int v_.1, .fls v_.2.1, .int v_.2.2.1, .int v_.2.2.2.1, .fls v_.2.2.2.2.1, .int h_5, .int h_6, .fls h_7, .int t8_2, .int t8_3, .recs RT1 v_.2.2.2.2.2]) (fun v_ K_ => by obtain ⟨i_1, s_7, s_8, s_9, s_10, l⟩ := v_; kernel_rfl) N (i_1, s_7, s_8, s_9, s_10, l)
theorem hk1_st_binnacleref16_Rows_0 (N : Nat) (Sq8 : TSq8) (Sq39 : TSq39) (Sq7 : TSq7) (Sq49 : TSq49) (Sq23 : TSq23) : HookFor ⟨Pg, ofList [(18, (Fq8 Sq8)), (19, (Fq39 Sq39)), (17, (Fq7 Sq7)), (21, (Fq49 Sq49)), (20, (Fq23 Sq23))], isref, N⟩ 0 (anq34 N Sq8 Sq39 Sq7 Sq49 Sq23) (lp Pg 7 0) (sh_st_binnacleref16_Rows_0, hk_st_binnacleref16_Rows_0 N Sq8 Sq39 Sq7 Sq49 Sq23) := by
  intro a κ h
  simp only at h
  unfold hk_st_binnacleref16_Rows_0 at h
  split at h
  · obtain ⟨e_, h⟩ := RT.cast_inv h (by decide); subst e_; exact (eq_st_binnacleref16_Rows_0 _ _ _ _ _ _ _ _ _ _ _ _ _ _ _ _ _ _ _ _).trans h
  · cases h
theorem ho_binnacleref16_Rows_0 (N : Nat) (Sq8 : TSq8) (Sq39 : TSq39) (Sq7 : TSq7) (Sq49 : TSq49) (Sq23 : TSq23) : HookOk ⟨Pg, ofList [(18, (Fq8 Sq8)), (19, (Fq39 Sq39)), (17, (Fq7 Sq7)), (21, (Fq49 Sq49)), (20, (Fq23 Sq23))], isref, N⟩ 0 (anq34 N Sq8 Sq39 Sq7 Sq49 Sq23) (lp Pg 7 0) :=
  hooks_ok [(sh_st_binnacleref16_Rows_0, hk_st_binnacleref16_Rows_0 N Sq8 Sq39 Sq7 Sq49 Sq23)] (by kernel_rfl) ⟨hk1_st_binnacleref16_Rows_0 _ _ _ _ _ _, trivial⟩
theorem eqq34 (N : Nat) (Sq8 : TSq8) (Sq39 : TSq39) (Sq7 : TSq7) (Sq49 : TSq49) (Sq23 : TSq23) (s_0 : List Fl) (s_1 s_2 : Int) (s_3 : List Fl) (h_0 h_1 : Int) (h_2 r z : List Fl) (c_ : V -> List Blk -> Bool) : bodyV ⟨Pg, ofList [(18, (Fq8 Sq8)), (19, (Fq39 Sq39)), (17, (Fq7 Sq7)), (21, (Fq49 Sq49)), (20, (Fq23 Sq23))], isref, N⟩ (anq34 N Sq8 Sq39 Sq7 Sq49 Sq23) 7 (shFq34.args [.fls s_0, .int s_1, .int s_2, .fls s_3, .int h_0, .int h_1, .fls h_2, .fls r, .fls z]) [] c_ = Gq34 N Sq8 Sq39 Sq7 Sq49 Sq23 s_0 s_1 s_2 s_3 h_0 h_1 h_2 r z (fun r0 r1 r2 r3 => c_ (.tup [.agg [.nil, .int .i64 r0, .int .i64 r1, .nil], .nil, .int .i64 r2, .int .i64 r3]) []) (fun r0 r1 r2 r3 r4 r5 r6 => c_ (.tup [.agg [.rof r0, .int .i64 r1, .int .i64 r2, .rof r3], .slw 0, .int .i64 r4, .int .i64 r5]) [⟨53, 4, .recs RT1 r6⟩]) := by kernel_rfl
theorem goodq34 (N : Nat) (Sq8 : TSq8) (Sq39 : TSq39) (Sq7 : TSq7) (Sq49 : TSq49) (Sq23 : TSq23) (hq8 : GoodF Pg 18 (Fq8 Sq8)) (hq39 : GoodF Pg 19 (Fq39 Sq39)) (hq7 : GoodF Pg 17 (Fq7 Sq7)) (hq49 : GoodF Pg 21 (Fq49 Sq49)) (hq23 : GoodF Pg 20 (Fq23 Sq23)) : GoodF Pg 7 (Fq34 (Gq34 N Sq8 Sq39 Sq7 Sq49 Sq23)) := by
  refine good_fs (cx := ⟨Pg, ofList [(18, (Fq8 Sq8)), (19, (Fq39 Sq39)), (17, (Fq7 Sq7)), (21, (Fq49 Sq49)), (20, (Fq23 Sq23))], isref, N⟩) (ofList_cons hq8 (ofList_cons hq39 (ofList_cons hq7 (ofList_cons hq49 (ofList_cons hq23 (ofList_nil _)))))) shFq34 (spq34 (Gq34 N Sq8 Sq39 Sq7 Sq49 Sq23)) (anq34 N Sq8 Sq39 Sq7 Sq49 Sq23) 1 0 (by kernel_rfl) (fun i_ hi_ => by
    match i_, hi_ with
    | 0, _ => exact ho_binnacleref16_Rows_0 _ _ _ _ _ _
    | (q + 1), h => omega) ?_
  intro a k h
  unfold spq34 at h
  split at h
  · exact ⟨[], rfl, rfl, (eqq34 _ _ _ _ _ _ _ _ _ _ _ _ _ _ _ _).trans h⟩
  · cases h

def sh_st_binnacleref01_SameList_0 : StSh := ⟨(.rof :: (.rof :: (sqs 10 (.int .i64 :: (.int .i64 :: (sqs 13 [])))))), []⟩
def sx0_st_binnacleref01_SameList_0 : StSh := ⟨(sqs 4 (.bool :: (sqs 22 []))), []⟩
def sx1_st_binnacleref01_SameList_0 : StSh := ⟨(sqs 27 []), []⟩
def hk_st_binnacleref01_SameList_0 (N : Nat) (Sq15 : TSq15) : List Atom -> K -> Bool := fun a_ κ => match a_ with
  | [.fls a_1, .fls b_1, .int t12, .int t13] => iterG N (stq80 N Sq15 a_1 b_1 t12 (fun r0 => κ.ret (sx0_st_binnacleref01_SameList_0.build [.bool r0])) (κ.ext 0 (sx1_st_binnacleref01_SameList_0.build []))) t13
  | _ => false
def anq16 (N : Nat) (Sq15 : TSq15) : Nat -> Option Ann := fun b_ => cond (b_ == 0) (some ⟨⟨[0, 1, 12, 13], [], [], []⟩, [(0, ⟨[], [], [], []⟩)], some ⟨[4], [], [], []⟩, some (mkHooks [(sh_st_binnacleref01_SameList_0, hk_st_binnacleref01_SameList_0 N Sq15)])⟩) (none)
theorem eq_st_binnacleref01_SameList_0 (N : Nat) (Sq15 : TSq15) (κ : K) (a_1 b_1 : List Fl) (t12 t13 : Int) : iter N (fun s k => codeV ⟨Pg, ofList [(61, (Fq15 Sq15))], isref, N⟩ 0 (anq16 N Sq15) (lp Pg 50 0).2 (lp Pg 50 0).1 s (roundK Pg 0 ((anq16 N Sq15) (lp Pg 50 0).1) κ k)) (sh_st_binnacleref01_SameList_0.build [.fls a_1, .fls b_1, .int t12, .int t13]) = iterG N (stq80 N Sq15 a_1 b_1 t12 (fun r0 => κ.ret (sx0_st_binnacleref01_SameList_0.build [.bool r0])) (κ.ext 0 (sx1_st_binnacleref01_SameList_0.build []))) t13 :=
  iter_tr (fun v_ => sh_st_binnacleref01_SameList_0.build [.fls a_1, .fls b_1, .int t12, .int v_]) (fun v_ K_ => by kernel_rfl) N t13
theorem hk1_st_binnacleref01_SameList_0 (N : Nat) (Sq15 : TSq15) : HookFor ⟨Pg, ofList [(61, (Fq15 Sq15))], isref, N⟩ 0 (anq16 N Sq15) (lp Pg 50 0) (sh_st_binnacleref01_SameList_0, hk_st_binnacleref01_SameList_0 N Sq15) := by
  intro a κ h
  simp only at h
  unfold hk_st_binnacleref01_SameList_0 at h
  split at h
  · exact (eq_st_binnacleref01_SameList_0 _ _ _ _ _ _ _).trans h
  · cases h
theorem ho_binnacleref01_SameList_0 (N : Nat) (Sq15 : TSq15) : HookOk ⟨Pg, ofList [(61, (Fq15 Sq15))], isref, N⟩ 0 (anq16 N Sq15) (lp Pg 50 0) :=
  hooks_ok [(sh_st_binnacleref01_SameList_0, hk_st_binnacleref01_SameList_0 N Sq15)] (by kernel_rfl) ⟨hk1_st_binnacleref01_SameList_0 _ _, trivial⟩
theorem eqq16 (N : Nat) (Sq15 : TSq15) (a b : List Fl) (c_ : V -> List Blk -> Bool) : bodyV ⟨Pg, ofList [(61, (Fq15 Sq15))], isref, N⟩ (anq16 N Sq15) 50 (shFq16.args [.fls a, .fls b]) [] c_ = Gq16 N Sq15 a b (fun r0 => c_ (.bool r0) []) := by kernel_rfl
theorem goodq16 (N : Nat) (Sq15 : TSq15) (hq15 : GoodF Pg 61 (Fq15 Sq15)) : GoodF Pg 50 (Fq16 (Gq16 N Sq15)) := by
  refine good_fs (cx := ⟨Pg, ofList [(61, (Fq15 Sq15))], isref, N⟩) (ofList_cons hq15 (ofList_nil _)) shFq16 (spq16 (Gq16 N Sq15)) (anq16 N Sq15) 1 0 (by kernel_rfl) (fun i_ hi_ => by
    match i_, hi_ with
    | 0, _ => exact ho_binnacleref01_SameList_0 _ _
    | (q + 1), h => omega) ?_
  intro a k h
  unfold spq16 at h
  split at h
  · exact ⟨[], rfl, rfl, (eqq16 _ _ _ _ _).trans h⟩
  · cases h

def anq40 (N : Nat) (Sq16 : TSq16) : Nat -> Option Ann := fun b_ => none
theorem eqq40 (N : Nat) (Sq16 : TSq16) (a b : List Fl) (c_ : V -> List Blk -> Bool) : bodyV ⟨Pg, ofList [(50, (Fq16 Sq16))], isref, N⟩ (anq40 N Sq16) 52 (shFq40.args [.fls a, .fls b]) [] c_ = Gq40 N Sq16 a b (fun r0 => c_ (.bool r0) []) := by kernel_rfl
theorem goodq40 (N : Nat) (Sq16 : TSq16) (hq16 : GoodF Pg 50 (Fq16 Sq16)) : GoodF Pg 52 (Fq40 (Gq40 N Sq16)) := by
  refine good_fs (cx := ⟨Pg, ofList [(50, (Fq16 Sq16))], isref, N⟩) (ofList_cons hq16 (ofList_nil _)) shFq40 (spq40 (Gq40 N Sq16)) (anq40 N Sq16) 0 0 (by kernel_rfl) (fun i_ hi_ => by omega) ?_
  intro a k h
  unfold spq40 at h
  split at h
  · exact ⟨[], rfl, rfl, (eqq40 _ _ _ _ _).trans h⟩
  · cases h

def anq37 (N : Nat) (Sq40 : TSq40) : Nat -> Option Ann := fun b_ => none
theorem eqq37 (N : Nat) (Sq40 : TSq40) (a_0 a_1 : Int) (a_2 : List Fl) (b_0 b_1 : Int) (b_2 : List Fl) (c_ : V -> List Blk -> Bool) : bodyV ⟨Pg, ofList [(52, (Fq40 Sq40))], isref, N⟩ (anq37 N Sq40) 51 (shFq37.args [.int a_0, .int a_1, .fls a_2, .int b_0, .int b_1, .fls b_2]) [] c_ = Gq37 N Sq40 a_0 a_1 a_2 b_0 b_1 b_2 (fun r0 => c_ (.bool r0) []) := by kernel_rfl
theorem goodq37 (N : Nat) (Sq40 : TSq40) (hq40 : GoodF Pg 52 (Fq40 Sq40)) : GoodF Pg 51 (Fq37 (Gq37 N Sq40)) := by
  refine good_fs (cx := ⟨Pg, ofList [(52, (Fq40 Sq40))], isref, N⟩) (ofList_cons hq40 (ofList_nil _)) shFq37 (spq37 (Gq37 N Sq40)) (anq37 N Sq40) 0 0 (by kernel_rfl) (fun i_ hi_ => by omega) ?_
  intro a k h
  unfold spq37 at h
  split at h
  · exact ⟨[], rfl, rfl, (eqq37 _ _ _ _ _ _ _ _ _).trans h⟩
  · cases h

def anq61 (N : Nat) (Sq16 : TSq16) (Sq37 : TSq37) : Nat -> Option Ann := fun b_ => none
theorem eqq61 (N : Nat) (Sq16 : TSq16) (Sq37 : TSq37) (a_0 : List Fl) (a_1 a_2 : Int) (a_3 b_0 : List Fl) (b_1 b_2 : Int) (b_3 : List Fl) (c_ : V -> List Blk -> Bool) : bodyV ⟨Pg, ofList [(50, (Fq16 Sq16)), (51, (Fq37 Sq37))], isref, N⟩ (anq61 N Sq16 Sq37) 22 (shFq61.args [.fls a_0, .int a_1, .int a_2, .fls a_3, .fls b_0, .int b_1, .int b_2, .fls b_3]) [] c_ = Gq61 N Sq16 Sq37 a_0 a_1 a_2 a_3 b_0 b_1 b_2 b_3 (fun r0 => c_ (.bool r0) []) := by kernel_rfl
theorem goodq61 (N : Nat) (Sq16 : TSq16) (Sq37 : TSq37) (hq16 : GoodF Pg 50 (Fq16 Sq16)) (hq37 : GoodF Pg 51 (Fq37 Sq37)) : GoodF Pg 22 (Fq61 (Gq61 N Sq16 Sq37)) := by
  refine good_fs (cx := ⟨Pg, ofList [(50, (Fq16 Sq16)), (51, (Fq37 Sq37))], isref, N⟩) (ofList_cons hq16 (ofList_cons hq37 (ofList_nil _))) shFq61 (spq61 (Gq61 N Sq16 Sq37)) (anq61 N Sq16 Sq37) 0 0 (by kernel_rfl) (fun i_ hi_ => by omega) ?_
  intro a k h
  unfold spq61 at h
  split at h
  · exact ⟨[], rfl, rfl, (eqq61 _ _ _ _ _ _ _ _ _ _ _ _).trans h⟩
  · cases h

def anq47 (N : Nat) (Sq61 : TSq61) : Nat -> Option Ann := fun b_ => none
theorem eqq47 (N : Nat) (Sq61 : TSq61) (a_0 : List Fl) (a_1 a_2 : Int) (a_3 : List Fl) (e : Int) (b_0 : List Fl) (b_1 b_2 : Int) (b_3 : List Fl) (n : Int) (c_ : V -> List Blk -> Bool) : bodyV ⟨Pg, ofList [(22, (Fq61 Sq61))], isref, N⟩ (anq47 N Sq61) 8 (shFq47.args [.fls a_0, .int a_1, .int a_2, .fls a_3, .int e, .fls b_0, .int b_1, .int b_2, .fls b_3, .int n]) [] c_ = Gq47 N Sq61 a_0 a_1 a_2 a_3 e b_0 b_1 b_2 b_3 n (fun r0 => c_ (.bool r0) []) := by kernel_rfl
theorem goodq47 (N : Nat) (Sq61 : TSq61) (hq61 : GoodF Pg 22 (Fq61 Sq61)) : GoodF Pg 8 (Fq47 (Gq47 N Sq61)) := by
  refine good_fs (cx := ⟨Pg, ofList [(22, (Fq61 Sq61))], isref, N⟩) (ofList_cons hq61 (ofList_nil _)) shFq47 (spq47 (Gq47 N Sq61)) (anq47 N Sq61) 0 0 (by kernel_rfl) (fun i_ hi_ => by omega) ?_
  intro a k h
  unfold spq47 at h
  split at h
  · exact ⟨[], rfl, rfl, (eqq47 _ _ _ _ _ _ _ _ _ _ _ _ _).trans h⟩
  · cases h

def anq19 (N : Nat) (Sq40 : TSq40) : Nat -> Option Ann := fun b_ => none
theorem eqq19 (N : Nat) (Sq40 : TSq40) (a_0 a_1 a_2 : Fl) (a_3 : List Fl) (b_0 b_1 b_2 : Fl) (b_3 : List Fl) (c_ : V -> List Blk -> Bool) : bodyV ⟨Pg, ofList [(52, (Fq40 Sq40))], isref, N⟩ (anq19 N Sq40) 23 (shFq19.args [.fl a_0, .fl a_1, .fl a_2, .fls a_3, .fl b_0, .fl b_1, .fl b_2, .fls b_3]) [] c_ = Gq19 N Sq40 a_0 a_1 a_2 a_3 b_0 b_1 b_2 b_3 (fun r0 => c_ (.bool r0) []) := by kernel_rfl
theorem goodq19 (N : Nat) (Sq40 : TSq40) (hq40 : GoodF Pg 52 (Fq40 Sq40)) : GoodF Pg 23 (Fq19 (Gq19 N Sq40)) := by
  refine good_fs (cx := ⟨Pg, ofList [(52, (Fq40 Sq40))], isref, N⟩) (ofList_cons hq40 (ofList_nil _)) shFq19 (spq19 (Gq19 N Sq40)) (anq19 N Sq40) 0 0 (by kernel_rfl) (fun i_ hi_ => by omega) ?_
  intro a k h
  unfold spq19 at h
  split at h
  · exact ⟨[], rfl, rfl, (eqq19 _ _ _ _ _ _ _ _ _ _ _).trans h⟩
  · cases h

def sh_st_binnacleref15_SameSteps_0 : StSh := ⟨(.rl RT1 :: (.rl RT1 :: (sqs 10 (.int .i64 :: (.int .i64 :: (sqs 13 [])))))), []⟩
def sx0_st_binnacleref15_SameSteps_0 : StSh := ⟨(sqs 4 (.bool :: (sqs 22 []))), []⟩
def sx1_st_binnacleref15_SameSteps_0 : StSh := ⟨(sqs 27 []), []⟩
def hk_st_binnacleref15_SameSteps_0 (N : Nat) (Sq19 : TSq19) : List Atom -> K -> Bool := fun a_ κ => match a_ with
  | [.recs t0_ a_1, .recs t1_ b_1, .int t12, .int t13] => RT.cast RT1 t0_ a_1 (fun a_1 => RT.cast RT1 t1_ b_1 (fun b_1 => iterG N (stq77 N Sq19 a_1 b_1 t12 (fun r0 => κ.ret (sx0_st_binnacleref15_SameSteps_0.build [.bool r0])) (κ.ext 0 (sx1_st_binnacleref15_SameSteps_0.build []))) t13) false) false
  | _ => false
def anq13 (N : Nat) (Sq19 : TSq19) : Nat -> Option Ann := fun b_ => cond (b_ == 0) (some ⟨⟨[0, 1, 12, 13], [], [], []⟩, [(0, ⟨[], [], [], []⟩)], some ⟨[4], [], [], []⟩, some (mkHooks [(sh_st_binnacleref15_SameSteps_0, hk_st_binnacleref15_SameSteps_0 N Sq19)])⟩) (none)
theorem eq_st_binnacleref15_SameSteps_0 (N : Nat) (Sq19 : TSq19) (κ : K) (a_1 b_1 : List RY1) (t12 t13 : Int) : iter N (fun s k => codeV ⟨Pg, ofList [(23, (Fq19 Sq19))], isref, N⟩ 0 (anq13 N Sq19) (lp Pg 9 0).2 (lp Pg 9 0).1 s (roundK Pg 0 ((anq13 N Sq19) (lp Pg 9 0).1) κ k)) (sh_st_binnacleref15_SameSteps_0.build [.recs RT1 a_1, .recs RT1 b_1, .int t12, .int t13]) = iterG N (stq77 N Sq19 a_1 b_1 t12 (fun r0 => κ.ret (sx0_st_binnacleref15_SameSteps_0.build [.bool r0])) (κ.ext 0 (sx1_st_binnacleref15_SameSteps_0.build []))) t13 :=
  iter_tr (fun v_ => sh_st_binnacleref15_SameSteps_0.build [.recs RT1 a_1, .recs RT1 b_1, .int t12, .int v_]) (fun v_ K_ => by kernel_rfl) N t13
theorem hk1_st_binnacleref15_SameSteps_0 (N : Nat) (Sq19 : TSq19) : HookFor ⟨Pg, ofList [(23, (Fq19 Sq19))], isref, N⟩ 0 (anq13 N Sq19) (lp Pg 9 0) (sh_st_binnacleref15_SameSteps_0, hk_st_binnacleref15_SameSteps_0 N Sq19) := by
  intro a κ h
  simp only at h
  unfold hk_st_binnacleref15_SameSteps_0 at h
  split at h
  · obtain ⟨e_, h⟩ := RT.cast_inv h (by decide); subst e_; obtain ⟨e_, h⟩ := RT.cast_inv h (by decide); subst e_; exact (eq_st_binnacleref15_SameSteps_0 _ _ _ _ _ _ _).trans h
  · cases h
theorem ho_binnacleref15_SameSteps_0 (N : Nat) (Sq19 : TSq19) : HookOk ⟨Pg, ofList [(23, (Fq19 Sq19))], isref, N⟩ 0 (anq13 N Sq19) (lp Pg 9 0) :=
  hooks_ok [(sh_st_binnacleref15_SameSteps_0, hk_st_binnacleref15_SameSteps_0 N Sq19)] (by kernel_rfl) ⟨hk1_st_binnacleref15_SameSteps_0 _ _, trivial⟩
theorem eqq13 (N : Nat) (Sq19 : TSq19) (a b : List RY1) (c_ : V -> List Blk -> Bool) : bodyV ⟨Pg, ofList [(23, (Fq19 Sq19))], isref, N⟩ (anq13 N Sq19) 9 (shFq13.args [.recs RT1 a, .recs RT1 b]) [] c_ = Gq13 N Sq19 a b (fun r0 => c_ (.bool r0) []) := by kernel_rfl
theorem goodq13 (N : Nat) (Sq19 : TSq19) (hq19 : GoodF Pg 23 (Fq19 Sq19)) : GoodF Pg 9 (Fq13 (Gq13 N Sq19)) := by
  refine good_fs (cx := ⟨Pg, ofList [(23, (Fq19 Sq19))], isref, N⟩) (ofList_cons hq19 (ofList_nil _)) shFq13 (spq13 (Gq13 N Sq19)) (anq13 N Sq19) 1 0 (by kernel_rfl) (fun i_ hi_ => by
    match i_, hi_ with
    | 0, _ => exact ho_binnacleref15_SameSteps_0 _ _
    | (q + 1), h => omega) ?_
  intro a k h
  unfold spq13 at h
  split at h
  · obtain ⟨e_, h⟩ := RT.cast_inv h (by decide); subst e_; obtain ⟨e_, h⟩ := RT.cast_inv h (by decide); subst e_; exact ⟨[], rfl, rfl, (eqq13 _ _ _ _ _).trans h⟩
  · cases h

end Go.Proofs.Ytgngdkjghdohiaa
