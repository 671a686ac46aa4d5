/-
  THE TIES: each printed meaning is what the program does (written by program).
  Conditions: none.
-/
import Derived.Test.YtjpaijnmiaoopaaGreatDoorGp
namespace Go.Proofs.YtjpaijnmiaoopaaGreatDoor
open Go Go.Mach Go.Proofs
set_option linter.unusedVariables false
set_option maxRecDepth 50000
def anQ22 (N : Nat) : Nat -> Option Ann := fun b_ => none
theorem eqQ22 (N : Nat) (b : Bool) (c_ : V -> List Blk -> Bool) : bodyV ⟨Pg, ofList [], isref, N⟩ (anQ22 N) 82 (shFQ22.args [.bool b]) [⟨132, 1, .cells [.bool b]⟩] c_ = GQ22 N b (c_ (.bool b) [⟨132, 1, .cells [.bool b]⟩]) := by kernel_rfl
theorem goodQ22 (N : Nat) : GoodF Pg 82 (FQ22 (GQ22 N)) := by
 refine good_fs (cx := ⟨Pg, ofList [], isref, N⟩) (os_zero (ofList_nil _) (by kernel_rfl)) shFQ22 (spQ22 (GQ22 N)) (anQ22 N) 0 1 (by kernel_rfl) (fun i_ hi_ => by omega) ?_
 intro a k h
 unfold spQ22 at h
 split at h
 ·exact ⟨[_], rfl, rfl, (eqQ22 _ _ _).trans h⟩
 ·cases h
def an_v_info_rotation_turn_p0 (N : Nat) (SQ21 : TSQ21) (SQ25 : TSQ25) : Nat -> Option Ann := fun b_ => none
theorem eq_v_info_rotation_turn_p0 (N : Nat) (SQ21 : TSQ21) (SQ25 : TSQ25) (r_0 r_1 a b : Fl) (b_1 : Bool) (c_ : V -> List Blk -> Bool) : bodyV ⟨Pg, ofList [(81, (FQ21 SQ21)), (80, (FQ25 SQ25))], isref, N⟩ (an_v_info_rotation_turn_p0 N SQ21 SQ25) 83 (shF_v_info_rotation_turn_p0.args [.fl r_0, .fl r_1, .fl a, .fl b, .bool b_1]) [⟨132, 1, .cells [.bool b_1]⟩] c_ = G_v_info_rotation_turn_p0 N SQ21 SQ25 r_0 r_1 a b b_1 (fun r0 r1 r2 => c_ (.tup [.flt r0, .flt r1]) [⟨132, 1, .cells [.bool r2]⟩]) := by kernel_rfl
theorem good_v_info_rotation_turn_p0 (N : Nat) (SQ21 : TSQ21) (SQ25 : TSQ25) (hQ21 : GoodF Pg 81 (FQ21 SQ21)) (hQ25 : GoodF Pg 80 (FQ25 SQ25)) : GoodF Pg 83 (F_v_info_rotation_turn_p0 (G_v_info_rotation_turn_p0 N SQ21 SQ25)) := by
 refine good_fs (cx := ⟨Pg, ofList [(81, (FQ21 SQ21)), (80, (FQ25 SQ25))], isref, N⟩) (os_of (ofList_cons hQ21 (ofList_cons hQ25 (ofList_nil _))) ⟨(fr_told (by kernel_rfl) (fr_finite_Steps_Mul_p0 SQ21)), (fr_told (by kernel_rfl) (fr_finite_Steps_Of_p0 SQ25)), trivial⟩) shF_v_info_rotation_turn_p0 (sp_v_info_rotation_turn_p0 (G_v_info_rotation_turn_p0 N SQ21 SQ25)) (an_v_info_rotation_turn_p0 N SQ21 SQ25) 0 1 (by kernel_rfl) (fun i_ hi_ => by omega) ?_
 intro a k h
 unfold sp_v_info_rotation_turn_p0 at h
 split at h
 ·exact ⟨[_], rfl, rfl, (eq_v_info_rotation_turn_p0 _ _ _ _ _ _ _ _ _).trans h⟩
 ·cases h
def sh_st_info_UpdateRoot_0 : StSh := ⟨(.any :: (.rof :: (.any :: (.flt :: (sqs 4 (.ptr 0 0 :: (.any :: (.any :: (.any :: (.int .i64 :: (.any :: (.ptr 1 0 :: (.flt :: (.ptr 2 0 :: (.slw 3 :: (sqs 42 (.int .i64 :: (.int .i64 :: (sqs 150 []))))))))))))))))))), [some (67, 1, .cells [.int .i64, .int .i64, .nil, .nil]), some (132, 1, .cells [.bool]), some (67, 1, .cells [.int .i64, .int .i64, .slw 4, .slw 5]), some (36, 1, .flts), some (36, 1, .flts), some (36, 1, .flts)]⟩
def sx0_st_info_UpdateRoot_0 : StSh := ⟨(.any :: (.any :: (.any :: (.flt :: (sqs 4 (.ptr 0 0 :: (.any :: (.any :: (.any :: (.int .i64 :: (.any :: (.ptr 1 0 :: (.flt :: (.ptr 2 0 :: (.slw 3 :: (sqs 194 [])))))))))))))))), [some (67, 1, .cells [.int .i64, .int .i64, .nil, .nil]), some (132, 1, .cells [.bool]), some (67, 1, .cells [.int .i64, .int .i64, .slw 4, .slw 5]), some (36, 1, .flts), some (36, 1, .flts), some (36, 1, .flts)]⟩
def hk_st_info_UpdateRoot_0 (N : Nat) (S_info_CheckRoot : TS_info_CheckRoot) (S_info_line : TS_info_line) (SQ17 : TSQ17) (S_slices_Clone___float64_float64_ : TS_slices_Clone___float64_float64_) (SQ25 : TSQ25) (SQ21 : TSQ21) (SQ22 : TSQ22) (S_v_info_rotation_turn_p0 : TS_v_info_rotation_turn_p0) : List Atom -> K -> Bool := fun a_ κ => match a_ with
 | [.fls h_1, .fl z_1, .int n, .fl d, .int t60, .int t61, .int t8, .int t8_1, .bool steps, .int out, .int out_1, .fls w, .fls b4, .fls b5] => iterG N (st_info_UpdateRoot_0 N S_info_CheckRoot S_info_line SQ17 S_slices_Clone___float64_float64_ SQ25 SQ21 SQ22 S_v_info_rotation_turn_p0 h_1 z_1 n d t60 t8 t8_1 out out_1 b4 b5 (fun r5 r8 => κ.ext 0 (sx0_st_info_UpdateRoot_0.build [.fl z_1, .int n, .fl d, .int t8, .int t8_1, .bool r5, .int out, .int out_1, .fls r8, .fls b4, .fls b5]))) (t61, steps, w)
 | _ => false
def sh_st_info_UpdateRoot_4 : StSh := ⟨(sqs 8 (.ptr 0 0 :: (.any :: (.any :: (.any :: (.int .i64 :: (.any :: (.ptr 1 0 :: (.any :: (.ptr 2 0 :: (.slw 3 :: (.any :: (.flt :: (.int .i64 :: (.any :: (.any :: (.ptr 4 0 :: (.int .i64 :: (sqs 56 (.int .i64 :: (.int .i64 :: (sqs 129 [])))))))))))))))))))))), [some (67, 1, .cells [.int .i64, .int .i64, .nil, .nil]), some (132, 1, .cells [.bool]), some (67, 1, .cells [.int .i64, .int .i64, .slw 5, .slw 6]), some (36, 1, .flts), some (136, 1, .cells [.flt, .flt]), some (36, 1, .flts), some (36, 1, .flts)]⟩
def sx0_st_info_UpdateRoot_4 : StSh := ⟨(sqs 8 (.ptr 0 0 :: (.any :: (.any :: (.any :: (.int .i64 :: (.any :: (.ptr 1 0 :: (.any :: (.ptr 2 0 :: (.slw 3 :: (.any :: (.flt :: (.int .i64 :: (.any :: (.any :: (.ptr 4 0 :: (sqs 57 (.int .i64 :: (.int .i64 :: (sqs 129 []))))))))))))))))))))), [some (67, 1, .cells [.int .i64, .int .i64, .nil, .nil]), some (132, 1, .cells [.bool]), some (67, 1, .cells [.int .i64, .int .i64, .slw 5, .slw 6]), some (36, 1, .flts), some (136, 1, .cells [.flt, .flt]), some (36, 1, .flts), some (36, 1, .flts)]⟩
def hk_st_info_UpdateRoot_4 (N : Nat) (S_info_CheckRoot : TS_info_CheckRoot) (S_info_line : TS_info_line) (SQ17 : TSQ17) (S_slices_Clone___float64_float64_ : TS_slices_Clone___float64_float64_) (SQ25 : TSQ25) (SQ21 : TSQ21) (SQ22 : TSQ22) (S_v_info_rotation_turn_p0 : TS_v_info_rotation_turn_p0) : List Atom -> K -> Bool := fun a_ κ => match a_ with
 | [.int n_2, .fl rest_1, .int i, .int j, .int t81_1, .int t82_1, .int t8_4, .int t8_5, .bool steps_3, .int out_4, .int out_5, .fls w_3, .fl t, .fl t_1, .fls b5_2, .fls b6] => iterG N (st_info_UpdateRoot_4 N S_info_CheckRoot S_info_line SQ17 S_slices_Clone___float64_float64_ SQ25 SQ21 SQ22 S_v_info_rotation_turn_p0 n_2 rest_1 i t81_1 t82_1 t8_4 t8_5 out_4 out_5 t t_1 b6 (fun r7 r10 r13 => κ.ext 4 (sx0_st_info_UpdateRoot_4.build [.int n_2, .fl rest_1, .int i, .int t81_1, .int t82_1, .int t8_4, .int t8_5, .bool r7, .int out_4, .int out_5, .fls r10, .fl t, .fl t_1, .fls r13, .fls b6]))) (j, steps_3, w_3, b5_2)
 | _ => false
def sh_st_info_UpdateRoot_2 : StSh := ⟨(sqs 8 (.ptr 0 0 :: (.any :: (.any :: (.any :: (.int .i64 :: (.any :: (.ptr 1 0 :: (.any :: (.ptr 2 0 :: (.slw 3 :: (.any :: (.flt :: (sqs 61 (.int .i64 :: (.int .i64 :: (sqs 129 []))))))))))))))))), [some (67, 1, .cells [.int .i64, .int .i64, .nil, .nil]), some (132, 1, .cells [.bool]), some (67, 1, .cells [.int .i64, .int .i64, .slw 4, .slw 5]), some (36, 1, .flts), some (36, 1, .flts), some (36, 1, .flts)]⟩
def sx0_st_info_UpdateRoot_2 : StSh := ⟨(sqs 8 (.ptr 0 0 :: (.flt :: (.int .i64 :: (sqs 201 []))))), [some (67, 1, .cells [.int .i64, .int .i64, .nil, .nil])]⟩
def sx1_st_info_UpdateRoot_2 : StSh := ⟨(sqs 8 (.ptr 0 0 :: (sqs 5 (.ptr 1 0 :: (.any :: (.ptr 2 0 :: (.any :: (.any :: (.flt :: (sqs 192 [])))))))))), [some (67, 1, .cells [.int .i64, .int .i64, .nil, .nil]), some (132, 1, .cells [.bool]), some (67, 1, .cells [.int .i64, .int .i64, .slw 3, .slw 4]), some (36, 1, .flts), some (36, 1, .flts)]⟩
def hk_st_info_UpdateRoot_2 (N : Nat) (S_info_CheckRoot : TS_info_CheckRoot) (S_info_line : TS_info_line) (SQ17 : TSQ17) (S_slices_Clone___float64_float64_ : TS_slices_Clone___float64_float64_) (SQ25 : TSQ25) (SQ21 : TSQ21) (SQ22 : TSQ22) (S_v_info_rotation_turn_p0 : TS_v_info_rotation_turn_p0) : List Atom -> K -> Bool := fun a_ κ => match a_ with
 | [.int n_1, .fl rest, .int t81, .int t82, .int t8_2, .int t8_3, .bool steps_2, .int out_2, .int out_3, .fls w_2, .fls b4_1, .fls b5_1] => iterG N (st_info_UpdateRoot_2 N S_info_CheckRoot S_info_line SQ17 S_slices_Clone___float64_float64_ SQ25 SQ21 SQ22 S_v_info_rotation_turn_p0 n_1 t81 t8_2 t8_3 out_2 out_3 (fun r0 r1 r2 r3 => κ.ret (sx0_st_info_UpdateRoot_2.build [.fl r0, .int r1, .int r2, .int r3])) (fun r0 r3 r6 r7 => κ.ext 2 (sx1_st_info_UpdateRoot_2.build [.fl r0, .int t8_2, .int t8_3, .bool r3, .int out_2, .int out_3, .fls r6, .fls r7]))) (rest, t82, steps_2, w_2, b4_1, b5_1)
 | _ => false
def an_info_UpdateRoot (N : Nat) (S_info_CheckRoot : TS_info_CheckRoot) (S_info_line : TS_info_line) (SQ17 : TSQ17) (S_slices_Clone___float64_float64_ : TS_slices_Clone___float64_float64_) (SQ25 : TSQ25) (SQ21 : TSQ21) (SQ22 : TSQ22) (S_v_info_rotation_turn_p0 : TS_v_info_rotation_turn_p0) : Nat -> Option Ann := fun b_ => cond (b_ == 0) (some ⟨⟨[1, 3, 8, 12, 14, 15, 16, 17, 60, 61], [], [], []⟩, [(0, ⟨[3, 8, 12, 14, 15, 16, 17], [], [], []⟩)], some ⟨[8, 9, 10], [], [], []⟩, some (mkHooks [(sh_st_info_UpdateRoot_0, hk_st_info_UpdateRoot_0 N S_info_CheckRoot S_info_line SQ17 S_slices_Clone___float64_float64_ SQ25 SQ21 SQ22 S_v_info_rotation_turn_p0)])⟩) (cond (b_ == 4) (some ⟨⟨[8, 12, 14, 16, 17, 19, 20, 23, 24, 81, 82], [], [], []⟩, [(4, ⟨[8, 12, 14, 16, 17, 19, 20, 23, 81, 82], [], [], []⟩)], some ⟨[8, 9, 10], [], [], []⟩, some (mkHooks [(sh_st_info_UpdateRoot_4, hk_st_info_UpdateRoot_4 N S_info_CheckRoot S_info_line SQ17 S_slices_Clone___float64_float64_ SQ25 SQ21 SQ22 S_v_info_rotation_turn_p0)])⟩) (cond (b_ == 2) (some ⟨⟨[8, 12, 14, 16, 17, 19, 81, 82], [], [], []⟩, [(2, ⟨[8, 14, 16, 19], [], [], []⟩)], some ⟨[8, 9, 10], [], [], []⟩, some (mkHooks [(sh_st_info_UpdateRoot_2, hk_st_info_UpdateRoot_2 N S_info_CheckRoot S_info_line SQ17 S_slices_Clone___float64_float64_ SQ25 SQ21 SQ22 S_v_info_rotation_turn_p0)])⟩) (none)))
theorem eq_st_info_UpdateRoot_0 (N : Nat) (S_info_CheckRoot : TS_info_CheckRoot) (S_info_line : TS_info_line) (SQ17 : TSQ17) (S_slices_Clone___float64_float64_ : TS_slices_Clone___float64_float64_) (SQ25 : TSQ25) (SQ21 : TSQ21) (SQ22 : TSQ22) (S_v_info_rotation_turn_p0 : TS_v_info_rotation_turn_p0) (κ : K) (h_1 : List Fl) (z_1 : Fl) (n : Int) (d : Fl) (t60 t61 t8 t8_1 : Int) (steps : Bool) (out out_1 : Int) (w b4 b5 : List Fl) : iter N (fun s k => codeV ⟨Pg, ofList [(77, (F_info_CheckRoot S_info_CheckRoot)), (78, (F_info_line S_info_line)), (30, (FQ17 SQ17)), (79, (F_slices_Clone___float64_float64_ S_slices_Clone___float64_float64_)), (80, (FQ25 SQ25)), (81, (FQ21 SQ21)), (82, (FQ22 SQ22)), (83, (F_v_info_rotation_turn_p0 S_v_info_rotation_turn_p0))], isref, N⟩ 0 (an_info_UpdateRoot N S_info_CheckRoot S_info_line SQ17 S_slices_Clone___float64_float64_ SQ25 SQ21 SQ22 S_v_info_rotation_turn_p0) (lp Pg 26 0).2 (lp Pg 26 0).1 s (roundK Pg 0 ((an_info_UpdateRoot N S_info_CheckRoot S_info_line SQ17 S_slices_Clone___float64_float64_ SQ25 SQ21 SQ22 S_v_info_rotation_turn_p0) (lp Pg 26 0).1) κ k)) (sh_st_info_UpdateRoot_0.build [.fls h_1, .fl z_1, .int n, .fl d, .int t60, .int t61, .int t8, .int t8_1, .bool steps, .int out, .int out_1, .fls w, .fls b4, .fls b5]) = iterG N (st_info_UpdateRoot_0 N S_info_CheckRoot S_info_line SQ17 S_slices_Clone___float64_float64_ SQ25 SQ21 SQ22 S_v_info_rotation_turn_p0 h_1 z_1 n d t60 t8 t8_1 out out_1 b4 b5 (fun r5 r8 => κ.ext 0 (sx0_st_info_UpdateRoot_0.build [.fl z_1, .int n, .fl d, .int t8, .int t8_1, .bool r5, .int out, .int out_1, .fls r8, .fls b4, .fls b5]))) (t61, steps, w) :=
 iter_tr (fun (v_ : Int × Bool × List Fl) => sh_st_info_UpdateRoot_0.build [.fls h_1, .fl z_1, .int n, .fl d, .int t60, .int v_.1, .int t8, .int t8_1, .bool v_.2.1, .int out, .int out_1, .fls v_.2.2, .fls b4, .fls b5]) (fun v_ K_ => by obtain ⟨t61, steps, w⟩ := v_; kernel_rfl) N (t61, steps, w)
theorem hk1_st_info_UpdateRoot_0 (N : Nat) (S_info_CheckRoot : TS_info_CheckRoot) (S_info_line : TS_info_line) (SQ17 : TSQ17) (S_slices_Clone___float64_float64_ : TS_slices_Clone___float64_float64_) (SQ25 : TSQ25) (SQ21 : TSQ21) (SQ22 : TSQ22) (S_v_info_rotation_turn_p0 : TS_v_info_rotation_turn_p0) : HookFor ⟨Pg, ofList [(77, (F_info_CheckRoot S_info_CheckRoot)), (78, (F_info_line S_info_line)), (30, (FQ17 SQ17)), (79, (F_slices_Clone___float64_float64_ S_slices_Clone___float64_float64_)), (80, (FQ25 SQ25)), (81, (FQ21 SQ21)), (82, (FQ22 SQ22)), (83, (F_v_info_rotation_turn_p0 S_v_info_rotation_turn_p0))], isref, N⟩ 0 (an_info_UpdateRoot N S_info_CheckRoot S_info_line SQ17 S_slices_Clone___float64_float64_ SQ25 SQ21 SQ22 S_v_info_rotation_turn_p0) (lp Pg 26 0) (sh_st_info_UpdateRoot_0, hk_st_info_UpdateRoot_0 N S_info_CheckRoot S_info_line SQ17 S_slices_Clone___float64_float64_ SQ25 SQ21 SQ22 S_v_info_rotation_turn_p0) := by
 intro a κ h
 simp only at h
 unfold hk_st_info_UpdateRoot_0 at h
 split at h
 ·exact (eq_st_info_UpdateRoot_0 _ _ _ _ _ _ _ _ _ _ _ _ _ _ _ _ _ _ _ _ _ _ _ _).trans h
 ·cases h
theorem eq_st_info_UpdateRoot_4 (N : Nat) (S_info_CheckRoot : TS_info_CheckRoot) (S_info_line : TS_info_line) (SQ17 : TSQ17) (S_slices_Clone___float64_float64_ : TS_slices_Clone___float64_float64_) (SQ25 : TSQ25) (SQ21 : TSQ21) (SQ22 : TSQ22) (S_v_info_rotation_turn_p0 : TS_v_info_rotation_turn_p0) (κ : K) (n_2 : Int) (rest_1 : Fl) (i j t81_1 t82_1 t8_4 t8_5 : Int) (steps_3 : Bool) (out_4 out_5 : Int) (w_3 : List Fl) (t t_1 : Fl) (b5_2 b6 : List Fl) : iter N (fun s k => codeV ⟨Pg, ofList [(77, (F_info_CheckRoot S_info_CheckRoot)), (78, (F_info_line S_info_line)), (30, (FQ17 SQ17)), (79, (F_slices_Clone___float64_float64_ S_slices_Clone___float64_float64_)), (80, (FQ25 SQ25)), (81, (FQ21 SQ21)), (82, (FQ22 SQ22)), (83, (F_v_info_rotation_turn_p0 S_v_info_rotation_turn_p0))], isref, N⟩ 0 (an_info_UpdateRoot N S_info_CheckRoot S_info_line SQ17 S_slices_Clone___float64_float64_ SQ25 SQ21 SQ22 S_v_info_rotation_turn_p0) (lp Pg 26 2).2 (lp Pg 26 2).1 s (roundK Pg 0 ((an_info_UpdateRoot N S_info_CheckRoot S_info_line SQ17 S_slices_Clone___float64_float64_ SQ25 SQ21 SQ22 S_v_info_rotation_turn_p0) (lp Pg 26 2).1) κ k)) (sh_st_info_UpdateRoot_4.build [.int n_2, .fl rest_1, .int i, .int j, .int t81_1, .int t82_1, .int t8_4, .int t8_5, .bool steps_3, .int out_4, .int out_5, .fls w_3, .fl t, .fl t_1, .fls b5_2, .fls b6]) = iterG N (st_info_UpdateRoot_4 N S_info_CheckRoot S_info_line SQ17 S_slices_Clone___float64_float64_ SQ25 SQ21 SQ22 S_v_info_rotation_turn_p0 n_2 rest_1 i t81_1 t82_1 t8_4 t8_5 out_4 out_5 t t_1 b6 (fun r7 r10 r13 => κ.ext 4 (sx0_st_info_UpdateRoot_4.build [.int n_2, .fl rest_1, .int i, .int t81_1, .int t82_1, .int t8_4, .int t8_5, .bool r7, .int out_4, .int out_5, .fls r10, .fl t, .fl t_1, .fls r13, .fls b6]))) (j, steps_3, w_3, b5_2) :=
 iter_tr (fun (v_ : Int × Bool × List Fl × List Fl) => sh_st_info_UpdateRoot_4.build [.int n_2, .fl rest_1, .int i, .int v_.1, .int t81_1, .int t82_1, .int t8_4, .int t8_5, .bool v_.2.1, .int out_4, .int out_5, .fls v_.2.2.1, .fl t, .fl t_1, .fls v_.2.2.2, .fls b6]) (fun v_ K_ => by obtain ⟨j, steps_3, w_3, b5_2⟩ := v_; kernel_rfl) N (j, steps_3, w_3, b5_2)
theorem hk1_st_info_UpdateRoot_4 (N : Nat) (S_info_CheckRoot : TS_info_CheckRoot) (S_info_line : TS_info_line) (SQ17 : TSQ17) (S_slices_Clone___float64_float64_ : TS_slices_Clone___float64_float64_) (SQ25 : TSQ25) (SQ21 : TSQ21) (SQ22 : TSQ22) (S_v_info_rotation_turn_p0 : TS_v_info_rotation_turn_p0) : HookFor ⟨Pg, ofList [(77, (F_info_CheckRoot S_info_CheckRoot)), (78, (F_info_line S_info_line)), (30, (FQ17 SQ17)), (79, (F_slices_Clone___float64_float64_ S_slices_Clone___float64_float64_)), (80, (FQ25 SQ25)), (81, (FQ21 SQ21)), (82, (FQ22 SQ22)), (83, (F_v_info_rotation_turn_p0 S_v_info_rotation_turn_p0))], isref, N⟩ 0 (an_info_UpdateRoot N S_info_CheckRoot S_info_line SQ17 S_slices_Clone___float64_float64_ SQ25 SQ21 SQ22 S_v_info_rotation_turn_p0) (lp Pg 26 2) (sh_st_info_UpdateRoot_4, hk_st_info_UpdateRoot_4 N S_info_CheckRoot S_info_line SQ17 S_slices_Clone___float64_float64_ SQ25 SQ21 SQ22 S_v_info_rotation_turn_p0) := by
 intro a κ h
 simp only at h
 unfold hk_st_info_UpdateRoot_4 at h
 split at h
 ·exact (eq_st_info_UpdateRoot_4 _ _ _ _ _ _ _ _ _ _ _ _ _ _ _ _ _ _ _ _ _ _ _ _ _ _).trans h
 ·cases h
theorem eq_st_info_UpdateRoot_2 (N : Nat) (S_info_CheckRoot : TS_info_CheckRoot) (S_info_line : TS_info_line) (SQ17 : TSQ17) (S_slices_Clone___float64_float64_ : TS_slices_Clone___float64_float64_) (SQ25 : TSQ25) (SQ21 : TSQ21) (SQ22 : TSQ22) (S_v_info_rotation_turn_p0 : TS_v_info_rotation_turn_p0) (κ : K) (n_1 : Int) (rest : Fl) (t81 t82 t8_2 t8_3 : Int) (steps_2 : Bool) (out_2 out_3 : Int) (w_2 b4_1 b5_1 : List Fl) : iter N (fun s k => codeV ⟨Pg, ofList [(77, (F_info_CheckRoot S_info_CheckRoot)), (78, (F_info_line S_info_line)), (30, (FQ17 SQ17)), (79, (F_slices_Clone___float64_float64_ S_slices_Clone___float64_float64_)), (80, (FQ25 SQ25)), (81, (FQ21 SQ21)), (82, (FQ22 SQ22)), (83, (F_v_info_rotation_turn_p0 S_v_info_rotation_turn_p0))], isref, N⟩ 0 (an_info_UpdateRoot N S_info_CheckRoot S_info_line SQ17 S_slices_Clone___float64_float64_ SQ25 SQ21 SQ22 S_v_info_rotation_turn_p0) (lp Pg 26 1).2 (lp Pg 26 1).1 s (roundK Pg 0 ((an_info_UpdateRoot N S_info_CheckRoot S_info_line SQ17 S_slices_Clone___float64_float64_ SQ25 SQ21 SQ22 S_v_info_rotation_turn_p0) (lp Pg 26 1).1) κ k)) (sh_st_info_UpdateRoot_2.build [.int n_1, .fl rest, .int t81, .int t82, .int t8_2, .int t8_3, .bool steps_2, .int out_2, .int out_3, .fls w_2, .fls b4_1, .fls b5_1]) = iterG N (st_info_UpdateRoot_2 N S_info_CheckRoot S_info_line SQ17 S_slices_Clone___float64_float64_ SQ25 SQ21 SQ22 S_v_info_rotation_turn_p0 n_1 t81 t8_2 t8_3 out_2 out_3 (fun r0 r1 r2 r3 => κ.ret (sx0_st_info_UpdateRoot_2.build [.fl r0, .int r1, .int r2, .int r3])) (fun r0 r3 r6 r7 => κ.ext 2 (sx1_st_info_UpdateRoot_2.build [.fl r0, .int t8_2, .int t8_3, .bool r3, .int out_2, .int out_3, .fls r6, .fls r7]))) (rest, t82, steps_2, w_2, b4_1, b5_1) :=
 iter_tr (fun (v_ : Fl × Int × Bool × List Fl × List Fl × List Fl) => sh_st_info_UpdateRoot_2.build [.int n_1, .fl v_.1, .int t81, .int v_.2.1, .int t8_2, .int t8_3, .bool v_.2.2.1, .int out_2, .int out_3, .fls v_.2.2.2.1, .fls v_.2.2.2.2.1, .fls v_.2.2.2.2.2]) (fun v_ K_ => by obtain ⟨rest, t82, steps_2, w_2, b4_1, b5_1⟩ := v_; kernel_rfl) N (rest, t82, steps_2, w_2, b4_1, b5_1)
theorem hk1_st_info_UpdateRoot_2 (N : Nat) (S_info_CheckRoot : TS_info_CheckRoot) (S_info_line : TS_info_line) (SQ17 : TSQ17) (S_slices_Clone___float64_float64_ : TS_slices_Clone___float64_float64_) (SQ25 : TSQ25) (SQ21 : TSQ21) (SQ22 : TSQ22) (S_v_info_rotation_turn_p0 : TS_v_info_rotation_turn_p0) : HookFor ⟨Pg, ofList [(77, (F_info_CheckRoot S_info_CheckRoot)), (78, (F_info_line S_info_line)), (30, (FQ17 SQ17)), (79, (F_slices_Clone___float64_float64_ S_slices_Clone___float64_float64_)), (80, (FQ25 SQ25)), (81, (FQ21 SQ21)), (82, (FQ22 SQ22)), (83, (F_v_info_rotation_turn_p0 S_v_info_rotation_turn_p0))], isref, N⟩ 0 (an_info_UpdateRoot N S_info_CheckRoot S_info_line SQ17 S_slices_Clone___float64_float64_ SQ25 SQ21 SQ22 S_v_info_rotation_turn_p0) (lp Pg 26 1) (sh_st_info_UpdateRoot_2, hk_st_info_UpdateRoot_2 N S_info_CheckRoot S_info_line SQ17 S_slices_Clone___float64_float64_ SQ25 SQ21 SQ22 S_v_info_rotation_turn_p0) := by
 intro a κ h
 simp only at h
 unfold hk_st_info_UpdateRoot_2 at h
 split at h
 ·exact (eq_st_info_UpdateRoot_2 _ _ _ _ _ _ _ _ _ _ _ _ _ _ _ _ _ _ _ _ _ _).trans h
 ·cases h
theorem ho_info_UpdateRoot_0 (N : Nat) (S_info_CheckRoot : TS_info_CheckRoot) (S_info_line : TS_info_line) (SQ17 : TSQ17) (S_slices_Clone___float64_float64_ : TS_slices_Clone___float64_float64_) (SQ25 : TSQ25) (SQ21 : TSQ21) (SQ22 : TSQ22) (S_v_info_rotation_turn_p0 : TS_v_info_rotation_turn_p0) : HookOk ⟨Pg, ofList [(77, (F_info_CheckRoot S_info_CheckRoot)), (78, (F_info_line S_info_line)), (30, (FQ17 SQ17)), (79, (F_slices_Clone___float64_float64_ S_slices_Clone___float64_float64_)), (80, (FQ25 SQ25)), (81, (FQ21 SQ21)), (82, (FQ22 SQ22)), (83, (F_v_info_rotation_turn_p0 S_v_info_rotation_turn_p0))], isref, N⟩ 0 (an_info_UpdateRoot N S_info_CheckRoot S_info_line SQ17 S_slices_Clone___float64_float64_ SQ25 SQ21 SQ22 S_v_info_rotation_turn_p0) (lp Pg 26 0) :=
 hooks_ok [(sh_st_info_UpdateRoot_0, hk_st_info_UpdateRoot_0 N S_info_CheckRoot S_info_line SQ17 S_slices_Clone___float64_float64_ SQ25 SQ21 SQ22 S_v_info_rotation_turn_p0)] (by kernel_rfl) ⟨hk1_st_info_UpdateRoot_0 _ _ _ _ _ _ _ _ _, trivial⟩
theorem ho_info_UpdateRoot_4 (N : Nat) (S_info_CheckRoot : TS_info_CheckRoot) (S_info_line : TS_info_line) (SQ17 : TSQ17) (S_slices_Clone___float64_float64_ : TS_slices_Clone___float64_float64_) (SQ25 : TSQ25) (SQ21 : TSQ21) (SQ22 : TSQ22) (S_v_info_rotation_turn_p0 : TS_v_info_rotation_turn_p0) : HookOk ⟨Pg, ofList [(77, (F_info_CheckRoot S_info_CheckRoot)), (78, (F_info_line S_info_line)), (30, (FQ17 SQ17)), (79, (F_slices_Clone___float64_float64_ S_slices_Clone___float64_float64_)), (80, (FQ25 SQ25)), (81, (FQ21 SQ21)), (82, (FQ22 SQ22)), (83, (F_v_info_rotation_turn_p0 S_v_info_rotation_turn_p0))], isref, N⟩ 0 (an_info_UpdateRoot N S_info_CheckRoot S_info_line SQ17 S_slices_Clone___float64_float64_ SQ25 SQ21 SQ22 S_v_info_rotation_turn_p0) (lp Pg 26 2) :=
 hooks_ok [(sh_st_info_UpdateRoot_4, hk_st_info_UpdateRoot_4 N S_info_CheckRoot S_info_line SQ17 S_slices_Clone___float64_float64_ SQ25 SQ21 SQ22 S_v_info_rotation_turn_p0)] (by kernel_rfl) ⟨hk1_st_info_UpdateRoot_4 _ _ _ _ _ _ _ _ _, trivial⟩
theorem ho_info_UpdateRoot_2 (N : Nat) (S_info_CheckRoot : TS_info_CheckRoot) (S_info_line : TS_info_line) (SQ17 : TSQ17) (S_slices_Clone___float64_float64_ : TS_slices_Clone___float64_float64_) (SQ25 : TSQ25) (SQ21 : TSQ21) (SQ22 : TSQ22) (S_v_info_rotation_turn_p0 : TS_v_info_rotation_turn_p0) : HookOk ⟨Pg, ofList [(77, (F_info_CheckRoot S_info_CheckRoot)), (78, (F_info_line S_info_line)), (30, (FQ17 SQ17)), (79, (F_slices_Clone___float64_float64_ S_slices_Clone___float64_float64_)), (80, (FQ25 SQ25)), (81, (FQ21 SQ21)), (82, (FQ22 SQ22)), (83, (F_v_info_rotation_turn_p0 S_v_info_rotation_turn_p0))], isref, N⟩ 0 (an_info_UpdateRoot N S_info_CheckRoot S_info_line SQ17 S_slices_Clone___float64_float64_ SQ25 SQ21 SQ22 S_v_info_rotation_turn_p0) (lp Pg 26 1) :=
 hooks_ok [(sh_st_info_UpdateRoot_2, hk_st_info_UpdateRoot_2 N S_info_CheckRoot S_info_line SQ17 S_slices_Clone___float64_float64_ SQ25 SQ21 SQ22 S_v_info_rotation_turn_p0)] (by kernel_rfl) ⟨hk1_st_info_UpdateRoot_2 _ _ _ _ _ _ _ _ _, trivial⟩
theorem eq_info_UpdateRoot (N : Nat) (S_info_CheckRoot : TS_info_CheckRoot) (S_info_line : TS_info_line) (SQ17 : TSQ17) (S_slices_Clone___float64_float64_ : TS_slices_Clone___float64_float64_) (SQ25 : TSQ25) (SQ21 : TSQ21) (SQ22 : TSQ22) (S_v_info_rotation_turn_p0 : TS_v_info_rotation_turn_p0) (a_0 a_1 : Int) (a_2 a_3 h : List Fl) (r z : Fl) (c_ : V -> List Blk -> Bool) : bodyV ⟨Pg, ofList [(77, (F_info_CheckRoot S_info_CheckRoot)), (78, (F_info_line S_info_line)), (30, (FQ17 SQ17)), (79, (F_slices_Clone___float64_float64_ S_slices_Clone___float64_float64_)), (80, (FQ25 SQ25)), (81, (FQ21 SQ21)), (82, (FQ22 SQ22)), (83, (F_v_info_rotation_turn_p0 S_v_info_rotation_turn_p0))], isref, N⟩ (an_info_UpdateRoot N S_info_CheckRoot S_info_line SQ17 S_slices_Clone___float64_float64_ SQ25 SQ21 SQ22 S_v_info_rotation_turn_p0) 26 (shF_info_UpdateRoot.args [.int a_0, .int a_1, .fls a_2, .fls a_3, .fls h, .fl r, .fl z]) [] c_ = G_info_UpdateRoot N S_info_CheckRoot S_info_line SQ17 S_slices_Clone___float64_float64_ SQ25 SQ21 SQ22 S_v_info_rotation_turn_p0 a_0 a_1 a_2 a_3 h r z (fun r0 r1 r2 r3 => c_ (.tup [.agg [.int .i64 r0, .int .i64 r1, .nil, .nil], .flt r2, .int .i64 r3]) []) (fun r0 r1 r2 r3 r4 r5 => c_ (.tup [.agg [.int .i64 r0, .int .i64 r1, .slw 0, .slw 1], .flt r2, .int .i64 r3]) [⟨36, 1, .flts r4⟩, ⟨36, 1, .flts r5⟩]) := by kernel_rfl
theorem good_info_UpdateRoot (N : Nat) (S_info_CheckRoot : TS_info_CheckRoot) (S_info_line : TS_info_line) (SQ17 : TSQ17) (S_slices_Clone___float64_float64_ : TS_slices_Clone___float64_float64_) (SQ25 : TSQ25) (SQ21 : TSQ21) (SQ22 : TSQ22) (S_v_info_rotation_turn_p0 : TS_v_info_rotation_turn_p0) (h_info_CheckRoot : GoodF Pg 77 (F_info_CheckRoot S_info_CheckRoot)) (h_info_line : GoodF Pg 78 (F_info_line S_info_line)) (hQ17 : GoodF Pg 30 (FQ17 SQ17)) (h_slices_Clone___float64_float64_ : GoodF Pg 79 (F_slices_Clone___float64_float64_ S_slices_Clone___float64_float64_)) (hQ25 : GoodF Pg 80 (FQ25 SQ25)) (hQ21 : GoodF Pg 81 (FQ21 SQ21)) (hQ22 : GoodF Pg 82 (FQ22 SQ22)) (h_v_info_rotation_turn_p0 : GoodF Pg 83 (F_v_info_rotation_turn_p0 S_v_info_rotation_turn_p0)) : GoodF Pg 26 (F_info_UpdateRoot (G_info_UpdateRoot N S_info_CheckRoot S_info_line SQ17 S_slices_Clone___float64_float64_ SQ25 SQ21 SQ22 S_v_info_rotation_turn_p0)) := by
 refine good_fs (cx := ⟨Pg, ofList [(77, (F_info_CheckRoot S_info_CheckRoot)), (78, (F_info_line S_info_line)), (30, (FQ17 SQ17)), (79, (F_slices_Clone___float64_float64_ S_slices_Clone___float64_float64_)), (80, (FQ25 SQ25)), (81, (FQ21 SQ21)), (82, (FQ22 SQ22)), (83, (F_v_info_rotation_turn_p0 S_v_info_rotation_turn_p0))], isref, N⟩) (os_of (ofList_cons h_info_CheckRoot (ofList_cons h_info_line (ofList_cons hQ17 (ofList_cons h_slices_Clone___float64_float64_ (ofList_cons hQ25 (ofList_cons hQ21 (ofList_cons hQ22 (ofList_cons h_v_info_rotation_turn_p0 (ofList_nil _))))))))) ⟨(fr_zero (by kernel_rfl)), (fr_zero (by kernel_rfl)), (fr_zero (by kernel_rfl)), (fr_zero (by kernel_rfl)), (fr_told (by kernel_rfl) (fr_finite_Steps_Of_p0 SQ25)), (fr_told (by kernel_rfl) (fr_finite_Steps_Mul_p0 SQ21)), (fr_told (by kernel_rfl) (fr_finite_Steps_Over_p0 SQ22)), (fr_zero (by kernel_rfl)), trivial⟩) shF_info_UpdateRoot (sp_info_UpdateRoot (G_info_UpdateRoot N S_info_CheckRoot S_info_line SQ17 S_slices_Clone___float64_float64_ SQ25 SQ21 SQ22 S_v_info_rotation_turn_p0)) (an_info_UpdateRoot N S_info_CheckRoot S_info_line SQ17 S_slices_Clone___float64_float64_ SQ25 SQ21 SQ22 S_v_info_rotation_turn_p0) 3 0 (by kernel_rfl) (fun i_ hi_ => by
  match i_, hi_ with
  | 0, _ => exact ho_info_UpdateRoot_0 _ _ _ _ _ _ _ _ _
  | 1, _ => exact ho_info_UpdateRoot_2 _ _ _ _ _ _ _ _ _
  | 2, _ => exact ho_info_UpdateRoot_4 _ _ _ _ _ _ _ _ _
  | (q + 3), h => omega) ?_
 intro a k h
 unfold sp_info_UpdateRoot at h
 split at h
 ·exact ⟨[], rfl, rfl, (eq_info_UpdateRoot _ _ _ _ _ _ _ _ _ _ _ _ _ _ _ _ _).trans h⟩
 ·cases h
def sh_st_binnaclelaw17_bits_0 : StSh := ⟨(.rof :: (.rof :: (sqs 10 (.int .i64 :: (.int .i64 :: (sqs 14 [])))))), []⟩
def sx0_st_binnaclelaw17_bits_0 : StSh := ⟨(sqs 4 (.bool :: (sqs 23 []))), []⟩
def sx1_st_binnaclelaw17_bits_0 : StSh := ⟨(sqs 28 []), []⟩
def hk_st_binnaclelaw17_bits_0 (N : Nat) (SQ13 : TSQ13) : List Atom -> K -> Bool := fun a_ κ => match a_ with
 | [.fls a_1, .fls b_1, .int t12, .int t13] => iterG N (stQ99 N SQ13 a_1 b_1 t12 (fun r0 => κ.ret (sx0_st_binnaclelaw17_bits_0.build [.bool r0])) (κ.ext 0 (sx1_st_binnaclelaw17_bits_0.build []))) t13
 | _ => false
def anQ15 (N : Nat) (SQ13 : TSQ13) : Nat -> Option Ann := fun b_ => cond (b_ == 0) (some ⟨⟨[0, 1, 12, 13], [], [], []⟩, [(0, ⟨[], [], [], []⟩)], some ⟨[4], [], [], []⟩, some (mkHooks [(sh_st_binnaclelaw17_bits_0, hk_st_binnaclelaw17_bits_0 N SQ13)])⟩) (none)
theorem eq_st_binnaclelaw17_bits_0 (N : Nat) (SQ13 : TSQ13) (κ : K) (a_1 b_1 : List Fl) (t12 t13 : Int) : iter N (fun s k => codeV ⟨Pg, ofList [(29, (FQ13 SQ13))], isref, N⟩ 0 (anQ15 N SQ13) (lp Pg 76 0).2 (lp Pg 76 0).1 s (roundK Pg 0 ((anQ15 N SQ13) (lp Pg 76 0).1) κ k)) (sh_st_binnaclelaw17_bits_0.build [.fls a_1, .fls b_1, .int t12, .int t13]) = iterG N (stQ99 N SQ13 a_1 b_1 t12 (fun r0 => κ.ret (sx0_st_binnaclelaw17_bits_0.build [.bool r0])) (κ.ext 0 (sx1_st_binnaclelaw17_bits_0.build []))) t13 :=
 iter_tr (fun v_ => sh_st_binnaclelaw17_bits_0.build [.fls a_1, .fls b_1, .int t12, .int v_]) (fun v_ K_ => by kernel_rfl) N t13
theorem hk1_st_binnaclelaw17_bits_0 (N : Nat) (SQ13 : TSQ13) : HookFor ⟨Pg, ofList [(29, (FQ13 SQ13))], isref, N⟩ 0 (anQ15 N SQ13) (lp Pg 76 0) (sh_st_binnaclelaw17_bits_0, hk_st_binnaclelaw17_bits_0 N SQ13) := by
 intro a κ h
 simp only at h
 unfold hk_st_binnaclelaw17_bits_0 at h
 split at h
 ·exact (eq_st_binnaclelaw17_bits_0 _ _ _ _ _ _ _).trans h
 ·cases h
theorem ho_binnaclelaw17_bits_0 (N : Nat) (SQ13 : TSQ13) : HookOk ⟨Pg, ofList [(29, (FQ13 SQ13))], isref, N⟩ 0 (anQ15 N SQ13) (lp Pg 76 0) :=
 hooks_ok [(sh_st_binnaclelaw17_bits_0, hk_st_binnaclelaw17_bits_0 N SQ13)] (by kernel_rfl) ⟨hk1_st_binnaclelaw17_bits_0 _ _, trivial⟩
theorem eqQ15 (N : Nat) (SQ13 : TSQ13) (a b : List Fl) (c_ : V -> List Blk -> Bool) : bodyV ⟨Pg, ofList [(29, (FQ13 SQ13))], isref, N⟩ (anQ15 N SQ13) 76 (shFQ15.args [.fls a, .fls b]) [] c_ = GQ15 N SQ13 a b (fun r0 => c_ (.bool r0) []) := by kernel_rfl
theorem goodQ15 (N : Nat) (SQ13 : TSQ13) (hQ13 : GoodF Pg 29 (FQ13 SQ13)) : GoodF Pg 76 (FQ15 (GQ15 N SQ13)) := by
 refine good_fs (cx := ⟨Pg, ofList [(29, (FQ13 SQ13))], isref, N⟩) (os_zero (ofList_cons hQ13 (ofList_nil _)) (by kernel_rfl)) shFQ15 (spQ15 (GQ15 N SQ13)) (anQ15 N SQ13) 1 0 (by kernel_rfl) (fun i_ hi_ => by
  match i_, hi_ with
  | 0, _ => exact ho_binnaclelaw17_bits_0 _ _
  | (q + 1), h => omega) ?_
 intro a k h
 unfold spQ15 at h
 split at h
 ·exact ⟨[], rfl, rfl, (eqQ15 _ _ _ _ _).trans h⟩
 ·cases h
def anQ29 (N : Nat) (SQ15 : TSQ15) : Nat -> Option Ann := fun b_ => none
theorem eqQ29 (N : Nat) (SQ15 : TSQ15) (a_0 a_1 : Int) (a_2 : List Fl) (b_0 b_1 : Int) (b_2 : List Fl) (c_ : V -> List Blk -> Bool) : bodyV ⟨Pg, ofList [(76, (FQ15 SQ15))], isref, N⟩ (anQ29 N SQ15) 84 (shFQ29.args [.int a_0, .int a_1, .fls a_2, .int b_0, .int b_1, .fls b_2]) [] c_ = GQ29 N SQ15 a_0 a_1 a_2 b_0 b_1 b_2 (fun r0 => c_ (.bool r0) []) := by kernel_rfl
theorem goodQ29 (N : Nat) (SQ15 : TSQ15) (hQ15 : GoodF Pg 76 (FQ15 SQ15)) : GoodF Pg 84 (FQ29 (GQ29 N SQ15)) := by
 refine good_fs (cx := ⟨Pg, ofList [(76, (FQ15 SQ15))], isref, N⟩) (os_zero (ofList_cons hQ15 (ofList_nil _)) (by kernel_rfl)) shFQ29 (spQ29 (GQ29 N SQ15)) (anQ29 N SQ15) 0 0 (by kernel_rfl) (fun i_ hi_ => by omega) ?_
 intro a k h
 unfold spQ29 at h
 split at h
 ·exact ⟨[], rfl, rfl, (eqQ29 _ _ _ _ _ _ _ _ _).trans h⟩
 ·cases h
def anQ5 (N : Nat) (SQ15 : TSQ15) (SQ29 : TSQ29) : Nat -> Option Ann := fun b_ => none
theorem eqQ5 (N : Nat) (SQ15 : TSQ15) (SQ29 : TSQ29) (a_0 a_1 : Int) (a_2 a_3 : List Fl) (b_0 b_1 : Int) (b_2 b_3 : List Fl) (c_ : V -> List Blk -> Bool) : bodyV ⟨Pg, ofList [(76, (FQ15 SQ15)), (84, (FQ29 SQ29))], isref, N⟩ (anQ5 N SQ15 SQ29) 28 (shFQ5.args [.int a_0, .int a_1, .fls a_2, .fls a_3, .int b_0, .int b_1, .fls b_2, .fls b_3]) [] c_ = GQ5 N SQ15 SQ29 a_0 a_1 a_2 a_3 b_0 b_1 b_2 b_3 (fun r0 => c_ (.bool r0) []) := by kernel_rfl
theorem goodQ5 (N : Nat) (SQ15 : TSQ15) (SQ29 : TSQ29) (hQ15 : GoodF Pg 76 (FQ15 SQ15)) (hQ29 : GoodF Pg 84 (FQ29 SQ29)) : GoodF Pg 28 (FQ5 (GQ5 N SQ15 SQ29)) := by
 refine good_fs (cx := ⟨Pg, ofList [(76, (FQ15 SQ15)), (84, (FQ29 SQ29))], isref, N⟩) (os_zero (ofList_cons hQ15 (ofList_cons hQ29 (ofList_nil _))) (by kernel_rfl)) shFQ5 (spQ5 (GQ5 N SQ15 SQ29)) (anQ5 N SQ15 SQ29) 0 0 (by kernel_rfl) (fun i_ hi_ => by omega) ?_
 intro a k h
 unfold spQ5 at h
 split at h
 ·exact ⟨[], rfl, rfl, (eqQ5 _ _ _ _ _ _ _ _ _ _ _ _).trans h⟩
 ·cases h
def sh_st_binnacleref00_cut_w_0 : StSh := ⟨(.sl 0 :: (sqs 20 [])), [some (156, 1, .ints .u32)]⟩
def sx0_st_binnacleref00_cut_w_0 : StSh := ⟨(.sl 0 :: (sqs 20 [])), [some (156, 1, .ints .u32)]⟩
def hk_st_binnacleref00_cut_w_0 (N : Nat) : List Atom -> K -> Bool := fun a_ κ => match a_ with
 | [.nat m_1, .nat m_2, .ints m_3] => iterG N (stQ105 N m_1 m_3 (fun r1 => κ.ext 0 (sx0_st_binnacleref00_cut_w_0.build [.nat m_1, .nat r1, .ints m_3]))) m_2
 | _ => false
def anQ9 (N : Nat) : Nat -> Option Ann := fun b_ => cond (b_ == 0) (some ⟨⟨[0], [(0, some 0, 0)], [], []⟩, [(0, ⟨[0], [], [], []⟩)], some ⟨[2], [], [], []⟩, some (mkHooks [(sh_st_binnacleref00_cut_w_0, hk_st_binnacleref00_cut_w_0 N)])⟩) (none)
theorem eq_st_binnacleref00_cut_w_0 (N : Nat) (κ : K) (m_1 m_2 : Nat) (m_3 : List Int) : iter N (fun s k => codeV ⟨Pg, ofList [], isref, N⟩ 1 (anQ9 N) (lp Pg 110 0).2 (lp Pg 110 0).1 s (roundK Pg 1 ((anQ9 N) (lp Pg 110 0).1) κ k)) (sh_st_binnacleref00_cut_w_0.build [.nat m_1, .nat m_2, .ints m_3]) = iterG N (stQ105 N m_1 m_3 (fun r1 => κ.ext 0 (sx0_st_binnacleref00_cut_w_0.build [.nat m_1, .nat r1, .ints m_3]))) m_2 :=
 iter_tr (fun v_ => sh_st_binnacleref00_cut_w_0.build [.nat m_1, .nat v_, .ints m_3]) (fun v_ K_ => by kernel_rfl) N m_2
theorem hk1_st_binnacleref00_cut_w_0 (N : Nat) : HookFor ⟨Pg, ofList [], isref, N⟩ 1 (anQ9 N) (lp Pg 110 0) (sh_st_binnacleref00_cut_w_0, hk_st_binnacleref00_cut_w_0 N) := by
 intro a κ h
 simp only at h
 unfold hk_st_binnacleref00_cut_w_0 at h
 split at h
 ·exact (eq_st_binnacleref00_cut_w_0 _ _ _ _ _).trans h
 ·cases h
theorem ho_binnacleref00_cut_w_0 (N : Nat) : HookOk ⟨Pg, ofList [], isref, N⟩ 1 (anQ9 N) (lp Pg 110 0) :=
 hooks_ok [(sh_st_binnacleref00_cut_w_0, hk_st_binnacleref00_cut_w_0 N)] (by kernel_rfl) ⟨hk1_st_binnacleref00_cut_w_0 _, trivial⟩
theorem eqQ9 (N : Nat) (b : List Int) (c_ : V -> List Blk -> Bool) : bodyZ false ⟨Pg, ofList [], isref, N⟩ (anQ9 N) 110 (shFQ9.args [.ints b]) [⟨156, 1, .ints .u32 b⟩] c_ = GQ9 N b (fun r0 => c_ (.sl 0 0 r0) [⟨156, 1, .ints .u32 b⟩]) := by kernel_rfl
theorem goodQ9 (N : Nat) : GoodF Pg 110 (FQ9 (GQ9 N)) := by
 refine good_fsZ (md := false) (cx := ⟨Pg, ofList [], isref, N⟩) (os_zero (ofList_nil _) (by kernel_rfl)) shFQ9 (spQ9 (GQ9 N)) (anQ9 N) 1 1 (by kernel_rfl) (fun i_ hi_ => by
  match i_, hi_ with
  | 0, _ => exact ho_binnacleref00_cut_w_0 _
  | (q + 1), h => omega) ?_
 intro a k h
 unfold spQ9 at h
 split at h
 ·exact ⟨[_], rfl, rfl, (eqQ9 _ _ _).trans h⟩
 ·cases h
def anQ45 (N : Nat) (SQ9 : TSQ9) : Nat -> Option Ann := fun b_ => none
theorem eqQ45 (N : Nat) (SQ9 : TSQ9) (n : Int) (c_ : V -> List Blk -> Bool) : bodyZ false ⟨Pg, ofList [(110, (FQ9 SQ9))], isref, N⟩ (anQ45 N SQ9) 139 (shFQ45.args [.int n]) [] c_ = GQ45 N SQ9 n (fun r0 => c_ (.roi .u32 r0) []) := by kernel_rfl
theorem goodQ45 (N : Nat) (SQ9 : TSQ9) (hQ9 : GoodF Pg 110 (FQ9 SQ9)) : GoodF Pg 139 (FQ45 (GQ45 N SQ9)) := by
 refine good_fsZ (md := false) (cx := ⟨Pg, ofList [(110, (FQ9 SQ9))], isref, N⟩) (os_zero (ofList_cons hQ9 (ofList_nil _)) (by kernel_rfl)) shFQ45 (spQ45 (GQ45 N SQ9)) (anQ45 N SQ9) 0 0 (by kernel_rfl) (fun i_ hi_ => by omega) ?_
 intro a k h
 unfold spQ45 at h
 split at h
 ·exact ⟨[], rfl, rfl, (eqQ45 _ _ _ _).trans h⟩
 ·cases h
def sh_st_binnacleref00_cut_0 : StSh := ⟨(.roi .u32 :: (sqs 20 [])), []⟩
def sx0_st_binnacleref00_cut_0 : StSh := ⟨(.roi .u32 :: (sqs 20 [])), []⟩
def hk_st_binnacleref00_cut_0 (N : Nat) : List Atom -> K -> Bool := fun a_ κ => match a_ with
 | [.ints m_1] => iterG N (st_z00_cut_0 N (fun r0 => κ.ext 0 (sx0_st_binnacleref00_cut_0.build [.ints r0]))) m_1
 | _ => false
def anQ87 (N : Nat) : Nat -> Option Ann := fun b_ => cond (b_ == 0) (some ⟨⟨[0], [], [], []⟩, [(0, ⟨[0], [], [], []⟩)], some ⟨[2], [], [], []⟩, some (mkHooks [(sh_st_binnacleref00_cut_0, hk_st_binnacleref00_cut_0 N)])⟩) (none)
theorem eq_st_binnacleref00_cut_0 (N : Nat) (κ : K) (m_1 : List Int) : iter N (fun s k => codeV ⟨Pg, ofList [], isref, N⟩ 0 (anQ87 N) (lp Pg 110 0).2 (lp Pg 110 0).1 s (roundK Pg 0 ((anQ87 N) (lp Pg 110 0).1) κ k)) (sh_st_binnacleref00_cut_0.build [.ints m_1]) = iterG N (st_z00_cut_0 N (fun r0 => κ.ext 0 (sx0_st_binnacleref00_cut_0.build [.ints r0]))) m_1 :=
 iter_tr (fun v_ => sh_st_binnacleref00_cut_0.build [.ints v_]) (fun v_ K_ => by kernel_rfl) N m_1
theorem hk1_st_binnacleref00_cut_0 (N : Nat) : HookFor ⟨Pg, ofList [], isref, N⟩ 0 (anQ87 N) (lp Pg 110 0) (sh_st_binnacleref00_cut_0, hk_st_binnacleref00_cut_0 N) := by
 intro a κ h
 simp only at h
 unfold hk_st_binnacleref00_cut_0 at h
 split at h
 ·exact (eq_st_binnacleref00_cut_0 _ _ _).trans h
 ·cases h
theorem ho_binnacleref00_cut_0 (N : Nat) : HookOk ⟨Pg, ofList [], isref, N⟩ 0 (anQ87 N) (lp Pg 110 0) :=
 hooks_ok [(sh_st_binnacleref00_cut_0, hk_st_binnacleref00_cut_0 N)] (by kernel_rfl) ⟨hk1_st_binnacleref00_cut_0 _, trivial⟩
theorem eqQ87 (N : Nat) (m : List Int) (c_ : V -> List Blk -> Bool) : bodyZ false ⟨Pg, ofList [], isref, N⟩ (anQ87 N) 110 (shFQ87.args [.ints m]) [] c_ = GQ87 N m (fun r0 => c_ (.roi .u32 r0) []) := by kernel_rfl
theorem goodQ87 (N : Nat) : GoodF Pg 110 (FQ87 (GQ87 N)) := by
 refine good_fsZ (md := false) (cx := ⟨Pg, ofList [], isref, N⟩) (os_zero (ofList_nil _) (by kernel_rfl)) shFQ87 (spQ87 (GQ87 N)) (anQ87 N) 1 0 (by kernel_rfl) (fun i_ hi_ => by
  match i_, hi_ with
  | 0, _ => exact ho_binnacleref00_cut_0 _
  | (q + 1), h => omega) ?_
 intro a k h
 unfold spQ87 at h
 split at h
 ·exact ⟨[], rfl, rfl, (eqQ87 _ _ _).trans h⟩
 ·cases h
def anQ16 (N : Nat) (SQ87 : TSQ87) : Nat -> Option Ann := fun b_ => none
theorem eqQ16 (N : Nat) (SQ87 : TSQ87) (neg : Bool) (m : List Int) (b : Bool) (c_ : V -> List Blk -> Bool) : bodyZ false ⟨Pg, ofList [(110, (FQ87 SQ87))], isref, N⟩ (anQ16 N SQ87) 106 (shFQ16.args [.bool neg, .ints m, .bool b]) [⟨57, 1, .cells [.bool b, .nil]⟩] c_ = GQ16 N SQ87 neg m b (fun r0 r1 => c_ (.ptr 0 0) [⟨57, 1, .cells [.bool r0, .roi .u32 r1]⟩]) := by kernel_rfl
theorem goodQ16 (N : Nat) (SQ87 : TSQ87) (hQ87 : GoodF Pg 110 (FQ87 SQ87)) : GoodF Pg 106 (FQ16 (GQ16 N SQ87)) := by
 refine good_fsZ (md := false) (cx := ⟨Pg, ofList [(110, (FQ87 SQ87))], isref, N⟩) (os_zero (ofList_cons hQ87 (ofList_nil _)) (by kernel_rfl)) shFQ16 (spQ16 (GQ16 N SQ87)) (anQ16 N SQ87) 0 1 (by kernel_rfl) (fun i_ hi_ => by omega) ?_
 intro a k h
 unfold spQ16 at h
 split at h
 ·exact ⟨[_], rfl, rfl, (eqQ16 _ _ _ _ _ _).trans h⟩
 ·cases h
def anQ35 (N : Nat) (SQ45 : TSQ45) (SQ16 : TSQ16) : Nat -> Option Ann := fun b_ => none
def lsQ96 (d_ : List V) (u_ : List (Option Blk)) (n : Int) (b : Bool) (u : Int) : St := ⟨(.ptr 0 0 :: (.int .i64 n :: (dqs d_ 0 3 (.int .u64 u :: (dqs d_ 3 12 []))))), [some ⟨57, 1, .cells [.bool b, .nil]⟩]⟩
theorem jnQ96 (N : Nat) (SQ45 : TSQ45) (SQ16 : TSQ16) (d_ : List V) (u_ : List (Option Blk)) (n : Int) (b : Bool) (u : Int) (c_ : V -> List Blk -> Bool) : codesV ⟨Pg, ofList [(139, (FQ45 SQ45)), (106, (FQ16 SQ16))], isref, N⟩ 1 (anQ35 N SQ45 SQ16) ((cds Pg 105).drop 4) 0 (lsQ96 d_ u_ n b u) (finZ false Pg 105 1 c_) = JQ96 N SQ45 SQ16 n b u (fun r0 r1 => c_ (.ptr 0 0) [⟨57, 1, .cells [.bool r0, .roi .u32 r1]⟩]) := by kernel_rfl
theorem hd_zi_SetInt64_p0n_w (N : Nat) (SQ45 : TSQ45) (SQ16 : TSQ16) (n : Int) (b : Bool) (c_ : V -> List Blk -> Bool) (κn_ : St -> Bool) : codesV ⟨Pg, ofList [(139, (FQ45 SQ45)), (106, (FQ16 SQ16))], isref, N⟩ 1 (anQ35 N SQ45 SQ16) (sg Pg 105 0 4) 0 (st0 Pg 105 (shFQ35.args [.int n, .bool b]) [⟨57, 1, .cells [.bool b, .nil]⟩]) { (finZ false Pg 105 1 c_) with nrm := κn_ } = (cond (decide (n < 0)) (κn_ (lsQ96 [.any, .any, .val (.pointer none), .int .i64 n, .int .u64 (IntKind.wrap .u64 n), .int .i64 n, .bool true, .int .u64 (IntKind.wrap .u64 n), .int .u64 (IntKind.wrap .u64 (0 - (IntKind.wrap .u64 n))), .any, .any, .any, .any, .any, .any] [] n b (IntKind.wrap .u64 (0 - (IntKind.wrap .u64 n))))) (κn_ (lsQ96 [.any, .any, .val (.pointer none), .int .i64 n, .int .u64 (IntKind.wrap .u64 n), .int .i64 n, .bool false, .any, .any, .any, .any, .any, .any, .any, .any] [] n b (IntKind.wrap .u64 n)))) := by kernel_rfl
theorem jn_zi_SetInt64_p0n_w (N : Nat) (SQ45 : TSQ45) (SQ16 : TSQ16) (n : Int) (b : Bool) (c_ : V -> List Blk -> Bool) : codesV ⟨Pg, ofList [(139, (FQ45 SQ45)), (106, (FQ16 SQ16))], isref, N⟩ 1 (anQ35 N SQ45 SQ16) ((cds Pg 105).drop 0) 0 (st0 Pg 105 (shFQ35.args [.int n, .bool b]) [⟨57, 1, .cells [.bool b, .nil]⟩]) (finZ false Pg 105 1 c_) = GQ35 N SQ45 SQ16 n b (fun r0 r1 => c_ (.ptr 0 0) [⟨57, 1, .cells [.bool r0, .roi .u32 r1]⟩]) := by
 rw [codesV_cut 0 4 4 rfl]
 refine (hd_zi_SetInt64_p0n_w N SQ45 SQ16 n b c_ _).trans ?_
 simp only [jnQ96]
 kernel_rfl
theorem eqQ35 (N : Nat) (SQ45 : TSQ45) (SQ16 : TSQ16) (n : Int) (b : Bool) (c_ : V -> List Blk -> Bool) : bodyZ false ⟨Pg, ofList [(139, (FQ45 SQ45)), (106, (FQ16 SQ16))], isref, N⟩ (anQ35 N SQ45 SQ16) 105 (shFQ35.args [.int n, .bool b]) [⟨57, 1, .cells [.bool b, .nil]⟩] c_ = GQ35 N SQ45 SQ16 n b (fun r0 r1 => c_ (.ptr 0 0) [⟨57, 1, .cells [.bool r0, .roi .u32 r1]⟩]) :=
 (bodyZ_codes (by kernel_rfl)).trans (jn_zi_SetInt64_p0n_w N SQ45 SQ16 n b c_)
theorem goodQ35 (N : Nat) (SQ45 : TSQ45) (SQ16 : TSQ16) (hQ45 : GoodF Pg 139 (FQ45 SQ45)) (hQ16 : GoodF Pg 106 (FQ16 SQ16)) : GoodF Pg 105 (FQ35 (GQ35 N SQ45 SQ16)) := by
 refine good_fsZ (md := false) (cx := ⟨Pg, ofList [(139, (FQ45 SQ45)), (106, (FQ16 SQ16))], isref, N⟩) (os_zero (ofList_cons hQ45 (ofList_cons hQ16 (ofList_nil _))) (by kernel_rfl)) shFQ35 (spQ35 (GQ35 N SQ45 SQ16)) (anQ35 N SQ45 SQ16) 0 1 (by kernel_rfl) (fun i_ hi_ => by omega) ?_
 intro a k h
 unfold spQ35 at h
 split at h
 ·exact ⟨[_], rfl, rfl, (eqQ35 _ _ _ _ _ _).trans h⟩
 ·cases h
def anQ47 (N : Nat) (SQ35 : TSQ35) : Nat -> Option Ann := fun b_ => none
theorem eqQ47 (N : Nat) (SQ35 : TSQ35) (n : Int) (c_ : V -> List Blk -> Bool) : bodyZ false ⟨Pg, ofList [(105, (FQ35 SQ35))], isref, N⟩ (anQ47 N SQ35) 57 (shFQ47.args [.int n]) [] c_ = GQ47 N SQ35 n (fun r0 r1 => c_ (.ptr 0 0) [⟨57, 1, .cells [.bool r0, .roi .u32 r1]⟩]) := by kernel_rfl
theorem goodQ47 (N : Nat) (SQ35 : TSQ35) (hQ35 : GoodF Pg 105 (FQ35 SQ35)) : GoodF Pg 57 (FQ47 (GQ47 N SQ35)) := by
 refine good_fsZ (md := false) (cx := ⟨Pg, ofList [(105, (FQ35 SQ35))], isref, N⟩) (os_zero (ofList_cons hQ35 (ofList_nil _)) (by kernel_rfl)) shFQ47 (spQ47 (GQ47 N SQ35)) (anQ47 N SQ35) 0 0 (by kernel_rfl) (fun i_ hi_ => by omega) ?_
 intro a k h
 unfold spQ47 at h
 split at h
 ·exact ⟨[], rfl, rfl, (eqQ47 _ _ _ _).trans h⟩
 ·cases h
def anQ11 (N : Nat) (SQ47 : TSQ47) : Nat -> Option Ann := fun b_ => none
theorem eqQ11 (N : Nat) (SQ47 : TSQ47) (n : Int) (c_ : V -> List Blk -> Bool) : bodyV ⟨Pg, ofList [(57, (FQ47 SQ47))], isref, N⟩ (anQ11 N SQ47) 32 (shFQ11.args [.int n]) [] c_ = GQ11 N SQ47 n (fun r0 r1 r2 => c_ (.agg [.ptr 0 0, .int .i64 r0]) [⟨57, 1, .cells [.bool r1, .roi .u32 r2]⟩]) := by kernel_rfl
theorem goodQ11 (N : Nat) (SQ47 : TSQ47) (hQ47 : GoodF Pg 57 (FQ47 SQ47)) : GoodF Pg 32 (FQ11 (GQ11 N SQ47)) := by
 refine good_fs (cx := ⟨Pg, ofList [(57, (FQ47 SQ47))], isref, N⟩) (os_zero (ofList_cons hQ47 (ofList_nil _)) (by kernel_rfl)) shFQ11 (spQ11 (GQ11 N SQ47)) (anQ11 N SQ47) 0 0 (by kernel_rfl) (fun i_ hi_ => by omega) ?_
 intro a k h
 unfold spQ11 at h
 split at h
 ·exact ⟨[], rfl, rfl, (eqQ11 _ _ _ _).trans h⟩
 ·cases h
def anQ10 (N : Nat) (SQ47 : TSQ47) : Nat -> Option Ann := fun b_ => none
theorem eqQ10 (N : Nat) (SQ47 : TSQ47) (e : Int) (c_ : V -> List Blk -> Bool) : bodyV ⟨Pg, ofList [(57, (FQ47 SQ47))], isref, N⟩ (anQ10 N SQ47) 34 (shFQ10.args [.int e]) [] c_ = GQ10 N SQ47 e (fun r1 r2 => c_ (.agg [.ptr 0 0, .int .i64 e]) [⟨57, 1, .cells [.bool r1, .roi .u32 r2]⟩]) := by kernel_rfl
theorem goodQ10 (N : Nat) (SQ47 : TSQ47) (hQ47 : GoodF Pg 57 (FQ47 SQ47)) : GoodF Pg 34 (FQ10 (GQ10 N SQ47)) := by
 refine good_fs (cx := ⟨Pg, ofList [(57, (FQ47 SQ47))], isref, N⟩) (os_zero (ofList_cons hQ47 (ofList_nil _)) (by kernel_rfl)) shFQ10 (spQ10 (GQ10 N SQ47)) (anQ10 N SQ47) 0 0 (by kernel_rfl) (fun i_ hi_ => by omega) ?_
 intro a k h
 unfold spQ10 at h
 split at h
 ·exact ⟨[], rfl, rfl, (eqQ10 _ _ _ _).trans h⟩
 ·cases h
def anQ57 (N : Nat) (SQ9 : TSQ9) : Nat -> Option Ann := fun b_ => none
theorem eqQ57 (N : Nat) (SQ9 : TSQ9) (neg b : Bool) (b_1 : List Int) (c_ : V -> List Blk -> Bool) : bodyZ false ⟨Pg, ofList [(110, (FQ9 SQ9))], isref, N⟩ (anQ57 N SQ9) 106 (shFQ57.args [.bool neg, .bool b, .ints b_1]) [⟨57, 1, .cells [.bool b, .nil]⟩, ⟨156, 1, .ints .u32 b_1⟩] c_ = GQ57 N SQ9 neg b b_1 (fun r0 r1 r2 => c_ (.ptr 0 0) [⟨57, 1, .cells [.bool r0, .sl 1 r1 r2]⟩, ⟨156, 1, .ints .u32 b_1⟩]) := by kernel_rfl
theorem goodQ57 (N : Nat) (SQ9 : TSQ9) (hQ9 : GoodF Pg 110 (FQ9 SQ9)) : GoodF Pg 106 (FQ57 (GQ57 N SQ9)) := by
 refine good_fsZ (md := false) (cx := ⟨Pg, ofList [(110, (FQ9 SQ9))], isref, N⟩) (os_zero (ofList_cons hQ9 (ofList_nil _)) (by kernel_rfl)) shFQ57 (spQ57 (GQ57 N SQ9)) (anQ57 N SQ9) 0 2 (by kernel_rfl) (fun i_ hi_ => by omega) ?_
 intro a k h
 unfold spQ57 at h
 split at h
 ·exact ⟨[_, _], rfl, rfl, (eqQ57 _ _ _ _ _ _).trans h⟩
 ·cases h
def anQ49 (N : Nat) (SQ57 : TSQ57) : Nat -> Option Ann := fun b_ => none
theorem eqQ49 (N : Nat) (SQ57 : TSQ57) (b b_1 : Bool) (b_2 : List Int) (c_ : V -> List Blk -> Bool) : bodyZ false ⟨Pg, ofList [(106, (FQ57 SQ57))], isref, N⟩ (anQ49 N SQ57) 88 (shFQ49.args [.bool b, .bool b_1, .ints b_2]) [⟨57, 1, .cells [.bool b, .nil]⟩, ⟨57, 1, .cells [.bool b_1, .roi .u32 b_2]⟩] c_ = GQ49 N SQ57 b b_1 b_2 (fun r0 r1 => c_ (.ptr 0 0) [⟨57, 1, .cells [.bool r0, .roi .u32 r1]⟩, ⟨57, 1, .cells [.bool b_1, .roi .u32 b_2]⟩]) := by kernel_rfl
theorem goodQ49 (N : Nat) (SQ57 : TSQ57) (hQ57 : GoodF Pg 106 (FQ57 SQ57)) : GoodF Pg 88 (FQ49 (GQ49 N SQ57)) := by
 refine good_fsZ (md := false) (cx := ⟨Pg, ofList [(106, (FQ57 SQ57))], isref, N⟩) (os_zero (ofList_cons hQ57 (ofList_nil _)) (by kernel_rfl)) shFQ49 (spQ49 (GQ49 N SQ57)) (anQ49 N SQ57) 0 2 (by kernel_rfl) (fun i_ hi_ => by omega) ?_
 intro a k h
 unfold spQ49 at h
 split at h
 ·exact ⟨[_, _], rfl, rfl, (eqQ49 _ _ _ _ _ _).trans h⟩
 ·cases h
def anQ3 (N : Nat) (SQ49 : TSQ49) : Nat -> Option Ann := fun b_ => none
theorem eqQ3 (N : Nat) (SQ49 : TSQ49) (x : Int) (b : Bool) (b_1 : List Int) (c_ : V -> List Blk -> Bool) : bodyV ⟨Pg, ofList [(88, (FQ49 SQ49))], isref, N⟩ (anQ3 N SQ49) 35 (shFQ3.args [.int x, .bool b, .ints b_1]) [⟨57, 1, .cells [.bool b, .roi .u32 b_1]⟩] c_ = GQ3 N SQ49 x b b_1 (fun r3 r4 => c_ (.agg [.ptr 1 0, .int .i64 x]) [⟨57, 1, .cells [.bool b, .roi .u32 b_1]⟩, ⟨57, 1, .cells [.bool r3, .roi .u32 r4]⟩]) := by kernel_rfl
theorem goodQ3 (N : Nat) (SQ49 : TSQ49) (hQ49 : GoodF Pg 88 (FQ49 SQ49)) : GoodF Pg 35 (FQ3 (GQ3 N SQ49)) := by
 refine good_fs (cx := ⟨Pg, ofList [(88, (FQ49 SQ49))], isref, N⟩) (os_zero (ofList_cons hQ49 (ofList_nil _)) (by kernel_rfl)) shFQ3 (spQ3 (GQ3 N SQ49)) (anQ3 N SQ49) 0 1 (by kernel_rfl) (fun i_ hi_ => by omega) ?_
 intro a k h
 unfold spQ3 at h
 split at h
 ·exact ⟨[_], rfl, rfl, (eqQ3 _ _ _ _ _ _).trans h⟩
 ·cases h
def anQ36 (N : Nat) : Nat -> Option Ann := fun b_ => none
theorem eqQ36 (N : Nat) (b : Bool) (b_1 : List Int) (c_ : V -> List Blk -> Bool) : bodyZ false ⟨Pg, ofList [], isref, N⟩ (anQ36 N) 86 (shFQ36.args [.bool b, .ints b_1]) [⟨57, 1, .cells [.bool b, .roi .u32 b_1]⟩] c_ = GQ36 N b b_1 (fun r0 => c_ (.int .i64 r0) [⟨57, 1, .cells [.bool b, .roi .u32 b_1]⟩]) := by kernel_rfl
theorem goodQ36 (N : Nat) : GoodF Pg 86 (FQ36 (GQ36 N)) := by
 refine good_fsZ (md := false) (cx := ⟨Pg, ofList [], isref, N⟩) (os_zero (ofList_nil _) (by kernel_rfl)) shFQ36 (spQ36 (GQ36 N)) (anQ36 N) 0 1 (by kernel_rfl) (fun i_ hi_ => by omega) ?_
 intro a k h
 unfold spQ36 at h
 split at h
 ·exact ⟨[_], rfl, rfl, (eqQ36 _ _ _ _).trans h⟩
 ·cases h
def sh_st_binnacleref00_left_0 : StSh := ⟨(.roi .u32 :: (sqs 4 (.int .i64 :: (.int .u64 :: (.slw 0 :: (.int .i64 :: (sqs 49 []))))))), [some (156, 1, .ints .u32)]⟩
def sx0_st_binnacleref00_left_0 : StSh := ⟨(sqs 7 (.slw 0 :: (sqs 50 []))), [some (156, 1, .ints .u32)]⟩
def hk_st_binnacleref00_left_0 (N : Nat) (SQ9 : TSQ9) : List Atom -> K -> Bool := fun a_ κ => match a_ with
 | [.ints m_1, .int w, .int s, .int i, .ints out] => iterG N (st_z00_left_0 N SQ9 m_1 w s (fun r0 => κ.ext 0 (sx0_st_binnacleref00_left_0.build [.ints r0]))) (i, out)
 | _ => false
def anQ76 (N : Nat) (SQ9 : TSQ9) : Nat -> Option Ann := fun b_ => cond (b_ == 0) (some ⟨⟨[0, 5, 6, 7, 8], [], [], []⟩, [(0, ⟨[7], [], [], []⟩)], some ⟨[4], [], [], []⟩, some (mkHooks [(sh_st_binnacleref00_left_0, hk_st_binnacleref00_left_0 N SQ9)])⟩) (none)
theorem eq_st_binnacleref00_left_0 (N : Nat) (SQ9 : TSQ9) (κ : K) (m_1 : List Int) (w s i : Int) (out : List Int) : iter N (fun s k => codeV ⟨Pg, ofList [(110, (FQ9 SQ9))], isref, N⟩ 0 (anQ76 N SQ9) (lp Pg 107 0).2 (lp Pg 107 0).1 s (roundK Pg 0 ((anQ76 N SQ9) (lp Pg 107 0).1) κ k)) (sh_st_binnacleref00_left_0.build [.ints m_1, .int w, .int s, .int i, .ints out]) = iterG N (st_z00_left_0 N SQ9 m_1 w s (fun r0 => κ.ext 0 (sx0_st_binnacleref00_left_0.build [.ints r0]))) (i, out) :=
 iter_tr (fun (v_ : Int × List Int) => sh_st_binnacleref00_left_0.build [.ints m_1, .int w, .int s, .int v_.1, .ints v_.2]) (fun v_ K_ => by obtain ⟨i, out⟩ := v_; kernel_rfl) N (i, out)
theorem hk1_st_binnacleref00_left_0 (N : Nat) (SQ9 : TSQ9) : HookFor ⟨Pg, ofList [(110, (FQ9 SQ9))], isref, N⟩ 0 (anQ76 N SQ9) (lp Pg 107 0) (sh_st_binnacleref00_left_0, hk_st_binnacleref00_left_0 N SQ9) := by
 intro a κ h
 simp only at h
 unfold hk_st_binnacleref00_left_0 at h
 split at h
 ·exact (eq_st_binnacleref00_left_0 _ _ _ _ _ _ _ _).trans h
 ·cases h
theorem ho_binnacleref00_left_0 (N : Nat) (SQ9 : TSQ9) : HookOk ⟨Pg, ofList [(110, (FQ9 SQ9))], isref, N⟩ 0 (anQ76 N SQ9) (lp Pg 107 0) :=
 hooks_ok [(sh_st_binnacleref00_left_0, hk_st_binnacleref00_left_0 N SQ9)] (by kernel_rfl) ⟨hk1_st_binnacleref00_left_0 _ _, trivial⟩
theorem eqQ76 (N : Nat) (SQ9 : TSQ9) (m : List Int) (n : Int) (c_ : V -> List Blk -> Bool) : bodyZ false ⟨Pg, ofList [(110, (FQ9 SQ9))], isref, N⟩ (anQ76 N SQ9) 107 (shFQ76.args [.ints m, .int n]) [] c_ = GQ76 N SQ9 m n (fun r0 => c_ (.roi .u32 r0) []) := by kernel_rfl
theorem goodQ76 (N : Nat) (SQ9 : TSQ9) (hQ9 : GoodF Pg 110 (FQ9 SQ9)) : GoodF Pg 107 (FQ76 (GQ76 N SQ9)) := by
 refine good_fsZ (md := false) (cx := ⟨Pg, ofList [(110, (FQ9 SQ9))], isref, N⟩) (os_zero (ofList_cons hQ9 (ofList_nil _)) (by kernel_rfl)) shFQ76 (spQ76 (GQ76 N SQ9)) (anQ76 N SQ9) 1 0 (by kernel_rfl) (fun i_ hi_ => by
  match i_, hi_ with
  | 0, _ => exact ho_binnacleref00_left_0 _ _
  | (q + 1), h => omega) ?_
 intro a k h
 unfold spQ76 at h
 split at h
 ·exact ⟨[], rfl, rfl, (eqQ76 _ _ _ _ _).trans h⟩
 ·cases h
def anQ48 (N : Nat) (SQ76 : TSQ76) (SQ16 : TSQ16) : Nat -> Option Ann := fun b_ => none
theorem eqQ48 (N : Nat) (SQ76 : TSQ76) (SQ16 : TSQ16) (n : Int) (b b_1 : Bool) (b_2 : List Int) (c_ : V -> List Blk -> Bool) : bodyZ false ⟨Pg, ofList [(107, (FQ76 SQ76)), (106, (FQ16 SQ16))], isref, N⟩ (anQ48 N SQ76 SQ16) 58 (shFQ48.args [.int n, .bool b, .bool b_1, .ints b_2]) [⟨57, 1, .cells [.bool b, .nil]⟩, ⟨57, 1, .cells [.bool b_1, .roi .u32 b_2]⟩] c_ = GQ48 N SQ76 SQ16 n b b_1 b_2 (fun r0 r1 => c_ (.ptr 0 0) [⟨57, 1, .cells [.bool r0, .roi .u32 r1]⟩, ⟨57, 1, .cells [.bool b_1, .roi .u32 b_2]⟩]) := by kernel_rfl
theorem goodQ48 (N : Nat) (SQ76 : TSQ76) (SQ16 : TSQ16) (hQ76 : GoodF Pg 107 (FQ76 SQ76)) (hQ16 : GoodF Pg 106 (FQ16 SQ16)) : GoodF Pg 58 (FQ48 (GQ48 N SQ76 SQ16)) := by
 refine good_fsZ (md := false) (cx := ⟨Pg, ofList [(107, (FQ76 SQ76)), (106, (FQ16 SQ16))], isref, N⟩) (os_zero (ofList_cons hQ76 (ofList_cons hQ16 (ofList_nil _))) (by kernel_rfl)) shFQ48 (spQ48 (GQ48 N SQ76 SQ16)) (anQ48 N SQ76 SQ16) 0 2 (by kernel_rfl) (fun i_ hi_ => by omega) ?_
 intro a k h
 unfold spQ48 at h
 split at h
 ·exact ⟨[_, _], rfl, rfl, (eqQ48 _ _ _ _ _ _ _ _).trans h⟩
 ·cases h
def anQ23 (N : Nat) (SQ48 : TSQ48) : Nat -> Option Ann := fun b_ => none
theorem eqQ23 (N : Nat) (SQ48 : TSQ48) (x e : Int) (b : Bool) (b_1 : List Int) (c_ : V -> List Blk -> Bool) : bodyV ⟨Pg, ofList [(58, (FQ48 SQ48))], isref, N⟩ (anQ23 N SQ48) 87 (shFQ23.args [.int x, .int e, .bool b, .ints b_1]) [⟨57, 1, .cells [.bool b, .roi .u32 b_1]⟩] c_ = GQ23 N SQ48 x e b b_1 (c_ (.agg [.ptr 0 0, .int .i64 x]) [⟨57, 1, .cells [.bool b, .roi .u32 b_1]⟩]) (fun r3 r4 => c_ (.agg [.ptr 1 0, .int .i64 e]) [⟨57, 1, .cells [.bool b, .roi .u32 b_1]⟩, ⟨57, 1, .cells [.bool r3, .roi .u32 r4]⟩]) := by kernel_rfl
theorem goodQ23 (N : Nat) (SQ48 : TSQ48) (hQ48 : GoodF Pg 58 (FQ48 SQ48)) : GoodF Pg 87 (FQ23 (GQ23 N SQ48)) := by
 refine good_fs (cx := ⟨Pg, ofList [(58, (FQ48 SQ48))], isref, N⟩) (os_zero (ofList_cons hQ48 (ofList_nil _)) (by kernel_rfl)) shFQ23 (spQ23 (GQ23 N SQ48)) (anQ23 N SQ48) 0 1 (by kernel_rfl) (fun i_ hi_ => by omega) ?_
 intro a k h
 unfold spQ23 at h
 split at h
 ·exact ⟨[_], rfl, rfl, (eqQ23 _ _ _ _ _ _ _).trans h⟩
 ·cases h
def sh_st_binnacleref00_plus_0 : StSh := ⟨(.roi .u32 :: (.roi .u32 :: (sqs 4 (.slw 0 :: (.int .u64 :: (.int .i64 :: (sqs 52 []))))))), [some (156, 1, .ints .u32)]⟩
def sx0_st_binnacleref00_plus_0 : StSh := ⟨(.roi .u32 :: (sqs 5 (.slw 0 :: (.int .u64 :: (sqs 53 []))))), [some (156, 1, .ints .u32)]⟩
def hk_st_binnacleref00_plus_0 (N : Nat) (SQ9 : TSQ9) : List Atom -> K -> Bool := fun a_ κ => match a_ with
 | [.ints a_1, .ints b_1, .int carry, .int i, .ints out] => iterG N (st_z00_plus_0 N SQ9 a_1 b_1 (fun r1 r2 => κ.ext 0 (sx0_st_binnacleref00_plus_0.build [.ints a_1, .int r1, .ints r2]))) (carry, i, out)
 | _ => false
def anQ77 (N : Nat) (SQ9 : TSQ9) : Nat -> Option Ann := fun b_ => cond (b_ == 0) (some ⟨⟨[0, 1, 6, 7, 8], [], [], []⟩, [(0, ⟨[0, 6, 7], [], [], []⟩)], some ⟨[4], [], [], []⟩, some (mkHooks [(sh_st_binnacleref00_plus_0, hk_st_binnacleref00_plus_0 N SQ9)])⟩) (none)
theorem eq_st_binnacleref00_plus_0 (N : Nat) (SQ9 : TSQ9) (κ : K) (a_1 b_1 : List Int) (carry i : Int) (out : List Int) : iter N (fun s k => codeV ⟨Pg, ofList [(110, (FQ9 SQ9))], isref, N⟩ 0 (anQ77 N SQ9) (lp Pg 149 0).2 (lp Pg 149 0).1 s (roundK Pg 0 ((anQ77 N SQ9) (lp Pg 149 0).1) κ k)) (sh_st_binnacleref00_plus_0.build [.ints a_1, .ints b_1, .int carry, .int i, .ints out]) = iterG N (st_z00_plus_0 N SQ9 a_1 b_1 (fun r1 r2 => κ.ext 0 (sx0_st_binnacleref00_plus_0.build [.ints a_1, .int r1, .ints r2]))) (carry, i, out) :=
 iter_tr (fun (v_ : Int × Int × List Int) => sh_st_binnacleref00_plus_0.build [.ints a_1, .ints b_1, .int v_.1, .int v_.2.1, .ints v_.2.2]) (fun v_ K_ => by obtain ⟨carry, i, out⟩ := v_; kernel_rfl) N (carry, i, out)
theorem hk1_st_binnacleref00_plus_0 (N : Nat) (SQ9 : TSQ9) : HookFor ⟨Pg, ofList [(110, (FQ9 SQ9))], isref, N⟩ 0 (anQ77 N SQ9) (lp Pg 149 0) (sh_st_binnacleref00_plus_0, hk_st_binnacleref00_plus_0 N SQ9) := by
 intro a κ h
 simp only at h
 unfold hk_st_binnacleref00_plus_0 at h
 split at h
 ·exact (eq_st_binnacleref00_plus_0 _ _ _ _ _ _ _ _).trans h
 ·cases h
theorem ho_binnacleref00_plus_0 (N : Nat) (SQ9 : TSQ9) : HookOk ⟨Pg, ofList [(110, (FQ9 SQ9))], isref, N⟩ 0 (anQ77 N SQ9) (lp Pg 149 0) :=
 hooks_ok [(sh_st_binnacleref00_plus_0, hk_st_binnacleref00_plus_0 N SQ9)] (by kernel_rfl) ⟨hk1_st_binnacleref00_plus_0 _ _, trivial⟩
theorem eqQ77 (N : Nat) (SQ9 : TSQ9) (a b : List Int) (c_ : V -> List Blk -> Bool) : bodyZ false ⟨Pg, ofList [(110, (FQ9 SQ9))], isref, N⟩ (anQ77 N SQ9) 149 (shFQ77.args [.ints a, .ints b]) [] c_ = GQ77 N SQ9 a b (fun r0 => c_ (.roi .u32 r0) []) := by kernel_rfl
theorem goodQ77 (N : Nat) (SQ9 : TSQ9) (hQ9 : GoodF Pg 110 (FQ9 SQ9)) : GoodF Pg 149 (FQ77 (GQ77 N SQ9)) := by
 refine good_fsZ (md := false) (cx := ⟨Pg, ofList [(110, (FQ9 SQ9))], isref, N⟩) (os_zero (ofList_cons hQ9 (ofList_nil _)) (by kernel_rfl)) shFQ77 (spQ77 (GQ77 N SQ9)) (anQ77 N SQ9) 1 0 (by kernel_rfl) (fun i_ hi_ => by
  match i_, hi_ with
  | 0, _ => exact ho_binnacleref00_plus_0 _ _
  | (q + 1), h => omega) ?_
 intro a k h
 unfold spQ77 at h
 split at h
 ·exact ⟨[], rfl, rfl, (eqQ77 _ _ _ _ _).trans h⟩
 ·cases h
def sh_st_binnacleref00_compare_0 : StSh := ⟨(.roi .u32 :: (.roi .u32 :: (.any :: (.any :: (.any :: (.int .i64 :: (sqs 35 []))))))), []⟩
def sx0_st_binnacleref00_compare_0 : StSh := ⟨(sqs 4 (.int .i64 :: (sqs 36 []))), []⟩
def sx1_st_binnacleref00_compare_0 : StSh := ⟨(sqs 41 []), []⟩
def hk_st_binnacleref00_compare_0 (N : Nat) : List Atom -> K -> Bool := fun a_ κ => match a_ with
 | [.ints a_1, .ints b_1, .int i] => iterG N (stQ101 N a_1 b_1 (fun r0 => κ.ret (sx0_st_binnacleref00_compare_0.build [.int r0])) (κ.ext 0 (sx1_st_binnacleref00_compare_0.build []))) i
 | _ => false
def anQ60 (N : Nat) : Nat -> Option Ann := fun b_ => cond (b_ == 0) (some ⟨⟨[0, 1, 5], [], [], []⟩, [(0, ⟨[], [], [], []⟩)], some ⟨[4], [], [], []⟩, some (mkHooks [(sh_st_binnacleref00_compare_0, hk_st_binnacleref00_compare_0 N)])⟩) (none)
theorem eq_st_binnacleref00_compare_0 (N : Nat) (κ : K) (a_1 b_1 : List Int) (i : Int) : iter N (fun s k => codeV ⟨Pg, ofList [], isref, N⟩ 0 (anQ60 N) (lp Pg 117 0).2 (lp Pg 117 0).1 s (roundK Pg 0 ((anQ60 N) (lp Pg 117 0).1) κ k)) (sh_st_binnacleref00_compare_0.build [.ints a_1, .ints b_1, .int i]) = iterG N (stQ101 N a_1 b_1 (fun r0 => κ.ret (sx0_st_binnacleref00_compare_0.build [.int r0])) (κ.ext 0 (sx1_st_binnacleref00_compare_0.build []))) i :=
 iter_tr (fun v_ => sh_st_binnacleref00_compare_0.build [.ints a_1, .ints b_1, .int v_]) (fun v_ K_ => by kernel_rfl) N i
theorem hk1_st_binnacleref00_compare_0 (N : Nat) : HookFor ⟨Pg, ofList [], isref, N⟩ 0 (anQ60 N) (lp Pg 117 0) (sh_st_binnacleref00_compare_0, hk_st_binnacleref00_compare_0 N) := by
 intro a κ h
 simp only at h
 unfold hk_st_binnacleref00_compare_0 at h
 split at h
 ·exact (eq_st_binnacleref00_compare_0 _ _ _ _ _).trans h
 ·cases h
theorem ho_binnacleref00_compare_0 (N : Nat) : HookOk ⟨Pg, ofList [], isref, N⟩ 0 (anQ60 N) (lp Pg 117 0) :=
 hooks_ok [(sh_st_binnacleref00_compare_0, hk_st_binnacleref00_compare_0 N)] (by kernel_rfl) ⟨hk1_st_binnacleref00_compare_0 _, trivial⟩
theorem eqQ60 (N : Nat) (a b : List Int) (c_ : V -> List Blk -> Bool) : bodyZ false ⟨Pg, ofList [], isref, N⟩ (anQ60 N) 117 (shFQ60.args [.ints a, .ints b]) [] c_ = GQ60 N a b (fun r0 => c_ (.int .i64 r0) []) := by kernel_rfl
theorem goodQ60 (N : Nat) : GoodF Pg 117 (FQ60 (GQ60 N)) := by
 refine good_fsZ (md := false) (cx := ⟨Pg, ofList [], isref, N⟩) (os_zero (ofList_nil _) (by kernel_rfl)) shFQ60 (spQ60 (GQ60 N)) (anQ60 N) 1 0 (by kernel_rfl) (fun i_ hi_ => by
  match i_, hi_ with
  | 0, _ => exact ho_binnacleref00_compare_0 _
  | (q + 1), h => omega) ?_
 intro a k h
 unfold spQ60 at h
 split at h
 ·exact ⟨[], rfl, rfl, (eqQ60 _ _ _ _).trans h⟩
 ·cases h
def sh_st_binnacleref00_minus_0 : StSh := ⟨(.roi .u32 :: (.roi .u32 :: (.any :: (.any :: (.any :: (.slw 0 :: (.int .u64 :: (.int .i64 :: (sqs 48 []))))))))), [some (156, 1, .ints .u32)]⟩
def sx0_st_binnacleref00_minus_0 : StSh := ⟨(sqs 5 (.slw 0 :: (sqs 50 []))), [some (156, 1, .ints .u32)]⟩
def hk_st_binnacleref00_minus_0 (N : Nat) (SQ9 : TSQ9) : List Atom -> K -> Bool := fun a_ κ => match a_ with
 | [.ints a_1, .ints b_1, .int borrow, .int i, .ints out] => iterG N (st_z00_minus_0 N SQ9 a_1 b_1 (fun r0 => κ.ext 0 (sx0_st_binnacleref00_minus_0.build [.ints r0]))) (borrow, i, out)
 | _ => false
def anQ68 (N : Nat) (SQ9 : TSQ9) : Nat -> Option Ann := fun b_ => cond (b_ == 0) (some ⟨⟨[0, 1, 5, 6, 7], [], [], []⟩, [(0, ⟨[5], [], [], []⟩)], some ⟨[4], [], [], []⟩, some (mkHooks [(sh_st_binnacleref00_minus_0, hk_st_binnacleref00_minus_0 N SQ9)])⟩) (none)
theorem eq_st_binnacleref00_minus_0 (N : Nat) (SQ9 : TSQ9) (κ : K) (a_1 b_1 : List Int) (borrow i : Int) (out : List Int) : iter N (fun s k => codeV ⟨Pg, ofList [(110, (FQ9 SQ9))], isref, N⟩ 0 (anQ68 N SQ9) (lp Pg 150 0).2 (lp Pg 150 0).1 s (roundK Pg 0 ((anQ68 N SQ9) (lp Pg 150 0).1) κ k)) (sh_st_binnacleref00_minus_0.build [.ints a_1, .ints b_1, .int borrow, .int i, .ints out]) = iterG N (st_z00_minus_0 N SQ9 a_1 b_1 (fun r0 => κ.ext 0 (sx0_st_binnacleref00_minus_0.build [.ints r0]))) (borrow, i, out) :=
 iter_tr (fun (v_ : Int × Int × List Int) => sh_st_binnacleref00_minus_0.build [.ints a_1, .ints b_1, .int v_.1, .int v_.2.1, .ints v_.2.2]) (fun v_ K_ => by obtain ⟨borrow, i, out⟩ := v_; kernel_rfl) N (borrow, i, out)
theorem hk1_st_binnacleref00_minus_0 (N : Nat) (SQ9 : TSQ9) : HookFor ⟨Pg, ofList [(110, (FQ9 SQ9))], isref, N⟩ 0 (anQ68 N SQ9) (lp Pg 150 0) (sh_st_binnacleref00_minus_0, hk_st_binnacleref00_minus_0 N SQ9) := by
 intro a κ h
 simp only at h
 unfold hk_st_binnacleref00_minus_0 at h
 split at h
 ·exact (eq_st_binnacleref00_minus_0 _ _ _ _ _ _ _ _).trans h
 ·cases h
theorem ho_binnacleref00_minus_0 (N : Nat) (SQ9 : TSQ9) : HookOk ⟨Pg, ofList [(110, (FQ9 SQ9))], isref, N⟩ 0 (anQ68 N SQ9) (lp Pg 150 0) :=
 hooks_ok [(sh_st_binnacleref00_minus_0, hk_st_binnacleref00_minus_0 N SQ9)] (by kernel_rfl) ⟨hk1_st_binnacleref00_minus_0 _ _, trivial⟩
theorem eqQ68 (N : Nat) (SQ9 : TSQ9) (a b : List Int) (c_ : V -> List Blk -> Bool) : bodyZ false ⟨Pg, ofList [(110, (FQ9 SQ9))], isref, N⟩ (anQ68 N SQ9) 150 (shFQ68.args [.ints a, .ints b]) [] c_ = GQ68 N SQ9 a b (fun r0 => c_ (.roi .u32 r0) []) := by kernel_rfl
theorem goodQ68 (N : Nat) (SQ9 : TSQ9) (hQ9 : GoodF Pg 110 (FQ9 SQ9)) : GoodF Pg 150 (FQ68 (GQ68 N SQ9)) := by
 refine good_fsZ (md := false) (cx := ⟨Pg, ofList [(110, (FQ9 SQ9))], isref, N⟩) (os_zero (ofList_cons hQ9 (ofList_nil _)) (by kernel_rfl)) shFQ68 (spQ68 (GQ68 N SQ9)) (anQ68 N SQ9) 1 0 (by kernel_rfl) (fun i_ hi_ => by
  match i_, hi_ with
  | 0, _ => exact ho_binnacleref00_minus_0 _ _
  | (q + 1), h => omega) ?_
 intro a k h
 unfold spQ68 at h
 split at h
 ·exact ⟨[], rfl, rfl, (eqQ68 _ _ _ _ _).trans h⟩
 ·cases h
end Go.Proofs.YtjpaijnmiaoopaaGreatDoor
