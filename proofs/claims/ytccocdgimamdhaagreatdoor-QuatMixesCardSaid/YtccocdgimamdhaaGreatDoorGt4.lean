/-
  THE TIES: each printed meaning is what the program does (written by program).
  Conditions: none.
-/
import Derived.Test.YtccocdgimamdhaaGreatDoorGs
namespace Go.Proofs.YtccocdgimamdhaaGreatDoor
open Go Go.Mach Go.Proofs
set_option linter.unusedVariables false
set_option maxRecDepth 50000

def an_q101 (N_ : Nat) (S_q131 : TS_q131) (S_q52 : TS_q52) : Nat → Option Ann := fun b_ => none
theorem eq_q101 (N_ : Nat) (S_q131 : TS_q131) (S_q52 : TS_q52) (n : Int) (b : Bool) (b_1 : Bool) (b_2 : List Int) (cont_ : V → List Blk → Bool) : bodyZ ⟨Tryz.prog, ofList [(183, (F_q131 S_q131)), (113, (F_q52 S_q52))], isref, N_⟩ (an_q101 N_ S_q131 S_q52) 146 (shF_q101.args [.int n, .bool b, .bool b_1, .ints b_2]) [⟨105, 1, .cells [.bool b, .nil]⟩, ⟨105, 1, .cells [.bool b_1, .roi .u32 b_2]⟩] cont_ = G_q101 N_ S_q131 S_q52 n b b_1 b_2 (fun r0 r1 => cont_ (.ptr 0 0) [⟨105, 1, .cells [.bool r0, .roi .u32 r1]⟩, ⟨105, 1, .cells [.bool b_1, .roi .u32 b_2]⟩]) := by kernel_rfl
theorem good_q101 (N_ : Nat) (S_q131 : TS_q131) (S_q52 : TS_q52) (h_binnacleref00_left : GoodF Tryz.prog 183 (F_q131 S_q131)) (h_binnacleref00_Int_put_p0n : GoodF Tryz.prog 113 (F_q52 S_q52)) : GoodF Tryz.prog 146 (F_q101 (G_q101 N_ S_q131 S_q52)) := by
  refine good_fsZ (cx := ⟨Tryz.prog, ofList [(183, (F_q131 S_q131)), (113, (F_q52 S_q52))], isref, N_⟩) (ofList_cons h_binnacleref00_left (ofList_cons h_binnacleref00_Int_put_p0n (ofList_nil _))) shF_q101 (sp_q101 (G_q101 N_ S_q131 S_q52)) (an_q101 N_ S_q131 S_q52) 0 2 (by kernel_rfl) (fun i_ hi_ => by omega) ?_
  intro a k h
  unfold sp_q101 at h
  split at h
  · exact ⟨[_, _], rfl, rfl, (eq_q101 _ _ _ _ _ _ _ _).trans h⟩
  · cases h

def sh_st_binnacleref00_compare_0 : StSh := ⟨[.roi .u32, .roi .u32, .any, .any, .any, .int .i64, .any, .any, .any, .any, .any, .any, .any, .any, .any, .any, .any, .any, .any, .any, .any, .any, .any, .any, .any, .any, .any, .any, .any, .any, .any, .any, .any, .any, .any, .any, .any, .any, .any, .any, .any], []⟩
def sx0_st_binnacleref00_compare_0 : StSh := ⟨[.any, .any, .any, .any, .int .i64, .any, .any, .any, .any, .any, .any, .any, .any, .any, .any, .any, .any, .any, .any, .any, .any, .any, .any, .any, .any, .any, .any, .any, .any, .any, .any, .any, .any, .any, .any, .any, .any, .any, .any, .any, .any], []⟩
def sx1_st_binnacleref00_compare_0 : StSh := ⟨[.any, .any, .any, .any, .any, .any, .any, .any, .any, .any, .any, .any, .any, .any, .any, .any, .any, .any, .any, .any, .any, .any, .any, .any, .any, .any, .any, .any, .any, .any, .any, .any, .any, .any, .any, .any, .any, .any, .any, .any, .any], []⟩
def hk_st_binnacleref00_compare_0 (N_ : Nat) : List Atom → K → Bool := fun a_ κ => match a_ with
  | [.ints a_1, .ints b_1, .int i] => iterG N_ (st_q208 N_ a_1 b_1 (fun r0 => κ.ret (sx0_st_binnacleref00_compare_0.build [.int r0])) (κ.ext 0 (sx1_st_binnacleref00_compare_0.build []))) i
  | _ => false
def an_q67 (N_ : Nat) : Nat → Option Ann := fun b_ => cond (b_ == 0) (some ⟨⟨[0, 1, 5], [], []⟩, [(0, ⟨[], [], []⟩)], some ⟨[4], [], []⟩, some (mkHooks [(sh_st_binnacleref00_compare_0, hk_st_binnacleref00_compare_0 N_)])⟩) (none)
theorem eq_st_binnacleref00_compare_0 (N_ : Nat) (κ : K) (a_1 : List Int) (b_1 : List Int) (i : Int) : iter N_ (fun s k => codeV ⟨Tryz.prog, ofList [], isref, N_⟩ 0 (an_q67 N_) (lp Tryz.prog 181 0).2 (lp Tryz.prog 181 0).1 s (roundK Tryz.prog 0 ((an_q67 N_) (lp Tryz.prog 181 0).1) κ k)) (sh_st_binnacleref00_compare_0.build [.ints a_1, .ints b_1, .int i]) = iterG N_ (st_q208 N_ a_1 b_1 (fun r0 => κ.ret (sx0_st_binnacleref00_compare_0.build [.int r0])) (κ.ext 0 (sx1_st_binnacleref00_compare_0.build []))) i :=
  iter_tr (fun (v_ : Int) => sh_st_binnacleref00_compare_0.build [.ints a_1, .ints b_1, .int v_]) (fun v_ K_ => by kernel_rfl) N_ i
theorem hk1_st_binnacleref00_compare_0 (N_ : Nat) : HookFor ⟨Tryz.prog, ofList [], isref, N_⟩ 0 (an_q67 N_) (lp Tryz.prog 181 0) (sh_st_binnacleref00_compare_0, hk_st_binnacleref00_compare_0 N_) := by
  intro a κ h
  simp only at h
  unfold hk_st_binnacleref00_compare_0 at h
  split at h
  · exact (eq_st_binnacleref00_compare_0 _ _ _ _ _).trans h
  · cases h
theorem ho_binnacleref00_compare_0 (N_ : Nat) : HookOk ⟨Tryz.prog, ofList [], isref, N_⟩ 0 (an_q67 N_) (lp Tryz.prog 181 0) :=
  hooks_ok [(sh_st_binnacleref00_compare_0, hk_st_binnacleref00_compare_0 N_)] (by kernel_rfl) ⟨hk1_st_binnacleref00_compare_0 _, trivial⟩
theorem eq_q67 (N_ : Nat) (a : List Int) (b : List Int) (cont_ : V → List Blk → Bool) : bodyZ ⟨Tryz.prog, ofList [], isref, N_⟩ (an_q67 N_) 181 (shF_q67.args [.ints a, .ints b]) [] cont_ = G_q67 N_ a b (fun r0 => cont_ (.int .i64 r0) []) := by kernel_rfl
theorem good_q67 (N_ : Nat) : GoodF Tryz.prog 181 (F_q67 (G_q67 N_)) := by
  refine good_fsZ (cx := ⟨Tryz.prog, ofList [], isref, N_⟩) (ofList_nil _) shF_q67 (sp_q67 (G_q67 N_)) (an_q67 N_) 1 0 (by kernel_rfl) (fun i_ hi_ => by
    match i_, hi_ with
    | 0, _ => exact ho_binnacleref00_compare_0 _
    | (q + 1), h => omega) ?_
  intro a k h
  unfold sp_q67 at h
  split at h
  · exact ⟨[], rfl, rfl, (eq_q67 _ _ _ _).trans h⟩
  · cases h

def an_q78 (N_ : Nat) (S_q95 : TS_q95) (S_q52 : TS_q52) (S_q67 : TS_q67) (S_q31 : TS_q31) : Nat → Option Ann := fun b_ => none
theorem eq_q78 (N_ : Nat) (S_q95 : TS_q95) (S_q52 : TS_q52) (S_q67 : TS_q67) (S_q31 : TS_q31) (turn : Bool) (b : Bool) (b_1 : Bool) (b_2 : List Int) (b_3 : Bool) (b_4 : List Int) (cont_ : V → List Blk → Bool) : bodyZ ⟨Tryz.prog, ofList [(180, (F_q95 S_q95)), (113, (F_q52 S_q52)), (181, (F_q67 S_q67)), (182, (F_q31 S_q31))], isref, N_⟩ (an_q78 N_ S_q95 S_q52 S_q67 S_q31) 145 (shF_q78.args [.bool turn, .bool b, .bool b_1, .ints b_2, .bool b_3, .ints b_4]) [⟨105, 1, .cells [.bool b, .nil]⟩, ⟨105, 1, .cells [.bool b_1, .roi .u32 b_2]⟩, ⟨105, 1, .cells [.bool b_3, .roi .u32 b_4]⟩] cont_ = G_q78 N_ S_q95 S_q52 S_q67 S_q31 turn b b_1 b_2 b_3 b_4 (fun r0 r1 => cont_ (.ptr 0 0) [⟨105, 1, .cells [.bool r0, .roi .u32 r1]⟩, ⟨105, 1, .cells [.bool b_1, .roi .u32 b_2]⟩, ⟨105, 1, .cells [.bool b_3, .roi .u32 b_4]⟩]) := by kernel_rfl
theorem good_q78 (N_ : Nat) (S_q95 : TS_q95) (S_q52 : TS_q52) (S_q67 : TS_q67) (S_q31 : TS_q31) (h_binnacleref00_plus : GoodF Tryz.prog 180 (F_q95 S_q95)) (h_binnacleref00_Int_put_p0n : GoodF Tryz.prog 113 (F_q52 S_q52)) (h_binnacleref00_compare : GoodF Tryz.prog 181 (F_q67 S_q67)) (h_binnacleref00_minus : GoodF Tryz.prog 182 (F_q31 S_q31)) : GoodF Tryz.prog 145 (F_q78 (G_q78 N_ S_q95 S_q52 S_q67 S_q31)) := by
  refine good_fsZ (cx := ⟨Tryz.prog, ofList [(180, (F_q95 S_q95)), (113, (F_q52 S_q52)), (181, (F_q67 S_q67)), (182, (F_q31 S_q31))], isref, N_⟩) (ofList_cons h_binnacleref00_plus (ofList_cons h_binnacleref00_Int_put_p0n (ofList_cons h_binnacleref00_compare (ofList_cons h_binnacleref00_minus (ofList_nil _))))) shF_q78 (sp_q78 (G_q78 N_ S_q95 S_q52 S_q67 S_q31)) (an_q78 N_ S_q95 S_q52 S_q67 S_q31) 0 3 (by kernel_rfl) (fun i_ hi_ => by omega) ?_
  intro a k h
  unfold sp_q78 at h
  split at h
  · exact ⟨[_, _, _], rfl, rfl, (eq_q78 _ _ _ _ _ _ _ _ _ _ _ _).trans h⟩
  · cases h

def an_q77 (N_ : Nat) (S_q78 : TS_q78) : Nat → Option Ann := fun b_ => none
theorem eq_q77 (N_ : Nat) (S_q78 : TS_q78) (b : Bool) (b_1 : Bool) (b_2 : List Int) (b_3 : Bool) (b_4 : List Int) (cont_ : V → List Blk → Bool) : bodyZ ⟨Tryz.prog, ofList [(145, (F_q78 S_q78))], isref, N_⟩ (an_q77 N_ S_q78) 223 (shF_q77.args [.bool b, .bool b_1, .ints b_2, .bool b_3, .ints b_4]) [⟨105, 1, .cells [.bool b, .nil]⟩, ⟨105, 1, .cells [.bool b_1, .roi .u32 b_2]⟩, ⟨105, 1, .cells [.bool b_3, .roi .u32 b_4]⟩] cont_ = G_q77 N_ S_q78 b b_1 b_2 b_3 b_4 (fun r0 r1 => cont_ (.ptr 0 0) [⟨105, 1, .cells [.bool r0, .roi .u32 r1]⟩, ⟨105, 1, .cells [.bool b_1, .roi .u32 b_2]⟩, ⟨105, 1, .cells [.bool b_3, .roi .u32 b_4]⟩]) := by kernel_rfl
theorem good_q77 (N_ : Nat) (S_q78 : TS_q78) (h_binnacleref00_Int_sum_p0p1p2nrr : GoodF Tryz.prog 145 (F_q78 S_q78)) : GoodF Tryz.prog 223 (F_q77 (G_q77 N_ S_q78)) := by
  refine good_fsZ (cx := ⟨Tryz.prog, ofList [(145, (F_q78 S_q78))], isref, N_⟩) (ofList_cons h_binnacleref00_Int_sum_p0p1p2nrr (ofList_nil _)) shF_q77 (sp_q77 (G_q77 N_ S_q78)) (an_q77 N_ S_q78) 0 3 (by kernel_rfl) (fun i_ hi_ => by omega) ?_
  intro a k h
  unfold sp_q77 at h
  split at h
  · exact ⟨[_, _, _], rfl, rfl, (eq_q77 _ _ _ _ _ _ _ _).trans h⟩
  · cases h

def an_q86 (N_ : Nat) (S_q98 : TS_q98) (S_q52 : TS_q52) : Nat → Option Ann := fun b_ => none
theorem eq_q86 (N_ : Nat) (S_q98 : TS_q98) (S_q52 : TS_q52) (n : Int) (b : Bool) (cont_ : V → List Blk → Bool) : bodyZ ⟨Tryz.prog, ofList [(117, (F_q98 S_q98)), (113, (F_q52 S_q52))], isref, N_⟩ (an_q86 N_ S_q98 S_q52) 175 (shF_q86.args [.int n, .bool b]) [⟨105, 1, .cells [.bool b, .nil]⟩] cont_ = G_q86 N_ S_q98 S_q52 n b (fun r0 r1 => cont_ (.ptr 0 0) [⟨105, 1, .cells [.bool r0, .roi .u32 r1]⟩]) := by kernel_rfl
theorem good_q86 (N_ : Nat) (S_q98 : TS_q98) (S_q52 : TS_q52) (h_binnacleref00_words : GoodF Tryz.prog 117 (F_q98 S_q98)) (h_binnacleref00_Int_put_p0n : GoodF Tryz.prog 113 (F_q52 S_q52)) : GoodF Tryz.prog 175 (F_q86 (G_q86 N_ S_q98 S_q52)) := by
  refine good_fsZ (cx := ⟨Tryz.prog, ofList [(117, (F_q98 S_q98)), (113, (F_q52 S_q52))], isref, N_⟩) (ofList_cons h_binnacleref00_words (ofList_cons h_binnacleref00_Int_put_p0n (ofList_nil _))) shF_q86 (sp_q86 (G_q86 N_ S_q98 S_q52)) (an_q86 N_ S_q98 S_q52) 0 1 (by kernel_rfl) (fun i_ hi_ => by omega) ?_
  intro a k h
  unfold sp_q86 at h
  split at h
  · exact ⟨[_], rfl, rfl, (eq_q86 _ _ _ _ _ _).trans h⟩
  · cases h

def an_q13 (N_ : Nat) (S_q86 : TS_q86) : Nat → Option Ann := fun b_ => none
theorem eq_q13 (N_ : Nat) (S_q86 : TS_q86) (n : Int) (cont_ : V → List Blk → Bool) : bodyZ ⟨Tryz.prog, ofList [(175, (F_q86 S_q86))], isref, N_⟩ (an_q13 N_ S_q86) 137 (shF_q13.args [.int n]) [] cont_ = G_q13 N_ S_q86 n (fun r0 r1 => cont_ (.ptr 0 0) [⟨105, 1, .cells [.bool r0, .roi .u32 r1]⟩]) := by kernel_rfl
theorem good_q13 (N_ : Nat) (S_q86 : TS_q86) (h_binnacleref00_Int_SetInt64_p0n : GoodF Tryz.prog 175 (F_q86 S_q86)) : GoodF Tryz.prog 137 (F_q13 (G_q13 N_ S_q86)) := by
  refine good_fsZ (cx := ⟨Tryz.prog, ofList [(175, (F_q86 S_q86))], isref, N_⟩) (ofList_cons h_binnacleref00_Int_SetInt64_p0n (ofList_nil _)) shF_q13 (sp_q13 (G_q13 N_ S_q86)) (an_q13 N_ S_q86) 0 0 (by kernel_rfl) (fun i_ hi_ => by omega) ?_
  intro a k h
  unfold sp_q13 at h
  split at h
  · exact ⟨[], rfl, rfl, (eq_q13 _ _ _ _).trans h⟩
  · cases h

def an_q103 (N_ : Nat) (S_q67 : TS_q67) : Nat → Option Ann := fun b_ => none
theorem eq_q103 (N_ : Nat) (S_q67 : TS_q67) (b : Bool) (b_1 : List Int) (b_2 : Bool) (b_3 : List Int) (cont_ : V → List Blk → Bool) : bodyZ ⟨Tryz.prog, ofList [(181, (F_q67 S_q67))], isref, N_⟩ (an_q103 N_ S_q67) 224 (shF_q103.args [.bool b, .ints b_1, .bool b_2, .ints b_3]) [⟨105, 1, .cells [.bool b, .roi .u32 b_1]⟩, ⟨105, 1, .cells [.bool b_2, .roi .u32 b_3]⟩] cont_ = G_q103 N_ S_q67 b b_1 b_2 b_3 (fun r0 => cont_ (.int .i64 r0) [⟨105, 1, .cells [.bool b, .roi .u32 b_1]⟩, ⟨105, 1, .cells [.bool b_2, .roi .u32 b_3]⟩]) := by kernel_rfl
theorem good_q103 (N_ : Nat) (S_q67 : TS_q67) (h_binnacleref00_compare : GoodF Tryz.prog 181 (F_q67 S_q67)) : GoodF Tryz.prog 224 (F_q103 (G_q103 N_ S_q67)) := by
  refine good_fsZ (cx := ⟨Tryz.prog, ofList [(181, (F_q67 S_q67))], isref, N_⟩) (ofList_cons h_binnacleref00_compare (ofList_nil _)) shF_q103 (sp_q103 (G_q103 N_ S_q67)) (an_q103 N_ S_q67) 0 2 (by kernel_rfl) (fun i_ hi_ => by omega) ?_
  intro a k h
  unfold sp_q103 at h
  split at h
  · exact ⟨[_, _], rfl, rfl, (eq_q103 _ _ _ _ _ _ _).trans h⟩
  · cases h

def an_q56 (N_ : Nat) (S_q104 : TS_q104) (S_q101 : TS_q101) (S_q77 : TS_q77) (S_q94 : TS_q94) (S_q13 : TS_q13) (S_q103 : TS_q103) : Nat → Option Ann := fun b_ => none
theorem eq_q56 (N_ : Nat) (S_q104 : TS_q104) (S_q101 : TS_q101) (S_q77 : TS_q77) (S_q94 : TS_q94) (S_q13 : TS_q13) (S_q103 : TS_q103) (s : Int) (b : Bool) (b_1 : List Int) (cont_ : V → List Blk → Bool) : bodyV ⟨Tryz.prog, ofList [(211, (F_q104 S_q104)), (146, (F_q101 S_q101)), (223, (F_q77 S_q77)), (63, (F_q94 S_q94)), (137, (F_q13 S_q13)), (224, (F_q103 S_q103))], isref, N_⟩ (an_q56 N_ S_q104 S_q101 S_q77 S_q94 S_q13 S_q103) 209 (shF_q56.args [.int s, .bool b, .ints b_1]) [⟨105, 1, .cells [.bool b, .roi .u32 b_1]⟩] cont_ = G_q56 N_ S_q104 S_q101 S_q77 S_q94 S_q13 S_q103 s b b_1 (fun r0 r3 r4 => cont_ (.tup [.ptr 1 0, .int .i64 r0]) [⟨105, 1, .cells [.bool b, .roi .u32 b_1]⟩, ⟨105, 1, .cells [.bool r3, .roi .u32 r4]⟩]) := by kernel_rfl
theorem good_q56 (N_ : Nat) (S_q104 : TS_q104) (S_q101 : TS_q101) (S_q77 : TS_q77) (S_q94 : TS_q94) (S_q13 : TS_q13) (S_q103 : TS_q103) (h_binnacleref00_Int_Rsh_p0p1nr : GoodF Tryz.prog 211 (F_q104 S_q104)) (h_binnacleref00_Int_Lsh_p0p1nr : GoodF Tryz.prog 146 (F_q101 S_q101)) (h_binnacleref00_Int_Sub_p0p1p2nrr : GoodF Tryz.prog 223 (F_q77 S_q77)) (h_binnacleref00_Int_Sign_p0r : GoodF Tryz.prog 63 (F_q94 S_q94)) (h_binnacleref00_NewInt : GoodF Tryz.prog 137 (F_q13 S_q13)) (h_binnacleref00_Int_Cmp_p0p1rr : GoodF Tryz.prog 224 (F_q103 S_q103)) : GoodF Tryz.prog 209 (F_q56 (G_q56 N_ S_q104 S_q101 S_q77 S_q94 S_q13 S_q103)) := by
  refine good_fs (cx := ⟨Tryz.prog, ofList [(211, (F_q104 S_q104)), (146, (F_q101 S_q101)), (223, (F_q77 S_q77)), (63, (F_q94 S_q94)), (137, (F_q13 S_q13)), (224, (F_q103 S_q103))], isref, N_⟩) (ofList_cons h_binnacleref00_Int_Rsh_p0p1nr (ofList_cons h_binnacleref00_Int_Lsh_p0p1nr (ofList_cons h_binnacleref00_Int_Sub_p0p1p2nrr (ofList_cons h_binnacleref00_Int_Sign_p0r (ofList_cons h_binnacleref00_NewInt (ofList_cons h_binnacleref00_Int_Cmp_p0p1rr (ofList_nil _))))))) shF_q56 (sp_q56 (G_q56 N_ S_q104 S_q101 S_q77 S_q94 S_q13 S_q103)) (an_q56 N_ S_q104 S_q101 S_q77 S_q94 S_q13 S_q103) 0 1 (by kernel_rfl) (fun i_ hi_ => by omega) ?_
  intro a k h
  unfold sp_q56 at h
  split at h
  · exact ⟨[_], rfl, rfl, (eq_q56 _ _ _ _ _ _ _ _ _ _ _).trans h⟩
  · cases h

def an_q124 (N_ : Nat) (S_q31 : TS_q31) : Nat → Option Ann := fun b_ => none
def ls_q202 (ds_ : List V) (ms_ : List (Option Blk)) (i : Int) (b : Bool) (b_1 : List Int) (b_3 : Int) : St := ⟨[.ptr 0 0, (dq ds_ 0), (dq ds_ 1), (dq ds_ 2), (dq ds_ 3), (dq ds_ 4), .int .u32 b_3, (dq ds_ 5), (dq ds_ 6), (dq ds_ 7), (dq ds_ 8), (dq ds_ 9), (dq ds_ 10), (dq ds_ 11), (dq ds_ 12), (dq ds_ 13), (dq ds_ 14), (dq ds_ 15), (dq ds_ 16), (dq ds_ 17), (dq ds_ 18), (dq ds_ 19), (dq ds_ 20), (dq ds_ 21), (dq ds_ 22), (dq ds_ 23), (dq ds_ 24), (dq ds_ 25), (dq ds_ 26), (dq ds_ 27), (dq ds_ 28), (dq ds_ 29), (dq ds_ 30), (dq ds_ 31), (dq ds_ 32), (dq ds_ 33), (dq ds_ 34), (dq ds_ 35), (dq ds_ 36), (dq ds_ 37), (dq ds_ 38)], [some ⟨105, 1, .cells [.bool b, .roi .u32 b_1]⟩]⟩
def ls_q200 (ds_ : List V) (ms_ : List (Option Blk)) (i : Int) (b : Bool) (b_1 : List Int) : St := ⟨[.ptr 0 0, .int .i64 i, (dq ds_ 0), (dq ds_ 1), (dq ds_ 2), .roi .u32 b_1, (dq ds_ 3), (dq ds_ 4), (dq ds_ 5), (dq ds_ 6), (dq ds_ 7), (dq ds_ 8), (dq ds_ 9), (dq ds_ 10), (dq ds_ 11), (dq ds_ 12), (dq ds_ 13), (dq ds_ 14), (dq ds_ 15), (dq ds_ 16), (dq ds_ 17), (dq ds_ 18), (dq ds_ 19), (dq ds_ 20), (dq ds_ 21), (dq ds_ 22), (dq ds_ 23), (dq ds_ 24), (dq ds_ 25), (dq ds_ 26), (dq ds_ 27), (dq ds_ 28), (dq ds_ 29), (dq ds_ 30), (dq ds_ 31), (dq ds_ 32), (dq ds_ 33), (dq ds_ 34), (dq ds_ 35), (dq ds_ 36), (dq ds_ 37)], [some ⟨105, 1, .cells [.bool b, .roi .u32 b_1]⟩]⟩
def ls_q209 (ds_ : List V) (ms_ : List (Option Blk)) (i : Int) (b : Bool) (b_1 : List Int) (b_2 : Int) : St := ⟨[.ptr 0 0, (dq ds_ 0), (dq ds_ 1), (dq ds_ 2), (dq ds_ 3), (dq ds_ 4), .int .u32 b_2, (dq ds_ 5), (dq ds_ 6), (dq ds_ 7), (dq ds_ 8), (dq ds_ 9), (dq ds_ 10), (dq ds_ 11), (dq ds_ 12), (dq ds_ 13), (dq ds_ 14), (dq ds_ 15), (dq ds_ 16), (dq ds_ 17), (dq ds_ 18), (dq ds_ 19), (dq ds_ 20), (dq ds_ 21), (dq ds_ 22), (dq ds_ 23), (dq ds_ 24), (dq ds_ 25), (dq ds_ 26), (dq ds_ 27), (dq ds_ 28), (dq ds_ 29), (dq ds_ 30), (dq ds_ 31), (dq ds_ 32), (dq ds_ 33), (dq ds_ 34), (dq ds_ 35), (dq ds_ 36), (dq ds_ 37), (dq ds_ 38)], [some ⟨105, 1, .cells [.bool b, .roi .u32 b_1]⟩, (ms_.getD 0 none)]⟩
def ls_q201 (ds_ : List V) (ms_ : List (Option Blk)) (i : Int) (b : Bool) (b_1 : List Int) (m : List Int) : St := ⟨[.ptr 0 0, .int .i64 i, (dq ds_ 0), (dq ds_ 1), (dq ds_ 2), .roi .u32 m, (dq ds_ 3), (dq ds_ 4), (dq ds_ 5), (dq ds_ 6), (dq ds_ 7), (dq ds_ 8), (dq ds_ 9), (dq ds_ 10), (dq ds_ 11), (dq ds_ 12), (dq ds_ 13), (dq ds_ 14), (dq ds_ 15), (dq ds_ 16), (dq ds_ 17), (dq ds_ 18), (dq ds_ 19), (dq ds_ 20), (dq ds_ 21), (dq ds_ 22), (dq ds_ 23), (dq ds_ 24), (dq ds_ 25), (dq ds_ 26), (dq ds_ 27), (dq ds_ 28), (dq ds_ 29), (dq ds_ 30), (dq ds_ 31), (dq ds_ 32), (dq ds_ 33), (dq ds_ 34), (dq ds_ 35), (dq ds_ 36), (dq ds_ 37)], [some ⟨105, 1, .cells [.bool b, .roi .u32 b_1]⟩, (ms_.getD 0 none)]⟩
theorem jn_q202 (N_ : Nat) (S_q31 : TS_q31) (ds_ : List V) (ms_ : List (Option Blk)) (i : Int) (b : Bool) (b_1 : List Int) (b_3 : Int) (cont_ : V → List Blk → Bool) : codesV ⟨Tryz.prog, ofList [(182, (F_q31 S_q31))], isref, N_⟩ 1 (an_q124 N_ S_q31) ((cds Tryz.prog 225).drop 7) 0 (ls_q202 ds_ ms_ i b b_1 b_3) (finZ Tryz.prog 225 1 cont_) = J_q202 N_ S_q31 i b b_1 b_3 (fun r0 => cont_ (.int .u64 r0) [⟨105, 1, .cells [.bool b, .roi .u32 b_1]⟩]) := by kernel_rfl
theorem hd_q200 (N_ : Nat) (S_q31 : TS_q31) (ds_ : List V) (ms_ : List (Option Blk)) (i : Int) (b : Bool) (b_1 : List Int) (cont_ : V → List Blk → Bool) (κn_ : St → Bool) : codesV ⟨Tryz.prog, ofList [(182, (F_q31 S_q31))], isref, N_⟩ 1 (an_q124 N_ S_q31) (sg Tryz.prog 225 4 3) 0 (ls_q200 ds_ ms_ i b b_1) { (finZ Tryz.prog 225 1 cont_) with nrm := κn_ } = ((fits .i64 (Int.tdiv i 32)) && (cond (decide ((Int.tdiv i 32) < (((List.length b_1) : Nat) : Int))) ((fits .i64 (Int.tdiv i 32)) && ((inR (Int.tdiv i 32) (List.length b_1)) && ((decide (0 ≤ (IntKind.wrap .u64 (Int.tmod i 32)))) && (κn_ (ls_q202 [.int .i64 i, (dq ds_ 0), (dq ds_ 1), (dq ds_ 2), .roi .u32 b_1, (dq ds_ 4), (dq ds_ 5), (dq ds_ 6), (dq ds_ 7), (dq ds_ 8), (dq ds_ 9), (dq ds_ 10), (dq ds_ 11), (dq ds_ 12), (dq ds_ 13), (dq ds_ 14), .int .i64 i, .int .i64 (Int.tdiv i 32), .roi .u32 b_1, .int .i64 (((List.length b_1) : Nat) : Int), .bool true, .roi .u32 b_1, .int .i64 i, .int .i64 (Int.tdiv i 32), .pi .u32 b_1 (Int.toNat (Int.tdiv i 32)), .int .u32 (List.getD b_1 (Int.toNat (Int.tdiv i 32)) 0), .int .i64 i, .int .i64 (Int.tmod i 32), .int .u64 (IntKind.wrap .u64 (Int.tmod i 32)), .int .u32 (Int.fdiv (List.getD b_1 (Int.toNat (Int.tdiv i 32)) 0) (2 ^ (min (Int.toNat (IntKind.wrap .u64 (Int.tmod i 32))) 32))), .int .u32 (bitsN .and .u32 (Int.fdiv (List.getD b_1 (Int.toNat (Int.tdiv i 32)) 0) (2 ^ (min (Int.toNat (IntKind.wrap .u64 (Int.tmod i 32))) 32))) 1), (dq ds_ 30), (dq ds_ 31), (dq ds_ 32), (dq ds_ 33), (dq ds_ 34), (dq ds_ 35), (dq ds_ 36), (dq ds_ 37)] [] i b b_1 (bitsN .and .u32 (Int.fdiv (List.getD b_1 (Int.toNat (Int.tdiv i 32)) 0) (2 ^ (min (Int.toNat (IntKind.wrap .u64 (Int.tmod i 32))) 32))) 1)))))) (κn_ (ls_q202 [.int .i64 i, (dq ds_ 0), (dq ds_ 1), (dq ds_ 2), .roi .u32 b_1, (dq ds_ 4), (dq ds_ 5), (dq ds_ 6), (dq ds_ 7), (dq ds_ 8), (dq ds_ 9), (dq ds_ 10), (dq ds_ 11), (dq ds_ 12), (dq ds_ 13), (dq ds_ 14), .int .i64 i, .int .i64 (Int.tdiv i 32), .roi .u32 b_1, .int .i64 (((List.length b_1) : Nat) : Int), .bool false, (dq ds_ 20), (dq ds_ 21), (dq ds_ 22), (dq ds_ 23), (dq ds_ 24), (dq ds_ 25), (dq ds_ 26), (dq ds_ 27), (dq ds_ 28), (dq ds_ 29), (dq ds_ 30), (dq ds_ 31), (dq ds_ 32), (dq ds_ 33), (dq ds_ 34), (dq ds_ 35), (dq ds_ 36), (dq ds_ 37)] [] i b b_1 0)))) := by kernel_rfl
theorem jn_q200 (N_ : Nat) (S_q31 : TS_q31) (ds_ : List V) (ms_ : List (Option Blk)) (i : Int) (b : Bool) (b_1 : List Int) (cont_ : V → List Blk → Bool) : codesV ⟨Tryz.prog, ofList [(182, (F_q31 S_q31))], isref, N_⟩ 1 (an_q124 N_ S_q31) ((cds Tryz.prog 225).drop 4) 0 (ls_q200 ds_ ms_ i b b_1) (finZ Tryz.prog 225 1 cont_) = J_q200 N_ S_q31 i b b_1 (fun r0 => cont_ (.int .u64 r0) [⟨105, 1, .cells [.bool b, .roi .u32 b_1]⟩]) := by
  rw [codesV_cut 4 3 7 rfl]
  refine (hd_q200 N_ S_q31 ds_ ms_ i b b_1 cont_ _).trans ?_
  simp only [jn_q202]
  kernel_rfl
theorem jn_q209 (N_ : Nat) (S_q31 : TS_q31) (ds_ : List V) (ms_ : List (Option Blk)) (i : Int) (b : Bool) (b_1 : List Int) (b_2 : Int) (cont_ : V → List Blk → Bool) : codesV ⟨Tryz.prog, ofList [(182, (F_q31 S_q31))], isref, N_⟩ 1 (an_q124 N_ S_q31) ((cds Tryz.prog 225).drop 7) 0 (ls_q209 ds_ ms_ i b b_1 b_2) (finZ Tryz.prog 225 1 cont_) = J_q209 N_ S_q31 i b b_1 b_2 (fun r0 => cont_ (.int .u64 r0) [⟨105, 1, .cells [.bool b, .roi .u32 b_1]⟩]) := by kernel_rfl
theorem hd_q201 (N_ : Nat) (S_q31 : TS_q31) (ds_ : List V) (ms_ : List (Option Blk)) (i : Int) (b : Bool) (b_1 : List Int) (m : List Int) (cont_ : V → List Blk → Bool) (κn_ : St → Bool) : codesV ⟨Tryz.prog, ofList [(182, (F_q31 S_q31))], isref, N_⟩ 1 (an_q124 N_ S_q31) (sg Tryz.prog 225 4 3) 0 (ls_q201 ds_ ms_ i b b_1 m) { (finZ Tryz.prog 225 1 cont_) with nrm := κn_ } = ((fits .i64 (Int.tdiv i 32)) && (cond (decide ((Int.tdiv i 32) < (((List.length m) : Nat) : Int))) ((fits .i64 (Int.tdiv i 32)) && ((inR (Int.tdiv i 32) (List.length m)) && ((decide (0 ≤ (IntKind.wrap .u64 (Int.tmod i 32)))) && (κn_ (ls_q209 [.int .i64 i, (dq ds_ 0), (dq ds_ 1), (dq ds_ 2), .roi .u32 m, (dq ds_ 4), (dq ds_ 5), (dq ds_ 6), (dq ds_ 7), (dq ds_ 8), (dq ds_ 9), (dq ds_ 10), (dq ds_ 11), (dq ds_ 12), (dq ds_ 13), (dq ds_ 14), .int .i64 i, .int .i64 (Int.tdiv i 32), .roi .u32 m, .int .i64 (((List.length m) : Nat) : Int), .bool true, .roi .u32 m, .int .i64 i, .int .i64 (Int.tdiv i 32), .pi .u32 m (Int.toNat (Int.tdiv i 32)), .int .u32 (List.getD m (Int.toNat (Int.tdiv i 32)) 0), .int .i64 i, .int .i64 (Int.tmod i 32), .int .u64 (IntKind.wrap .u64 (Int.tmod i 32)), .int .u32 (Int.fdiv (List.getD m (Int.toNat (Int.tdiv i 32)) 0) (2 ^ (min (Int.toNat (IntKind.wrap .u64 (Int.tmod i 32))) 32))), .int .u32 (bitsN .and .u32 (Int.fdiv (List.getD m (Int.toNat (Int.tdiv i 32)) 0) (2 ^ (min (Int.toNat (IntKind.wrap .u64 (Int.tmod i 32))) 32))) 1), (dq ds_ 30), (dq ds_ 31), (dq ds_ 32), (dq ds_ 33), (dq ds_ 34), (dq ds_ 35), (dq ds_ 36), (dq ds_ 37)] [(ms_.getD 0 none)] i b b_1 (bitsN .and .u32 (Int.fdiv (List.getD m (Int.toNat (Int.tdiv i 32)) 0) (2 ^ (min (Int.toNat (IntKind.wrap .u64 (Int.tmod i 32))) 32))) 1)))))) (κn_ (ls_q209 [.int .i64 i, (dq ds_ 0), (dq ds_ 1), (dq ds_ 2), .roi .u32 m, (dq ds_ 4), (dq ds_ 5), (dq ds_ 6), (dq ds_ 7), (dq ds_ 8), (dq ds_ 9), (dq ds_ 10), (dq ds_ 11), (dq ds_ 12), (dq ds_ 13), (dq ds_ 14), .int .i64 i, .int .i64 (Int.tdiv i 32), .roi .u32 m, .int .i64 (((List.length m) : Nat) : Int), .bool false, (dq ds_ 20), (dq ds_ 21), (dq ds_ 22), (dq ds_ 23), (dq ds_ 24), (dq ds_ 25), (dq ds_ 26), (dq ds_ 27), (dq ds_ 28), (dq ds_ 29), (dq ds_ 30), (dq ds_ 31), (dq ds_ 32), (dq ds_ 33), (dq ds_ 34), (dq ds_ 35), (dq ds_ 36), (dq ds_ 37)] [(ms_.getD 0 none)] i b b_1 0)))) := by kernel_rfl
theorem jn_q201 (N_ : Nat) (S_q31 : TS_q31) (ds_ : List V) (ms_ : List (Option Blk)) (i : Int) (b : Bool) (b_1 : List Int) (m : List Int) (cont_ : V → List Blk → Bool) : codesV ⟨Tryz.prog, ofList [(182, (F_q31 S_q31))], isref, N_⟩ 1 (an_q124 N_ S_q31) ((cds Tryz.prog 225).drop 4) 0 (ls_q201 ds_ ms_ i b b_1 m) (finZ Tryz.prog 225 1 cont_) = J_q201 N_ S_q31 i b b_1 m (fun r0 => cont_ (.int .u64 r0) [⟨105, 1, .cells [.bool b, .roi .u32 b_1]⟩]) := by
  rw [codesV_cut 4 3 7 rfl]
  refine (hd_q201 N_ S_q31 ds_ ms_ i b b_1 m cont_ _).trans ?_
  simp only [jn_q209]
  kernel_rfl
theorem hd_zi_Bit_p0r_w (N_ : Nat) (S_q31 : TS_q31) (i : Int) (b : Bool) (b_1 : List Int) (cont_ : V → List Blk → Bool) (κn_ : St → Bool) : codesV ⟨Tryz.prog, ofList [(182, (F_q31 S_q31))], isref, N_⟩ 1 (an_q124 N_ S_q31) (sg Tryz.prog 225 0 4) 0 (st0 Tryz.prog 225 (shF_q124.args [.int i, .bool b, .ints b_1]) [⟨105, 1, .cells [.bool b, .roi .u32 b_1]⟩]) { (finZ Tryz.prog 225 1 cont_) with nrm := κn_ } = (cond b (S_q31 b_1 [1] (fun (nsr : List Int) => (κn_ (ls_q201 [.any, .any, .int .u64 0, .any, .ptr 0 0, .ptr 0 0, .ptr 0 1, .roi .u32 b_1, .ptr 0 0, .ptr 0 0, .ptr 0 0, .bool true, .roi .u32 b_1, .slw 1, .roi .u32 nsr, .any, .any, .any, .any, .any, .any, .any, .any, .any, .any, .any, .any, .any, .any, .any, .any, .any, .any, .any, .any, .any, .any, .any] [none] i b b_1 nsr)))) (κn_ (ls_q200 [.any, .any, .int .u64 0, .any, .ptr 0 0, .ptr 0 0, .ptr 0 1, .roi .u32 b_1, .ptr 0 0, .ptr 0 0, .ptr 0 0, .bool false, .any, .any, .any, .any, .any, .any, .any, .any, .any, .any, .any, .any, .any, .any, .any, .any, .any, .any, .any, .any, .any, .any, .any, .any, .any, .any] [] i b b_1))) := by kernel_rfl
theorem jn_zi_Bit_p0r_w (N_ : Nat) (S_q31 : TS_q31) (i : Int) (b : Bool) (b_1 : List Int) (cont_ : V → List Blk → Bool) : codesV ⟨Tryz.prog, ofList [(182, (F_q31 S_q31))], isref, N_⟩ 1 (an_q124 N_ S_q31) ((cds Tryz.prog 225).drop 0) 0 (st0 Tryz.prog 225 (shF_q124.args [.int i, .bool b, .ints b_1]) [⟨105, 1, .cells [.bool b, .roi .u32 b_1]⟩]) (finZ Tryz.prog 225 1 cont_) = G_q124 N_ S_q31 i b b_1 (fun r0 => cont_ (.int .u64 r0) [⟨105, 1, .cells [.bool b, .roi .u32 b_1]⟩]) := by
  rw [codesV_cut 0 4 4 rfl]
  refine (hd_zi_Bit_p0r_w N_ S_q31 i b b_1 cont_ _).trans ?_
  simp only [jn_q201, jn_q200]
  kernel_rfl
theorem eq_q124 (N_ : Nat) (S_q31 : TS_q31) (i : Int) (b : Bool) (b_1 : List Int) (cont_ : V → List Blk → Bool) : bodyZ ⟨Tryz.prog, ofList [(182, (F_q31 S_q31))], isref, N_⟩ (an_q124 N_ S_q31) 225 (shF_q124.args [.int i, .bool b, .ints b_1]) [⟨105, 1, .cells [.bool b, .roi .u32 b_1]⟩] cont_ = G_q124 N_ S_q31 i b b_1 (fun r0 => cont_ (.int .u64 r0) [⟨105, 1, .cells [.bool b, .roi .u32 b_1]⟩]) :=
  (bodyZ_codes (by kernel_rfl)).trans (jn_zi_Bit_p0r_w N_ S_q31 i b b_1 cont_)
theorem good_q124 (N_ : Nat) (S_q31 : TS_q31) (h_binnacleref00_minus : GoodF Tryz.prog 182 (F_q31 S_q31)) : GoodF Tryz.prog 225 (F_q124 (G_q124 N_ S_q31)) := by
  refine good_fsZ (cx := ⟨Tryz.prog, ofList [(182, (F_q31 S_q31))], isref, N_⟩) (ofList_cons h_binnacleref00_minus (ofList_nil _)) shF_q124 (sp_q124 (G_q124 N_ S_q31)) (an_q124 N_ S_q31) 0 1 (by kernel_rfl) (fun i_ hi_ => by omega) ?_
  intro a k h
  unfold sp_q124 at h
  split at h
  · exact ⟨[_], rfl, rfl, (eq_q124 _ _ _ _ _ _).trans h⟩
  · cases h

def an_q19 (N_ : Nat) (S_q124 : TS_q124) : Nat → Option Ann := fun b_ => none
theorem eq_q19 (N_ : Nat) (S_q124 : TS_q124) (neg : Bool) (c : Int) (b : Bool) (b_1 : List Int) (cont_ : V → List Blk → Bool) : bodyV ⟨Tryz.prog, ofList [(225, (F_q124 S_q124))], isref, N_⟩ (an_q19 N_ S_q124) 210 (shF_q19.args [.bool neg, .int c, .bool b, .ints b_1]) [⟨105, 1, .cells [.bool b, .roi .u32 b_1]⟩] cont_ = G_q19 N_ S_q124 neg c b b_1 (fun r0 => cont_ (.bool r0) [⟨105, 1, .cells [.bool b, .roi .u32 b_1]⟩]) := by kernel_rfl
theorem good_q19 (N_ : Nat) (S_q124 : TS_q124) (h_binnacleref00_Int_Bit_p0r : GoodF Tryz.prog 225 (F_q124 S_q124)) : GoodF Tryz.prog 210 (F_q19 (G_q19 N_ S_q124)) := by
  refine good_fs (cx := ⟨Tryz.prog, ofList [(225, (F_q124 S_q124))], isref, N_⟩) (ofList_cons h_binnacleref00_Int_Bit_p0r (ofList_nil _)) shF_q19 (sp_q19 (G_q19 N_ S_q124)) (an_q19 N_ S_q124) 0 1 (by kernel_rfl) (fun i_ hi_ => by omega) ?_
  intro a k h
  unfold sp_q19 at h
  split at h
  · exact ⟨[_], rfl, rfl, (eq_q19 _ _ _ _ _ _ _).trans h⟩
  · cases h

def an_q84 (N_ : Nat) (S_q95 : TS_q95) (S_q64 : TS_q64) (S_q67 : TS_q67) (S_q31 : TS_q31) : Nat → Option Ann := fun b_ => none
theorem eq_q84 (N_ : Nat) (S_q95 : TS_q95) (S_q64 : TS_q64) (S_q67 : TS_q67) (S_q31 : TS_q31) (turn : Bool) (b : Bool) (b_1 : List Int) (b_2 : Bool) (b_3 : List Int) (cont_ : V → List Blk → Bool) : bodyZ ⟨Tryz.prog, ofList [(180, (F_q95 S_q95)), (113, (F_q64 S_q64)), (181, (F_q67 S_q67)), (182, (F_q31 S_q31))], isref, N_⟩ (an_q84 N_ S_q95 S_q64 S_q67 S_q31) 145 (shF_q84.args [.bool turn, .bool b, .ints b_1, .bool b_2, .ints b_3]) [⟨105, 1, .cells [.bool b, .roi .u32 b_1]⟩, ⟨105, 1, .cells [.bool b_2, .roi .u32 b_3]⟩] cont_ = G_q84 N_ S_q95 S_q64 S_q67 S_q31 turn b b_1 b_2 b_3 (fun r0 r1 => cont_ (.ptr 0 0) [⟨105, 1, .cells [.bool r0, .roi .u32 r1]⟩, ⟨105, 1, .cells [.bool b_2, .roi .u32 b_3]⟩]) := by kernel_rfl
theorem good_q84 (N_ : Nat) (S_q95 : TS_q95) (S_q64 : TS_q64) (S_q67 : TS_q67) (S_q31 : TS_q31) (h_binnacleref00_plus : GoodF Tryz.prog 180 (F_q95 S_q95)) (h_binnacleref00_Int_put_p0r : GoodF Tryz.prog 113 (F_q64 S_q64)) (h_binnacleref00_compare : GoodF Tryz.prog 181 (F_q67 S_q67)) (h_binnacleref00_minus : GoodF Tryz.prog 182 (F_q31 S_q31)) : GoodF Tryz.prog 145 (F_q84 (G_q84 N_ S_q95 S_q64 S_q67 S_q31)) := by
  refine good_fsZ (cx := ⟨Tryz.prog, ofList [(180, (F_q95 S_q95)), (113, (F_q64 S_q64)), (181, (F_q67 S_q67)), (182, (F_q31 S_q31))], isref, N_⟩) (ofList_cons h_binnacleref00_plus (ofList_cons h_binnacleref00_Int_put_p0r (ofList_cons h_binnacleref00_compare (ofList_cons h_binnacleref00_minus (ofList_nil _))))) shF_q84 (sp_q84 (G_q84 N_ S_q95 S_q64 S_q67 S_q31)) (an_q84 N_ S_q95 S_q64 S_q67 S_q31) 0 2 (by kernel_rfl) (fun i_ hi_ => by omega) ?_
  intro a k h
  unfold sp_q84 at h
  split at h
  · exact ⟨[_, _], rfl, rfl, (eq_q84 _ _ _ _ _ _ _ _ _ _ _).trans h⟩
  · cases h

def an_q2 (N_ : Nat) (S_q84 : TS_q84) : Nat → Option Ann := fun b_ => none
theorem eq_q2 (N_ : Nat) (S_q84 : TS_q84) (b : Bool) (b_1 : List Int) (b_2 : Bool) (b_3 : List Int) (cont_ : V → List Blk → Bool) : bodyZ ⟨Tryz.prog, ofList [(145, (F_q84 S_q84))], isref, N_⟩ (an_q2 N_ S_q84) 111 (shF_q2.args [.bool b, .ints b_1, .bool b_2, .ints b_3]) [⟨105, 1, .cells [.bool b, .roi .u32 b_1]⟩, ⟨105, 1, .cells [.bool b_2, .roi .u32 b_3]⟩] cont_ = G_q2 N_ S_q84 b b_1 b_2 b_3 (fun r0 r1 => cont_ (.ptr 0 0) [⟨105, 1, .cells [.bool r0, .roi .u32 r1]⟩, ⟨105, 1, .cells [.bool b_2, .roi .u32 b_3]⟩]) := by kernel_rfl
theorem good_q2 (N_ : Nat) (S_q84 : TS_q84) (h_binnacleref00_Int_sum_p0p0p1rr : GoodF Tryz.prog 145 (F_q84 S_q84)) : GoodF Tryz.prog 111 (F_q2 (G_q2 N_ S_q84)) := by
  refine good_fsZ (cx := ⟨Tryz.prog, ofList [(145, (F_q84 S_q84))], isref, N_⟩) (ofList_cons h_binnacleref00_Int_sum_p0p0p1rr (ofList_nil _)) shF_q2 (sp_q2 (G_q2 N_ S_q84)) (an_q2 N_ S_q84) 0 2 (by kernel_rfl) (fun i_ hi_ => by omega) ?_
  intro a k h
  unfold sp_q2 at h
  split at h
  · exact ⟨[_, _], rfl, rfl, (eq_q2 _ _ _ _ _ _ _).trans h⟩
  · cases h

def an_q9 (N_ : Nat) (S_q115 : TS_q115) (S_q64 : TS_q64) (S_q31 : TS_q31) (S_q95 : TS_q95) : Nat → Option Ann := fun b_ => none
theorem eq_q9 (N_ : Nat) (S_q115 : TS_q115) (S_q64 : TS_q64) (S_q31 : TS_q31) (S_q95 : TS_q95) (n : Int) (b : Bool) (b_1 : List Int) (cont_ : V → List Blk → Bool) : bodyZ ⟨Tryz.prog, ofList [(226, (F_q115 S_q115)), (113, (F_q64 S_q64)), (182, (F_q31 S_q31)), (180, (F_q95 S_q95))], isref, N_⟩ (an_q9 N_ S_q115 S_q64 S_q31 S_q95) 211 (shF_q9.args [.int n, .bool b, .ints b_1]) [⟨105, 1, .cells [.bool b, .roi .u32 b_1]⟩] cont_ = G_q9 N_ S_q115 S_q64 S_q31 S_q95 n b b_1 (fun r0 r1 => cont_ (.ptr 0 0) [⟨105, 1, .cells [.bool r0, .roi .u32 r1]⟩]) := by kernel_rfl
theorem good_q9 (N_ : Nat) (S_q115 : TS_q115) (S_q64 : TS_q64) (S_q31 : TS_q31) (S_q95 : TS_q95) (h_binnacleref00_right : GoodF Tryz.prog 226 (F_q115 S_q115)) (h_binnacleref00_Int_put_p0r : GoodF Tryz.prog 113 (F_q64 S_q64)) (h_binnacleref00_minus : GoodF Tryz.prog 182 (F_q31 S_q31)) (h_binnacleref00_plus : GoodF Tryz.prog 180 (F_q95 S_q95)) : GoodF Tryz.prog 211 (F_q9 (G_q9 N_ S_q115 S_q64 S_q31 S_q95)) := by
  refine good_fsZ (cx := ⟨Tryz.prog, ofList [(226, (F_q115 S_q115)), (113, (F_q64 S_q64)), (182, (F_q31 S_q31)), (180, (F_q95 S_q95))], isref, N_⟩) (ofList_cons h_binnacleref00_right (ofList_cons h_binnacleref00_Int_put_p0r (ofList_cons h_binnacleref00_minus (ofList_cons h_binnacleref00_plus (ofList_nil _))))) shF_q9 (sp_q9 (G_q9 N_ S_q115 S_q64 S_q31 S_q95)) (an_q9 N_ S_q115 S_q64 S_q31 S_q95) 0 1 (by kernel_rfl) (fun i_ hi_ => by omega) ?_
  intro a k h
  unfold sp_q9 at h
  split at h
  · exact ⟨[_], rfl, rfl, (eq_q9 _ _ _ _ _ _ _ _ _).trans h⟩
  · cases h

def an_q55 (N_ : Nat) (S_q97 : TS_q97) : Nat → Option Ann := fun b_ => none
theorem eq_q55 (N_ : Nat) (S_q97 : TS_q97) (neg : Bool) (cont_ : V → List Blk → Bool) : bodyV ⟨Tryz.prog, ofList [(185, (F_q97 S_q97))], isref, N_⟩ (an_q55 N_ S_q97) 212 (shF_q55.args [.bool neg]) [] cont_ = G_q55 N_ S_q97 neg (fun r0 => cont_ (.int .u64 r0) []) := by kernel_rfl
theorem good_q55 (N_ : Nat) (S_q97 : TS_q97) (h_v_binnacleref02_Fmt_Infinity : GoodF Tryz.prog 185 (F_q97 S_q97)) : GoodF Tryz.prog 212 (F_q55 (G_q55 N_ S_q97)) := by
  refine good_fs (cx := ⟨Tryz.prog, ofList [(185, (F_q97 S_q97))], isref, N_⟩) (ofList_cons h_v_binnacleref02_Fmt_Infinity (ofList_nil _)) shF_q55 (sp_q55 (G_q55 N_ S_q97)) (an_q55 N_ S_q97) 0 0 (by kernel_rfl) (fun i_ hi_ => by omega) ?_
  intro a k h
  unfold sp_q55 at h
  split at h
  · exact ⟨[], rfl, rfl, (eq_q55 _ _ _ _).trans h⟩
  · cases h

def an_q6 (N_ : Nat) : Nat → Option Ann := fun b_ => none
def ls_q196 (ds_ : List V) (ms_ : List (Option Blk)) (b : Bool) (b_1 : List Int) (u : Int) : St := ⟨[.ptr 0 0, (dq ds_ 0), (dq ds_ 1), .int .u64 u, (dq ds_ 2), (dq ds_ 3), (dq ds_ 4), (dq ds_ 5), (dq ds_ 6), (dq ds_ 7), (dq ds_ 8), (dq ds_ 9), (dq ds_ 10), (dq ds_ 11), (dq ds_ 12), (dq ds_ 13), (dq ds_ 14), (dq ds_ 15), (dq ds_ 16), (dq ds_ 17), (dq ds_ 18), (dq ds_ 19), (dq ds_ 20), (dq ds_ 21), (dq ds_ 22), (dq ds_ 23), (dq ds_ 24), (dq ds_ 25), (dq ds_ 26), (dq ds_ 27), (dq ds_ 28), (dq ds_ 29), (dq ds_ 30), (dq ds_ 31)], [some ⟨105, 1, .cells [.bool b, .roi .u32 b_1]⟩]⟩
theorem jn_q196 (N_ : Nat) (ds_ : List V) (ms_ : List (Option Blk)) (b : Bool) (b_1 : List Int) (u : Int) (cont_ : V → List Blk → Bool) : codesV ⟨Tryz.prog, ofList [], isref, N_⟩ 1 (an_q6 N_) ((cds Tryz.prog 213).drop 4) 0 (ls_q196 ds_ ms_ b b_1 u) (finZ Tryz.prog 213 1 cont_) = J_q196 N_ b b_1 u (fun r0 => cont_ (.int .u64 r0) [⟨105, 1, .cells [.bool b, .roi .u32 b_1]⟩]) := by kernel_rfl
theorem hd_zi_Uint64_p0r_w (N_ : Nat) (b : Bool) (b_1 : List Int) (cont_ : V → List Blk → Bool) (κn_ : St → Bool) : codesV ⟨Tryz.prog, ofList [], isref, N_⟩ 1 (an_q6 N_) (sg Tryz.prog 213 0 4) 0 (st0 Tryz.prog 213 (shF_q6.args [.bool b, .ints b_1]) [⟨105, 1, .cells [.bool b, .roi .u32 b_1]⟩]) { (finZ Tryz.prog 213 1 cont_) with nrm := κn_ } = (cond (decide ((((List.length b_1) : Nat) : Int) > 0)) ((inR 0 (List.length b_1)) && (κn_ (ls_q196 [.any, .int .u64 0, .ptr 0 0, .ptr 0 0, .ptr 0 1, .roi .u32 b_1, .int .i64 (((List.length b_1) : Nat) : Int), .bool true, .ptr 0 0, .ptr 0 0, .ptr 0 1, .roi .u32 b_1, .pi .u32 b_1 0, .int .u32 (List.getD b_1 0 0), .int .u64 (IntKind.wrap .u64 (List.getD b_1 0 0)), .any, .any, .any, .any, .any, .any, .any, .any, .any, .any, .any, .any, .any, .any, .any, .any, .any] [] b b_1 (IntKind.wrap .u64 (List.getD b_1 0 0))))) (κn_ (ls_q196 [.any, .int .u64 0, .ptr 0 0, .ptr 0 0, .ptr 0 1, .roi .u32 b_1, .int .i64 (((List.length b_1) : Nat) : Int), .bool false, .any, .any, .any, .any, .any, .any, .any, .any, .any, .any, .any, .any, .any, .any, .any, .any, .any, .any, .any, .any, .any, .any, .any, .any] [] b b_1 0))) := by kernel_rfl
theorem jn_zi_Uint64_p0r_w (N_ : Nat) (b : Bool) (b_1 : List Int) (cont_ : V → List Blk → Bool) : codesV ⟨Tryz.prog, ofList [], isref, N_⟩ 1 (an_q6 N_) ((cds Tryz.prog 213).drop 0) 0 (st0 Tryz.prog 213 (shF_q6.args [.bool b, .ints b_1]) [⟨105, 1, .cells [.bool b, .roi .u32 b_1]⟩]) (finZ Tryz.prog 213 1 cont_) = G_q6 N_ b b_1 (fun r0 => cont_ (.int .u64 r0) [⟨105, 1, .cells [.bool b, .roi .u32 b_1]⟩]) := by
  rw [codesV_cut 0 4 4 rfl]
  refine (hd_zi_Uint64_p0r_w N_ b b_1 cont_ _).trans ?_
  simp only [jn_q196]
  kernel_rfl
theorem eq_q6 (N_ : Nat) (b : Bool) (b_1 : List Int) (cont_ : V → List Blk → Bool) : bodyZ ⟨Tryz.prog, ofList [], isref, N_⟩ (an_q6 N_) 213 (shF_q6.args [.bool b, .ints b_1]) [⟨105, 1, .cells [.bool b, .roi .u32 b_1]⟩] cont_ = G_q6 N_ b b_1 (fun r0 => cont_ (.int .u64 r0) [⟨105, 1, .cells [.bool b, .roi .u32 b_1]⟩]) :=
  (bodyZ_codes (by kernel_rfl)).trans (jn_zi_Uint64_p0r_w N_ b b_1 cont_)
theorem good_q6 (N_ : Nat) : GoodF Tryz.prog 213 (F_q6 (G_q6 N_)) := by
  refine good_fsZ (cx := ⟨Tryz.prog, ofList [], isref, N_⟩) (ofList_nil _) shF_q6 (sp_q6 (G_q6 N_)) (an_q6 N_) 0 1 (by kernel_rfl) (fun i_ hi_ => by omega) ?_
  intro a k h
  unfold sp_q6 at h
  split at h
  · exact ⟨[_], rfl, rfl, (eq_q6 _ _ _ _).trans h⟩
  · cases h

end Go.Proofs.YtccocdgimamdhaaGreatDoor
