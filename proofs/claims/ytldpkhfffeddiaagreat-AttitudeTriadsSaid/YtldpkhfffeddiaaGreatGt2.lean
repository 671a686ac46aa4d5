/-
  THE TIES: each printed meaning is what the program does (written by program).
  Conditions: none.
-/
import Derived.Test.YtldpkhfffeddiaaGreatGs
namespace Go.Proofs.YtldpkhfffeddiaaGreat
open Go Go.Mach Go.Proofs
set_option linter.unusedVariables false
set_option maxRecDepth 50000

def sh_st_binnacleref00_plus_0 : StSh := ⟨[.roi .u32, .roi .u32, .any, .any, .any, .any, .slw 0, .int .u64, .int .i64, .any, .any, .any, .any, .any, .any, .any, .any, .any, .any, .any, .any, .any, .any, .any, .any, .any, .any, .any, .any, .any, .any, .any, .any, .any, .any, .any, .any, .any, .any, .any, .any, .any, .any, .any, .any, .any, .any, .any, .any, .any, .any, .any, .any, .any, .any, .any, .any, .any, .any, .any, .any], [some (260, 1, .ints .u32)]⟩
def sx0_st_binnacleref00_plus_0 : StSh := ⟨[.roi .u32, .any, .any, .any, .any, .any, .slw 0, .int .u64, .any, .any, .any, .any, .any, .any, .any, .any, .any, .any, .any, .any, .any, .any, .any, .any, .any, .any, .any, .any, .any, .any, .any, .any, .any, .any, .any, .any, .any, .any, .any, .any, .any, .any, .any, .any, .any, .any, .any, .any, .any, .any, .any, .any, .any, .any, .any, .any, .any, .any, .any, .any, .any], [some (260, 1, .ints .u32)]⟩
def hk_st_binnacleref00_plus_0 (N_ : Nat) (S_q8 : TS_q8) : List Atom → K → Bool := fun a_ κ => match a_ with
  | [.ints a_1, .ints b_1, .int carry, .int i, .ints out] => iterG N_ (st_z00_plus_0 N_ S_q8 a_1 b_1 (fun r1 r2 => κ.ext 0 (sx0_st_binnacleref00_plus_0.build [.ints a_1, .int r1, .ints r2]))) (carry, i, out)
  | _ => false
def an_q45 (N_ : Nat) (S_q8 : TS_q8) : Nat → Option Ann := fun b_ => cond (b_ == 0) (some ⟨⟨[0, 1, 6, 7, 8], []⟩, [(0, ⟨[0, 6, 7], []⟩)], some ⟨[4], []⟩, some (mkHooks [(sh_st_binnacleref00_plus_0, hk_st_binnacleref00_plus_0 N_ S_q8)])⟩) (none)
theorem eq_st_binnacleref00_plus_0 (N_ : Nat) (S_q8 : TS_q8) (κ : K) (a_1 : List Int) (b_1 : List Int) (carry : Int) (i : Int) (out : List Int) : iter N_ (fun s k => codeV ⟨Tryz.prog, ofList [(226, (F_q8 S_q8))], isref, N_⟩ 0 (an_q45 N_ S_q8) (lp Tryz.prog 236 0).2 (lp Tryz.prog 236 0).1 s (roundK Tryz.prog 0 ((an_q45 N_ S_q8) (lp Tryz.prog 236 0).1) κ k)) (sh_st_binnacleref00_plus_0.build [.ints a_1, .ints b_1, .int carry, .int i, .ints out]) = iterG N_ (st_z00_plus_0 N_ S_q8 a_1 b_1 (fun r1 r2 => κ.ext 0 (sx0_st_binnacleref00_plus_0.build [.ints a_1, .int r1, .ints r2]))) (carry, i, out) :=
  iter_tr (fun (v_ : Int × Int × List Int) => sh_st_binnacleref00_plus_0.build [.ints a_1, .ints b_1, .int v_.1, .int v_.2.1, .ints v_.2.2]) (fun v_ K_ => by obtain ⟨carry, i, out⟩ := v_; kernel_rfl) N_ (carry, i, out)
theorem hk1_st_binnacleref00_plus_0 (N_ : Nat) (S_q8 : TS_q8) : HookFor ⟨Tryz.prog, ofList [(226, (F_q8 S_q8))], isref, N_⟩ 0 (an_q45 N_ S_q8) (lp Tryz.prog 236 0) (sh_st_binnacleref00_plus_0, hk_st_binnacleref00_plus_0 N_ S_q8) := by
  intro a κ h
  simp only at h
  unfold hk_st_binnacleref00_plus_0 at h
  split at h
  · exact (eq_st_binnacleref00_plus_0 _ _ _ _ _ _ _ _).trans h
  · cases h
theorem ho_binnacleref00_plus_0 (N_ : Nat) (S_q8 : TS_q8) : HookOk ⟨Tryz.prog, ofList [(226, (F_q8 S_q8))], isref, N_⟩ 0 (an_q45 N_ S_q8) (lp Tryz.prog 236 0) :=
  hooks_ok [(sh_st_binnacleref00_plus_0, hk_st_binnacleref00_plus_0 N_ S_q8)] (by kernel_rfl) ⟨hk1_st_binnacleref00_plus_0 _ _, trivial⟩
theorem eq_q45 (N_ : Nat) (S_q8 : TS_q8) (a : List Int) (b : List Int) (cont_ : V → List Blk → Bool) : bodyZ ⟨Tryz.prog, ofList [(226, (F_q8 S_q8))], isref, N_⟩ (an_q45 N_ S_q8) 236 (shF_q45.args [.ints a, .ints b]) [] cont_ = G_q45 N_ S_q8 a b (fun r0 => cont_ (.roi .u32 r0) []) := by kernel_rfl
theorem good_q45 (N_ : Nat) (S_q8 : TS_q8) (h_binnacleref00_cut_w : GoodF Tryz.prog 226 (F_q8 S_q8)) : GoodF Tryz.prog 236 (F_q45 (G_q45 N_ S_q8)) := by
  refine good_fsZ (cx := ⟨Tryz.prog, ofList [(226, (F_q8 S_q8))], isref, N_⟩) (ofList_cons h_binnacleref00_cut_w (ofList_nil _)) shF_q45 (sp_q45 (G_q45 N_ S_q8)) (an_q45 N_ S_q8) 1 0 (by kernel_rfl) (fun i_ hi_ => by
    match i_, hi_ with
    | 0, _ => exact ho_binnacleref00_plus_0 _ _
    | (q + 1), h => omega) ?_
  intro a k h
  unfold sp_q45 at h
  split at h
  · exact ⟨[], rfl, rfl, (eq_q45 _ _ _ _ _).trans h⟩
  · cases h

def an_q56 (N_ : Nat) (S_q66 : TS_q66) (S_q13 : TS_q13) (S_q10 : TS_q10) (S_q45 : TS_q45) : Nat → Option Ann := fun b_ => none
theorem eq_q56 (N_ : Nat) (S_q66 : TS_q66) (S_q13 : TS_q13) (S_q10 : TS_q10) (S_q45 : TS_q45) (n : Int) (b : Bool) (b_1 : Bool) (b_2 : List Int) (cont_ : V → List Blk → Bool) : bodyZ ⟨Tryz.prog, ofList [(234, (F_q66 S_q66)), (212, (F_q13 S_q13)), (235, (F_q10 S_q10)), (236, (F_q45 S_q45))], isref, N_⟩ (an_q56 N_ S_q66 S_q13 S_q10 S_q45) 223 (shF_q56.args [.int n, .bool b, .bool b_1, .ints b_2]) [⟨243, 1, .cells [.bool b, .nil]⟩, ⟨243, 1, .cells [.bool b_1, .roi .u32 b_2]⟩] cont_ = G_q56 N_ S_q66 S_q13 S_q10 S_q45 n b b_1 b_2 (fun r0 r1 => cont_ (.ptr 0 0) [⟨243, 1, .cells [.bool r0, .roi .u32 r1]⟩, ⟨243, 1, .cells [.bool b_1, .roi .u32 b_2]⟩]) := by kernel_rfl
theorem good_q56 (N_ : Nat) (S_q66 : TS_q66) (S_q13 : TS_q13) (S_q10 : TS_q10) (S_q45 : TS_q45) (h_binnacleref00_right : GoodF Tryz.prog 234 (F_q66 S_q66)) (h_binnacleref00_Int_put_p0n : GoodF Tryz.prog 212 (F_q13 S_q13)) (h_binnacleref00_minus : GoodF Tryz.prog 235 (F_q10 S_q10)) (h_binnacleref00_plus : GoodF Tryz.prog 236 (F_q45 S_q45)) : GoodF Tryz.prog 223 (F_q56 (G_q56 N_ S_q66 S_q13 S_q10 S_q45)) := by
  refine good_fsZ (cx := ⟨Tryz.prog, ofList [(234, (F_q66 S_q66)), (212, (F_q13 S_q13)), (235, (F_q10 S_q10)), (236, (F_q45 S_q45))], isref, N_⟩) (ofList_cons h_binnacleref00_right (ofList_cons h_binnacleref00_Int_put_p0n (ofList_cons h_binnacleref00_minus (ofList_cons h_binnacleref00_plus (ofList_nil _))))) shF_q56 (sp_q56 (G_q56 N_ S_q66 S_q13 S_q10 S_q45)) (an_q56 N_ S_q66 S_q13 S_q10 S_q45) 0 2 (by kernel_rfl) (fun i_ hi_ => by omega) ?_
  intro a k h
  unfold sp_q56 at h
  split at h
  · exact ⟨[_, _], rfl, rfl, (eq_q56 _ _ _ _ _ _ _ _ _ _).trans h⟩
  · cases h

def an_q54 (N_ : Nat) (S_q79 : TS_q79) (S_q13 : TS_q13) : Nat → Option Ann := fun b_ => none
theorem eq_q54 (N_ : Nat) (S_q79 : TS_q79) (S_q13 : TS_q13) (n : Int) (b : Bool) (b_1 : Bool) (b_2 : List Int) (cont_ : V → List Blk → Bool) : bodyZ ⟨Tryz.prog, ofList [(228, (F_q79 S_q79)), (212, (F_q13 S_q13))], isref, N_⟩ (an_q54 N_ S_q79 S_q13) 218 (shF_q54.args [.int n, .bool b, .bool b_1, .ints b_2]) [⟨243, 1, .cells [.bool b, .nil]⟩, ⟨243, 1, .cells [.bool b_1, .roi .u32 b_2]⟩] cont_ = G_q54 N_ S_q79 S_q13 n b b_1 b_2 (fun r0 r1 => cont_ (.ptr 0 0) [⟨243, 1, .cells [.bool r0, .roi .u32 r1]⟩, ⟨243, 1, .cells [.bool b_1, .roi .u32 b_2]⟩]) := by kernel_rfl
theorem good_q54 (N_ : Nat) (S_q79 : TS_q79) (S_q13 : TS_q13) (h_binnacleref00_left : GoodF Tryz.prog 228 (F_q79 S_q79)) (h_binnacleref00_Int_put_p0n : GoodF Tryz.prog 212 (F_q13 S_q13)) : GoodF Tryz.prog 218 (F_q54 (G_q54 N_ S_q79 S_q13)) := by
  refine good_fsZ (cx := ⟨Tryz.prog, ofList [(228, (F_q79 S_q79)), (212, (F_q13 S_q13))], isref, N_⟩) (ofList_cons h_binnacleref00_left (ofList_cons h_binnacleref00_Int_put_p0n (ofList_nil _))) shF_q54 (sp_q54 (G_q54 N_ S_q79 S_q13)) (an_q54 N_ S_q79 S_q13) 0 2 (by kernel_rfl) (fun i_ hi_ => by omega) ?_
  intro a k h
  unfold sp_q54 at h
  split at h
  · exact ⟨[_, _], rfl, rfl, (eq_q54 _ _ _ _ _ _ _ _).trans h⟩
  · cases h

def sh_st_binnacleref00_compare_0 : StSh := ⟨[.roi .u32, .roi .u32, .any, .any, .any, .int .i64, .any, .any, .any, .any, .any, .any, .any, .any, .any, .any, .any, .any, .any, .any, .any, .any, .any, .any, .any, .any, .any, .any, .any, .any, .any, .any, .any, .any, .any, .any, .any, .any, .any, .any, .any], []⟩
def sx0_st_binnacleref00_compare_0 : StSh := ⟨[.any, .any, .any, .any, .int .i64, .any, .any, .any, .any, .any, .any, .any, .any, .any, .any, .any, .any, .any, .any, .any, .any, .any, .any, .any, .any, .any, .any, .any, .any, .any, .any, .any, .any, .any, .any, .any, .any, .any, .any, .any, .any], []⟩
def sx1_st_binnacleref00_compare_0 : StSh := ⟨[.any, .any, .any, .any, .any, .any, .any, .any, .any, .any, .any, .any, .any, .any, .any, .any, .any, .any, .any, .any, .any, .any, .any, .any, .any, .any, .any, .any, .any, .any, .any, .any, .any, .any, .any, .any, .any, .any, .any, .any, .any], []⟩
def hk_st_binnacleref00_compare_0 (N_ : Nat) : List Atom → K → Bool := fun a_ κ => match a_ with
  | [.ints a_1, .ints b_1, .int i] => iterG N_ (st_q136 N_ a_1 b_1 (fun r0 => κ.ret (sx0_st_binnacleref00_compare_0.build [.int r0])) (κ.ext 0 (sx1_st_binnacleref00_compare_0.build []))) i
  | _ => false
def an_q23 (N_ : Nat) : Nat → Option Ann := fun b_ => cond (b_ == 0) (some ⟨⟨[0, 1, 5], []⟩, [(0, ⟨[], []⟩)], some ⟨[4], []⟩, some (mkHooks [(sh_st_binnacleref00_compare_0, hk_st_binnacleref00_compare_0 N_)])⟩) (none)
theorem eq_st_binnacleref00_compare_0 (N_ : Nat) (κ : K) (a_1 : List Int) (b_1 : List Int) (i : Int) : iter N_ (fun s k => codeV ⟨Tryz.prog, ofList [], isref, N_⟩ 0 (an_q23 N_) (lp Tryz.prog 238 0).2 (lp Tryz.prog 238 0).1 s (roundK Tryz.prog 0 ((an_q23 N_) (lp Tryz.prog 238 0).1) κ k)) (sh_st_binnacleref00_compare_0.build [.ints a_1, .ints b_1, .int i]) = iterG N_ (st_q136 N_ a_1 b_1 (fun r0 => κ.ret (sx0_st_binnacleref00_compare_0.build [.int r0])) (κ.ext 0 (sx1_st_binnacleref00_compare_0.build []))) i :=
  iter_tr (fun (v_ : Int) => sh_st_binnacleref00_compare_0.build [.ints a_1, .ints b_1, .int v_]) (fun v_ K_ => by kernel_rfl) N_ i
theorem hk1_st_binnacleref00_compare_0 (N_ : Nat) : HookFor ⟨Tryz.prog, ofList [], isref, N_⟩ 0 (an_q23 N_) (lp Tryz.prog 238 0) (sh_st_binnacleref00_compare_0, hk_st_binnacleref00_compare_0 N_) := by
  intro a κ h
  simp only at h
  unfold hk_st_binnacleref00_compare_0 at h
  split at h
  · exact (eq_st_binnacleref00_compare_0 _ _ _ _ _).trans h
  · cases h
theorem ho_binnacleref00_compare_0 (N_ : Nat) : HookOk ⟨Tryz.prog, ofList [], isref, N_⟩ 0 (an_q23 N_) (lp Tryz.prog 238 0) :=
  hooks_ok [(sh_st_binnacleref00_compare_0, hk_st_binnacleref00_compare_0 N_)] (by kernel_rfl) ⟨hk1_st_binnacleref00_compare_0 _, trivial⟩
theorem eq_q23 (N_ : Nat) (a : List Int) (b : List Int) (cont_ : V → List Blk → Bool) : bodyZ ⟨Tryz.prog, ofList [], isref, N_⟩ (an_q23 N_) 238 (shF_q23.args [.ints a, .ints b]) [] cont_ = G_q23 N_ a b (fun r0 => cont_ (.int .i64 r0) []) := by kernel_rfl
theorem good_q23 (N_ : Nat) : GoodF Tryz.prog 238 (F_q23 (G_q23 N_)) := by
  refine good_fsZ (cx := ⟨Tryz.prog, ofList [], isref, N_⟩) (ofList_nil _) shF_q23 (sp_q23 (G_q23 N_)) (an_q23 N_) 1 0 (by kernel_rfl) (fun i_ hi_ => by
    match i_, hi_ with
    | 0, _ => exact ho_binnacleref00_compare_0 _
    | (q + 1), h => omega) ?_
  intro a k h
  unfold sp_q23 at h
  split at h
  · exact ⟨[], rfl, rfl, (eq_q23 _ _ _ _).trans h⟩
  · cases h

def an_q31 (N_ : Nat) (S_q45 : TS_q45) (S_q13 : TS_q13) (S_q23 : TS_q23) (S_q10 : TS_q10) : Nat → Option Ann := fun b_ => none
theorem eq_q31 (N_ : Nat) (S_q45 : TS_q45) (S_q13 : TS_q13) (S_q23 : TS_q23) (S_q10 : TS_q10) (turn : Bool) (b : Bool) (b_1 : Bool) (b_2 : List Int) (b_3 : Bool) (b_4 : List Int) (cont_ : V → List Blk → Bool) : bodyZ ⟨Tryz.prog, ofList [(236, (F_q45 S_q45)), (212, (F_q13 S_q13)), (238, (F_q23 S_q23)), (235, (F_q10 S_q10))], isref, N_⟩ (an_q31 N_ S_q45 S_q13 S_q23 S_q10) 232 (shF_q31.args [.bool turn, .bool b, .bool b_1, .ints b_2, .bool b_3, .ints b_4]) [⟨243, 1, .cells [.bool b, .nil]⟩, ⟨243, 1, .cells [.bool b_1, .roi .u32 b_2]⟩, ⟨243, 1, .cells [.bool b_3, .roi .u32 b_4]⟩] cont_ = G_q31 N_ S_q45 S_q13 S_q23 S_q10 turn b b_1 b_2 b_3 b_4 (fun r0 r1 => cont_ (.ptr 0 0) [⟨243, 1, .cells [.bool r0, .roi .u32 r1]⟩, ⟨243, 1, .cells [.bool b_1, .roi .u32 b_2]⟩, ⟨243, 1, .cells [.bool b_3, .roi .u32 b_4]⟩]) := by kernel_rfl
theorem good_q31 (N_ : Nat) (S_q45 : TS_q45) (S_q13 : TS_q13) (S_q23 : TS_q23) (S_q10 : TS_q10) (h_binnacleref00_plus : GoodF Tryz.prog 236 (F_q45 S_q45)) (h_binnacleref00_Int_put_p0n : GoodF Tryz.prog 212 (F_q13 S_q13)) (h_binnacleref00_compare : GoodF Tryz.prog 238 (F_q23 S_q23)) (h_binnacleref00_minus : GoodF Tryz.prog 235 (F_q10 S_q10)) : GoodF Tryz.prog 232 (F_q31 (G_q31 N_ S_q45 S_q13 S_q23 S_q10)) := by
  refine good_fsZ (cx := ⟨Tryz.prog, ofList [(236, (F_q45 S_q45)), (212, (F_q13 S_q13)), (238, (F_q23 S_q23)), (235, (F_q10 S_q10))], isref, N_⟩) (ofList_cons h_binnacleref00_plus (ofList_cons h_binnacleref00_Int_put_p0n (ofList_cons h_binnacleref00_compare (ofList_cons h_binnacleref00_minus (ofList_nil _))))) shF_q31 (sp_q31 (G_q31 N_ S_q45 S_q13 S_q23 S_q10)) (an_q31 N_ S_q45 S_q13 S_q23 S_q10) 0 3 (by kernel_rfl) (fun i_ hi_ => by omega) ?_
  intro a k h
  unfold sp_q31 at h
  split at h
  · exact ⟨[_, _, _], rfl, rfl, (eq_q31 _ _ _ _ _ _ _ _ _ _ _ _).trans h⟩
  · cases h

def an_q30 (N_ : Nat) (S_q31 : TS_q31) : Nat → Option Ann := fun b_ => none
theorem eq_q30 (N_ : Nat) (S_q31 : TS_q31) (b : Bool) (b_1 : Bool) (b_2 : List Int) (b_3 : Bool) (b_4 : List Int) (cont_ : V → List Blk → Bool) : bodyZ ⟨Tryz.prog, ofList [(232, (F_q31 S_q31))], isref, N_⟩ (an_q30 N_ S_q31) 229 (shF_q30.args [.bool b, .bool b_1, .ints b_2, .bool b_3, .ints b_4]) [⟨243, 1, .cells [.bool b, .nil]⟩, ⟨243, 1, .cells [.bool b_1, .roi .u32 b_2]⟩, ⟨243, 1, .cells [.bool b_3, .roi .u32 b_4]⟩] cont_ = G_q30 N_ S_q31 b b_1 b_2 b_3 b_4 (fun r0 r1 => cont_ (.ptr 0 0) [⟨243, 1, .cells [.bool r0, .roi .u32 r1]⟩, ⟨243, 1, .cells [.bool b_1, .roi .u32 b_2]⟩, ⟨243, 1, .cells [.bool b_3, .roi .u32 b_4]⟩]) := by kernel_rfl
theorem good_q30 (N_ : Nat) (S_q31 : TS_q31) (h_binnacleref00_Int_sum_p0p1p2nrr : GoodF Tryz.prog 232 (F_q31 S_q31)) : GoodF Tryz.prog 229 (F_q30 (G_q30 N_ S_q31)) := by
  refine good_fsZ (cx := ⟨Tryz.prog, ofList [(232, (F_q31 S_q31))], isref, N_⟩) (ofList_cons h_binnacleref00_Int_sum_p0p1p2nrr (ofList_nil _)) shF_q30 (sp_q30 (G_q30 N_ S_q31)) (an_q30 N_ S_q31) 0 3 (by kernel_rfl) (fun i_ hi_ => by omega) ?_
  intro a k h
  unfold sp_q30 at h
  split at h
  · exact ⟨[_, _, _], rfl, rfl, (eq_q30 _ _ _ _ _ _ _ _).trans h⟩
  · cases h

def an_q34 (N_ : Nat) (S_q49 : TS_q49) (S_q13 : TS_q13) : Nat → Option Ann := fun b_ => none
theorem eq_q34 (N_ : Nat) (S_q49 : TS_q49) (S_q13 : TS_q13) (n : Int) (b : Bool) (cont_ : V → List Blk → Bool) : bodyZ ⟨Tryz.prog, ofList [(213, (F_q49 S_q49)), (212, (F_q13 S_q13))], isref, N_⟩ (an_q34 N_ S_q49 S_q13) 233 (shF_q34.args [.int n, .bool b]) [⟨243, 1, .cells [.bool b, .nil]⟩] cont_ = G_q34 N_ S_q49 S_q13 n b (fun r0 r1 => cont_ (.ptr 0 0) [⟨243, 1, .cells [.bool r0, .roi .u32 r1]⟩]) := by kernel_rfl
theorem good_q34 (N_ : Nat) (S_q49 : TS_q49) (S_q13 : TS_q13) (h_binnacleref00_words : GoodF Tryz.prog 213 (F_q49 S_q49)) (h_binnacleref00_Int_put_p0n : GoodF Tryz.prog 212 (F_q13 S_q13)) : GoodF Tryz.prog 233 (F_q34 (G_q34 N_ S_q49 S_q13)) := by
  refine good_fsZ (cx := ⟨Tryz.prog, ofList [(213, (F_q49 S_q49)), (212, (F_q13 S_q13))], isref, N_⟩) (ofList_cons h_binnacleref00_words (ofList_cons h_binnacleref00_Int_put_p0n (ofList_nil _))) shF_q34 (sp_q34 (G_q34 N_ S_q49 S_q13)) (an_q34 N_ S_q49 S_q13) 0 1 (by kernel_rfl) (fun i_ hi_ => by omega) ?_
  intro a k h
  unfold sp_q34 at h
  split at h
  · exact ⟨[_], rfl, rfl, (eq_q34 _ _ _ _ _ _).trans h⟩
  · cases h

def an_q6 (N_ : Nat) (S_q34 : TS_q34) : Nat → Option Ann := fun b_ => none
theorem eq_q6 (N_ : Nat) (S_q34 : TS_q34) (n : Int) (cont_ : V → List Blk → Bool) : bodyZ ⟨Tryz.prog, ofList [(233, (F_q34 S_q34))], isref, N_⟩ (an_q6 N_ S_q34) 222 (shF_q6.args [.int n]) [] cont_ = G_q6 N_ S_q34 n (fun r0 r1 => cont_ (.ptr 0 0) [⟨243, 1, .cells [.bool r0, .roi .u32 r1]⟩]) := by kernel_rfl
theorem good_q6 (N_ : Nat) (S_q34 : TS_q34) (h_binnacleref00_Int_SetInt64_p0n : GoodF Tryz.prog 233 (F_q34 S_q34)) : GoodF Tryz.prog 222 (F_q6 (G_q6 N_ S_q34)) := by
  refine good_fsZ (cx := ⟨Tryz.prog, ofList [(233, (F_q34 S_q34))], isref, N_⟩) (ofList_cons h_binnacleref00_Int_SetInt64_p0n (ofList_nil _)) shF_q6 (sp_q6 (G_q6 N_ S_q34)) (an_q6 N_ S_q34) 0 0 (by kernel_rfl) (fun i_ hi_ => by omega) ?_
  intro a k h
  unfold sp_q6 at h
  split at h
  · exact ⟨[], rfl, rfl, (eq_q6 _ _ _ _).trans h⟩
  · cases h

def an_q55 (N_ : Nat) (S_q23 : TS_q23) : Nat → Option Ann := fun b_ => none
theorem eq_q55 (N_ : Nat) (S_q23 : TS_q23) (b : Bool) (b_1 : List Int) (b_2 : Bool) (b_3 : List Int) (cont_ : V → List Blk → Bool) : bodyZ ⟨Tryz.prog, ofList [(238, (F_q23 S_q23))], isref, N_⟩ (an_q55 N_ S_q23) 230 (shF_q55.args [.bool b, .ints b_1, .bool b_2, .ints b_3]) [⟨243, 1, .cells [.bool b, .roi .u32 b_1]⟩, ⟨243, 1, .cells [.bool b_2, .roi .u32 b_3]⟩] cont_ = G_q55 N_ S_q23 b b_1 b_2 b_3 (fun r0 => cont_ (.int .i64 r0) [⟨243, 1, .cells [.bool b, .roi .u32 b_1]⟩, ⟨243, 1, .cells [.bool b_2, .roi .u32 b_3]⟩]) := by kernel_rfl
theorem good_q55 (N_ : Nat) (S_q23 : TS_q23) (h_binnacleref00_compare : GoodF Tryz.prog 238 (F_q23 S_q23)) : GoodF Tryz.prog 230 (F_q55 (G_q55 N_ S_q23)) := by
  refine good_fsZ (cx := ⟨Tryz.prog, ofList [(238, (F_q23 S_q23))], isref, N_⟩) (ofList_cons h_binnacleref00_compare (ofList_nil _)) shF_q55 (sp_q55 (G_q55 N_ S_q23)) (an_q55 N_ S_q23) 0 2 (by kernel_rfl) (fun i_ hi_ => by omega) ?_
  intro a k h
  unfold sp_q55 at h
  split at h
  · exact ⟨[_, _], rfl, rfl, (eq_q55 _ _ _ _ _ _ _).trans h⟩
  · cases h

def an_q17 (N_ : Nat) (S_q56 : TS_q56) (S_q54 : TS_q54) (S_q30 : TS_q30) (S_q44 : TS_q44) (S_q6 : TS_q6) (S_q55 : TS_q55) : Nat → Option Ann := fun b_ => none
theorem eq_q17 (N_ : Nat) (S_q56 : TS_q56) (S_q54 : TS_q54) (S_q30 : TS_q30) (S_q44 : TS_q44) (S_q6 : TS_q6) (S_q55 : TS_q55) (s : Int) (b : Bool) (b_1 : List Int) (cont_ : V → List Blk → Bool) : bodyV ⟨Tryz.prog, ofList [(223, (F_q56 S_q56)), (218, (F_q54 S_q54)), (229, (F_q30 S_q30)), (215, (F_q44 S_q44)), (222, (F_q6 S_q6)), (230, (F_q55 S_q55))], isref, N_⟩ (an_q17 N_ S_q56 S_q54 S_q30 S_q44 S_q6 S_q55) 219 (shF_q17.args [.int s, .bool b, .ints b_1]) [⟨243, 1, .cells [.bool b, .roi .u32 b_1]⟩] cont_ = G_q17 N_ S_q56 S_q54 S_q30 S_q44 S_q6 S_q55 s b b_1 (fun r0 r3 r4 => cont_ (.tup [.ptr 1 0, .int .i64 r0]) [⟨243, 1, .cells [.bool b, .roi .u32 b_1]⟩, ⟨243, 1, .cells [.bool r3, .roi .u32 r4]⟩]) := by kernel_rfl
theorem good_q17 (N_ : Nat) (S_q56 : TS_q56) (S_q54 : TS_q54) (S_q30 : TS_q30) (S_q44 : TS_q44) (S_q6 : TS_q6) (S_q55 : TS_q55) (h_binnacleref00_Int_Rsh_p0p1nr : GoodF Tryz.prog 223 (F_q56 S_q56)) (h_binnacleref00_Int_Lsh_p0p1nr : GoodF Tryz.prog 218 (F_q54 S_q54)) (h_binnacleref00_Int_Sub_p0p1p2nrr : GoodF Tryz.prog 229 (F_q30 S_q30)) (h_binnacleref00_Int_Sign_p0r : GoodF Tryz.prog 215 (F_q44 S_q44)) (h_binnacleref00_NewInt : GoodF Tryz.prog 222 (F_q6 S_q6)) (h_binnacleref00_Int_Cmp_p0p1rr : GoodF Tryz.prog 230 (F_q55 S_q55)) : GoodF Tryz.prog 219 (F_q17 (G_q17 N_ S_q56 S_q54 S_q30 S_q44 S_q6 S_q55)) := by
  refine good_fs (cx := ⟨Tryz.prog, ofList [(223, (F_q56 S_q56)), (218, (F_q54 S_q54)), (229, (F_q30 S_q30)), (215, (F_q44 S_q44)), (222, (F_q6 S_q6)), (230, (F_q55 S_q55))], isref, N_⟩) (ofList_cons h_binnacleref00_Int_Rsh_p0p1nr (ofList_cons h_binnacleref00_Int_Lsh_p0p1nr (ofList_cons h_binnacleref00_Int_Sub_p0p1p2nrr (ofList_cons h_binnacleref00_Int_Sign_p0r (ofList_cons h_binnacleref00_NewInt (ofList_cons h_binnacleref00_Int_Cmp_p0p1rr (ofList_nil _))))))) shF_q17 (sp_q17 (G_q17 N_ S_q56 S_q54 S_q30 S_q44 S_q6 S_q55)) (an_q17 N_ S_q56 S_q54 S_q30 S_q44 S_q6 S_q55) 0 1 (by kernel_rfl) (fun i_ hi_ => by omega) ?_
  intro a k h
  unfold sp_q17 at h
  split at h
  · exact ⟨[_], rfl, rfl, (eq_q17 _ _ _ _ _ _ _ _ _ _ _).trans h⟩
  · cases h

def an_q70 (N_ : Nat) (S_q10 : TS_q10) : Nat → Option Ann := fun b_ => none
def ls_q129 (ds_ : List V) (ms_ : List (Option Blk)) (i : Int) (b : Bool) (b_1 : List Int) (b_3 : Int) : St := ⟨[.ptr 0 0, (dq ds_ 0), (dq ds_ 1), (dq ds_ 2), (dq ds_ 3), (dq ds_ 4), .int .u32 b_3, (dq ds_ 5), (dq ds_ 6), (dq ds_ 7), (dq ds_ 8), (dq ds_ 9), (dq ds_ 10), (dq ds_ 11), (dq ds_ 12), (dq ds_ 13), (dq ds_ 14), (dq ds_ 15), (dq ds_ 16), (dq ds_ 17), (dq ds_ 18), (dq ds_ 19), (dq ds_ 20), (dq ds_ 21), (dq ds_ 22), (dq ds_ 23), (dq ds_ 24), (dq ds_ 25), (dq ds_ 26), (dq ds_ 27), (dq ds_ 28), (dq ds_ 29), (dq ds_ 30), (dq ds_ 31), (dq ds_ 32), (dq ds_ 33), (dq ds_ 34), (dq ds_ 35), (dq ds_ 36), (dq ds_ 37), (dq ds_ 38)], [some ⟨243, 1, .cells [.bool b, .roi .u32 b_1]⟩]⟩
def ls_q127 (ds_ : List V) (ms_ : List (Option Blk)) (i : Int) (b : Bool) (b_1 : List Int) : St := ⟨[.ptr 0 0, .int .i64 i, (dq ds_ 0), (dq ds_ 1), (dq ds_ 2), .roi .u32 b_1, (dq ds_ 3), (dq ds_ 4), (dq ds_ 5), (dq ds_ 6), (dq ds_ 7), (dq ds_ 8), (dq ds_ 9), (dq ds_ 10), (dq ds_ 11), (dq ds_ 12), (dq ds_ 13), (dq ds_ 14), (dq ds_ 15), (dq ds_ 16), (dq ds_ 17), (dq ds_ 18), (dq ds_ 19), (dq ds_ 20), (dq ds_ 21), (dq ds_ 22), (dq ds_ 23), (dq ds_ 24), (dq ds_ 25), (dq ds_ 26), (dq ds_ 27), (dq ds_ 28), (dq ds_ 29), (dq ds_ 30), (dq ds_ 31), (dq ds_ 32), (dq ds_ 33), (dq ds_ 34), (dq ds_ 35), (dq ds_ 36), (dq ds_ 37)], [some ⟨243, 1, .cells [.bool b, .roi .u32 b_1]⟩]⟩
def ls_q137 (ds_ : List V) (ms_ : List (Option Blk)) (i : Int) (b : Bool) (b_1 : List Int) (b_2 : Int) : St := ⟨[.ptr 0 0, (dq ds_ 0), (dq ds_ 1), (dq ds_ 2), (dq ds_ 3), (dq ds_ 4), .int .u32 b_2, (dq ds_ 5), (dq ds_ 6), (dq ds_ 7), (dq ds_ 8), (dq ds_ 9), (dq ds_ 10), (dq ds_ 11), (dq ds_ 12), (dq ds_ 13), (dq ds_ 14), (dq ds_ 15), (dq ds_ 16), (dq ds_ 17), (dq ds_ 18), (dq ds_ 19), (dq ds_ 20), (dq ds_ 21), (dq ds_ 22), (dq ds_ 23), (dq ds_ 24), (dq ds_ 25), (dq ds_ 26), (dq ds_ 27), (dq ds_ 28), (dq ds_ 29), (dq ds_ 30), (dq ds_ 31), (dq ds_ 32), (dq ds_ 33), (dq ds_ 34), (dq ds_ 35), (dq ds_ 36), (dq ds_ 37), (dq ds_ 38)], [some ⟨243, 1, .cells [.bool b, .roi .u32 b_1]⟩, (ms_.getD 0 none)]⟩
def ls_q128 (ds_ : List V) (ms_ : List (Option Blk)) (i : Int) (b : Bool) (b_1 : List Int) (m : List Int) : St := ⟨[.ptr 0 0, .int .i64 i, (dq ds_ 0), (dq ds_ 1), (dq ds_ 2), .roi .u32 m, (dq ds_ 3), (dq ds_ 4), (dq ds_ 5), (dq ds_ 6), (dq ds_ 7), (dq ds_ 8), (dq ds_ 9), (dq ds_ 10), (dq ds_ 11), (dq ds_ 12), (dq ds_ 13), (dq ds_ 14), (dq ds_ 15), (dq ds_ 16), (dq ds_ 17), (dq ds_ 18), (dq ds_ 19), (dq ds_ 20), (dq ds_ 21), (dq ds_ 22), (dq ds_ 23), (dq ds_ 24), (dq ds_ 25), (dq ds_ 26), (dq ds_ 27), (dq ds_ 28), (dq ds_ 29), (dq ds_ 30), (dq ds_ 31), (dq ds_ 32), (dq ds_ 33), (dq ds_ 34), (dq ds_ 35), (dq ds_ 36), (dq ds_ 37)], [some ⟨243, 1, .cells [.bool b, .roi .u32 b_1]⟩, (ms_.getD 0 none)]⟩
theorem jn_q129 (N_ : Nat) (S_q10 : TS_q10) (ds_ : List V) (ms_ : List (Option Blk)) (i : Int) (b : Bool) (b_1 : List Int) (b_3 : Int) (cont_ : V → List Blk → Bool) : codesV ⟨Tryz.prog, ofList [(235, (F_q10 S_q10))], isref, N_⟩ 1 (an_q70 N_ S_q10) ((cds Tryz.prog 231).drop 7) 0 (ls_q129 ds_ ms_ i b b_1 b_3) (finZ Tryz.prog 231 1 cont_) = J_q129 N_ S_q10 i b b_1 b_3 (fun r0 => cont_ (.int .u64 r0) [⟨243, 1, .cells [.bool b, .roi .u32 b_1]⟩]) := by kernel_rfl
theorem hd_q127 (N_ : Nat) (S_q10 : TS_q10) (ds_ : List V) (ms_ : List (Option Blk)) (i : Int) (b : Bool) (b_1 : List Int) (cont_ : V → List Blk → Bool) (κn_ : St → Bool) : codesV ⟨Tryz.prog, ofList [(235, (F_q10 S_q10))], isref, N_⟩ 1 (an_q70 N_ S_q10) (sg Tryz.prog 231 4 3) 0 (ls_q127 ds_ ms_ i b b_1) { (finZ Tryz.prog 231 1 cont_) with nrm := κn_ } = ((fits .i64 (Int.tdiv i 32)) && (cond (decide ((Int.tdiv i 32) < (((List.length b_1) : Nat) : Int))) ((fits .i64 (Int.tdiv i 32)) && ((inR (Int.tdiv i 32) (List.length b_1)) && ((decide (0 ≤ (IntKind.wrap .u64 (Int.tmod i 32)))) && (κn_ (ls_q129 [.int .i64 i, (dq ds_ 0), (dq ds_ 1), (dq ds_ 2), .roi .u32 b_1, (dq ds_ 4), (dq ds_ 5), (dq ds_ 6), (dq ds_ 7), (dq ds_ 8), (dq ds_ 9), (dq ds_ 10), (dq ds_ 11), (dq ds_ 12), (dq ds_ 13), (dq ds_ 14), .int .i64 i, .int .i64 (Int.tdiv i 32), .roi .u32 b_1, .int .i64 (((List.length b_1) : Nat) : Int), .bool true, .roi .u32 b_1, .int .i64 i, .int .i64 (Int.tdiv i 32), .pi .u32 b_1 (Int.toNat (Int.tdiv i 32)), .int .u32 (List.getD b_1 (Int.toNat (Int.tdiv i 32)) 0), .int .i64 i, .int .i64 (Int.tmod i 32), .int .u64 (IntKind.wrap .u64 (Int.tmod i 32)), .int .u32 (Int.fdiv (List.getD b_1 (Int.toNat (Int.tdiv i 32)) 0) (2 ^ (min (Int.toNat (IntKind.wrap .u64 (Int.tmod i 32))) 32))), .int .u32 (bitsN .and .u32 (Int.fdiv (List.getD b_1 (Int.toNat (Int.tdiv i 32)) 0) (2 ^ (min (Int.toNat (IntKind.wrap .u64 (Int.tmod i 32))) 32))) 1), (dq ds_ 30), (dq ds_ 31), (dq ds_ 32), (dq ds_ 33), (dq ds_ 34), (dq ds_ 35), (dq ds_ 36), (dq ds_ 37)] [] i b b_1 (bitsN .and .u32 (Int.fdiv (List.getD b_1 (Int.toNat (Int.tdiv i 32)) 0) (2 ^ (min (Int.toNat (IntKind.wrap .u64 (Int.tmod i 32))) 32))) 1)))))) (κn_ (ls_q129 [.int .i64 i, (dq ds_ 0), (dq ds_ 1), (dq ds_ 2), .roi .u32 b_1, (dq ds_ 4), (dq ds_ 5), (dq ds_ 6), (dq ds_ 7), (dq ds_ 8), (dq ds_ 9), (dq ds_ 10), (dq ds_ 11), (dq ds_ 12), (dq ds_ 13), (dq ds_ 14), .int .i64 i, .int .i64 (Int.tdiv i 32), .roi .u32 b_1, .int .i64 (((List.length b_1) : Nat) : Int), .bool false, (dq ds_ 20), (dq ds_ 21), (dq ds_ 22), (dq ds_ 23), (dq ds_ 24), (dq ds_ 25), (dq ds_ 26), (dq ds_ 27), (dq ds_ 28), (dq ds_ 29), (dq ds_ 30), (dq ds_ 31), (dq ds_ 32), (dq ds_ 33), (dq ds_ 34), (dq ds_ 35), (dq ds_ 36), (dq ds_ 37)] [] i b b_1 0)))) := by kernel_rfl
theorem jn_q127 (N_ : Nat) (S_q10 : TS_q10) (ds_ : List V) (ms_ : List (Option Blk)) (i : Int) (b : Bool) (b_1 : List Int) (cont_ : V → List Blk → Bool) : codesV ⟨Tryz.prog, ofList [(235, (F_q10 S_q10))], isref, N_⟩ 1 (an_q70 N_ S_q10) ((cds Tryz.prog 231).drop 4) 0 (ls_q127 ds_ ms_ i b b_1) (finZ Tryz.prog 231 1 cont_) = J_q127 N_ S_q10 i b b_1 (fun r0 => cont_ (.int .u64 r0) [⟨243, 1, .cells [.bool b, .roi .u32 b_1]⟩]) := by
  rw [codesV_cut 4 3 7 rfl]
  refine (hd_q127 N_ S_q10 ds_ ms_ i b b_1 cont_ _).trans ?_
  simp only [jn_q129]
  kernel_rfl
theorem jn_q137 (N_ : Nat) (S_q10 : TS_q10) (ds_ : List V) (ms_ : List (Option Blk)) (i : Int) (b : Bool) (b_1 : List Int) (b_2 : Int) (cont_ : V → List Blk → Bool) : codesV ⟨Tryz.prog, ofList [(235, (F_q10 S_q10))], isref, N_⟩ 1 (an_q70 N_ S_q10) ((cds Tryz.prog 231).drop 7) 0 (ls_q137 ds_ ms_ i b b_1 b_2) (finZ Tryz.prog 231 1 cont_) = J_q137 N_ S_q10 i b b_1 b_2 (fun r0 => cont_ (.int .u64 r0) [⟨243, 1, .cells [.bool b, .roi .u32 b_1]⟩]) := by kernel_rfl
theorem hd_q128 (N_ : Nat) (S_q10 : TS_q10) (ds_ : List V) (ms_ : List (Option Blk)) (i : Int) (b : Bool) (b_1 : List Int) (m : List Int) (cont_ : V → List Blk → Bool) (κn_ : St → Bool) : codesV ⟨Tryz.prog, ofList [(235, (F_q10 S_q10))], isref, N_⟩ 1 (an_q70 N_ S_q10) (sg Tryz.prog 231 4 3) 0 (ls_q128 ds_ ms_ i b b_1 m) { (finZ Tryz.prog 231 1 cont_) with nrm := κn_ } = ((fits .i64 (Int.tdiv i 32)) && (cond (decide ((Int.tdiv i 32) < (((List.length m) : Nat) : Int))) ((fits .i64 (Int.tdiv i 32)) && ((inR (Int.tdiv i 32) (List.length m)) && ((decide (0 ≤ (IntKind.wrap .u64 (Int.tmod i 32)))) && (κn_ (ls_q137 [.int .i64 i, (dq ds_ 0), (dq ds_ 1), (dq ds_ 2), .roi .u32 m, (dq ds_ 4), (dq ds_ 5), (dq ds_ 6), (dq ds_ 7), (dq ds_ 8), (dq ds_ 9), (dq ds_ 10), (dq ds_ 11), (dq ds_ 12), (dq ds_ 13), (dq ds_ 14), .int .i64 i, .int .i64 (Int.tdiv i 32), .roi .u32 m, .int .i64 (((List.length m) : Nat) : Int), .bool true, .roi .u32 m, .int .i64 i, .int .i64 (Int.tdiv i 32), .pi .u32 m (Int.toNat (Int.tdiv i 32)), .int .u32 (List.getD m (Int.toNat (Int.tdiv i 32)) 0), .int .i64 i, .int .i64 (Int.tmod i 32), .int .u64 (IntKind.wrap .u64 (Int.tmod i 32)), .int .u32 (Int.fdiv (List.getD m (Int.toNat (Int.tdiv i 32)) 0) (2 ^ (min (Int.toNat (IntKind.wrap .u64 (Int.tmod i 32))) 32))), .int .u32 (bitsN .and .u32 (Int.fdiv (List.getD m (Int.toNat (Int.tdiv i 32)) 0) (2 ^ (min (Int.toNat (IntKind.wrap .u64 (Int.tmod i 32))) 32))) 1), (dq ds_ 30), (dq ds_ 31), (dq ds_ 32), (dq ds_ 33), (dq ds_ 34), (dq ds_ 35), (dq ds_ 36), (dq ds_ 37)] [(ms_.getD 0 none)] i b b_1 (bitsN .and .u32 (Int.fdiv (List.getD m (Int.toNat (Int.tdiv i 32)) 0) (2 ^ (min (Int.toNat (IntKind.wrap .u64 (Int.tmod i 32))) 32))) 1)))))) (κn_ (ls_q137 [.int .i64 i, (dq ds_ 0), (dq ds_ 1), (dq ds_ 2), .roi .u32 m, (dq ds_ 4), (dq ds_ 5), (dq ds_ 6), (dq ds_ 7), (dq ds_ 8), (dq ds_ 9), (dq ds_ 10), (dq ds_ 11), (dq ds_ 12), (dq ds_ 13), (dq ds_ 14), .int .i64 i, .int .i64 (Int.tdiv i 32), .roi .u32 m, .int .i64 (((List.length m) : Nat) : Int), .bool false, (dq ds_ 20), (dq ds_ 21), (dq ds_ 22), (dq ds_ 23), (dq ds_ 24), (dq ds_ 25), (dq ds_ 26), (dq ds_ 27), (dq ds_ 28), (dq ds_ 29), (dq ds_ 30), (dq ds_ 31), (dq ds_ 32), (dq ds_ 33), (dq ds_ 34), (dq ds_ 35), (dq ds_ 36), (dq ds_ 37)] [(ms_.getD 0 none)] i b b_1 0)))) := by kernel_rfl
theorem jn_q128 (N_ : Nat) (S_q10 : TS_q10) (ds_ : List V) (ms_ : List (Option Blk)) (i : Int) (b : Bool) (b_1 : List Int) (m : List Int) (cont_ : V → List Blk → Bool) : codesV ⟨Tryz.prog, ofList [(235, (F_q10 S_q10))], isref, N_⟩ 1 (an_q70 N_ S_q10) ((cds Tryz.prog 231).drop 4) 0 (ls_q128 ds_ ms_ i b b_1 m) (finZ Tryz.prog 231 1 cont_) = J_q128 N_ S_q10 i b b_1 m (fun r0 => cont_ (.int .u64 r0) [⟨243, 1, .cells [.bool b, .roi .u32 b_1]⟩]) := by
  rw [codesV_cut 4 3 7 rfl]
  refine (hd_q128 N_ S_q10 ds_ ms_ i b b_1 m cont_ _).trans ?_
  simp only [jn_q137]
  kernel_rfl
theorem hd_zi_Bit_p0r_w (N_ : Nat) (S_q10 : TS_q10) (i : Int) (b : Bool) (b_1 : List Int) (cont_ : V → List Blk → Bool) (κn_ : St → Bool) : codesV ⟨Tryz.prog, ofList [(235, (F_q10 S_q10))], isref, N_⟩ 1 (an_q70 N_ S_q10) (sg Tryz.prog 231 0 4) 0 (st0 Tryz.prog 231 (shF_q70.args [.int i, .bool b, .ints b_1]) [⟨243, 1, .cells [.bool b, .roi .u32 b_1]⟩]) { (finZ Tryz.prog 231 1 cont_) with nrm := κn_ } = (cond b (S_q10 b_1 [1] (fun (nsr : List Int) => (κn_ (ls_q128 [.any, .any, .int .u64 0, .any, .ptr 0 0, .ptr 0 0, .ptr 0 1, .roi .u32 b_1, .ptr 0 0, .ptr 0 0, .ptr 0 0, .bool true, .roi .u32 b_1, .slw 1, .roi .u32 nsr, .any, .any, .any, .any, .any, .any, .any, .any, .any, .any, .any, .any, .any, .any, .any, .any, .any, .any, .any, .any, .any, .any, .any] [none] i b b_1 nsr)))) (κn_ (ls_q127 [.any, .any, .int .u64 0, .any, .ptr 0 0, .ptr 0 0, .ptr 0 1, .roi .u32 b_1, .ptr 0 0, .ptr 0 0, .ptr 0 0, .bool false, .any, .any, .any, .any, .any, .any, .any, .any, .any, .any, .any, .any, .any, .any, .any, .any, .any, .any, .any, .any, .any, .any, .any, .any, .any, .any] [] i b b_1))) := by kernel_rfl
theorem jn_zi_Bit_p0r_w (N_ : Nat) (S_q10 : TS_q10) (i : Int) (b : Bool) (b_1 : List Int) (cont_ : V → List Blk → Bool) : codesV ⟨Tryz.prog, ofList [(235, (F_q10 S_q10))], isref, N_⟩ 1 (an_q70 N_ S_q10) ((cds Tryz.prog 231).drop 0) 0 (st0 Tryz.prog 231 (shF_q70.args [.int i, .bool b, .ints b_1]) [⟨243, 1, .cells [.bool b, .roi .u32 b_1]⟩]) (finZ Tryz.prog 231 1 cont_) = G_q70 N_ S_q10 i b b_1 (fun r0 => cont_ (.int .u64 r0) [⟨243, 1, .cells [.bool b, .roi .u32 b_1]⟩]) := by
  rw [codesV_cut 0 4 4 rfl]
  refine (hd_zi_Bit_p0r_w N_ S_q10 i b b_1 cont_ _).trans ?_
  simp only [jn_q128, jn_q127]
  kernel_rfl
theorem eq_q70 (N_ : Nat) (S_q10 : TS_q10) (i : Int) (b : Bool) (b_1 : List Int) (cont_ : V → List Blk → Bool) : bodyZ ⟨Tryz.prog, ofList [(235, (F_q10 S_q10))], isref, N_⟩ (an_q70 N_ S_q10) 231 (shF_q70.args [.int i, .bool b, .ints b_1]) [⟨243, 1, .cells [.bool b, .roi .u32 b_1]⟩] cont_ = G_q70 N_ S_q10 i b b_1 (fun r0 => cont_ (.int .u64 r0) [⟨243, 1, .cells [.bool b, .roi .u32 b_1]⟩]) :=
  (bodyZ_codes (by kernel_rfl)).trans (jn_zi_Bit_p0r_w N_ S_q10 i b b_1 cont_)
theorem good_q70 (N_ : Nat) (S_q10 : TS_q10) (h_binnacleref00_minus : GoodF Tryz.prog 235 (F_q10 S_q10)) : GoodF Tryz.prog 231 (F_q70 (G_q70 N_ S_q10)) := by
  refine good_fsZ (cx := ⟨Tryz.prog, ofList [(235, (F_q10 S_q10))], isref, N_⟩) (ofList_cons h_binnacleref00_minus (ofList_nil _)) shF_q70 (sp_q70 (G_q70 N_ S_q10)) (an_q70 N_ S_q10) 0 1 (by kernel_rfl) (fun i_ hi_ => by omega) ?_
  intro a k h
  unfold sp_q70 at h
  split at h
  · exact ⟨[_], rfl, rfl, (eq_q70 _ _ _ _ _ _).trans h⟩
  · cases h

def an_q7 (N_ : Nat) (S_q70 : TS_q70) : Nat → Option Ann := fun b_ => none
theorem eq_q7 (N_ : Nat) (S_q70 : TS_q70) (neg : Bool) (c : Int) (b : Bool) (b_1 : List Int) (cont_ : V → List Blk → Bool) : bodyV ⟨Tryz.prog, ofList [(231, (F_q70 S_q70))], isref, N_⟩ (an_q7 N_ S_q70) 220 (shF_q7.args [.bool neg, .int c, .bool b, .ints b_1]) [⟨243, 1, .cells [.bool b, .roi .u32 b_1]⟩] cont_ = G_q7 N_ S_q70 neg c b b_1 (fun r0 => cont_ (.bool r0) [⟨243, 1, .cells [.bool b, .roi .u32 b_1]⟩]) := by kernel_rfl
theorem good_q7 (N_ : Nat) (S_q70 : TS_q70) (h_binnacleref00_Int_Bit_p0r : GoodF Tryz.prog 231 (F_q70 S_q70)) : GoodF Tryz.prog 220 (F_q7 (G_q7 N_ S_q70)) := by
  refine good_fs (cx := ⟨Tryz.prog, ofList [(231, (F_q70 S_q70))], isref, N_⟩) (ofList_cons h_binnacleref00_Int_Bit_p0r (ofList_nil _)) shF_q7 (sp_q7 (G_q7 N_ S_q70)) (an_q7 N_ S_q70) 0 1 (by kernel_rfl) (fun i_ hi_ => by omega) ?_
  intro a k h
  unfold sp_q7 at h
  split at h
  · exact ⟨[_], rfl, rfl, (eq_q7 _ _ _ _ _ _ _).trans h⟩
  · cases h

def an_q33 (N_ : Nat) (S_q45 : TS_q45) (S_q19 : TS_q19) (S_q23 : TS_q23) (S_q10 : TS_q10) : Nat → Option Ann := fun b_ => none
theorem eq_q33 (N_ : Nat) (S_q45 : TS_q45) (S_q19 : TS_q19) (S_q23 : TS_q23) (S_q10 : TS_q10) (turn : Bool) (b : Bool) (b_1 : List Int) (b_2 : Bool) (b_3 : List Int) (cont_ : V → List Blk → Bool) : bodyZ ⟨Tryz.prog, ofList [(236, (F_q45 S_q45)), (212, (F_q19 S_q19)), (238, (F_q23 S_q23)), (235, (F_q10 S_q10))], isref, N_⟩ (an_q33 N_ S_q45 S_q19 S_q23 S_q10) 232 (shF_q33.args [.bool turn, .bool b, .ints b_1, .bool b_2, .ints b_3]) [⟨243, 1, .cells [.bool b, .roi .u32 b_1]⟩, ⟨243, 1, .cells [.bool b_2, .roi .u32 b_3]⟩] cont_ = G_q33 N_ S_q45 S_q19 S_q23 S_q10 turn b b_1 b_2 b_3 (fun r0 r1 => cont_ (.ptr 0 0) [⟨243, 1, .cells [.bool r0, .roi .u32 r1]⟩, ⟨243, 1, .cells [.bool b_2, .roi .u32 b_3]⟩]) := by kernel_rfl
theorem good_q33 (N_ : Nat) (S_q45 : TS_q45) (S_q19 : TS_q19) (S_q23 : TS_q23) (S_q10 : TS_q10) (h_binnacleref00_plus : GoodF Tryz.prog 236 (F_q45 S_q45)) (h_binnacleref00_Int_put_p0r : GoodF Tryz.prog 212 (F_q19 S_q19)) (h_binnacleref00_compare : GoodF Tryz.prog 238 (F_q23 S_q23)) (h_binnacleref00_minus : GoodF Tryz.prog 235 (F_q10 S_q10)) : GoodF Tryz.prog 232 (F_q33 (G_q33 N_ S_q45 S_q19 S_q23 S_q10)) := by
  refine good_fsZ (cx := ⟨Tryz.prog, ofList [(236, (F_q45 S_q45)), (212, (F_q19 S_q19)), (238, (F_q23 S_q23)), (235, (F_q10 S_q10))], isref, N_⟩) (ofList_cons h_binnacleref00_plus (ofList_cons h_binnacleref00_Int_put_p0r (ofList_cons h_binnacleref00_compare (ofList_cons h_binnacleref00_minus (ofList_nil _))))) shF_q33 (sp_q33 (G_q33 N_ S_q45 S_q19 S_q23 S_q10)) (an_q33 N_ S_q45 S_q19 S_q23 S_q10) 0 2 (by kernel_rfl) (fun i_ hi_ => by omega) ?_
  intro a k h
  unfold sp_q33 at h
  split at h
  · exact ⟨[_, _], rfl, rfl, (eq_q33 _ _ _ _ _ _ _ _ _ _ _).trans h⟩
  · cases h

def an_q0 (N_ : Nat) (S_q33 : TS_q33) : Nat → Option Ann := fun b_ => none
theorem eq_q0 (N_ : Nat) (S_q33 : TS_q33) (b : Bool) (b_1 : List Int) (b_2 : Bool) (b_3 : List Int) (cont_ : V → List Blk → Bool) : bodyZ ⟨Tryz.prog, ofList [(232, (F_q33 S_q33))], isref, N_⟩ (an_q0 N_ S_q33) 221 (shF_q0.args [.bool b, .ints b_1, .bool b_2, .ints b_3]) [⟨243, 1, .cells [.bool b, .roi .u32 b_1]⟩, ⟨243, 1, .cells [.bool b_2, .roi .u32 b_3]⟩] cont_ = G_q0 N_ S_q33 b b_1 b_2 b_3 (fun r0 r1 => cont_ (.ptr 0 0) [⟨243, 1, .cells [.bool r0, .roi .u32 r1]⟩, ⟨243, 1, .cells [.bool b_2, .roi .u32 b_3]⟩]) := by kernel_rfl
theorem good_q0 (N_ : Nat) (S_q33 : TS_q33) (h_binnacleref00_Int_sum_p0p0p1rr : GoodF Tryz.prog 232 (F_q33 S_q33)) : GoodF Tryz.prog 221 (F_q0 (G_q0 N_ S_q33)) := by
  refine good_fsZ (cx := ⟨Tryz.prog, ofList [(232, (F_q33 S_q33))], isref, N_⟩) (ofList_cons h_binnacleref00_Int_sum_p0p0p1rr (ofList_nil _)) shF_q0 (sp_q0 (G_q0 N_ S_q33)) (an_q0 N_ S_q33) 0 2 (by kernel_rfl) (fun i_ hi_ => by omega) ?_
  intro a k h
  unfold sp_q0 at h
  split at h
  · exact ⟨[_, _], rfl, rfl, (eq_q0 _ _ _ _ _ _ _).trans h⟩
  · cases h

def an_q4 (N_ : Nat) (S_q66 : TS_q66) (S_q19 : TS_q19) (S_q10 : TS_q10) (S_q45 : TS_q45) : Nat → Option Ann := fun b_ => none
theorem eq_q4 (N_ : Nat) (S_q66 : TS_q66) (S_q19 : TS_q19) (S_q10 : TS_q10) (S_q45 : TS_q45) (n : Int) (b : Bool) (b_1 : List Int) (cont_ : V → List Blk → Bool) : bodyZ ⟨Tryz.prog, ofList [(234, (F_q66 S_q66)), (212, (F_q19 S_q19)), (235, (F_q10 S_q10)), (236, (F_q45 S_q45))], isref, N_⟩ (an_q4 N_ S_q66 S_q19 S_q10 S_q45) 223 (shF_q4.args [.int n, .bool b, .ints b_1]) [⟨243, 1, .cells [.bool b, .roi .u32 b_1]⟩] cont_ = G_q4 N_ S_q66 S_q19 S_q10 S_q45 n b b_1 (fun r0 r1 => cont_ (.ptr 0 0) [⟨243, 1, .cells [.bool r0, .roi .u32 r1]⟩]) := by kernel_rfl
theorem good_q4 (N_ : Nat) (S_q66 : TS_q66) (S_q19 : TS_q19) (S_q10 : TS_q10) (S_q45 : TS_q45) (h_binnacleref00_right : GoodF Tryz.prog 234 (F_q66 S_q66)) (h_binnacleref00_Int_put_p0r : GoodF Tryz.prog 212 (F_q19 S_q19)) (h_binnacleref00_minus : GoodF Tryz.prog 235 (F_q10 S_q10)) (h_binnacleref00_plus : GoodF Tryz.prog 236 (F_q45 S_q45)) : GoodF Tryz.prog 223 (F_q4 (G_q4 N_ S_q66 S_q19 S_q10 S_q45)) := by
  refine good_fsZ (cx := ⟨Tryz.prog, ofList [(234, (F_q66 S_q66)), (212, (F_q19 S_q19)), (235, (F_q10 S_q10)), (236, (F_q45 S_q45))], isref, N_⟩) (ofList_cons h_binnacleref00_right (ofList_cons h_binnacleref00_Int_put_p0r (ofList_cons h_binnacleref00_minus (ofList_cons h_binnacleref00_plus (ofList_nil _))))) shF_q4 (sp_q4 (G_q4 N_ S_q66 S_q19 S_q10 S_q45)) (an_q4 N_ S_q66 S_q19 S_q10 S_q45) 0 1 (by kernel_rfl) (fun i_ hi_ => by omega) ?_
  intro a k h
  unfold sp_q4 at h
  split at h
  · exact ⟨[_], rfl, rfl, (eq_q4 _ _ _ _ _ _ _ _ _).trans h⟩
  · cases h

def an_q16 (N_ : Nat) (S_q47 : TS_q47) : Nat → Option Ann := fun b_ => none
theorem eq_q16 (N_ : Nat) (S_q47 : TS_q47) (neg : Bool) (cont_ : V → List Blk → Bool) : bodyV ⟨Tryz.prog, ofList [(206, (F_q47 S_q47))], isref, N_⟩ (an_q16 N_ S_q47) 224 (shF_q16.args [.bool neg]) [] cont_ = G_q16 N_ S_q47 neg (fun r0 => cont_ (.int .u64 r0) []) := by kernel_rfl
theorem good_q16 (N_ : Nat) (S_q47 : TS_q47) (h_v_binnacleref02_Fmt_Infinity : GoodF Tryz.prog 206 (F_q47 S_q47)) : GoodF Tryz.prog 224 (F_q16 (G_q16 N_ S_q47)) := by
  refine good_fs (cx := ⟨Tryz.prog, ofList [(206, (F_q47 S_q47))], isref, N_⟩) (ofList_cons h_v_binnacleref02_Fmt_Infinity (ofList_nil _)) shF_q16 (sp_q16 (G_q16 N_ S_q47)) (an_q16 N_ S_q47) 0 0 (by kernel_rfl) (fun i_ hi_ => by omega) ?_
  intro a k h
  unfold sp_q16 at h
  split at h
  · exact ⟨[], rfl, rfl, (eq_q16 _ _ _ _).trans h⟩
  · cases h

def an_q2 (N_ : Nat) : Nat → Option Ann := fun b_ => none
def ls_q125 (ds_ : List V) (ms_ : List (Option Blk)) (b : Bool) (b_1 : List Int) (u : Int) : St := ⟨[.ptr 0 0, (dq ds_ 0), (dq ds_ 1), .int .u64 u, (dq ds_ 2), (dq ds_ 3), (dq ds_ 4), (dq ds_ 5), (dq ds_ 6), (dq ds_ 7), (dq ds_ 8), (dq ds_ 9), (dq ds_ 10), (dq ds_ 11), (dq ds_ 12), (dq ds_ 13), (dq ds_ 14), (dq ds_ 15), (dq ds_ 16), (dq ds_ 17), (dq ds_ 18), (dq ds_ 19), (dq ds_ 20), (dq ds_ 21), (dq ds_ 22), (dq ds_ 23), (dq ds_ 24), (dq ds_ 25), (dq ds_ 26), (dq ds_ 27), (dq ds_ 28), (dq ds_ 29), (dq ds_ 30), (dq ds_ 31)], [some ⟨243, 1, .cells [.bool b, .roi .u32 b_1]⟩]⟩
theorem jn_q125 (N_ : Nat) (ds_ : List V) (ms_ : List (Option Blk)) (b : Bool) (b_1 : List Int) (u : Int) (cont_ : V → List Blk → Bool) : codesV ⟨Tryz.prog, ofList [], isref, N_⟩ 1 (an_q2 N_) ((cds Tryz.prog 225).drop 4) 0 (ls_q125 ds_ ms_ b b_1 u) (finZ Tryz.prog 225 1 cont_) = J_q125 N_ b b_1 u (fun r0 => cont_ (.int .u64 r0) [⟨243, 1, .cells [.bool b, .roi .u32 b_1]⟩]) := by kernel_rfl
theorem hd_zi_Uint64_p0r_w (N_ : Nat) (b : Bool) (b_1 : List Int) (cont_ : V → List Blk → Bool) (κn_ : St → Bool) : codesV ⟨Tryz.prog, ofList [], isref, N_⟩ 1 (an_q2 N_) (sg Tryz.prog 225 0 4) 0 (st0 Tryz.prog 225 (shF_q2.args [.bool b, .ints b_1]) [⟨243, 1, .cells [.bool b, .roi .u32 b_1]⟩]) { (finZ Tryz.prog 225 1 cont_) with nrm := κn_ } = (cond (decide ((((List.length b_1) : Nat) : Int) > 0)) ((inR 0 (List.length b_1)) && (κn_ (ls_q125 [.any, .int .u64 0, .ptr 0 0, .ptr 0 0, .ptr 0 1, .roi .u32 b_1, .int .i64 (((List.length b_1) : Nat) : Int), .bool true, .ptr 0 0, .ptr 0 0, .ptr 0 1, .roi .u32 b_1, .pi .u32 b_1 0, .int .u32 (List.getD b_1 0 0), .int .u64 (IntKind.wrap .u64 (List.getD b_1 0 0)), .any, .any, .any, .any, .any, .any, .any, .any, .any, .any, .any, .any, .any, .any, .any, .any, .any] [] b b_1 (IntKind.wrap .u64 (List.getD b_1 0 0))))) (κn_ (ls_q125 [.any, .int .u64 0, .ptr 0 0, .ptr 0 0, .ptr 0 1, .roi .u32 b_1, .int .i64 (((List.length b_1) : Nat) : Int), .bool false, .any, .any, .any, .any, .any, .any, .any, .any, .any, .any, .any, .any, .any, .any, .any, .any, .any, .any, .any, .any, .any, .any, .any, .any] [] b b_1 0))) := by kernel_rfl
theorem jn_zi_Uint64_p0r_w (N_ : Nat) (b : Bool) (b_1 : List Int) (cont_ : V → List Blk → Bool) : codesV ⟨Tryz.prog, ofList [], isref, N_⟩ 1 (an_q2 N_) ((cds Tryz.prog 225).drop 0) 0 (st0 Tryz.prog 225 (shF_q2.args [.bool b, .ints b_1]) [⟨243, 1, .cells [.bool b, .roi .u32 b_1]⟩]) (finZ Tryz.prog 225 1 cont_) = G_q2 N_ b b_1 (fun r0 => cont_ (.int .u64 r0) [⟨243, 1, .cells [.bool b, .roi .u32 b_1]⟩]) := by
  rw [codesV_cut 0 4 4 rfl]
  refine (hd_zi_Uint64_p0r_w N_ b b_1 cont_ _).trans ?_
  simp only [jn_q125]
  kernel_rfl
theorem eq_q2 (N_ : Nat) (b : Bool) (b_1 : List Int) (cont_ : V → List Blk → Bool) : bodyZ ⟨Tryz.prog, ofList [], isref, N_⟩ (an_q2 N_) 225 (shF_q2.args [.bool b, .ints b_1]) [⟨243, 1, .cells [.bool b, .roi .u32 b_1]⟩] cont_ = G_q2 N_ b b_1 (fun r0 => cont_ (.int .u64 r0) [⟨243, 1, .cells [.bool b, .roi .u32 b_1]⟩]) :=
  (bodyZ_codes (by kernel_rfl)).trans (jn_zi_Uint64_p0r_w N_ b b_1 cont_)
theorem good_q2 (N_ : Nat) : GoodF Tryz.prog 225 (F_q2 (G_q2 N_)) := by
  refine good_fsZ (cx := ⟨Tryz.prog, ofList [], isref, N_⟩) (ofList_nil _) shF_q2 (sp_q2 (G_q2 N_)) (an_q2 N_) 0 1 (by kernel_rfl) (fun i_ hi_ => by omega) ?_
  intro a k h
  unfold sp_q2 at h
  split at h
  · exact ⟨[_], rfl, rfl, (eq_q2 _ _ _ _).trans h⟩
  · cases h

end Go.Proofs.YtldpkhfffeddiaaGreat
