/-
  THE TIES: each printed meaning is what the program does (written by program).
  Conditions: none.
-/
import Derived.Test.YtccocdgimamdhaaGreatDoorGs
namespace Go.Proofs.YtccocdgimamdhaaGreatDoor
open Go Go.Mach Go.Proofs
set_option linter.unusedVariables false
set_option maxRecDepth 50000

def sh_st_binnacleref00_cut_w_0 : StSh := ⟨[.sl 0, .any, .any, .any, .any, .any, .any, .any, .any, .any, .any, .any, .any, .any, .any, .any, .any, .any, .any, .any, .any], [some (127, 1, .ints .u32)]⟩
def sx0_st_binnacleref00_cut_w_0 : StSh := ⟨[.sl 0, .any, .any, .any, .any, .any, .any, .any, .any, .any, .any, .any, .any, .any, .any, .any, .any, .any, .any, .any, .any], [some (127, 1, .ints .u32)]⟩
def hk_st_binnacleref00_cut_w_0 (N_ : Nat) : List Atom -> K -> Bool := fun a_ κ => match a_ with
  | [.nat m_1, .nat m_2, .ints m_3] => iterG N_ (st_q154 N_ m_1 m_3 (fun r1 => κ.ext 0 (sx0_st_binnacleref00_cut_w_0.build [.nat m_1, .nat r1, .ints m_3]))) m_2
  | _ => false
def an_q9 (N_ : Nat) : Nat -> Option Ann := fun b_ => cond (b_ == 0) (some ⟨⟨[0], [(0, some 0, 0)], []⟩, [(0, ⟨[0], [], []⟩)], some ⟨[2], [], []⟩, some (mkHooks [(sh_st_binnacleref00_cut_w_0, hk_st_binnacleref00_cut_w_0 N_)])⟩) (none)
theorem eq_st_binnacleref00_cut_w_0 (N_ : Nat) (κ : K) (m_1 : Nat) (m_2 : Nat) (m_3 : List Int) : iter N_ (fun s k => codeV ⟨Pg, ofList [], isref, N_⟩ 1 (an_q9 N_) (lp Pg 147 0).2 (lp Pg 147 0).1 s (roundK Pg 1 ((an_q9 N_) (lp Pg 147 0).1) κ k)) (sh_st_binnacleref00_cut_w_0.build [.nat m_1, .nat m_2, .ints m_3]) = iterG N_ (st_q154 N_ m_1 m_3 (fun r1 => κ.ext 0 (sx0_st_binnacleref00_cut_w_0.build [.nat m_1, .nat r1, .ints m_3]))) m_2 :=
  iter_tr (fun v_ => sh_st_binnacleref00_cut_w_0.build [.nat m_1, .nat v_, .ints m_3]) (fun v_ K_ => by kernel_rfl) N_ m_2
theorem hk1_st_binnacleref00_cut_w_0 (N_ : Nat) : HookFor ⟨Pg, ofList [], isref, N_⟩ 1 (an_q9 N_) (lp Pg 147 0) (sh_st_binnacleref00_cut_w_0, hk_st_binnacleref00_cut_w_0 N_) := by
  intro a κ h
  simp only at h
  unfold hk_st_binnacleref00_cut_w_0 at h
  split at h
  · exact (eq_st_binnacleref00_cut_w_0 _ _ _ _ _).trans h
  · cases h
theorem ho_binnacleref00_cut_w_0 (N_ : Nat) : HookOk ⟨Pg, ofList [], isref, N_⟩ 1 (an_q9 N_) (lp Pg 147 0) :=
  hooks_ok [(sh_st_binnacleref00_cut_w_0, hk_st_binnacleref00_cut_w_0 N_)] (by kernel_rfl) ⟨hk1_st_binnacleref00_cut_w_0 _, trivial⟩
theorem eq_q9 (N_ : Nat) (b : List Int) (c_ : V -> List Blk -> Bool) : bodyZ ⟨Pg, ofList [], isref, N_⟩ (an_q9 N_) 147 (shF_q9.args [.ints b]) [⟨127, 1, .ints .u32 b⟩] c_ = G_q9 N_ b (fun r0 r1 => c_ (.sl 0 r0 r1) [⟨127, 1, .ints .u32 b⟩]) := by kernel_rfl
theorem good_q9 (N_ : Nat) : GoodF Pg 147 (F_q9 (G_q9 N_)) := by
  refine good_fsZ (cx := ⟨Pg, ofList [], isref, N_⟩) (ofList_nil _) shF_q9 (sp_q9 (G_q9 N_)) (an_q9 N_) 1 1 (by kernel_rfl) (fun i_ hi_ => by
    match i_, hi_ with
    | 0, _ => exact ho_binnacleref00_cut_w_0 _
    | (q + 1), h => omega) ?_
  intro a k h
  unfold sp_q9 at h
  split at h
  · exact ⟨[_], rfl, rfl, (eq_q9 _ _ _).trans h⟩
  · cases h

def an_q113 (N_ : Nat) (S_q9 : TS_q9) : Nat -> Option Ann := fun b_ => none
theorem eq_q113 (N_ : Nat) (S_q9 : TS_q9) (n : Int) (c_ : V -> List Blk -> Bool) : bodyZ ⟨Pg, ofList [(147, (F_q9 S_q9))], isref, N_⟩ (an_q113 N_ S_q9) 117 (shF_q113.args [.int n]) [] c_ = G_q113 N_ S_q9 n (fun r0 => c_ (.roi .u32 r0) []) := by kernel_rfl
theorem good_q113 (N_ : Nat) (S_q9 : TS_q9) (h_q9 : GoodF Pg 147 (F_q9 S_q9)) : GoodF Pg 117 (F_q113 (G_q113 N_ S_q9)) := by
  refine good_fsZ (cx := ⟨Pg, ofList [(147, (F_q9 S_q9))], isref, N_⟩) (ofList_cons h_q9 (ofList_nil _)) shF_q113 (sp_q113 (G_q113 N_ S_q9)) (an_q113 N_ S_q9) 0 0 (by kernel_rfl) (fun i_ hi_ => by omega) ?_
  intro a k h
  unfold sp_q113 at h
  split at h
  · exact ⟨[], rfl, rfl, (eq_q113 _ _ _ _).trans h⟩
  · cases h

def sh_st_binnacleref00_cut_0 : StSh := ⟨[.roi .u32, .any, .any, .any, .any, .any, .any, .any, .any, .any, .any, .any, .any, .any, .any, .any, .any, .any, .any, .any, .any], []⟩
def sx0_st_binnacleref00_cut_0 : StSh := ⟨[.roi .u32, .any, .any, .any, .any, .any, .any, .any, .any, .any, .any, .any, .any, .any, .any, .any, .any, .any, .any, .any, .any], []⟩
def hk_st_binnacleref00_cut_0 (N_ : Nat) : List Atom -> K -> Bool := fun a_ κ => match a_ with
  | [.ints m_1] => iterG N_ (st_z00_cut_0 N_ (fun r0 => κ.ext 0 (sx0_st_binnacleref00_cut_0.build [.ints r0]))) m_1
  | _ => false
def an_q128 (N_ : Nat) : Nat -> Option Ann := fun b_ => cond (b_ == 0) (some ⟨⟨[0], [], []⟩, [(0, ⟨[0], [], []⟩)], some ⟨[2], [], []⟩, some (mkHooks [(sh_st_binnacleref00_cut_0, hk_st_binnacleref00_cut_0 N_)])⟩) (none)
theorem eq_st_binnacleref00_cut_0 (N_ : Nat) (κ : K) (m_1 : List Int) : iter N_ (fun s k => codeV ⟨Pg, ofList [], isref, N_⟩ 0 (an_q128 N_) (lp Pg 147 0).2 (lp Pg 147 0).1 s (roundK Pg 0 ((an_q128 N_) (lp Pg 147 0).1) κ k)) (sh_st_binnacleref00_cut_0.build [.ints m_1]) = iterG N_ (st_z00_cut_0 N_ (fun r0 => κ.ext 0 (sx0_st_binnacleref00_cut_0.build [.ints r0]))) m_1 :=
  iter_tr (fun v_ => sh_st_binnacleref00_cut_0.build [.ints v_]) (fun v_ K_ => by kernel_rfl) N_ m_1
theorem hk1_st_binnacleref00_cut_0 (N_ : Nat) : HookFor ⟨Pg, ofList [], isref, N_⟩ 0 (an_q128 N_) (lp Pg 147 0) (sh_st_binnacleref00_cut_0, hk_st_binnacleref00_cut_0 N_) := by
  intro a κ h
  simp only at h
  unfold hk_st_binnacleref00_cut_0 at h
  split at h
  · exact (eq_st_binnacleref00_cut_0 _ _ _).trans h
  · cases h
theorem ho_binnacleref00_cut_0 (N_ : Nat) : HookOk ⟨Pg, ofList [], isref, N_⟩ 0 (an_q128 N_) (lp Pg 147 0) :=
  hooks_ok [(sh_st_binnacleref00_cut_0, hk_st_binnacleref00_cut_0 N_)] (by kernel_rfl) ⟨hk1_st_binnacleref00_cut_0 _, trivial⟩
theorem eq_q128 (N_ : Nat) (m : List Int) (c_ : V -> List Blk -> Bool) : bodyZ ⟨Pg, ofList [], isref, N_⟩ (an_q128 N_) 147 (shF_q128.args [.ints m]) [] c_ = G_q128 N_ m (fun r0 => c_ (.roi .u32 r0) []) := by kernel_rfl
theorem good_q128 (N_ : Nat) : GoodF Pg 147 (F_q128 (G_q128 N_)) := by
  refine good_fsZ (cx := ⟨Pg, ofList [], isref, N_⟩) (ofList_nil _) shF_q128 (sp_q128 (G_q128 N_)) (an_q128 N_) 1 0 (by kernel_rfl) (fun i_ hi_ => by
    match i_, hi_ with
    | 0, _ => exact ho_binnacleref00_cut_0 _
    | (q + 1), h => omega) ?_
  intro a k h
  unfold sp_q128 at h
  split at h
  · exact ⟨[], rfl, rfl, (eq_q128 _ _ _).trans h⟩
  · cases h

def an_q50 (N_ : Nat) (S_q128 : TS_q128) : Nat -> Option Ann := fun b_ => none
theorem eq_q50 (N_ : Nat) (S_q128 : TS_q128) (neg : Bool) (m : List Int) (b : Bool) (c_ : V -> List Blk -> Bool) : bodyZ ⟨Pg, ofList [(147, (F_q128 S_q128))], isref, N_⟩ (an_q50 N_ S_q128) 113 (shF_q50.args [.bool neg, .ints m, .bool b]) [⟨105, 1, .cells [.bool b, .nil]⟩] c_ = G_q50 N_ S_q128 neg m b (fun r0 r1 => c_ (.ptr 0 0) [⟨105, 1, .cells [.bool r0, .roi .u32 r1]⟩]) := by kernel_rfl
theorem good_q50 (N_ : Nat) (S_q128 : TS_q128) (h_q128 : GoodF Pg 147 (F_q128 S_q128)) : GoodF Pg 113 (F_q50 (G_q50 N_ S_q128)) := by
  refine good_fsZ (cx := ⟨Pg, ofList [(147, (F_q128 S_q128))], isref, N_⟩) (ofList_cons h_q128 (ofList_nil _)) shF_q50 (sp_q50 (G_q50 N_ S_q128)) (an_q50 N_ S_q128) 0 1 (by kernel_rfl) (fun i_ hi_ => by omega) ?_
  intro a k h
  unfold sp_q50 at h
  split at h
  · exact ⟨[_], rfl, rfl, (eq_q50 _ _ _ _ _ _).trans h⟩
  · cases h

def an_q59 (N_ : Nat) (S_q113 : TS_q113) (S_q50 : TS_q50) : Nat -> Option Ann := fun b_ => none
theorem eq_q59 (N_ : Nat) (S_q113 : TS_q113) (S_q50 : TS_q50) (n : Int) (b : Bool) (c_ : V -> List Blk -> Bool) : bodyZ ⟨Pg, ofList [(117, (F_q113 S_q113)), (113, (F_q50 S_q50))], isref, N_⟩ (an_q59 N_ S_q113 S_q50) 66 (shF_q59.args [.int n, .bool b]) [⟨105, 1, .cells [.bool b, .nil]⟩] c_ = G_q59 N_ S_q113 S_q50 n b (fun r0 r1 => c_ (.ptr 0 0) [⟨105, 1, .cells [.bool r0, .roi .u32 r1]⟩]) := by kernel_rfl
theorem good_q59 (N_ : Nat) (S_q113 : TS_q113) (S_q50 : TS_q50) (h_q113 : GoodF Pg 117 (F_q113 S_q113)) (h_q50 : GoodF Pg 113 (F_q50 S_q50)) : GoodF Pg 66 (F_q59 (G_q59 N_ S_q113 S_q50)) := by
  refine good_fsZ (cx := ⟨Pg, ofList [(117, (F_q113 S_q113)), (113, (F_q50 S_q50))], isref, N_⟩) (ofList_cons h_q113 (ofList_cons h_q50 (ofList_nil _))) shF_q59 (sp_q59 (G_q59 N_ S_q113 S_q50)) (an_q59 N_ S_q113 S_q50) 0 1 (by kernel_rfl) (fun i_ hi_ => by omega) ?_
  intro a k h
  unfold sp_q59 at h
  split at h
  · exact ⟨[_], rfl, rfl, (eq_q59 _ _ _ _ _ _).trans h⟩
  · cases h

def an_q83 (N_ : Nat) (S_q9 : TS_q9) : Nat -> Option Ann := fun b_ => none
theorem eq_q83 (N_ : Nat) (S_q9 : TS_q9) (neg : Bool) (b : Bool) (b_1 : List Int) (b_2 : List Int) (c_ : V -> List Blk -> Bool) : bodyZ ⟨Pg, ofList [(147, (F_q9 S_q9))], isref, N_⟩ (an_q83 N_ S_q9) 113 (shF_q83.args [.bool neg, .bool b, .ints b_1, .ints b_2]) [⟨105, 1, .cells [.bool b, .roi .u32 b_1]⟩, ⟨127, 1, .ints .u32 b_2⟩] c_ = G_q83 N_ S_q9 neg b b_1 b_2 (fun r0 r1 r2 => c_ (.ptr 0 0) [⟨105, 1, .cells [.bool r0, .sl 1 r1 r2]⟩, ⟨127, 1, .ints .u32 b_2⟩]) := by kernel_rfl
theorem good_q83 (N_ : Nat) (S_q9 : TS_q9) (h_q9 : GoodF Pg 147 (F_q9 S_q9)) : GoodF Pg 113 (F_q83 (G_q83 N_ S_q9)) := by
  refine good_fsZ (cx := ⟨Pg, ofList [(147, (F_q9 S_q9))], isref, N_⟩) (ofList_cons h_q9 (ofList_nil _)) shF_q83 (sp_q83 (G_q83 N_ S_q9)) (an_q83 N_ S_q9) 0 2 (by kernel_rfl) (fun i_ hi_ => by omega) ?_
  intro a k h
  unfold sp_q83 at h
  split at h
  · exact ⟨[_, _], rfl, rfl, (eq_q83 _ _ _ _ _ _ _).trans h⟩
  · cases h

def an_q81 (N_ : Nat) (S_q83 : TS_q83) : Nat -> Option Ann := fun b_ => none
theorem eq_q81 (N_ : Nat) (S_q83 : TS_q83) (b : Bool) (b_1 : List Int) (c_ : V -> List Blk -> Bool) : bodyZ ⟨Pg, ofList [(113, (F_q83 S_q83))], isref, N_⟩ (an_q81 N_ S_q83) 67 (shF_q81.args [.bool b, .ints b_1]) [⟨105, 1, .cells [.bool b, .roi .u32 b_1]⟩] c_ = G_q81 N_ S_q83 b b_1 (fun r0 r1 => c_ (.ptr 0 0) [⟨105, 1, .cells [.bool r0, .roi .u32 r1]⟩]) := by kernel_rfl
theorem good_q81 (N_ : Nat) (S_q83 : TS_q83) (h_q83 : GoodF Pg 113 (F_q83 S_q83)) : GoodF Pg 67 (F_q81 (G_q81 N_ S_q83)) := by
  refine good_fsZ (cx := ⟨Pg, ofList [(113, (F_q83 S_q83))], isref, N_⟩) (ofList_cons h_q83 (ofList_nil _)) shF_q81 (sp_q81 (G_q81 N_ S_q83)) (an_q81 N_ S_q83) 0 1 (by kernel_rfl) (fun i_ hi_ => by omega) ?_
  intro a k h
  unfold sp_q81 at h
  split at h
  · exact ⟨[_], rfl, rfl, (eq_q81 _ _ _ _ _).trans h⟩
  · cases h

def an_q108 (N_ : Nat) (S_q103 : TS_q103) (S_q59 : TS_q59) (S_q81 : TS_q81) : Nat -> Option Ann := fun b_ => none
theorem eq_q108 (N_ : Nat) (S_q103 : TS_q103) (S_q59 : TS_q59) (S_q81 : TS_q81) (x : Fl) (c_ : V -> List Blk -> Bool) : bodyV ⟨Pg, ofList [(65, (F_q103 S_q103)), (66, (F_q59 S_q59)), (67, (F_q81 S_q81))], isref, N_⟩ (an_q108 N_ S_q103 S_q59 S_q81) 15 (shF_q108.args [.fl x]) [] c_ = G_q108 N_ S_q103 S_q59 S_q81 x (fun r0 r1 r2 => c_ (.agg [.ptr 0 0, .int .i64 r0]) [⟨105, 1, .cells [.bool r1, .roi .u32 r2]⟩]) := by kernel_rfl
theorem good_q108 (N_ : Nat) (S_q103 : TS_q103) (S_q59 : TS_q59) (S_q81 : TS_q81) (h_q103 : GoodF Pg 65 (F_q103 S_q103)) (h_q59 : GoodF Pg 66 (F_q59 S_q59)) (h_q81 : GoodF Pg 67 (F_q81 S_q81)) : GoodF Pg 15 (F_q108 (G_q108 N_ S_q103 S_q59 S_q81)) := by
  refine good_fs (cx := ⟨Pg, ofList [(65, (F_q103 S_q103)), (66, (F_q59 S_q59)), (67, (F_q81 S_q81))], isref, N_⟩) (ofList_cons h_q103 (ofList_cons h_q59 (ofList_cons h_q81 (ofList_nil _)))) shF_q108 (sp_q108 (G_q108 N_ S_q103 S_q59 S_q81)) (an_q108 N_ S_q103 S_q59 S_q81) 0 0 (by kernel_rfl) (fun i_ hi_ => by omega) ?_
  intro a k h
  unfold sp_q108 at h
  split at h
  · exact ⟨[], rfl, rfl, (eq_q108 _ _ _ _ _ _).trans h⟩
  · cases h

def sh_st_binnacleref00_times_2 : StSh := ⟨[.roi .u32, .roi .u32, .any, .any, .any, .slw 0, .int .i64, .int .u64, .int .i64, .any, .any, .any, .any, .any, .any, .any, .any, .any, .any, .any, .any, .any, .any, .any, .any, .any, .any, .any, .any, .any, .any, .any, .any, .any, .any, .any, .any, .any, .any, .any, .any, .any, .any, .any, .any, .any, .any, .any, .any, .any, .any, .any, .any, .any, .any, .any, .any, .any, .any, .any, .any, .any, .any, .any, .any, .any, .any, .any], [some (127, 1, .ints .u32)]⟩
def sx0_st_binnacleref00_times_2 : StSh := ⟨[.roi .u32, .roi .u32, .any, .any, .any, .slw 0, .int .i64, .int .u64, .any, .any, .any, .any, .any, .any, .any, .any, .any, .any, .any, .any, .any, .any, .any, .any, .any, .any, .any, .any, .any, .any, .any, .any, .any, .any, .any, .any, .any, .any, .any, .any, .any, .any, .any, .any, .any, .any, .any, .any, .any, .any, .any, .any, .any, .any, .any, .any, .any, .any, .any, .any, .any, .any, .any, .any, .any, .any, .any, .any], [some (127, 1, .ints .u32)]⟩
def hk_st_binnacleref00_times_2 (N_ : Nat) (S_q9 : TS_q9) : List Atom -> K -> Bool := fun a_ κ => match a_ with
  | [.ints a_2, .ints b_2, .int i_1, .int carry, .int k_, .ints out_1] => iterG N_ (st_z00_times_2 N_ S_q9 a_2 b_2 i_1 (fun r3 r4 => κ.ext 2 (sx0_st_binnacleref00_times_2.build [.ints a_2, .ints b_2, .int i_1, .int r3, .ints r4]))) (carry, k_, out_1)
  | _ => false
def sh_st_binnacleref00_times_0 : StSh := ⟨[.roi .u32, .roi .u32, .any, .any, .any, .slw 0, .int .i64, .any, .any, .any, .any, .any, .any, .any, .any, .any, .any, .any, .any, .any, .any, .any, .any, .any, .any, .any, .any, .any, .any, .any, .any, .any, .any, .any, .any, .any, .any, .any, .any, .any, .any, .any, .any, .any, .any, .any, .any, .any, .any, .any, .any, .any, .any, .any, .any, .any, .any, .any, .any, .any, .any, .any, .any, .any, .any, .any, .any, .any], [some (127, 1, .ints .u32)]⟩
def sx0_st_binnacleref00_times_0 : StSh := ⟨[.any, .any, .any, .any, .any, .slw 0, .any, .any, .any, .any, .any, .any, .any, .any, .any, .any, .any, .any, .any, .any, .any, .any, .any, .any, .any, .any, .any, .any, .any, .any, .any, .any, .any, .any, .any, .any, .any, .any, .any, .any, .any, .any, .any, .any, .any, .any, .any, .any, .any, .any, .any, .any, .any, .any, .any, .any, .any, .any, .any, .any, .any, .any, .any, .any, .any, .any, .any, .any], [some (127, 1, .ints .u32)]⟩
def hk_st_binnacleref00_times_0 (N_ : Nat) (S_q9 : TS_q9) : List Atom -> K -> Bool := fun a_ κ => match a_ with
  | [.ints a_1, .ints b_1, .int i, .ints out] => iterG N_ (st_z00_times_0 N_ S_q9 a_1 b_1 (fun r0 => κ.ext 0 (sx0_st_binnacleref00_times_0.build [.ints r0]))) (i, out)
  | _ => false
def an_q101 (N_ : Nat) (S_q9 : TS_q9) : Nat -> Option Ann := fun b_ => cond (b_ == 2) (some ⟨⟨[0, 1, 5, 6, 7, 8], [], []⟩, [(2, ⟨[0, 1, 5, 6, 7], [], []⟩)], some ⟨[4], [], []⟩, some (mkHooks [(sh_st_binnacleref00_times_2, hk_st_binnacleref00_times_2 N_ S_q9)])⟩) (cond (b_ == 0) (some ⟨⟨[0, 1, 5, 6], [], []⟩, [(0, ⟨[5], [], []⟩)], some ⟨[4], [], []⟩, some (mkHooks [(sh_st_binnacleref00_times_0, hk_st_binnacleref00_times_0 N_ S_q9)])⟩) (none))
theorem eq_st_binnacleref00_times_2 (N_ : Nat) (S_q9 : TS_q9) (κ : K) (a_2 : List Int) (b_2 : List Int) (i_1 : Int) (carry : Int) (k_ : Int) (out_1 : List Int) : iter N_ (fun s k => codeV ⟨Pg, ofList [(147, (F_q9 S_q9))], isref, N_⟩ 0 (an_q101 N_ S_q9) (lp Pg 114 1).2 (lp Pg 114 1).1 s (roundK Pg 0 ((an_q101 N_ S_q9) (lp Pg 114 1).1) κ k)) (sh_st_binnacleref00_times_2.build [.ints a_2, .ints b_2, .int i_1, .int carry, .int k_, .ints out_1]) = iterG N_ (st_z00_times_2 N_ S_q9 a_2 b_2 i_1 (fun r3 r4 => κ.ext 2 (sx0_st_binnacleref00_times_2.build [.ints a_2, .ints b_2, .int i_1, .int r3, .ints r4]))) (carry, k_, out_1) :=
  iter_tr (fun (v_ : Int × Int × List Int) => sh_st_binnacleref00_times_2.build [.ints a_2, .ints b_2, .int i_1, .int v_.1, .int v_.2.1, .ints v_.2.2]) (fun v_ K_ => by obtain ⟨carry, k_, out_1⟩ := v_; kernel_rfl) N_ (carry, k_, out_1)
theorem hk1_st_binnacleref00_times_2 (N_ : Nat) (S_q9 : TS_q9) : HookFor ⟨Pg, ofList [(147, (F_q9 S_q9))], isref, N_⟩ 0 (an_q101 N_ S_q9) (lp Pg 114 1) (sh_st_binnacleref00_times_2, hk_st_binnacleref00_times_2 N_ S_q9) := by
  intro a κ h
  simp only at h
  unfold hk_st_binnacleref00_times_2 at h
  split at h
  · exact (eq_st_binnacleref00_times_2 _ _ _ _ _ _ _ _ _).trans h
  · cases h
theorem eq_st_binnacleref00_times_0 (N_ : Nat) (S_q9 : TS_q9) (κ : K) (a_1 : List Int) (b_1 : List Int) (i : Int) (out : List Int) : iter N_ (fun s k => codeV ⟨Pg, ofList [(147, (F_q9 S_q9))], isref, N_⟩ 0 (an_q101 N_ S_q9) (lp Pg 114 0).2 (lp Pg 114 0).1 s (roundK Pg 0 ((an_q101 N_ S_q9) (lp Pg 114 0).1) κ k)) (sh_st_binnacleref00_times_0.build [.ints a_1, .ints b_1, .int i, .ints out]) = iterG N_ (st_z00_times_0 N_ S_q9 a_1 b_1 (fun r0 => κ.ext 0 (sx0_st_binnacleref00_times_0.build [.ints r0]))) (i, out) :=
  iter_tr (fun (v_ : Int × List Int) => sh_st_binnacleref00_times_0.build [.ints a_1, .ints b_1, .int v_.1, .ints v_.2]) (fun v_ K_ => by obtain ⟨i, out⟩ := v_; kernel_rfl) N_ (i, out)
theorem hk1_st_binnacleref00_times_0 (N_ : Nat) (S_q9 : TS_q9) : HookFor ⟨Pg, ofList [(147, (F_q9 S_q9))], isref, N_⟩ 0 (an_q101 N_ S_q9) (lp Pg 114 0) (sh_st_binnacleref00_times_0, hk_st_binnacleref00_times_0 N_ S_q9) := by
  intro a κ h
  simp only at h
  unfold hk_st_binnacleref00_times_0 at h
  split at h
  · exact (eq_st_binnacleref00_times_0 _ _ _ _ _ _ _).trans h
  · cases h
theorem ho_binnacleref00_times_2 (N_ : Nat) (S_q9 : TS_q9) : HookOk ⟨Pg, ofList [(147, (F_q9 S_q9))], isref, N_⟩ 0 (an_q101 N_ S_q9) (lp Pg 114 1) :=
  hooks_ok [(sh_st_binnacleref00_times_2, hk_st_binnacleref00_times_2 N_ S_q9)] (by kernel_rfl) ⟨hk1_st_binnacleref00_times_2 _ _, trivial⟩
theorem ho_binnacleref00_times_0 (N_ : Nat) (S_q9 : TS_q9) : HookOk ⟨Pg, ofList [(147, (F_q9 S_q9))], isref, N_⟩ 0 (an_q101 N_ S_q9) (lp Pg 114 0) :=
  hooks_ok [(sh_st_binnacleref00_times_0, hk_st_binnacleref00_times_0 N_ S_q9)] (by kernel_rfl) ⟨hk1_st_binnacleref00_times_0 _ _, trivial⟩
theorem eq_q101 (N_ : Nat) (S_q9 : TS_q9) (a : List Int) (b : List Int) (c_ : V -> List Blk -> Bool) : bodyZ ⟨Pg, ofList [(147, (F_q9 S_q9))], isref, N_⟩ (an_q101 N_ S_q9) 114 (shF_q101.args [.ints a, .ints b]) [] c_ = G_q101 N_ S_q9 a b (fun r0 => c_ (.roi .u32 r0) []) := by kernel_rfl
theorem good_q101 (N_ : Nat) (S_q9 : TS_q9) (h_q9 : GoodF Pg 147 (F_q9 S_q9)) : GoodF Pg 114 (F_q101 (G_q101 N_ S_q9)) := by
  refine good_fsZ (cx := ⟨Pg, ofList [(147, (F_q9 S_q9))], isref, N_⟩) (ofList_cons h_q9 (ofList_nil _)) shF_q101 (sp_q101 (G_q101 N_ S_q9)) (an_q101 N_ S_q9) 2 0 (by kernel_rfl) (fun i_ hi_ => by
    match i_, hi_ with
    | 0, _ => exact ho_binnacleref00_times_0 _ _
    | 1, _ => exact ho_binnacleref00_times_2 _ _
    | (q + 2), h => omega) ?_
  intro a k h
  unfold sp_q101 at h
  split at h
  · exact ⟨[], rfl, rfl, (eq_q101 _ _ _ _ _).trans h⟩
  · cases h

def an_q61 (N_ : Nat) (S_q101 : TS_q101) (S_q50 : TS_q50) : Nat -> Option Ann := fun b_ => none
theorem eq_q61 (N_ : Nat) (S_q101 : TS_q101) (S_q50 : TS_q50) (b : Bool) (b_1 : Bool) (b_2 : List Int) (b_3 : Bool) (b_4 : List Int) (c_ : V -> List Blk -> Bool) : bodyZ ⟨Pg, ofList [(114, (F_q101 S_q101)), (113, (F_q50 S_q50))], isref, N_⟩ (an_q61 N_ S_q101 S_q50) 64 (shF_q61.args [.bool b, .bool b_1, .ints b_2, .bool b_3, .ints b_4]) [⟨105, 1, .cells [.bool b, .nil]⟩, ⟨105, 1, .cells [.bool b_1, .roi .u32 b_2]⟩, ⟨105, 1, .cells [.bool b_3, .roi .u32 b_4]⟩] c_ = G_q61 N_ S_q101 S_q50 b b_1 b_2 b_3 b_4 (fun r0 r1 => c_ (.ptr 0 0) [⟨105, 1, .cells [.bool r0, .roi .u32 r1]⟩, ⟨105, 1, .cells [.bool b_1, .roi .u32 b_2]⟩, ⟨105, 1, .cells [.bool b_3, .roi .u32 b_4]⟩]) := by kernel_rfl
theorem good_q61 (N_ : Nat) (S_q101 : TS_q101) (S_q50 : TS_q50) (h_q101 : GoodF Pg 114 (F_q101 S_q101)) (h_q50 : GoodF Pg 113 (F_q50 S_q50)) : GoodF Pg 64 (F_q61 (G_q61 N_ S_q101 S_q50)) := by
  refine good_fsZ (cx := ⟨Pg, ofList [(114, (F_q101 S_q101)), (113, (F_q50 S_q50))], isref, N_⟩) (ofList_cons h_q101 (ofList_cons h_q50 (ofList_nil _))) shF_q61 (sp_q61 (G_q61 N_ S_q101 S_q50)) (an_q61 N_ S_q101 S_q50) 0 3 (by kernel_rfl) (fun i_ hi_ => by omega) ?_
  intro a k h
  unfold sp_q61 at h
  split at h
  · exact ⟨[_, _, _], rfl, rfl, (eq_q61 _ _ _ _ _ _ _ _ _).trans h⟩
  · cases h

def an_q5 (N_ : Nat) (S_q61 : TS_q61) : Nat -> Option Ann := fun b_ => none
theorem eq_q5 (N_ : Nat) (S_q61 : TS_q61) (x : Int) (y : Int) (b : Bool) (b_1 : List Int) (b_2 : Bool) (b_3 : List Int) (c_ : V -> List Blk -> Bool) : bodyV ⟨Pg, ofList [(64, (F_q61 S_q61))], isref, N_⟩ (an_q5 N_ S_q61) 13 (shF_q5.args [.int x, .int y, .bool b, .ints b_1, .bool b_2, .ints b_3]) [⟨105, 1, .cells [.bool b, .roi .u32 b_1]⟩, ⟨105, 1, .cells [.bool b_2, .roi .u32 b_3]⟩] c_ = G_q5 N_ S_q61 x y b b_1 b_2 b_3 (fun r0 r5 r6 => c_ (.agg [.ptr 2 0, .int .i64 r0]) [⟨105, 1, .cells [.bool b, .roi .u32 b_1]⟩, ⟨105, 1, .cells [.bool b_2, .roi .u32 b_3]⟩, ⟨105, 1, .cells [.bool r5, .roi .u32 r6]⟩]) := by kernel_rfl
theorem good_q5 (N_ : Nat) (S_q61 : TS_q61) (h_q61 : GoodF Pg 64 (F_q61 S_q61)) : GoodF Pg 13 (F_q5 (G_q5 N_ S_q61)) := by
  refine good_fs (cx := ⟨Pg, ofList [(64, (F_q61 S_q61))], isref, N_⟩) (ofList_cons h_q61 (ofList_nil _)) shF_q5 (sp_q5 (G_q5 N_ S_q61)) (an_q5 N_ S_q61) 0 2 (by kernel_rfl) (fun i_ hi_ => by omega) ?_
  intro a k h
  unfold sp_q5 at h
  split at h
  · exact ⟨[_, _], rfl, rfl, (eq_q5 _ _ _ _ _ _ _ _ _).trans h⟩
  · cases h

def an_q91 (N_ : Nat) : Nat -> Option Ann := fun b_ => none
theorem eq_q91 (N_ : Nat) (b : Bool) (c_ : V -> List Blk -> Bool) : bodyZ ⟨Pg, ofList [], isref, N_⟩ (an_q91 N_) 63 (shF_q91.args [.bool b]) [⟨105, 1, .cells [.bool b, .nil]⟩] c_ = G_q91 N_ b (fun r0 r2 => c_ (.int .i64 r0) [⟨105, 1, .cells [.bool b, .roi .u32 r2]⟩]) := by kernel_rfl
theorem good_q91 (N_ : Nat) : GoodF Pg 63 (F_q91 (G_q91 N_)) := by
  refine good_fsZ (cx := ⟨Pg, ofList [], isref, N_⟩) (ofList_nil _) shF_q91 (sp_q91 (G_q91 N_)) (an_q91 N_) 0 1 (by kernel_rfl) (fun i_ hi_ => by omega) ?_
  intro a k h
  unfold sp_q91 at h
  split at h
  · exact ⟨[_], rfl, rfl, (eq_q91 _ _ _).trans h⟩
  · cases h

def an_q53 (N_ : Nat) : Nat -> Option Ann := fun b_ => none
theorem eq_q53 (N_ : Nat) (b : Bool) (b_1 : List Int) (c_ : V -> List Blk -> Bool) : bodyZ ⟨Pg, ofList [], isref, N_⟩ (an_q53 N_) 63 (shF_q53.args [.bool b, .ints b_1]) [⟨105, 1, .cells [.bool b, .roi .u32 b_1]⟩] c_ = G_q53 N_ b b_1 (fun r0 => c_ (.int .i64 r0) [⟨105, 1, .cells [.bool b, .roi .u32 b_1]⟩]) := by kernel_rfl
theorem good_q53 (N_ : Nat) : GoodF Pg 63 (F_q53 (G_q53 N_)) := by
  refine good_fsZ (cx := ⟨Pg, ofList [], isref, N_⟩) (ofList_nil _) shF_q53 (sp_q53 (G_q53 N_)) (an_q53 N_) 0 1 (by kernel_rfl) (fun i_ hi_ => by omega) ?_
  intro a k h
  unfold sp_q53 at h
  split at h
  · exact ⟨[_], rfl, rfl, (eq_q53 _ _ _ _).trans h⟩
  · cases h

def sh_st_binnacleref00_left_0 : StSh := ⟨[.roi .u32, .any, .any, .any, .any, .int .i64, .int .u64, .slw 0, .int .i64, .any, .any, .any, .any, .any, .any, .any, .any, .any, .any, .any, .any, .any, .any, .any, .any, .any, .any, .any, .any, .any, .any, .any, .any, .any, .any, .any, .any, .any, .any, .any, .any, .any, .any, .any, .any, .any, .any, .any, .any, .any, .any, .any, .any, .any, .any, .any, .any, .any], [some (127, 1, .ints .u32)]⟩
def sx0_st_binnacleref00_left_0 : StSh := ⟨[.any, .any, .any, .any, .any, .any, .any, .slw 0, .any, .any, .any, .any, .any, .any, .any, .any, .any, .any, .any, .any, .any, .any, .any, .any, .any, .any, .any, .any, .any, .any, .any, .any, .any, .any, .any, .any, .any, .any, .any, .any, .any, .any, .any, .any, .any, .any, .any, .any, .any, .any, .any, .any, .any, .any, .any, .any, .any, .any], [some (127, 1, .ints .u32)]⟩
def hk_st_binnacleref00_left_0 (N_ : Nat) (S_q9 : TS_q9) : List Atom -> K -> Bool := fun a_ κ => match a_ with
  | [.ints m_1, .int w, .int s, .int i, .ints out] => iterG N_ (st_z00_left_0 N_ S_q9 m_1 w s (fun r0 => κ.ext 0 (sx0_st_binnacleref00_left_0.build [.ints r0]))) (i, out)
  | _ => false
def an_q119 (N_ : Nat) (S_q9 : TS_q9) : Nat -> Option Ann := fun b_ => cond (b_ == 0) (some ⟨⟨[0, 5, 6, 7, 8], [], []⟩, [(0, ⟨[7], [], []⟩)], some ⟨[4], [], []⟩, some (mkHooks [(sh_st_binnacleref00_left_0, hk_st_binnacleref00_left_0 N_ S_q9)])⟩) (none)
theorem eq_st_binnacleref00_left_0 (N_ : Nat) (S_q9 : TS_q9) (κ : K) (m_1 : List Int) (w : Int) (s : Int) (i : Int) (out : List Int) : iter N_ (fun s k => codeV ⟨Pg, ofList [(147, (F_q9 S_q9))], isref, N_⟩ 0 (an_q119 N_ S_q9) (lp Pg 183 0).2 (lp Pg 183 0).1 s (roundK Pg 0 ((an_q119 N_ S_q9) (lp Pg 183 0).1) κ k)) (sh_st_binnacleref00_left_0.build [.ints m_1, .int w, .int s, .int i, .ints out]) = iterG N_ (st_z00_left_0 N_ S_q9 m_1 w s (fun r0 => κ.ext 0 (sx0_st_binnacleref00_left_0.build [.ints r0]))) (i, out) :=
  iter_tr (fun (v_ : Int × List Int) => sh_st_binnacleref00_left_0.build [.ints m_1, .int w, .int s, .int v_.1, .ints v_.2]) (fun v_ K_ => by obtain ⟨i, out⟩ := v_; kernel_rfl) N_ (i, out)
theorem hk1_st_binnacleref00_left_0 (N_ : Nat) (S_q9 : TS_q9) : HookFor ⟨Pg, ofList [(147, (F_q9 S_q9))], isref, N_⟩ 0 (an_q119 N_ S_q9) (lp Pg 183 0) (sh_st_binnacleref00_left_0, hk_st_binnacleref00_left_0 N_ S_q9) := by
  intro a κ h
  simp only at h
  unfold hk_st_binnacleref00_left_0 at h
  split at h
  · exact (eq_st_binnacleref00_left_0 _ _ _ _ _ _ _ _).trans h
  · cases h
theorem ho_binnacleref00_left_0 (N_ : Nat) (S_q9 : TS_q9) : HookOk ⟨Pg, ofList [(147, (F_q9 S_q9))], isref, N_⟩ 0 (an_q119 N_ S_q9) (lp Pg 183 0) :=
  hooks_ok [(sh_st_binnacleref00_left_0, hk_st_binnacleref00_left_0 N_ S_q9)] (by kernel_rfl) ⟨hk1_st_binnacleref00_left_0 _ _, trivial⟩
theorem eq_q119 (N_ : Nat) (S_q9 : TS_q9) (m : List Int) (n : Int) (c_ : V -> List Blk -> Bool) : bodyZ ⟨Pg, ofList [(147, (F_q9 S_q9))], isref, N_⟩ (an_q119 N_ S_q9) 183 (shF_q119.args [.ints m, .int n]) [] c_ = G_q119 N_ S_q9 m n (fun r0 => c_ (.roi .u32 r0) []) := by kernel_rfl
theorem good_q119 (N_ : Nat) (S_q9 : TS_q9) (h_q9 : GoodF Pg 147 (F_q9 S_q9)) : GoodF Pg 183 (F_q119 (G_q119 N_ S_q9)) := by
  refine good_fsZ (cx := ⟨Pg, ofList [(147, (F_q9 S_q9))], isref, N_⟩) (ofList_cons h_q9 (ofList_nil _)) shF_q119 (sp_q119 (G_q119 N_ S_q9)) (an_q119 N_ S_q9) 1 0 (by kernel_rfl) (fun i_ hi_ => by
    match i_, hi_ with
    | 0, _ => exact ho_binnacleref00_left_0 _ _
    | (q + 1), h => omega) ?_
  intro a k h
  unfold sp_q119 at h
  split at h
  · exact ⟨[], rfl, rfl, (eq_q119 _ _ _ _ _).trans h⟩
  · cases h

def an_q72 (N_ : Nat) (S_q119 : TS_q119) (S_q50 : TS_q50) : Nat -> Option Ann := fun b_ => none
theorem eq_q72 (N_ : Nat) (S_q119 : TS_q119) (S_q50 : TS_q50) (n : Int) (b : Bool) (b_1 : Bool) (b_2 : List Int) (c_ : V -> List Blk -> Bool) : bodyZ ⟨Pg, ofList [(183, (F_q119 S_q119)), (113, (F_q50 S_q50))], isref, N_⟩ (an_q72 N_ S_q119 S_q50) 146 (shF_q72.args [.int n, .bool b, .bool b_1, .ints b_2]) [⟨105, 1, .cells [.bool b, .nil]⟩, ⟨105, 1, .cells [.bool b_1, .roi .u32 b_2]⟩] c_ = G_q72 N_ S_q119 S_q50 n b b_1 b_2 (fun r0 r1 => c_ (.ptr 0 0) [⟨105, 1, .cells [.bool r0, .roi .u32 r1]⟩, ⟨105, 1, .cells [.bool b_1, .roi .u32 b_2]⟩]) := by kernel_rfl
theorem good_q72 (N_ : Nat) (S_q119 : TS_q119) (S_q50 : TS_q50) (h_q119 : GoodF Pg 183 (F_q119 S_q119)) (h_q50 : GoodF Pg 113 (F_q50 S_q50)) : GoodF Pg 146 (F_q72 (G_q72 N_ S_q119 S_q50)) := by
  refine good_fsZ (cx := ⟨Pg, ofList [(183, (F_q119 S_q119)), (113, (F_q50 S_q50))], isref, N_⟩) (ofList_cons h_q119 (ofList_cons h_q50 (ofList_nil _))) shF_q72 (sp_q72 (G_q72 N_ S_q119 S_q50)) (an_q72 N_ S_q119 S_q50) 0 2 (by kernel_rfl) (fun i_ hi_ => by omega) ?_
  intro a k h
  unfold sp_q72 at h
  split at h
  · exact ⟨[_, _], rfl, rfl, (eq_q72 _ _ _ _ _ _ _ _).trans h⟩
  · cases h

def an_q20 (N_ : Nat) (S_q72 : TS_q72) : Nat -> Option Ann := fun b_ => none
theorem eq_q20 (N_ : Nat) (S_q72 : TS_q72) (x : Int) (e : Int) (b : Bool) (b_1 : List Int) (c_ : V -> List Blk -> Bool) : bodyV ⟨Pg, ofList [(146, (F_q72 S_q72))], isref, N_⟩ (an_q20 N_ S_q72) 112 (shF_q20.args [.int x, .int e, .bool b, .ints b_1]) [⟨105, 1, .cells [.bool b, .roi .u32 b_1]⟩] c_ = G_q20 N_ S_q72 x e b b_1 (c_ (.agg [.ptr 0 0, .int .i64 x]) [⟨105, 1, .cells [.bool b, .roi .u32 b_1]⟩]) (fun r3 r4 => c_ (.agg [.ptr 1 0, .int .i64 e]) [⟨105, 1, .cells [.bool b, .roi .u32 b_1]⟩, ⟨105, 1, .cells [.bool r3, .roi .u32 r4]⟩]) := by kernel_rfl
theorem good_q20 (N_ : Nat) (S_q72 : TS_q72) (h_q72 : GoodF Pg 146 (F_q72 S_q72)) : GoodF Pg 112 (F_q20 (G_q20 N_ S_q72)) := by
  refine good_fs (cx := ⟨Pg, ofList [(146, (F_q72 S_q72))], isref, N_⟩) (ofList_cons h_q72 (ofList_nil _)) shF_q20 (sp_q20 (G_q20 N_ S_q72)) (an_q20 N_ S_q72) 0 1 (by kernel_rfl) (fun i_ hi_ => by omega) ?_
  intro a k h
  unfold sp_q20 at h
  split at h
  · exact ⟨[_], rfl, rfl, (eq_q20 _ _ _ _ _ _ _).trans h⟩
  · cases h

def sh_st_binnacleref00_plus_0 : StSh := ⟨[.roi .u32, .roi .u32, .any, .any, .any, .any, .slw 0, .int .u64, .int .i64, .any, .any, .any, .any, .any, .any, .any, .any, .any, .any, .any, .any, .any, .any, .any, .any, .any, .any, .any, .any, .any, .any, .any, .any, .any, .any, .any, .any, .any, .any, .any, .any, .any, .any, .any, .any, .any, .any, .any, .any, .any, .any, .any, .any, .any, .any, .any, .any, .any, .any, .any, .any], [some (127, 1, .ints .u32)]⟩
def sx0_st_binnacleref00_plus_0 : StSh := ⟨[.roi .u32, .any, .any, .any, .any, .any, .slw 0, .int .u64, .any, .any, .any, .any, .any, .any, .any, .any, .any, .any, .any, .any, .any, .any, .any, .any, .any, .any, .any, .any, .any, .any, .any, .any, .any, .any, .any, .any, .any, .any, .any, .any, .any, .any, .any, .any, .any, .any, .any, .any, .any, .any, .any, .any, .any, .any, .any, .any, .any, .any, .any, .any, .any], [some (127, 1, .ints .u32)]⟩
def hk_st_binnacleref00_plus_0 (N_ : Nat) (S_q9 : TS_q9) : List Atom -> K -> Bool := fun a_ κ => match a_ with
  | [.ints a_1, .ints b_1, .int carry, .int i, .ints out] => iterG N_ (st_z00_plus_0 N_ S_q9 a_1 b_1 (fun r1 r2 => κ.ext 0 (sx0_st_binnacleref00_plus_0.build [.ints a_1, .int r1, .ints r2]))) (carry, i, out)
  | _ => false
def an_q120 (N_ : Nat) (S_q9 : TS_q9) : Nat -> Option Ann := fun b_ => cond (b_ == 0) (some ⟨⟨[0, 1, 6, 7, 8], [], []⟩, [(0, ⟨[0, 6, 7], [], []⟩)], some ⟨[4], [], []⟩, some (mkHooks [(sh_st_binnacleref00_plus_0, hk_st_binnacleref00_plus_0 N_ S_q9)])⟩) (none)
theorem eq_st_binnacleref00_plus_0 (N_ : Nat) (S_q9 : TS_q9) (κ : K) (a_1 : List Int) (b_1 : List Int) (carry : Int) (i : Int) (out : List Int) : iter N_ (fun s k => codeV ⟨Pg, ofList [(147, (F_q9 S_q9))], isref, N_⟩ 0 (an_q120 N_ S_q9) (lp Pg 180 0).2 (lp Pg 180 0).1 s (roundK Pg 0 ((an_q120 N_ S_q9) (lp Pg 180 0).1) κ k)) (sh_st_binnacleref00_plus_0.build [.ints a_1, .ints b_1, .int carry, .int i, .ints out]) = iterG N_ (st_z00_plus_0 N_ S_q9 a_1 b_1 (fun r1 r2 => κ.ext 0 (sx0_st_binnacleref00_plus_0.build [.ints a_1, .int r1, .ints r2]))) (carry, i, out) :=
  iter_tr (fun (v_ : Int × Int × List Int) => sh_st_binnacleref00_plus_0.build [.ints a_1, .ints b_1, .int v_.1, .int v_.2.1, .ints v_.2.2]) (fun v_ K_ => by obtain ⟨carry, i, out⟩ := v_; kernel_rfl) N_ (carry, i, out)
theorem hk1_st_binnacleref00_plus_0 (N_ : Nat) (S_q9 : TS_q9) : HookFor ⟨Pg, ofList [(147, (F_q9 S_q9))], isref, N_⟩ 0 (an_q120 N_ S_q9) (lp Pg 180 0) (sh_st_binnacleref00_plus_0, hk_st_binnacleref00_plus_0 N_ S_q9) := by
  intro a κ h
  simp only at h
  unfold hk_st_binnacleref00_plus_0 at h
  split at h
  · exact (eq_st_binnacleref00_plus_0 _ _ _ _ _ _ _ _).trans h
  · cases h
theorem ho_binnacleref00_plus_0 (N_ : Nat) (S_q9 : TS_q9) : HookOk ⟨Pg, ofList [(147, (F_q9 S_q9))], isref, N_⟩ 0 (an_q120 N_ S_q9) (lp Pg 180 0) :=
  hooks_ok [(sh_st_binnacleref00_plus_0, hk_st_binnacleref00_plus_0 N_ S_q9)] (by kernel_rfl) ⟨hk1_st_binnacleref00_plus_0 _ _, trivial⟩
theorem eq_q120 (N_ : Nat) (S_q9 : TS_q9) (a : List Int) (b : List Int) (c_ : V -> List Blk -> Bool) : bodyZ ⟨Pg, ofList [(147, (F_q9 S_q9))], isref, N_⟩ (an_q120 N_ S_q9) 180 (shF_q120.args [.ints a, .ints b]) [] c_ = G_q120 N_ S_q9 a b (fun r0 => c_ (.roi .u32 r0) []) := by kernel_rfl
theorem good_q120 (N_ : Nat) (S_q9 : TS_q9) (h_q9 : GoodF Pg 147 (F_q9 S_q9)) : GoodF Pg 180 (F_q120 (G_q120 N_ S_q9)) := by
  refine good_fsZ (cx := ⟨Pg, ofList [(147, (F_q9 S_q9))], isref, N_⟩) (ofList_cons h_q9 (ofList_nil _)) shF_q120 (sp_q120 (G_q120 N_ S_q9)) (an_q120 N_ S_q9) 1 0 (by kernel_rfl) (fun i_ hi_ => by
    match i_, hi_ with
    | 0, _ => exact ho_binnacleref00_plus_0 _ _
    | (q + 1), h => omega) ?_
  intro a k h
  unfold sp_q120 at h
  split at h
  · exact ⟨[], rfl, rfl, (eq_q120 _ _ _ _ _).trans h⟩
  · cases h

def sh_st_binnacleref00_compare_0 : StSh := ⟨[.roi .u32, .roi .u32, .any, .any, .any, .int .i64, .any, .any, .any, .any, .any, .any, .any, .any, .any, .any, .any, .any, .any, .any, .any, .any, .any, .any, .any, .any, .any, .any, .any, .any, .any, .any, .any, .any, .any, .any, .any, .any, .any, .any, .any], []⟩
def sx0_st_binnacleref00_compare_0 : StSh := ⟨[.any, .any, .any, .any, .int .i64, .any, .any, .any, .any, .any, .any, .any, .any, .any, .any, .any, .any, .any, .any, .any, .any, .any, .any, .any, .any, .any, .any, .any, .any, .any, .any, .any, .any, .any, .any, .any, .any, .any, .any, .any, .any], []⟩
def sx1_st_binnacleref00_compare_0 : StSh := ⟨[.any, .any, .any, .any, .any, .any, .any, .any, .any, .any, .any, .any, .any, .any, .any, .any, .any, .any, .any, .any, .any, .any, .any, .any, .any, .any, .any, .any, .any, .any, .any, .any, .any, .any, .any, .any, .any, .any, .any, .any, .any], []⟩
def hk_st_binnacleref00_compare_0 (N_ : Nat) : List Atom -> K -> Bool := fun a_ κ => match a_ with
  | [.ints a_1, .ints b_1, .int i] => iterG N_ (st_q147 N_ a_1 b_1 (fun r0 => κ.ret (sx0_st_binnacleref00_compare_0.build [.int r0])) (κ.ext 0 (sx1_st_binnacleref00_compare_0.build []))) i
  | _ => false
def an_q86 (N_ : Nat) : Nat -> Option Ann := fun b_ => cond (b_ == 0) (some ⟨⟨[0, 1, 5], [], []⟩, [(0, ⟨[], [], []⟩)], some ⟨[4], [], []⟩, some (mkHooks [(sh_st_binnacleref00_compare_0, hk_st_binnacleref00_compare_0 N_)])⟩) (none)
theorem eq_st_binnacleref00_compare_0 (N_ : Nat) (κ : K) (a_1 : List Int) (b_1 : List Int) (i : Int) : iter N_ (fun s k => codeV ⟨Pg, ofList [], isref, N_⟩ 0 (an_q86 N_) (lp Pg 181 0).2 (lp Pg 181 0).1 s (roundK Pg 0 ((an_q86 N_) (lp Pg 181 0).1) κ k)) (sh_st_binnacleref00_compare_0.build [.ints a_1, .ints b_1, .int i]) = iterG N_ (st_q147 N_ a_1 b_1 (fun r0 => κ.ret (sx0_st_binnacleref00_compare_0.build [.int r0])) (κ.ext 0 (sx1_st_binnacleref00_compare_0.build []))) i :=
  iter_tr (fun v_ => sh_st_binnacleref00_compare_0.build [.ints a_1, .ints b_1, .int v_]) (fun v_ K_ => by kernel_rfl) N_ i
theorem hk1_st_binnacleref00_compare_0 (N_ : Nat) : HookFor ⟨Pg, ofList [], isref, N_⟩ 0 (an_q86 N_) (lp Pg 181 0) (sh_st_binnacleref00_compare_0, hk_st_binnacleref00_compare_0 N_) := by
  intro a κ h
  simp only at h
  unfold hk_st_binnacleref00_compare_0 at h
  split at h
  · exact (eq_st_binnacleref00_compare_0 _ _ _ _ _).trans h
  · cases h
theorem ho_binnacleref00_compare_0 (N_ : Nat) : HookOk ⟨Pg, ofList [], isref, N_⟩ 0 (an_q86 N_) (lp Pg 181 0) :=
  hooks_ok [(sh_st_binnacleref00_compare_0, hk_st_binnacleref00_compare_0 N_)] (by kernel_rfl) ⟨hk1_st_binnacleref00_compare_0 _, trivial⟩
theorem eq_q86 (N_ : Nat) (a : List Int) (b : List Int) (c_ : V -> List Blk -> Bool) : bodyZ ⟨Pg, ofList [], isref, N_⟩ (an_q86 N_) 181 (shF_q86.args [.ints a, .ints b]) [] c_ = G_q86 N_ a b (fun r0 => c_ (.int .i64 r0) []) := by kernel_rfl
theorem good_q86 (N_ : Nat) : GoodF Pg 181 (F_q86 (G_q86 N_)) := by
  refine good_fsZ (cx := ⟨Pg, ofList [], isref, N_⟩) (ofList_nil _) shF_q86 (sp_q86 (G_q86 N_)) (an_q86 N_) 1 0 (by kernel_rfl) (fun i_ hi_ => by
    match i_, hi_ with
    | 0, _ => exact ho_binnacleref00_compare_0 _
    | (q + 1), h => omega) ?_
  intro a k h
  unfold sp_q86 at h
  split at h
  · exact ⟨[], rfl, rfl, (eq_q86 _ _ _ _).trans h⟩
  · cases h

def sh_st_binnacleref00_minus_0 : StSh := ⟨[.roi .u32, .roi .u32, .any, .any, .any, .slw 0, .int .u64, .int .i64, .any, .any, .any, .any, .any, .any, .any, .any, .any, .any, .any, .any, .any, .any, .any, .any, .any, .any, .any, .any, .any, .any, .any, .any, .any, .any, .any, .any, .any, .any, .any, .any, .any, .any, .any, .any, .any, .any, .any, .any, .any, .any, .any, .any, .any, .any, .any, .any], [some (127, 1, .ints .u32)]⟩
def sx0_st_binnacleref00_minus_0 : StSh := ⟨[.any, .any, .any, .any, .any, .slw 0, .any, .any, .any, .any, .any, .any, .any, .any, .any, .any, .any, .any, .any, .any, .any, .any, .any, .any, .any, .any, .any, .any, .any, .any, .any, .any, .any, .any, .any, .any, .any, .any, .any, .any, .any, .any, .any, .any, .any, .any, .any, .any, .any, .any, .any, .any, .any, .any, .any, .any], [some (127, 1, .ints .u32)]⟩
def hk_st_binnacleref00_minus_0 (N_ : Nat) (S_q9 : TS_q9) : List Atom -> K -> Bool := fun a_ κ => match a_ with
  | [.ints a_1, .ints b_1, .int borrow, .int i, .ints out] => iterG N_ (st_z00_minus_0 N_ S_q9 a_1 b_1 (fun r0 => κ.ext 0 (sx0_st_binnacleref00_minus_0.build [.ints r0]))) (borrow, i, out)
  | _ => false
def an_q106 (N_ : Nat) (S_q9 : TS_q9) : Nat -> Option Ann := fun b_ => cond (b_ == 0) (some ⟨⟨[0, 1, 5, 6, 7], [], []⟩, [(0, ⟨[5], [], []⟩)], some ⟨[4], [], []⟩, some (mkHooks [(sh_st_binnacleref00_minus_0, hk_st_binnacleref00_minus_0 N_ S_q9)])⟩) (none)
theorem eq_st_binnacleref00_minus_0 (N_ : Nat) (S_q9 : TS_q9) (κ : K) (a_1 : List Int) (b_1 : List Int) (borrow : Int) (i : Int) (out : List Int) : iter N_ (fun s k => codeV ⟨Pg, ofList [(147, (F_q9 S_q9))], isref, N_⟩ 0 (an_q106 N_ S_q9) (lp Pg 182 0).2 (lp Pg 182 0).1 s (roundK Pg 0 ((an_q106 N_ S_q9) (lp Pg 182 0).1) κ k)) (sh_st_binnacleref00_minus_0.build [.ints a_1, .ints b_1, .int borrow, .int i, .ints out]) = iterG N_ (st_z00_minus_0 N_ S_q9 a_1 b_1 (fun r0 => κ.ext 0 (sx0_st_binnacleref00_minus_0.build [.ints r0]))) (borrow, i, out) :=
  iter_tr (fun (v_ : Int × Int × List Int) => sh_st_binnacleref00_minus_0.build [.ints a_1, .ints b_1, .int v_.1, .int v_.2.1, .ints v_.2.2]) (fun v_ K_ => by obtain ⟨borrow, i, out⟩ := v_; kernel_rfl) N_ (borrow, i, out)
theorem hk1_st_binnacleref00_minus_0 (N_ : Nat) (S_q9 : TS_q9) : HookFor ⟨Pg, ofList [(147, (F_q9 S_q9))], isref, N_⟩ 0 (an_q106 N_ S_q9) (lp Pg 182 0) (sh_st_binnacleref00_minus_0, hk_st_binnacleref00_minus_0 N_ S_q9) := by
  intro a κ h
  simp only at h
  unfold hk_st_binnacleref00_minus_0 at h
  split at h
  · exact (eq_st_binnacleref00_minus_0 _ _ _ _ _ _ _ _).trans h
  · cases h
theorem ho_binnacleref00_minus_0 (N_ : Nat) (S_q9 : TS_q9) : HookOk ⟨Pg, ofList [(147, (F_q9 S_q9))], isref, N_⟩ 0 (an_q106 N_ S_q9) (lp Pg 182 0) :=
  hooks_ok [(sh_st_binnacleref00_minus_0, hk_st_binnacleref00_minus_0 N_ S_q9)] (by kernel_rfl) ⟨hk1_st_binnacleref00_minus_0 _ _, trivial⟩
theorem eq_q106 (N_ : Nat) (S_q9 : TS_q9) (a : List Int) (b : List Int) (c_ : V -> List Blk -> Bool) : bodyZ ⟨Pg, ofList [(147, (F_q9 S_q9))], isref, N_⟩ (an_q106 N_ S_q9) 182 (shF_q106.args [.ints a, .ints b]) [] c_ = G_q106 N_ S_q9 a b (fun r0 => c_ (.roi .u32 r0) []) := by kernel_rfl
theorem good_q106 (N_ : Nat) (S_q9 : TS_q9) (h_q9 : GoodF Pg 147 (F_q9 S_q9)) : GoodF Pg 182 (F_q106 (G_q106 N_ S_q9)) := by
  refine good_fsZ (cx := ⟨Pg, ofList [(147, (F_q9 S_q9))], isref, N_⟩) (ofList_cons h_q9 (ofList_nil _)) shF_q106 (sp_q106 (G_q106 N_ S_q9)) (an_q106 N_ S_q9) 1 0 (by kernel_rfl) (fun i_ hi_ => by
    match i_, hi_ with
    | 0, _ => exact ho_binnacleref00_minus_0 _ _
    | (q + 1), h => omega) ?_
  intro a k h
  unfold sp_q106 at h
  split at h
  · exact ⟨[], rfl, rfl, (eq_q106 _ _ _ _ _).trans h⟩
  · cases h

def an_q62 (N_ : Nat) (S_q120 : TS_q120) (S_q50 : TS_q50) (S_q86 : TS_q86) (S_q106 : TS_q106) : Nat -> Option Ann := fun b_ => none
theorem eq_q62 (N_ : Nat) (S_q120 : TS_q120) (S_q50 : TS_q50) (S_q86 : TS_q86) (S_q106 : TS_q106) (turn : Bool) (b : Bool) (b_1 : Bool) (b_2 : List Int) (b_3 : Bool) (b_4 : List Int) (c_ : V -> List Blk -> Bool) : bodyZ ⟨Pg, ofList [(180, (F_q120 S_q120)), (113, (F_q50 S_q50)), (181, (F_q86 S_q86)), (182, (F_q106 S_q106))], isref, N_⟩ (an_q62 N_ S_q120 S_q50 S_q86 S_q106) 145 (shF_q62.args [.bool turn, .bool b, .bool b_1, .ints b_2, .bool b_3, .ints b_4]) [⟨105, 1, .cells [.bool b, .nil]⟩, ⟨105, 1, .cells [.bool b_1, .roi .u32 b_2]⟩, ⟨105, 1, .cells [.bool b_3, .roi .u32 b_4]⟩] c_ = G_q62 N_ S_q120 S_q50 S_q86 S_q106 turn b b_1 b_2 b_3 b_4 (fun r0 r1 => c_ (.ptr 0 0) [⟨105, 1, .cells [.bool r0, .roi .u32 r1]⟩, ⟨105, 1, .cells [.bool b_1, .roi .u32 b_2]⟩, ⟨105, 1, .cells [.bool b_3, .roi .u32 b_4]⟩]) := by kernel_rfl
theorem good_q62 (N_ : Nat) (S_q120 : TS_q120) (S_q50 : TS_q50) (S_q86 : TS_q86) (S_q106 : TS_q106) (h_q120 : GoodF Pg 180 (F_q120 S_q120)) (h_q50 : GoodF Pg 113 (F_q50 S_q50)) (h_q86 : GoodF Pg 181 (F_q86 S_q86)) (h_q106 : GoodF Pg 182 (F_q106 S_q106)) : GoodF Pg 145 (F_q62 (G_q62 N_ S_q120 S_q50 S_q86 S_q106)) := by
  refine good_fsZ (cx := ⟨Pg, ofList [(180, (F_q120 S_q120)), (113, (F_q50 S_q50)), (181, (F_q86 S_q86)), (182, (F_q106 S_q106))], isref, N_⟩) (ofList_cons h_q120 (ofList_cons h_q50 (ofList_cons h_q86 (ofList_cons h_q106 (ofList_nil _))))) shF_q62 (sp_q62 (G_q62 N_ S_q120 S_q50 S_q86 S_q106)) (an_q62 N_ S_q120 S_q50 S_q86 S_q106) 0 3 (by kernel_rfl) (fun i_ hi_ => by omega) ?_
  intro a k h
  unfold sp_q62 at h
  split at h
  · exact ⟨[_, _, _], rfl, rfl, (eq_q62 _ _ _ _ _ _ _ _ _ _ _ _).trans h⟩
  · cases h

def an_q36 (N_ : Nat) (S_q62 : TS_q62) : Nat -> Option Ann := fun b_ => none
theorem eq_q36 (N_ : Nat) (S_q62 : TS_q62) (b : Bool) (b_1 : Bool) (b_2 : List Int) (b_3 : Bool) (b_4 : List Int) (c_ : V -> List Blk -> Bool) : bodyZ ⟨Pg, ofList [(145, (F_q62 S_q62))], isref, N_⟩ (an_q36 N_ S_q62) 111 (shF_q36.args [.bool b, .bool b_1, .ints b_2, .bool b_3, .ints b_4]) [⟨105, 1, .cells [.bool b, .nil]⟩, ⟨105, 1, .cells [.bool b_1, .roi .u32 b_2]⟩, ⟨105, 1, .cells [.bool b_3, .roi .u32 b_4]⟩] c_ = G_q36 N_ S_q62 b b_1 b_2 b_3 b_4 (fun r0 r1 => c_ (.ptr 0 0) [⟨105, 1, .cells [.bool r0, .roi .u32 r1]⟩, ⟨105, 1, .cells [.bool b_1, .roi .u32 b_2]⟩, ⟨105, 1, .cells [.bool b_3, .roi .u32 b_4]⟩]) := by kernel_rfl
theorem good_q36 (N_ : Nat) (S_q62 : TS_q62) (h_q62 : GoodF Pg 145 (F_q62 S_q62)) : GoodF Pg 111 (F_q36 (G_q36 N_ S_q62)) := by
  refine good_fsZ (cx := ⟨Pg, ofList [(145, (F_q62 S_q62))], isref, N_⟩) (ofList_cons h_q62 (ofList_nil _)) shF_q36 (sp_q36 (G_q36 N_ S_q62)) (an_q36 N_ S_q62) 0 3 (by kernel_rfl) (fun i_ hi_ => by omega) ?_
  intro a k h
  unfold sp_q36 at h
  split at h
  · exact ⟨[_, _, _], rfl, rfl, (eq_q36 _ _ _ _ _ _ _ _).trans h⟩
  · cases h

def an_q16 (N_ : Nat) (S_q91 : TS_q91) (S_q53 : TS_q53) (S_q20 : TS_q20) (S_q36 : TS_q36) : Nat -> Option Ann := fun b_ => none
theorem eq_q16 (N_ : Nat) (S_q91 : TS_q91) (S_q53 : TS_q53) (S_q20 : TS_q20) (S_q36 : TS_q36) (x : Int) (y : Int) (b : Bool) (b_1 : Bool) (b_2 : List Int) (c_ : V -> List Blk -> Bool) : bodyV ⟨Pg, ofList [(63, (orFs (F_q91 S_q91) (F_q53 S_q53) shF_q91)), (112, (F_q20 S_q20)), (111, (F_q36 S_q36))], isref, N_⟩ (an_q16 N_ S_q91 S_q53 S_q20 S_q36) 61 (shF_q16.args [.int x, .int y, .bool b, .bool b_1, .ints b_2]) [⟨105, 1, .cells [.bool b, .nil]⟩, ⟨105, 1, .cells [.bool b_1, .roi .u32 b_2]⟩] c_ = G_q16 N_ S_q91 S_q53 S_q20 S_q36 x y b b_1 b_2 (fun r2 => c_ (.agg [.ptr 1 0, .int .i64 y]) [⟨105, 1, .cells [.bool b, .roi .u32 r2]⟩, ⟨105, 1, .cells [.bool b_1, .roi .u32 b_2]⟩]) (fun r2 => c_ (.agg [.ptr 0 0, .int .i64 x]) [⟨105, 1, .cells [.bool b, .roi .u32 r2]⟩, ⟨105, 1, .cells [.bool b_1, .roi .u32 b_2]⟩]) (fun r0 r2 r5 r6 => c_ (.agg [.ptr 2 0, .int .i64 r0]) [⟨105, 1, .cells [.bool b, .roi .u32 r2]⟩, ⟨105, 1, .cells [.bool b_1, .roi .u32 b_2]⟩, ⟨105, 1, .cells [.bool r5, .roi .u32 r6]⟩]) := by kernel_rfl
theorem good_q16 (N_ : Nat) (S_q91 : TS_q91) (S_q53 : TS_q53) (S_q20 : TS_q20) (S_q36 : TS_q36) (h_q91 : GoodF Pg 63 (F_q91 S_q91)) (h_q53 : GoodF Pg 63 (F_q53 S_q53)) (h_q20 : GoodF Pg 112 (F_q20 S_q20)) (h_q36 : GoodF Pg 111 (F_q36 S_q36)) : GoodF Pg 61 (F_q16 (G_q16 N_ S_q91 S_q53 S_q20 S_q36)) := by
  refine good_fs (cx := ⟨Pg, ofList [(63, (orFs (F_q91 S_q91) (F_q53 S_q53) shF_q91)), (112, (F_q20 S_q20)), (111, (F_q36 S_q36))], isref, N_⟩) (ofList_cons (good_or h_q91 h_q53) (ofList_cons h_q20 (ofList_cons h_q36 (ofList_nil _)))) shF_q16 (sp_q16 (G_q16 N_ S_q91 S_q53 S_q20 S_q36)) (an_q16 N_ S_q91 S_q53 S_q20 S_q36) 0 2 (by kernel_rfl) (fun i_ hi_ => by omega) ?_
  intro a k h
  unfold sp_q16 at h
  split at h
  · exact ⟨[_, _], rfl, rfl, (eq_q16 _ _ _ _ _ _ _ _ _ _ _).trans h⟩
  · cases h

def an_q8 (N_ : Nat) (S_q53 : TS_q53) (S_q20 : TS_q20) (S_q36 : TS_q36) : Nat -> Option Ann := fun b_ => none
theorem eq_q8 (N_ : Nat) (S_q53 : TS_q53) (S_q20 : TS_q20) (S_q36 : TS_q36) (x : Int) (y : Int) (b : Bool) (b_1 : List Int) (b_2 : Bool) (b_3 : List Int) (c_ : V -> List Blk -> Bool) : bodyV ⟨Pg, ofList [(63, (F_q53 S_q53)), (112, (F_q20 S_q20)), (111, (F_q36 S_q36))], isref, N_⟩ (an_q8 N_ S_q53 S_q20 S_q36) 61 (shF_q8.args [.int x, .int y, .bool b, .ints b_1, .bool b_2, .ints b_3]) [⟨105, 1, .cells [.bool b, .roi .u32 b_1]⟩, ⟨105, 1, .cells [.bool b_2, .roi .u32 b_3]⟩] c_ = G_q8 N_ S_q53 S_q20 S_q36 x y b b_1 b_2 b_3 (c_ (.agg [.ptr 1 0, .int .i64 y]) [⟨105, 1, .cells [.bool b, .roi .u32 b_1]⟩, ⟨105, 1, .cells [.bool b_2, .roi .u32 b_3]⟩]) (c_ (.agg [.ptr 0 0, .int .i64 x]) [⟨105, 1, .cells [.bool b, .roi .u32 b_1]⟩, ⟨105, 1, .cells [.bool b_2, .roi .u32 b_3]⟩]) (fun r0 r5 r6 => c_ (.agg [.ptr 2 0, .int .i64 r0]) [⟨105, 1, .cells [.bool b, .roi .u32 b_1]⟩, ⟨105, 1, .cells [.bool b_2, .roi .u32 b_3]⟩, ⟨105, 1, .cells [.bool r5, .roi .u32 r6]⟩]) := by kernel_rfl
theorem good_q8 (N_ : Nat) (S_q53 : TS_q53) (S_q20 : TS_q20) (S_q36 : TS_q36) (h_q53 : GoodF Pg 63 (F_q53 S_q53)) (h_q20 : GoodF Pg 112 (F_q20 S_q20)) (h_q36 : GoodF Pg 111 (F_q36 S_q36)) : GoodF Pg 61 (F_q8 (G_q8 N_ S_q53 S_q20 S_q36)) := by
  refine good_fs (cx := ⟨Pg, ofList [(63, (F_q53 S_q53)), (112, (F_q20 S_q20)), (111, (F_q36 S_q36))], isref, N_⟩) (ofList_cons h_q53 (ofList_cons h_q20 (ofList_cons h_q36 (ofList_nil _)))) shF_q8 (sp_q8 (G_q8 N_ S_q53 S_q20 S_q36)) (an_q8 N_ S_q53 S_q20 S_q36) 0 2 (by kernel_rfl) (fun i_ hi_ => by omega) ?_
  intro a k h
  unfold sp_q8 at h
  split at h
  · exact ⟨[_, _], rfl, rfl, (eq_q8 _ _ _ _ _ _ _ _ _ _ _).trans h⟩
  · cases h

def sh_st_binnacleref03_Dot_0 : StSh := ⟨[.rof, .rof, .any, .any, .ptr 0 0, .ptr 1 0, .any, .any, .any, .int .i64, .int .i64, .any, .any, .any, .any, .any, .any, .any, .any, .any, .any, .any, .any, .any, .any, .any, .any, .any], [some (33, 1, .cells [.val, .int .i64]), some (33, 1, .cells [.ptr 2 0, .int .i64]), some (105, 1, .cells [.bool, .roi .u32])]⟩
def sx0_st_binnacleref03_Dot_0 : StSh := ⟨[.any, .any, .any, .any, .ptr 0 0, .ptr 1 0, .any, .any, .any, .any, .any, .any, .any, .any, .any, .any, .any, .any, .any, .any, .any, .any, .any, .any, .any, .any, .any, .any], [some (33, 1, .cells [.val, .int .i64]), some (33, 1, .cells [.ptr 2 0, .int .i64]), some (105, 1, .cells [.bool, .roi .u32])]⟩
def hk_st_binnacleref03_Dot_0 (N_ : Nat) (S_q95 : TS_q95) (S_q108 : TS_q108) (S_q5 : TS_q5) (S_q16 : TS_q16) (S_q8 : TS_q8) : List Atom -> K -> Bool := fun a_ κ => match a_ with
  | [.fls a_2, .fls b_2, .int t9_1, .int t10_1, .val t4_2, .int t4_3, .int s_1, .bool b2_1, .ints b2_2] => iterG N_ (st_z03_Dot_0 N_ S_q95 S_q108 S_q5 S_q16 S_q8 a_2 b_2 t9_1 t4_2 t4_3 (fun r2 r3 r4 => κ.ext 0 (sx0_st_binnacleref03_Dot_0.build [.val t4_2, .int t4_3, .int r2, .bool r3, .ints r4]))) (t10_1, s_1, b2_1, b2_2)
  | _ => false
def an_q129 (N_ : Nat) (S_q95 : TS_q95) (S_q108 : TS_q108) (S_q5 : TS_q5) (S_q16 : TS_q16) (S_q8 : TS_q8) : Nat -> Option Ann := fun b_ => cond (b_ == 0) (some ⟨⟨[0, 1, 4, 5, 9, 10], [], [(2, 1, some .u32)]⟩, [(0, ⟨[4, 5], [], []⟩)], some ⟨[4], [], []⟩, some (mkHooks [(sh_st_binnacleref03_Dot_0, hk_st_binnacleref03_Dot_0 N_ S_q95 S_q108 S_q5 S_q16 S_q8)])⟩) (none)
theorem eq_st_binnacleref03_Dot_0 (N_ : Nat) (S_q95 : TS_q95) (S_q108 : TS_q108) (S_q5 : TS_q5) (S_q16 : TS_q16) (S_q8 : TS_q8) (κ : K) (a_2 : List Fl) (b_2 : List Fl) (t9_1 : Int) (t10_1 : Int) (t4_2 : Value) (t4_3 : Int) (s_1 : Int) (b2_1 : Bool) (b2_2 : List Int) : iter N_ (fun s k => codeV ⟨Pg, ofList [(110, (F_q95 S_q95)), (15, (F_q108 S_q108)), (13, (F_q5 S_q5)), (61, (orFs (F_q16 S_q16) (F_q8 S_q8) shF_q16))], isref, N_⟩ 0 (an_q129 N_ S_q95 S_q108 S_q5 S_q16 S_q8) (lp Pg 59 0).2 (lp Pg 59 0).1 s (roundK Pg 0 ((an_q129 N_ S_q95 S_q108 S_q5 S_q16 S_q8) (lp Pg 59 0).1) κ k)) (sh_st_binnacleref03_Dot_0.build [.fls a_2, .fls b_2, .int t9_1, .int t10_1, .val t4_2, .int t4_3, .int s_1, .bool b2_1, .ints b2_2]) = iterG N_ (st_z03_Dot_0 N_ S_q95 S_q108 S_q5 S_q16 S_q8 a_2 b_2 t9_1 t4_2 t4_3 (fun r2 r3 r4 => κ.ext 0 (sx0_st_binnacleref03_Dot_0.build [.val t4_2, .int t4_3, .int r2, .bool r3, .ints r4]))) (t10_1, s_1, b2_1, b2_2) :=
  iter_tr (fun (v_ : Int × Int × Bool × List Int) => sh_st_binnacleref03_Dot_0.build [.fls a_2, .fls b_2, .int t9_1, .int v_.1, .val t4_2, .int t4_3, .int v_.2.1, .bool v_.2.2.1, .ints v_.2.2.2]) (fun v_ K_ => by obtain ⟨t10_1, s_1, b2_1, b2_2⟩ := v_; kernel_rfl) N_ (t10_1, s_1, b2_1, b2_2)
theorem hk1_st_binnacleref03_Dot_0 (N_ : Nat) (S_q95 : TS_q95) (S_q108 : TS_q108) (S_q5 : TS_q5) (S_q16 : TS_q16) (S_q8 : TS_q8) : HookFor ⟨Pg, ofList [(110, (F_q95 S_q95)), (15, (F_q108 S_q108)), (13, (F_q5 S_q5)), (61, (orFs (F_q16 S_q16) (F_q8 S_q8) shF_q16))], isref, N_⟩ 0 (an_q129 N_ S_q95 S_q108 S_q5 S_q16 S_q8) (lp Pg 59 0) (sh_st_binnacleref03_Dot_0, hk_st_binnacleref03_Dot_0 N_ S_q95 S_q108 S_q5 S_q16 S_q8) := by
  intro a κ h
  simp only at h
  unfold hk_st_binnacleref03_Dot_0 at h
  split at h
  · exact (eq_st_binnacleref03_Dot_0 _ _ _ _ _ _ _ _ _ _ _ _ _ _ _ _).trans h
  · cases h
theorem ho_binnacleref03_Dot_0 (N_ : Nat) (S_q95 : TS_q95) (S_q108 : TS_q108) (S_q5 : TS_q5) (S_q16 : TS_q16) (S_q8 : TS_q8) : HookOk ⟨Pg, ofList [(110, (F_q95 S_q95)), (15, (F_q108 S_q108)), (13, (F_q5 S_q5)), (61, (orFs (F_q16 S_q16) (F_q8 S_q8) shF_q16))], isref, N_⟩ 0 (an_q129 N_ S_q95 S_q108 S_q5 S_q16 S_q8) (lp Pg 59 0) :=
  hooks_ok [(sh_st_binnacleref03_Dot_0, hk_st_binnacleref03_Dot_0 N_ S_q95 S_q108 S_q5 S_q16 S_q8)] (by kernel_rfl) ⟨hk1_st_binnacleref03_Dot_0 _ _ _ _ _ _, trivial⟩
theorem eq_q129 (N_ : Nat) (S_q95 : TS_q95) (S_q108 : TS_q108) (S_q5 : TS_q5) (S_q16 : TS_q16) (S_q8 : TS_q8) (a : List Fl) (b : List Fl) (c_ : V -> List Blk -> Bool) : bodyV ⟨Pg, ofList [(110, (F_q95 S_q95)), (15, (F_q108 S_q108)), (13, (F_q5 S_q5)), (61, (orFs (F_q16 S_q16) (F_q8 S_q8) shF_q16))], isref, N_⟩ (an_q129 N_ S_q95 S_q108 S_q5 S_q16 S_q8) 59 (shF_q129.args [.fls a, .fls b]) [] c_ = G_q129 N_ S_q95 S_q108 S_q5 S_q16 S_q8 a b (fun r0 r1 r2 => c_ (.agg [.ptr 0 0, .int .i64 r0]) [⟨105, 1, .cells [.bool r1, .roi .u32 r2]⟩]) := by kernel_rfl
theorem good_q129 (N_ : Nat) (S_q95 : TS_q95) (S_q108 : TS_q108) (S_q5 : TS_q5) (S_q16 : TS_q16) (S_q8 : TS_q8) (h_q95 : GoodF Pg 110 (F_q95 S_q95)) (h_q108 : GoodF Pg 15 (F_q108 S_q108)) (h_q5 : GoodF Pg 13 (F_q5 S_q5)) (h_q16 : GoodF Pg 61 (F_q16 S_q16)) (h_q8 : GoodF Pg 61 (F_q8 S_q8)) : GoodF Pg 59 (F_q129 (G_q129 N_ S_q95 S_q108 S_q5 S_q16 S_q8)) := by
  refine good_fs (cx := ⟨Pg, ofList [(110, (F_q95 S_q95)), (15, (F_q108 S_q108)), (13, (F_q5 S_q5)), (61, (orFs (F_q16 S_q16) (F_q8 S_q8) shF_q16))], isref, N_⟩) (ofList_cons h_q95 (ofList_cons h_q108 (ofList_cons h_q5 (ofList_cons (good_or h_q16 h_q8) (ofList_nil _))))) shF_q129 (sp_q129 (G_q129 N_ S_q95 S_q108 S_q5 S_q16 S_q8)) (an_q129 N_ S_q95 S_q108 S_q5 S_q16 S_q8) 1 0 (by kernel_rfl) (fun i_ hi_ => by
    match i_, hi_ with
    | 0, _ => exact ho_binnacleref03_Dot_0 _ _ _ _ _ _
    | (q + 1), h => omega) ?_
  intro a k h
  unfold sp_q129 at h
  split at h
  · exact ⟨[], rfl, rfl, (eq_q129 _ _ _ _ _ _ _ _ _).trans h⟩
  · cases h

def an_q42 (N_ : Nat) (S_q123 : TS_q123) (S_q129 : TS_q129) : Nat -> Option Ann := fun b_ => none
theorem eq_q42 (N_ : Nat) (S_q123 : TS_q123) (S_q129 : TS_q129) (q_0 : Fl) (q_1 : Fl) (q_2 : Fl) (q_3 : Fl) (c_ : V -> List Blk -> Bool) : bodyV ⟨Pg, ofList [(60, (F_q123 S_q123)), (59, (F_q129 S_q129))], isref, N_⟩ (an_q42 N_ S_q123 S_q129) 11 (shF_q42.args [.fl q_0, .fl q_1, .fl q_2, .fl q_3]) [] c_ = G_q42 N_ S_q123 S_q129 q_0 q_1 q_2 q_3 (fun r0 r1 r2 => c_ (.agg [.ptr 0 0, .int .i64 r0]) [⟨105, 1, .cells [.bool r1, .roi .u32 r2]⟩]) := by kernel_rfl
theorem good_q42 (N_ : Nat) (S_q123 : TS_q123) (S_q129 : TS_q129) (h_q123 : GoodF Pg 60 (F_q123 S_q123)) (h_q129 : GoodF Pg 59 (F_q129 S_q129)) : GoodF Pg 11 (F_q42 (G_q42 N_ S_q123 S_q129)) := by
  refine good_fs (cx := ⟨Pg, ofList [(60, (F_q123 S_q123)), (59, (F_q129 S_q129))], isref, N_⟩) (ofList_cons h_q123 (ofList_cons h_q129 (ofList_nil _))) shF_q42 (sp_q42 (G_q42 N_ S_q123 S_q129)) (an_q42 N_ S_q123 S_q129) 0 0 (by kernel_rfl) (fun i_ hi_ => by omega) ?_
  intro a k h
  unfold sp_q42 at h
  split at h
  · exact ⟨[], rfl, rfl, (eq_q42 _ _ _ _ _ _ _ _).trans h⟩
  · cases h

def an_q82 (N_ : Nat) (S_q9 : TS_q9) : Nat -> Option Ann := fun b_ => none
theorem eq_q82 (N_ : Nat) (S_q9 : TS_q9) (neg : Bool) (b : Bool) (b_1 : List Int) (c_ : V -> List Blk -> Bool) : bodyZ ⟨Pg, ofList [(147, (F_q9 S_q9))], isref, N_⟩ (an_q82 N_ S_q9) 113 (shF_q82.args [.bool neg, .bool b, .ints b_1]) [⟨105, 1, .cells [.bool b, .nil]⟩, ⟨127, 1, .ints .u32 b_1⟩] c_ = G_q82 N_ S_q9 neg b b_1 (fun r0 r1 r2 => c_ (.ptr 0 0) [⟨105, 1, .cells [.bool r0, .sl 1 r1 r2]⟩, ⟨127, 1, .ints .u32 b_1⟩]) := by kernel_rfl
theorem good_q82 (N_ : Nat) (S_q9 : TS_q9) (h_q9 : GoodF Pg 147 (F_q9 S_q9)) : GoodF Pg 113 (F_q82 (G_q82 N_ S_q9)) := by
  refine good_fsZ (cx := ⟨Pg, ofList [(147, (F_q9 S_q9))], isref, N_⟩) (ofList_cons h_q9 (ofList_nil _)) shF_q82 (sp_q82 (G_q82 N_ S_q9)) (an_q82 N_ S_q9) 0 2 (by kernel_rfl) (fun i_ hi_ => by omega) ?_
  intro a k h
  unfold sp_q82 at h
  split at h
  · exact ⟨[_, _], rfl, rfl, (eq_q82 _ _ _ _ _ _).trans h⟩
  · cases h

def an_q73 (N_ : Nat) (S_q82 : TS_q82) : Nat -> Option Ann := fun b_ => none
theorem eq_q73 (N_ : Nat) (S_q82 : TS_q82) (b : Bool) (b_1 : Bool) (b_2 : List Int) (c_ : V -> List Blk -> Bool) : bodyZ ⟨Pg, ofList [(113, (F_q82 S_q82))], isref, N_⟩ (an_q73 N_ S_q82) 67 (shF_q73.args [.bool b, .bool b_1, .ints b_2]) [⟨105, 1, .cells [.bool b, .nil]⟩, ⟨105, 1, .cells [.bool b_1, .roi .u32 b_2]⟩] c_ = G_q73 N_ S_q82 b b_1 b_2 (fun r0 r1 => c_ (.ptr 0 0) [⟨105, 1, .cells [.bool r0, .roi .u32 r1]⟩, ⟨105, 1, .cells [.bool b_1, .roi .u32 b_2]⟩]) := by kernel_rfl
theorem good_q73 (N_ : Nat) (S_q82 : TS_q82) (h_q82 : GoodF Pg 113 (F_q82 S_q82)) : GoodF Pg 67 (F_q73 (G_q73 N_ S_q82)) := by
  refine good_fsZ (cx := ⟨Pg, ofList [(113, (F_q82 S_q82))], isref, N_⟩) (ofList_cons h_q82 (ofList_nil _)) shF_q73 (sp_q73 (G_q73 N_ S_q82)) (an_q73 N_ S_q82) 0 2 (by kernel_rfl) (fun i_ hi_ => by omega) ?_
  intro a k h
  unfold sp_q73 at h
  split at h
  · exact ⟨[_, _], rfl, rfl, (eq_q73 _ _ _ _ _ _).trans h⟩
  · cases h

def an_q49 (N_ : Nat) (S_q73 : TS_q73) : Nat -> Option Ann := fun b_ => none
theorem eq_q49 (N_ : Nat) (S_q73 : TS_q73) (x : Int) (b : Bool) (b_1 : List Int) (c_ : V -> List Blk -> Bool) : bodyV ⟨Pg, ofList [(67, (F_q73 S_q73))], isref, N_⟩ (an_q49 N_ S_q73) 62 (shF_q49.args [.int x, .bool b, .ints b_1]) [⟨105, 1, .cells [.bool b, .roi .u32 b_1]⟩] c_ = G_q49 N_ S_q73 x b b_1 (fun r3 r4 => c_ (.agg [.ptr 1 0, .int .i64 x]) [⟨105, 1, .cells [.bool b, .roi .u32 b_1]⟩, ⟨105, 1, .cells [.bool r3, .roi .u32 r4]⟩]) := by kernel_rfl
theorem good_q49 (N_ : Nat) (S_q73 : TS_q73) (h_q73 : GoodF Pg 67 (F_q73 S_q73)) : GoodF Pg 62 (F_q49 (G_q49 N_ S_q73)) := by
  refine good_fs (cx := ⟨Pg, ofList [(67, (F_q73 S_q73))], isref, N_⟩) (ofList_cons h_q73 (ofList_nil _)) shF_q49 (sp_q49 (G_q49 N_ S_q73)) (an_q49 N_ S_q73) 0 1 (by kernel_rfl) (fun i_ hi_ => by omega) ?_
  intro a k h
  unfold sp_q49 at h
  split at h
  · exact ⟨[_], rfl, rfl, (eq_q49 _ _ _ _ _ _).trans h⟩
  · cases h

def an_q24 (N_ : Nat) (S_q49 : TS_q49) (S_q8 : TS_q8) (S_q53 : TS_q53) : Nat -> Option Ann := fun b_ => none
theorem eq_q24 (N_ : Nat) (S_q49 : TS_q49) (S_q8 : TS_q8) (S_q53 : TS_q53) (x : Int) (y : Int) (b : Bool) (b_1 : List Int) (b_2 : Bool) (b_3 : List Int) (c_ : V -> List Blk -> Bool) : bodyV ⟨Pg, ofList [(62, (F_q49 S_q49)), (61, (F_q8 S_q8)), (63, (F_q53 S_q53))], isref, N_⟩ (an_q24 N_ S_q49 S_q8 S_q53) 12 (shF_q24.args [.int x, .int y, .bool b, .ints b_1, .bool b_2, .ints b_3]) [⟨105, 1, .cells [.bool b, .roi .u32 b_1]⟩, ⟨105, 1, .cells [.bool b_2, .roi .u32 b_3]⟩] c_ = G_q24 N_ S_q49 S_q8 S_q53 x y b b_1 b_2 b_3 (fun r0 => c_ (.int .i64 r0) [⟨105, 1, .cells [.bool b, .roi .u32 b_1]⟩, ⟨105, 1, .cells [.bool b_2, .roi .u32 b_3]⟩]) := by kernel_rfl
theorem good_q24 (N_ : Nat) (S_q49 : TS_q49) (S_q8 : TS_q8) (S_q53 : TS_q53) (h_q49 : GoodF Pg 62 (F_q49 S_q49)) (h_q8 : GoodF Pg 61 (F_q8 S_q8)) (h_q53 : GoodF Pg 63 (F_q53 S_q53)) : GoodF Pg 12 (F_q24 (G_q24 N_ S_q49 S_q8 S_q53)) := by
  refine good_fs (cx := ⟨Pg, ofList [(62, (F_q49 S_q49)), (61, (F_q8 S_q8)), (63, (F_q53 S_q53))], isref, N_⟩) (ofList_cons h_q49 (ofList_cons h_q8 (ofList_cons h_q53 (ofList_nil _)))) shF_q24 (sp_q24 (G_q24 N_ S_q49 S_q8 S_q53)) (an_q24 N_ S_q49 S_q8 S_q53) 0 2 (by kernel_rfl) (fun i_ hi_ => by omega) ?_
  intro a k h
  unfold sp_q24 at h
  split at h
  · exact ⟨[_, _], rfl, rfl, (eq_q24 _ _ _ _ _ _ _ _ _ _ _).trans h⟩
  · cases h

def an_q93 (N_ : Nat) (S_q7 : TS_q7) : Nat -> Option Ann := fun b_ => none
theorem eq_q93 (N_ : Nat) (S_q7 : TS_q7) (q_0 : Fl) (q_1 : Fl) (q_2 : Fl) (q_3 : Fl) (c_ : V -> List Blk -> Bool) : bodyV ⟨Pg, ofList [(56, (F_q7 S_q7))], isref, N_⟩ (an_q93 N_ S_q7) 14 (shF_q93.args [.fl q_0, .fl q_1, .fl q_2, .fl q_3]) [] c_ = G_q93 N_ S_q7 q_0 q_1 q_2 q_3 (fun r0 r1 r2 r3 r4 => c_ (.tup [.agg [.flt r0, .flt r1, .flt r2, .flt r3], .int .i64 r4]) []) := by kernel_rfl
theorem good_q93 (N_ : Nat) (S_q7 : TS_q7) (h_q7 : GoodF Pg 56 (F_q7 S_q7)) : GoodF Pg 14 (F_q93 (G_q93 N_ S_q7)) := by
  refine good_fs (cx := ⟨Pg, ofList [(56, (F_q7 S_q7))], isref, N_⟩) (ofList_cons h_q7 (ofList_nil _)) shF_q93 (sp_q93 (G_q93 N_ S_q7)) (an_q93 N_ S_q7) 0 0 (by kernel_rfl) (fun i_ hi_ => by omega) ?_
  intro a k h
  unfold sp_q93 at h
  split at h
  · exact ⟨[], rfl, rfl, (eq_q93 _ _ _ _ _ _ _).trans h⟩
  · cases h

def an_q39 (N_ : Nat) : Nat -> Option Ann := fun b_ => none
theorem eq_q39 (N_ : Nat) (a_0 : Fl) (a_1 : Fl) (a_2 : Fl) (a_3 : Fl) (b_0 : Fl) (b_1 : Fl) (b_2 : Fl) (b_3 : Fl) (c_ : V -> List Blk -> Bool) : bodyV ⟨Pg, ofList [], isref, N_⟩ (an_q39 N_) 16 (shF_q39.args [.fl a_0, .fl a_1, .fl a_2, .fl a_3, .fl b_0, .fl b_1, .fl b_2, .fl b_3]) [] c_ = G_q39 N_ a_0 a_1 a_2 a_3 b_0 b_1 b_2 b_3 (fun r0 => c_ (.bool r0) []) := by kernel_rfl
theorem good_q39 (N_ : Nat) : GoodF Pg 16 (F_q39 (G_q39 N_)) := by
  refine good_fs (cx := ⟨Pg, ofList [], isref, N_⟩) (ofList_nil _) shF_q39 (sp_q39 (G_q39 N_)) (an_q39 N_) 0 0 (by kernel_rfl) (fun i_ hi_ => by omega) ?_
  intro a k h
  unfold sp_q39 at h
  split at h
  · exact ⟨[], rfl, rfl, (eq_q39 _ _ _ _ _ _ _ _ _ _).trans h⟩
  · cases h

end Go.Proofs.YtccocdgimamdhaaGreatDoor
