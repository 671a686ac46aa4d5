/-
  THE TIES: each printed meaning is what the program does (written by program).
  Conditions: none.
-/
import Derived.Test.YtccocdgimamdhaaGreatDoorGs
namespace Go.Proofs.YtccocdgimamdhaaGreatDoor
open Go Go.Mach Go.Proofs
set_option linter.unusedVariables false
set_option maxRecDepth 50000


def an_an_of (N : Nat) : Nat -> Option Ann := fun b_ => none
theorem eq_an_of (N : Nat) (c_ : V -> List Blk -> Bool) : bodyV ⟨Pg, ofList [], isref, N⟩ (an_an_of N) 190 (shF_an_of.args []) [] c_ = G_an_of N (fun r0 r1 r2 => c_ (.agg [.int .u64 r0, .int .i64 r1, .int .i64 r2]) []) := by kernel_rfl
theorem good_an_of (N : Nat) : GoodF Pg 190 (F_an_of (G_an_of N)) := by
  refine good_fs (cx := ⟨Pg, ofList [], isref, N⟩) (ofList_nil _) shF_an_of (sp_an_of (G_an_of N)) (an_an_of N) 0 0 (by kernel_rfl) (fun i_ hi_ => by omega) ?_
  intro a k h
  unfold sp_an_of at h
  split at h
  · exact ⟨[], rfl, rfl, (eq_an_of _ _).trans h⟩
  · cases h

def anj177 (N : Nat) : Nat -> Option Ann := fun b_ => none
theorem eqj177 (N : Nat) (f_0 f_1 f_2 : Int) (c_ : V -> List Blk -> Bool) : bodyV ⟨Pg, ofList [], isref, N⟩ (anj177 N) 229 (shFj177.args [.int f_0, .int f_1, .int f_2]) [] c_ = Gj177 N f_0 f_1 f_2 (fun r0 => c_ (.int .u64 r0) []) := by kernel_rfl
theorem goodj177 (N : Nat) : GoodF Pg 229 (Fj177 (Gj177 N)) := by
  refine good_fs (cx := ⟨Pg, ofList [], isref, N⟩) (ofList_nil _) shFj177 (spj177 (Gj177 N)) (anj177 N) 0 0 (by kernel_rfl) (fun i_ hi_ => by omega) ?_
  intro a k h
  unfold spj177 at h
  split at h
  · exact ⟨[], rfl, rfl, (eqj177 _ _ _ _ _).trans h⟩
  · cases h

def anj102 (N : Nat) : Nat -> Option Ann := fun b_ => none
theorem eqj102 (N : Nat) (f_0 f_1 f_2 : Int) (c_ : V -> List Blk -> Bool) : bodyV ⟨Pg, ofList [], isref, N⟩ (anj102 N) 234 (shFj102.args [.int f_0, .int f_1, .int f_2]) [] c_ = Gj102 N f_0 f_1 f_2 (fun r0 => c_ (.int .u64 r0) []) := by kernel_rfl
theorem goodj102 (N : Nat) : GoodF Pg 234 (Fj102 (Gj102 N)) := by
  refine good_fs (cx := ⟨Pg, ofList [], isref, N⟩) (ofList_nil _) shFj102 (spj102 (Gj102 N)) (anj102 N) 0 0 (by kernel_rfl) (fun i_ hi_ => by omega) ?_
  intro a k h
  unfold spj102 at h
  split at h
  · exact ⟨[], rfl, rfl, (eqj102 _ _ _ _ _).trans h⟩
  · cases h

def anj101 (N : Nat) (Sj177 : TSj177) (Sj102 : TSj102) : Nat -> Option Ann := fun b_ => none
theorem eqj101 (N : Nat) (Sj177 : TSj177) (Sj102 : TSj102) (b f_0 f_1 f_2 : Int) (c_ : V -> List Blk -> Bool) : bodyV ⟨Pg, ofList [(229, (Fj177 Sj177)), (234, (Fj102 Sj102))], isref, N⟩ (anj101 N Sj177 Sj102) 232 (shFj101.args [.int b, .int f_0, .int f_1, .int f_2]) [] c_ = Gj101 N Sj177 Sj102 b f_0 f_1 f_2 (fun r0 => c_ (.bool r0) []) := by kernel_rfl
theorem goodj101 (N : Nat) (Sj177 : TSj177) (Sj102 : TSj102) (hj177 : GoodF Pg 229 (Fj177 Sj177)) (hj102 : GoodF Pg 234 (Fj102 Sj102)) : GoodF Pg 232 (Fj101 (Gj101 N Sj177 Sj102)) := by
  refine good_fs (cx := ⟨Pg, ofList [(229, (Fj177 Sj177)), (234, (Fj102 Sj102))], isref, N⟩) (ofList_cons hj177 (ofList_cons hj102 (ofList_nil _))) shFj101 (spj101 (Gj101 N Sj177 Sj102)) (anj101 N Sj177 Sj102) 0 0 (by kernel_rfl) (fun i_ hi_ => by omega) ?_
  intro a k h
  unfold spj101 at h
  split at h
  · exact ⟨[], rfl, rfl, (eqj101 _ _ _ _ _ _ _ _).trans h⟩
  · cases h

def anj81 (N : Nat) : Nat -> Option Ann := fun b_ => none
theorem eqj81 (N : Nat) (f_0 f_1 f_2 : Int) (c_ : V -> List Blk -> Bool) : bodyV ⟨Pg, ofList [], isref, N⟩ (anj81 N) 217 (shFj81.args [.int f_0, .int f_1, .int f_2]) [] c_ = Gj81 N f_0 f_1 f_2 (fun r0 => c_ (.int .u64 r0) []) := by kernel_rfl
theorem goodj81 (N : Nat) : GoodF Pg 217 (Fj81 (Gj81 N)) := by
  refine good_fs (cx := ⟨Pg, ofList [], isref, N⟩) (ofList_nil _) shFj81 (spj81 (Gj81 N)) (anj81 N) 0 0 (by kernel_rfl) (fun i_ hi_ => by omega) ?_
  intro a k h
  unfold spj81 at h
  split at h
  · exact ⟨[], rfl, rfl, (eqj81 _ _ _ _ _).trans h⟩
  · cases h

def anj192 (N : Nat) (Sj102 : TSj102) (Sj81 : TSj81) : Nat -> Option Ann := fun b_ => none
theorem eqj192 (N : Nat) (Sj102 : TSj102) (Sj81 : TSj81) (f_0 f_1 f_2 : Int) (c_ : V -> List Blk -> Bool) : bodyV ⟨Pg, ofList [(234, (Fj102 Sj102)), (217, (Fj81 Sj81))], isref, N⟩ (anj192 N Sj102 Sj81) 233 (shFj192.args [.int f_0, .int f_1, .int f_2]) [] c_ = Gj192 N Sj102 Sj81 f_0 f_1 f_2 (fun r0 => c_ (.int .u64 r0) []) := by kernel_rfl
theorem goodj192 (N : Nat) (Sj102 : TSj102) (Sj81 : TSj81) (hj102 : GoodF Pg 234 (Fj102 Sj102)) (hj81 : GoodF Pg 217 (Fj81 Sj81)) : GoodF Pg 233 (Fj192 (Gj192 N Sj102 Sj81)) := by
  refine good_fs (cx := ⟨Pg, ofList [(234, (Fj102 Sj102)), (217, (Fj81 Sj81))], isref, N⟩) (ofList_cons hj102 (ofList_cons hj81 (ofList_nil _))) shFj192 (spj192 (Gj192 N Sj102 Sj81)) (anj192 N Sj102 Sj81) 0 0 (by kernel_rfl) (fun i_ hi_ => by omega) ?_
  intro a k h
  unfold spj192 at h
  split at h
  · exact ⟨[], rfl, rfl, (eqj192 _ _ _ _ _ _ _).trans h⟩
  · cases h

def anj83 (N : Nat) (Sj101 : TSj101) (Sj192 : TSj192) : Nat -> Option Ann := fun b_ => none
theorem eqj83 (N : Nat) (Sj101 : TSj101) (Sj192 : TSj192) (b f_0 f_1 f_2 : Int) (c_ : V -> List Blk -> Bool) : bodyV ⟨Pg, ofList [(232, (Fj101 Sj101)), (233, (Fj192 Sj192))], isref, N⟩ (anj83 N Sj101 Sj192) 228 (shFj83.args [.int b, .int f_0, .int f_1, .int f_2]) [] c_ = Gj83 N Sj101 Sj192 b f_0 f_1 f_2 (fun r0 => c_ (.int .u64 r0) []) := by kernel_rfl
theorem goodj83 (N : Nat) (Sj101 : TSj101) (Sj192 : TSj192) (hj101 : GoodF Pg 232 (Fj101 Sj101)) (hj192 : GoodF Pg 233 (Fj192 Sj192)) : GoodF Pg 228 (Fj83 (Gj83 N Sj101 Sj192)) := by
  refine good_fs (cx := ⟨Pg, ofList [(232, (Fj101 Sj101)), (233, (Fj192 Sj192))], isref, N⟩) (ofList_cons hj101 (ofList_cons hj192 (ofList_nil _))) shFj83 (spj83 (Gj83 N Sj101 Sj192)) (anj83 N Sj101 Sj192) 0 0 (by kernel_rfl) (fun i_ hi_ => by omega) ?_
  intro a k h
  unfold spj83 at h
  split at h
  · exact ⟨[], rfl, rfl, (eqj83 _ _ _ _ _ _ _ _).trans h⟩
  · cases h

def anj30 (N : Nat) (Sj83 : TSj83) (Sj177 : TSj177) (Sj81 : TSj81) : Nat -> Option Ann := fun b_ => none
theorem eqj30 (N : Nat) (Sj83 : TSj83) (Sj177 : TSj177) (Sj81 : TSj81) (b f_0 f_1 f_2 : Int) (c_ : V -> List Blk -> Bool) : bodyV ⟨Pg, ofList [(228, (Fj83 Sj83)), (229, (Fj177 Sj177)), (217, (Fj81 Sj81))], isref, N⟩ (anj30 N Sj83 Sj177 Sj81) 214 (shFj30.args [.int b, .int f_0, .int f_1, .int f_2]) [] c_ = Gj30 N Sj83 Sj177 Sj81 b f_0 f_1 f_2 (fun r0 r1 r2 => c_ (.tup [.bool r0, .int .i64 r1, .int .u64 r2]) []) := by kernel_rfl
theorem goodj30 (N : Nat) (Sj83 : TSj83) (Sj177 : TSj177) (Sj81 : TSj81) (hj83 : GoodF Pg 228 (Fj83 Sj83)) (hj177 : GoodF Pg 229 (Fj177 Sj177)) (hj81 : GoodF Pg 217 (Fj81 Sj81)) : GoodF Pg 214 (Fj30 (Gj30 N Sj83 Sj177 Sj81)) := by
  refine good_fs (cx := ⟨Pg, ofList [(228, (Fj83 Sj83)), (229, (Fj177 Sj177)), (217, (Fj81 Sj81))], isref, N⟩) (ofList_cons hj83 (ofList_cons hj177 (ofList_cons hj81 (ofList_nil _)))) shFj30 (spj30 (Gj30 N Sj83 Sj177 Sj81)) (anj30 N Sj83 Sj177 Sj81) 0 0 (by kernel_rfl) (fun i_ hi_ => by omega) ?_
  intro a k h
  unfold spj30 at h
  split at h
  · exact ⟨[], rfl, rfl, (eqj30 _ _ _ _ _ _ _ _ _).trans h⟩
  · cases h

def anj29 (N : Nat) (Sj30 : TSj30) : Nat -> Option Ann := fun b_ => none
theorem eqj29 (N : Nat) (Sj30 : TSj30) (b f_0 f_1 f_2 : Int) (c_ : V -> List Blk -> Bool) : bodyV ⟨Pg, ofList [(214, (Fj30 Sj30))], isref, N⟩ (anj29 N Sj30) 189 (shFj29.args [.int b, .int f_0, .int f_1, .int f_2]) [] c_ = Gj29 N Sj30 b f_0 f_1 f_2 (fun r0 => c_ (.int .i64 r0) []) := by kernel_rfl
theorem goodj29 (N : Nat) (Sj30 : TSj30) (hj30 : GoodF Pg 214 (Fj30 Sj30)) : GoodF Pg 189 (Fj29 (Gj29 N Sj30)) := by
  refine good_fs (cx := ⟨Pg, ofList [(214, (Fj30 Sj30))], isref, N⟩) (ofList_cons hj30 (ofList_nil _)) shFj29 (spj29 (Gj29 N Sj30)) (anj29 N Sj30) 0 0 (by kernel_rfl) (fun i_ hi_ => by omega) ?_
  intro a k h
  unfold spj29 at h
  split at h
  · exact ⟨[], rfl, rfl, (eqj29 _ _ _ _ _ _ _).trans h⟩
  · cases h

def anj182 (N : Nat) (Sj176 : TSj176) (S_an_of : TS_an_of) (Sj29 : TSj29) : Nat -> Option Ann := fun b_ => none
theorem eqj182 (N : Nat) (Sj176 : TSj176) (S_an_of : TS_an_of) (Sj29 : TSj29) (x : Nat) (c_ : V -> List Blk -> Bool) : bodyV ⟨Pg, ofList [(88, (Fj176 Sj176)), (190, (F_an_of S_an_of)), (189, (Fj29 Sj29))], isref, N⟩ (anj182 N Sj176 S_an_of Sj29) 157 (shFj182.args [.nat x]) [] c_ = Gj182 N Sj176 S_an_of Sj29 x (fun r0 => c_ (.int .i64 r0) []) := by kernel_rfl
theorem goodj182 (N : Nat) (Sj176 : TSj176) (S_an_of : TS_an_of) (Sj29 : TSj29) (hj176 : GoodF Pg 88 (Fj176 Sj176)) (h_an_of : GoodF Pg 190 (F_an_of S_an_of)) (hj29 : GoodF Pg 189 (Fj29 Sj29)) : GoodF Pg 157 (Fj182 (Gj182 N Sj176 S_an_of Sj29)) := by
  refine good_fs (cx := ⟨Pg, ofList [(88, (Fj176 Sj176)), (190, (F_an_of S_an_of)), (189, (Fj29 Sj29))], isref, N⟩) (ofList_cons hj176 (ofList_cons h_an_of (ofList_cons hj29 (ofList_nil _)))) shFj182 (spj182 (Gj182 N Sj176 S_an_of Sj29)) (anj182 N Sj176 S_an_of Sj29) 0 0 (by kernel_rfl) (fun i_ hi_ => by omega) ?_
  intro a k h
  unfold spj182 at h
  split at h
  · exact ⟨[], rfl, rfl, (eqj182 _ _ _ _ _ _).trans h⟩
  · cases h


def anj198 (N : Nat) (Sj176 : TSj176) (Sj97 : TSj97) : Nat -> Option Ann := fun b_ => none
theorem eqj198 (N : Nat) (Sj176 : TSj176) (Sj97 : TSj97) (x : Nat) (c_ : V -> List Blk -> Bool) : bodyV ⟨Pg, ofList [(88, (Fj176 Sj176)), (100, (Fj97 Sj97))], isref, N⟩ (anj198 N Sj176 Sj97) 69 (shFj198.args [.nat x]) [] c_ = Gj198 N Sj176 Sj97 x (fun r0 => c_ (.flt r0) []) := by kernel_rfl
theorem goodj198 (N : Nat) (Sj176 : TSj176) (Sj97 : TSj97) (hj176 : GoodF Pg 88 (Fj176 Sj176)) (hj97 : GoodF Pg 100 (Fj97 Sj97)) : GoodF Pg 69 (Fj198 (Gj198 N Sj176 Sj97)) := by
  refine good_fs (cx := ⟨Pg, ofList [(88, (Fj176 Sj176)), (100, (Fj97 Sj97))], isref, N⟩) (ofList_cons hj176 (ofList_cons hj97 (ofList_nil _))) shFj198 (spj198 (Gj198 N Sj176 Sj97)) (anj198 N Sj176 Sj97) 0 0 (by kernel_rfl) (fun i_ hi_ => by omega) ?_
  intro a k h
  unfold spj198 at h
  split at h
  · exact ⟨[], rfl, rfl, (eqj198 _ _ _ _ _).trans h⟩
  · cases h

def anj92 (N : Nat) (Sj97 : TSj97) : Nat -> Option Ann := fun b_ => none
theorem eqj92 (N : Nat) (Sj97 : TSj97) (b : Int) (c_ : V -> List Blk -> Bool) : bodyV ⟨Pg, ofList [(100, (Fj97 Sj97))], isref, N⟩ (anj92 N Sj97) 39 (shFj92.args [.int b]) [] c_ = Gj92 N Sj97 b (fun r0 => c_ (.flt r0) []) := by kernel_rfl
theorem goodj92 (N : Nat) (Sj97 : TSj97) (hj97 : GoodF Pg 100 (Fj97 Sj97)) : GoodF Pg 39 (Fj92 (Gj92 N Sj97)) := by
  refine good_fs (cx := ⟨Pg, ofList [(100, (Fj97 Sj97))], isref, N⟩) (ofList_cons hj97 (ofList_nil _)) shFj92 (spj92 (Gj92 N Sj97)) (anj92 N Sj97) 0 0 (by kernel_rfl) (fun i_ hi_ => by omega) ?_
  intro a k h
  unfold spj92 at h
  split at h
  · exact ⟨[], rfl, rfl, (eqj92 _ _ _ _).trans h⟩
  · cases h

def anj50 (N : Nat) (Sj92 : TSj92) : Nat -> Option Ann := fun b_ => none
theorem eqj50 (N : Nat) (Sj92 : TSj92) (q_0 q_1 q_2 q_3 : Int) (c_ : V -> List Blk -> Bool) : bodyV ⟨Pg, ofList [(39, (Fj92 Sj92))], isref, N⟩ (anj50 N Sj92) 17 (shFj50.args [.int q_0, .int q_1, .int q_2, .int q_3]) [] c_ = Gj50 N Sj92 q_0 q_1 q_2 q_3 (fun r0 r1 r2 r3 => c_ (.agg [.flt r0, .flt r1, .flt r2, .flt r3]) []) := by kernel_rfl
theorem goodj50 (N : Nat) (Sj92 : TSj92) (hj92 : GoodF Pg 39 (Fj92 Sj92)) : GoodF Pg 17 (Fj50 (Gj50 N Sj92)) := by
  refine good_fs (cx := ⟨Pg, ofList [(39, (Fj92 Sj92))], isref, N⟩) (ofList_cons hj92 (ofList_nil _)) shFj50 (spj50 (Gj50 N Sj92)) (anj50 N Sj92) 0 0 (by kernel_rfl) (fun i_ hi_ => by omega) ?_
  intro a k h
  unfold spj50 at h
  split at h
  · exact ⟨[], rfl, rfl, (eqj50 _ _ _ _ _ _ _).trans h⟩
  · cases h

def sh_st_quat_finite_0 : StSh := ⟨(.rof :: (sqs 4 (.int .i64 :: (.int .i64 :: (sqs 13 []))))), []⟩
def sx0_st_quat_finite_0 : StSh := ⟨(.any :: (.any :: (.bool :: (sqs 17 [])))), []⟩
def sx1_st_quat_finite_0 : StSh := ⟨(sqs 20 []), []⟩
def hk_st_quat_finite_0 (N : Nat) : List Atom -> K -> Bool := fun a_ κ => match a_ with
  | [.fls l_1, .int t5, .int t6] => iterG N (st_quat_finite_0 N l_1 t5 (fun r0 => κ.ret (sx0_st_quat_finite_0.build [.bool r0])) (κ.ext 0 (sx1_st_quat_finite_0.build []))) t6
  | _ => false
def anj35 (N : Nat) : Nat -> Option Ann := fun b_ => cond (b_ == 0) (some ⟨⟨[0, 5, 6], [], []⟩, [(0, ⟨[], [], []⟩)], some ⟨[2], [], []⟩, some (mkHooks [(sh_st_quat_finite_0, hk_st_quat_finite_0 N)])⟩) (none)
theorem eq_st_quat_finite_0 (N : Nat) (κ : K) (l_1 : List Fl) (t5 t6 : Int) : iter N (fun s k => codeV ⟨Pg, ofList [], isref, N⟩ 0 (anj35 N) (lp Pg 86 0).2 (lp Pg 86 0).1 s (roundK Pg 0 ((anj35 N) (lp Pg 86 0).1) κ k)) (sh_st_quat_finite_0.build [.fls l_1, .int t5, .int t6]) = iterG N (st_quat_finite_0 N l_1 t5 (fun r0 => κ.ret (sx0_st_quat_finite_0.build [.bool r0])) (κ.ext 0 (sx1_st_quat_finite_0.build []))) t6 :=
  iter_tr (fun v_ => sh_st_quat_finite_0.build [.fls l_1, .int t5, .int v_]) (fun v_ K_ => by kernel_rfl) N t6
theorem hk1_st_quat_finite_0 (N : Nat) : HookFor ⟨Pg, ofList [], isref, N⟩ 0 (anj35 N) (lp Pg 86 0) (sh_st_quat_finite_0, hk_st_quat_finite_0 N) := by
  intro a κ h
  simp only at h
  unfold hk_st_quat_finite_0 at h
  split at h
  · exact (eq_st_quat_finite_0 _ _ _ _ _).trans h
  · cases h
theorem ho_quat_finite_0 (N : Nat) : HookOk ⟨Pg, ofList [], isref, N⟩ 0 (anj35 N) (lp Pg 86 0) :=
  hooks_ok [(sh_st_quat_finite_0, hk_st_quat_finite_0 N)] (by kernel_rfl) ⟨hk1_st_quat_finite_0 _, trivial⟩
theorem eqj35 (N : Nat) (l : List Fl) (c_ : V -> List Blk -> Bool) : bodyV ⟨Pg, ofList [], isref, N⟩ (anj35 N) 86 (shFj35.args [.fls l]) [] c_ = Gj35 N l (fun r0 => c_ (.bool r0) []) := by kernel_rfl
theorem goodj35 (N : Nat) : GoodF Pg 86 (Fj35 (Gj35 N)) := by
  refine good_fs (cx := ⟨Pg, ofList [], isref, N⟩) (ofList_nil _) shFj35 (spj35 (Gj35 N)) (anj35 N) 1 0 (by kernel_rfl) (fun i_ hi_ => by
    match i_, hi_ with
    | 0, _ => exact ho_quat_finite_0 _
    | (q + 1), h => omega) ?_
  intro a k h
  unfold spj35 at h
  split at h
  · exact ⟨[], rfl, rfl, (eqj35 _ _ _).trans h⟩
  · cases h

def anj15 (N : Nat) (Sj35 : TSj35) : Nat -> Option Ann := fun b_ => none
theorem eqj15 (N : Nat) (Sj35 : TSj35) (qs_0 qs_1 qs_2 qs_3 : Fl) (c_ : V -> List Blk -> Bool) : bodyV ⟨Pg, ofList [(86, (Fj35 Sj35))], isref, (N + 24)⟩ (anj15 (N + 24) Sj35) 56 (shFj15.args [.fl qs_0, .fl qs_1, .fl qs_2, .fl qs_3]) [] c_ = Gj15 (N + 24) Sj35 qs_0 qs_1 qs_2 qs_3 (fun r0 => c_ (.bool r0) []) := by kernel_rfl
theorem goodj15 (N : Nat) (Sj35 : TSj35) (hj35 : GoodF Pg 86 (Fj35 Sj35)) : GoodF Pg 56 (Fj15 (Gj15 (N + 24) Sj35)) := by
  refine good_fs (cx := ⟨Pg, ofList [(86, (Fj35 Sj35))], isref, (N + 24)⟩) (ofList_cons hj35 (ofList_nil _)) shFj15 (spj15 (Gj15 (N + 24) Sj35)) (anj15 (N + 24) Sj35) 1 0 (by kernel_rfl) (fun i_ hi_ => by
    match i_, hi_ with
    | 0, _ => exact (fun hk e => by rw [show hookOf ((anj15 (N + 24) Sj35) (lp Pg 56 0).1) = none from by kernel_rfl] at e; cases e)
    | (q + 1), h => omega) ?_
  intro a k h
  unfold spj15 at h
  split at h
  · exact ⟨[], rfl, rfl, (eqj15 _ _ _ _ _ _ _).trans h⟩
  · cases h

def anj60 (N : Nat) : Nat -> Option Ann := fun b_ => none
theorem eqj60 (N : Nat) (q_0 q_1 q_2 q_3 : Fl) (c_ : V -> List Blk -> Bool) : bodyV ⟨Pg, ofList [], isref, N⟩ (anj60 N) 68 (shFj60.args [.fl q_0, .fl q_1, .fl q_2, .fl q_3]) [] c_ = Gj60 N q_0 q_1 q_2 q_3 (c_ (.agg [.flt q_0, .flt q_1, .flt q_2, .flt q_3]) []) := by kernel_rfl
theorem goodj60 (N : Nat) : GoodF Pg 68 (Fj60 (Gj60 N)) := by
  refine good_fs (cx := ⟨Pg, ofList [], isref, N⟩) (ofList_nil _) shFj60 (spj60 (Gj60 N)) (anj60 N) 0 0 (by kernel_rfl) (fun i_ hi_ => by omega) ?_
  intro a k h
  unfold spj60 at h
  split at h
  · exact ⟨[], rfl, rfl, (eqj60 _ _ _ _ _ _).trans h⟩
  · cases h


def anj138 (N : Nat) (S_m_Abs : TS_m_Abs) : Nat -> Option Ann := fun b_ => none
theorem eqj138 (N : Nat) (S_m_Abs : TS_m_Abs) (f : Fl) (sign : Int) (c_ : V -> List Blk -> Bool) : bodyV ⟨Pg, ofList [(69, (F_m_Abs S_m_Abs))], isref, N⟩ (anj138 N S_m_Abs) 148 (shFj138.args [.fl f, .int sign]) [] c_ = Gj138 N S_m_Abs f sign (fun r0 => c_ (.bool r0) []) := by kernel_rfl
theorem goodj138 (N : Nat) (S_m_Abs : TS_m_Abs) (h_m_Abs : GoodF Pg 69 (F_m_Abs S_m_Abs)) : GoodF Pg 148 (Fj138 (Gj138 N S_m_Abs)) := by
  refine good_fs (cx := ⟨Pg, ofList [(69, (F_m_Abs S_m_Abs))], isref, N⟩) (ofList_cons h_m_Abs (ofList_nil _)) shFj138 (spj138 (Gj138 N S_m_Abs)) (anj138 N S_m_Abs) 0 0 (by kernel_rfl) (fun i_ hi_ => by omega) ?_
  intro a k h
  unfold spj138 at h
  split at h
  · exact ⟨[], rfl, rfl, (eqj138 _ _ _ _ _).trans h⟩
  · cases h

def anj146 (N : Nat) : Nat -> Option Ann := fun b_ => none
theorem eqj146 (N : Nat) (f : Fl) (c_ : V -> List Blk -> Bool) : bodyV ⟨Pg, ofList [], isref, N⟩ (anj146 N) 149 (shFj146.args [.fl f]) [] c_ = Gj146 N f (fun r0 => c_ (.bool r0) []) := by kernel_rfl
theorem goodj146 (N : Nat) : GoodF Pg 149 (Fj146 (Gj146 N)) := by
  refine good_fs (cx := ⟨Pg, ofList [], isref, N⟩) (ofList_nil _) shFj146 (spj146 (Gj146 N)) (anj146 N) 0 0 (by kernel_rfl) (fun i_ hi_ => by omega) ?_
  intro a k h
  unfold spj146 at h
  split at h
  · exact ⟨[], rfl, rfl, (eqj146 _ _ _).trans h⟩
  · cases h

def anj76 (N : Nat) (S_m_Abs : TS_m_Abs) : Nat -> Option Ann := fun b_ => none
theorem eqj76 (N : Nat) (S_m_Abs : TS_m_Abs) (x : Fl) (c_ : V -> List Blk -> Bool) : bodyV ⟨Pg, ofList [(69, (F_m_Abs S_m_Abs))], isref, N⟩ (anj76 N S_m_Abs) 150 (shFj76.args [.fl x]) [] c_ = Gj76 N S_m_Abs x (fun r0 r1 => c_ (.tup [.flt r0, .int .i64 r1]) []) := by kernel_rfl
theorem goodj76 (N : Nat) (S_m_Abs : TS_m_Abs) (h_m_Abs : GoodF Pg 69 (F_m_Abs S_m_Abs)) : GoodF Pg 150 (Fj76 (Gj76 N S_m_Abs)) := by
  refine good_fs (cx := ⟨Pg, ofList [(69, (F_m_Abs S_m_Abs))], isref, N⟩) (ofList_cons h_m_Abs (ofList_nil _)) shFj76 (spj76 (Gj76 N S_m_Abs)) (anj76 N S_m_Abs) 0 0 (by kernel_rfl) (fun i_ hi_ => by omega) ?_
  intro a k h
  unfold spj76 at h
  split at h
  · exact ⟨[], rfl, rfl, (eqj76 _ _ _ _).trans h⟩
  · cases h


def anj194 (N : Nat) (Sj138 : TSj138) (Sj146 : TSj146) (Sj76 : TSj76) (Sj106 : TSj106) (Sj97 : TSj97) : Nat -> Option Ann := fun b_ => none
theorem eqj194 (N : Nat) (Sj138 : TSj138) (Sj146 : TSj146) (Sj76 : TSj76) (Sj106 : TSj106) (Sj97 : TSj97) (f : Fl) (c_ : V -> List Blk -> Bool) : bodyV ⟨Pg, ofList [(148, (Fj138 Sj138)), (149, (Fj146 Sj146)), (150, (Fj76 Sj76)), (88, (Fj106 Sj106)), (100, (Fj97 Sj97))], isref, N⟩ (anj194 N Sj138 Sj146 Sj76 Sj106 Sj97) 119 (shFj194.args [.fl f]) [] c_ = Gj194 N Sj138 Sj146 Sj76 Sj106 Sj97 f (fun r0 r1 => c_ (.tup [.flt r0, .int .i64 r1]) []) := by kernel_rfl
theorem goodj194 (N : Nat) (Sj138 : TSj138) (Sj146 : TSj146) (Sj76 : TSj76) (Sj106 : TSj106) (Sj97 : TSj97) (hj138 : GoodF Pg 148 (Fj138 Sj138)) (hj146 : GoodF Pg 149 (Fj146 Sj146)) (hj76 : GoodF Pg 150 (Fj76 Sj76)) (hj106 : GoodF Pg 88 (Fj106 Sj106)) (hj97 : GoodF Pg 100 (Fj97 Sj97)) : GoodF Pg 119 (Fj194 (Gj194 N Sj138 Sj146 Sj76 Sj106 Sj97)) := by
  refine good_fs (cx := ⟨Pg, ofList [(148, (Fj138 Sj138)), (149, (Fj146 Sj146)), (150, (Fj76 Sj76)), (88, (Fj106 Sj106)), (100, (Fj97 Sj97))], isref, N⟩) (ofList_cons hj138 (ofList_cons hj146 (ofList_cons hj76 (ofList_cons hj106 (ofList_cons hj97 (ofList_nil _)))))) shFj194 (spj194 (Gj194 N Sj138 Sj146 Sj76 Sj106 Sj97)) (anj194 N Sj138 Sj146 Sj76 Sj106 Sj97) 0 0 (by kernel_rfl) (fun i_ hi_ => by omega) ?_
  intro a k h
  unfold spj194 at h
  split at h
  · exact ⟨[], rfl, rfl, (eqj194 _ _ _ _ _ _ _ _).trans h⟩
  · cases h

def anj136 (N : Nat) (Sj194 : TSj194) : Nat -> Option Ann := fun b_ => none
theorem eqj136 (N : Nat) (Sj194 : TSj194) (f : Fl) (c_ : V -> List Blk -> Bool) : bodyV ⟨Pg, ofList [(119, (Fj194 Sj194))], isref, N⟩ (anj136 N Sj194) 70 (shFj136.args [.fl f]) [] c_ = Gj136 N Sj194 f (fun r0 r1 => c_ (.tup [.flt r0, .int .i64 r1]) []) := by kernel_rfl
theorem goodj136 (N : Nat) (Sj194 : TSj194) (hj194 : GoodF Pg 119 (Fj194 Sj194)) : GoodF Pg 70 (Fj136 (Gj136 N Sj194)) := by
  refine good_fs (cx := ⟨Pg, ofList [(119, (Fj194 Sj194))], isref, N⟩) (ofList_cons hj194 (ofList_nil _)) shFj136 (spj136 (Gj136 N Sj194)) (anj136 N Sj194) 0 0 (by kernel_rfl) (fun i_ hi_ => by omega) ?_
  intro a k h
  unfold spj136 at h
  split at h
  · exact ⟨[], rfl, rfl, (eqj136 _ _ _ _).trans h⟩
  · cases h

def anj116 (N : Nat) (Sj106 : TSj106) (Sj97 : TSj97) : Nat -> Option Ann := fun b_ => none
theorem eqj116 (N : Nat) (Sj106 : TSj106) (Sj97 : TSj97) (f sign : Fl) (c_ : V -> List Blk -> Bool) : bodyV ⟨Pg, ofList [(88, (Fj106 Sj106)), (100, (Fj97 Sj97))], isref, N⟩ (anj116 N Sj106 Sj97) 151 (shFj116.args [.fl f, .fl sign]) [] c_ = Gj116 N Sj106 Sj97 f sign (fun r0 => c_ (.flt r0) []) := by kernel_rfl
theorem goodj116 (N : Nat) (Sj106 : TSj106) (Sj97 : TSj97) (hj106 : GoodF Pg 88 (Fj106 Sj106)) (hj97 : GoodF Pg 100 (Fj97 Sj97)) : GoodF Pg 151 (Fj116 (Gj116 N Sj106 Sj97)) := by
  refine good_fs (cx := ⟨Pg, ofList [(88, (Fj106 Sj106)), (100, (Fj97 Sj97))], isref, N⟩) (ofList_cons hj106 (ofList_cons hj97 (ofList_nil _))) shFj116 (spj116 (Gj116 N Sj106 Sj97)) (anj116 N Sj106 Sj97) 0 0 (by kernel_rfl) (fun i_ hi_ => by omega) ?_
  intro a k h
  unfold spj116 at h
  split at h
  · exact ⟨[], rfl, rfl, (eqj116 _ _ _ _ _ _).trans h⟩
  · cases h

def an_m_Inf (N : Nat) (Sj97 : TSj97) : Nat -> Option Ann := fun b_ => none
def ls_m_Inf_0 (d_ : List V) (u_ : List (Option Blk)) (sign v : Int) : St := ⟨(dqs d_ 0 3 (.int .u64 v :: (dqs d_ 3 4 []))), []⟩
theorem jn_m_Inf_0 (N : Nat) (Sj97 : TSj97) (d_ : List V) (u_ : List (Option Blk)) (sign v : Int) (c_ : V -> List Blk -> Bool) : codesV ⟨Pg, ofList [(100, (Fj97 Sj97))], isref, N⟩ 0 (an_m_Inf N Sj97) ((cds Pg 152).drop 4) 0 (ls_m_Inf_0 d_ u_ sign v) (finV Pg 152 0 c_) = J_m_Inf_0 N Sj97 sign v (fun r0 => c_ (.flt r0) []) := by kernel_rfl
theorem hd_m_Inf_w (N : Nat) (Sj97 : TSj97) (sign : Int) (c_ : V -> List Blk -> Bool) (κn_ : St -> Bool) : codesV ⟨Pg, ofList [(100, (Fj97 Sj97))], isref, N⟩ 0 (an_m_Inf N Sj97) (sg Pg 152 0 4) 0 (st0 Pg 152 (shF_m_Inf.args [.int sign]) []) { (finV Pg 152 0 c_) with nrm := κn_ } = (cond (decide (sign >= 0)) (κn_ (ls_m_Inf_0 [.int .i64 sign, .any, .flt (some 0), .int .i64 sign, .bool true, .any, .any] [] sign 9218868437227405312)) (κn_ (ls_m_Inf_0 [.int .i64 sign, .any, .flt (some 0), .int .i64 sign, .bool false, .any, .any] [] sign 18442240474082181120))) := by kernel_rfl
theorem jn_m_Inf_w (N : Nat) (Sj97 : TSj97) (sign : Int) (c_ : V -> List Blk -> Bool) : codesV ⟨Pg, ofList [(100, (Fj97 Sj97))], isref, N⟩ 0 (an_m_Inf N Sj97) ((cds Pg 152).drop 0) 0 (st0 Pg 152 (shF_m_Inf.args [.int sign]) []) (finV Pg 152 0 c_) = G_m_Inf N Sj97 sign (fun r0 => c_ (.flt r0) []) := by
  rw [codesV_cut 0 4 4 rfl]
  refine (hd_m_Inf_w N Sj97 sign c_ _).trans ?_
  simp only [jn_m_Inf_0]
  kernel_rfl
theorem eq_m_Inf (N : Nat) (Sj97 : TSj97) (sign : Int) (c_ : V -> List Blk -> Bool) : bodyV ⟨Pg, ofList [(100, (Fj97 Sj97))], isref, N⟩ (an_m_Inf N Sj97) 152 (shF_m_Inf.args [.int sign]) [] c_ = G_m_Inf N Sj97 sign (fun r0 => c_ (.flt r0) []) :=
  (bodyV_codes (by kernel_rfl)).trans (jn_m_Inf_w N Sj97 sign c_)
theorem good_m_Inf (N : Nat) (Sj97 : TSj97) (hj97 : GoodF Pg 100 (Fj97 Sj97)) : GoodF Pg 152 (F_m_Inf (G_m_Inf N Sj97)) := by
  refine good_fs (cx := ⟨Pg, ofList [(100, (Fj97 Sj97))], isref, N⟩) (ofList_cons hj97 (ofList_nil _)) shF_m_Inf (sp_m_Inf (G_m_Inf N Sj97)) (an_m_Inf N Sj97) 0 0 (by kernel_rfl) (fun i_ hi_ => by omega) ?_
  intro a k h
  unfold sp_m_Inf at h
  split at h
  · exact ⟨[], rfl, rfl, (eq_m_Inf _ _ _ _).trans h⟩
  · cases h

def anj188 (N : Nat) (Sj138 : TSj138) (Sj146 : TSj146) (Sj76 : TSj76) (Sj106 : TSj106) (Sj116 : TSj116) (S_m_Inf : TS_m_Inf) (Sj97 : TSj97) : Nat -> Option Ann := fun b_ => none
def lsj232 (d_ : List V) (u_ : List (Option Blk)) (frac : Fl) (exp exp_1 x : Int) (m : Fl) : St := ⟨((dq d_ 0) :: (.int .i64 exp_1 :: (dqs d_ 1 4 (.int .u64 x :: (.flt m :: (dqs d_ 5 55 [])))))), []⟩
theorem jnj232 (N : Nat) (Sj138 : TSj138) (Sj146 : TSj146) (Sj76 : TSj76) (Sj106 : TSj106) (Sj116 : TSj116) (S_m_Inf : TS_m_Inf) (Sj97 : TSj97) (d_ : List V) (u_ : List (Option Blk)) (frac : Fl) (exp exp_1 x : Int) (m : Fl) (c_ : V -> List Blk -> Bool) : codesV ⟨Pg, ofList [(148, (Fj138 Sj138)), (149, (Fj146 Sj146)), (150, (Fj76 Sj76)), (88, (Fj106 Sj106)), (151, (Fj116 Sj116)), (152, (F_m_Inf S_m_Inf)), (100, (Fj97 Sj97))], isref, N⟩ 0 (anj188 N Sj138 Sj146 Sj76 Sj106 Sj116 S_m_Inf Sj97) ((cds Pg 121).drop 13) 0 (lsj232 d_ u_ frac exp exp_1 x m) (finV Pg 121 0 c_) = Jj232 N Sj138 Sj146 Sj76 Sj106 Sj116 S_m_Inf Sj97 frac exp exp_1 x m (fun r0 => c_ (.flt r0) []) := by kernel_rfl
theorem hd_m_ldexp_w (N : Nat) (Sj138 : TSj138) (Sj146 : TSj146) (Sj76 : TSj76) (Sj106 : TSj106) (Sj116 : TSj116) (S_m_Inf : TS_m_Inf) (Sj97 : TSj97) (frac : Fl) (exp : Int) (c_ : V -> List Blk -> Bool) (κn_ : St -> Bool) : codesV ⟨Pg, ofList [(148, (Fj138 Sj138)), (149, (Fj146 Sj146)), (150, (Fj76 Sj76)), (88, (Fj106 Sj106)), (151, (Fj116 Sj116)), (152, (F_m_Inf S_m_Inf)), (100, (Fj97 Sj97))], isref, N⟩ 0 (anj188 N Sj138 Sj146 Sj76 Sj106 Sj116 S_m_Inf Sj97) (sg Pg 121 0 13) 0 (st0 Pg 121 (shFj188.args [.fl frac, .int exp]) []) { (finV Pg 121 0 c_) with nrm := κn_ } = (cond (feq frac (some 0)) (c_ (.flt frac) []) (Sj138 frac 0 (fun cr => (cond (cr == false) (Sj146 frac (fun cr_1 => (cond cr_1 (c_ (.flt frac) []) (Sj76 frac (fun xr nr => ((fits .i64 (exp + nr)) && (Sj106 xr (fun nr_1 => ((fits .i64 (Int.fdiv nr_1 (2 ^ 52))) && ((fits .i64 ((bitsN .and .i64 (Int.fdiv nr_1 (2 ^ 52)) 2047) - 1023)) && ((fits .i64 ((exp + nr) + ((bitsN .and .i64 (Int.fdiv nr_1 (2 ^ 52)) 2047) - 1023))) && (cond (decide (((exp + nr) + ((bitsN .and .i64 (Int.fdiv nr_1 (2 ^ 52)) 2047) - 1023)) < (-1075))) (Sj116 (some 0) xr (fun xr_1 => (c_ (.flt xr_1) []))) (cond (decide (((exp + nr) + ((bitsN .and .i64 (Int.fdiv nr_1 (2 ^ 52)) 2047) - 1023)) > 1023)) (cond (flt xr (some 0)) (S_m_Inf (-1) (fun xr_2 => (c_ (.flt xr_2) []))) (S_m_Inf 1 (fun xr_3 => (c_ (.flt xr_3) [])))) (cond (decide (((exp + nr) + ((bitsN .and .i64 (Int.fdiv nr_1 (2 ^ 52)) 2047) - 1023)) < (-1022))) ((fits .i64 (((exp + nr) + ((bitsN .and .i64 (Int.fdiv nr_1 (2 ^ 52)) 2047) - 1023)) + 53)) && (κn_ (lsj232 [.flt xr, .any, .any, .flt (some 0), .int .i64 nr, .bool false, .flt frac, .bool (feq frac (some 0)), .any, .bool false, .flt frac, .bool cr, .bool false, .flt frac, .bool cr_1, .bool cr_1, .any, .tup [.flt xr, .int .i64 nr], .flt frac, .tup [.flt xr, .int .i64 nr], .flt xr, .int .i64 nr, .int .i64 exp, .int .i64 nr, .int .i64 (exp + nr), .flt xr, .int .u64 nr_1, .int .i64 (exp + nr), .int .u64 nr_1, .int .u64 (Int.fdiv nr_1 (2 ^ 52)), .int .i64 (Int.fdiv nr_1 (2 ^ 52)), .int .i64 (bitsN .and .i64 (Int.fdiv nr_1 (2 ^ 52)) 2047), .int .i64 ((bitsN .and .i64 (Int.fdiv nr_1 (2 ^ 52)) 2047) - 1023), .int .i64 ((exp + nr) + ((bitsN .and .i64 (Int.fdiv nr_1 (2 ^ 52)) 2047) - 1023)), .int .i64 ((exp + nr) + ((bitsN .and .i64 (Int.fdiv nr_1 (2 ^ 52)) 2047) - 1023)), .bool false, .any, .any, .int .i64 ((exp + nr) + ((bitsN .and .i64 (Int.fdiv nr_1 (2 ^ 52)) 2047) - 1023)), .bool false, .any, .any, .any, .any, .int .i64 ((exp + nr) + ((bitsN .and .i64 (Int.fdiv nr_1 (2 ^ 52)) 2047) - 1023)), .bool true, .int .i64 ((exp + nr) + ((bitsN .and .i64 (Int.fdiv nr_1 (2 ^ 52)) 2047) - 1023)), .int .i64 (((exp + nr) + ((bitsN .and .i64 (Int.fdiv nr_1 (2 ^ 52)) 2047) - 1023)) + 53), .any, .any, .any, .any, .any, .any, .any, .any, .any, .any, .any, .any] [] frac exp (((exp + nr) + ((bitsN .and .i64 (Int.fdiv nr_1 (2 ^ 52)) 2047) - 1023)) + 53) nr_1 (some 4368491638549381120)))) (κn_ (lsj232 [.flt xr, .any, .any, .flt (some 0), .int .i64 nr, .bool false, .flt frac, .bool (feq frac (some 0)), .any, .bool false, .flt frac, .bool cr, .bool false, .flt frac, .bool cr_1, .bool cr_1, .any, .tup [.flt xr, .int .i64 nr], .flt frac, .tup [.flt xr, .int .i64 nr], .flt xr, .int .i64 nr, .int .i64 exp, .int .i64 nr, .int .i64 (exp + nr), .flt xr, .int .u64 nr_1, .int .i64 (exp + nr), .int .u64 nr_1, .int .u64 (Int.fdiv nr_1 (2 ^ 52)), .int .i64 (Int.fdiv nr_1 (2 ^ 52)), .int .i64 (bitsN .and .i64 (Int.fdiv nr_1 (2 ^ 52)) 2047), .int .i64 ((bitsN .and .i64 (Int.fdiv nr_1 (2 ^ 52)) 2047) - 1023), .int .i64 ((exp + nr) + ((bitsN .and .i64 (Int.fdiv nr_1 (2 ^ 52)) 2047) - 1023)), .int .i64 ((exp + nr) + ((bitsN .and .i64 (Int.fdiv nr_1 (2 ^ 52)) 2047) - 1023)), .bool false, .any, .any, .int .i64 ((exp + nr) + ((bitsN .and .i64 (Int.fdiv nr_1 (2 ^ 52)) 2047) - 1023)), .bool false, .any, .any, .any, .any, .int .i64 ((exp + nr) + ((bitsN .and .i64 (Int.fdiv nr_1 (2 ^ 52)) 2047) - 1023)), .bool false, .any, .any, .any, .any, .any, .any, .any, .any, .any, .any, .any, .any, .any, .any] [] frac exp ((exp + nr) + ((bitsN .and .i64 (Int.fdiv nr_1 (2 ^ 52)) 2047) - 1023)) nr_1 (some 4607182418800017408))))))))))))))))) (c_ (.flt frac) []))))) := by kernel_rfl
theorem jn_m_ldexp_w (N : Nat) (Sj138 : TSj138) (Sj146 : TSj146) (Sj76 : TSj76) (Sj106 : TSj106) (Sj116 : TSj116) (S_m_Inf : TS_m_Inf) (Sj97 : TSj97) (frac : Fl) (exp : Int) (c_ : V -> List Blk -> Bool) : codesV ⟨Pg, ofList [(148, (Fj138 Sj138)), (149, (Fj146 Sj146)), (150, (Fj76 Sj76)), (88, (Fj106 Sj106)), (151, (Fj116 Sj116)), (152, (F_m_Inf S_m_Inf)), (100, (Fj97 Sj97))], isref, N⟩ 0 (anj188 N Sj138 Sj146 Sj76 Sj106 Sj116 S_m_Inf Sj97) ((cds Pg 121).drop 0) 0 (st0 Pg 121 (shFj188.args [.fl frac, .int exp]) []) (finV Pg 121 0 c_) = Gj188 N Sj138 Sj146 Sj76 Sj106 Sj116 S_m_Inf Sj97 frac exp (fun r0 => c_ (.flt r0) []) := by
  rw [codesV_cut 0 13 13 rfl]
  refine (hd_m_ldexp_w N Sj138 Sj146 Sj76 Sj106 Sj116 S_m_Inf Sj97 frac exp c_ _).trans ?_
  simp only [jnj232]
  kernel_rfl
theorem eqj188 (N : Nat) (Sj138 : TSj138) (Sj146 : TSj146) (Sj76 : TSj76) (Sj106 : TSj106) (Sj116 : TSj116) (S_m_Inf : TS_m_Inf) (Sj97 : TSj97) (frac : Fl) (exp : Int) (c_ : V -> List Blk -> Bool) : bodyV ⟨Pg, ofList [(148, (Fj138 Sj138)), (149, (Fj146 Sj146)), (150, (Fj76 Sj76)), (88, (Fj106 Sj106)), (151, (Fj116 Sj116)), (152, (F_m_Inf S_m_Inf)), (100, (Fj97 Sj97))], isref, N⟩ (anj188 N Sj138 Sj146 Sj76 Sj106 Sj116 S_m_Inf Sj97) 121 (shFj188.args [.fl frac, .int exp]) [] c_ = Gj188 N Sj138 Sj146 Sj76 Sj106 Sj116 S_m_Inf Sj97 frac exp (fun r0 => c_ (.flt r0) []) :=
  (bodyV_codes (by kernel_rfl)).trans (jn_m_ldexp_w N Sj138 Sj146 Sj76 Sj106 Sj116 S_m_Inf Sj97 frac exp c_)
theorem goodj188 (N : Nat) (Sj138 : TSj138) (Sj146 : TSj146) (Sj76 : TSj76) (Sj106 : TSj106) (Sj116 : TSj116) (S_m_Inf : TS_m_Inf) (Sj97 : TSj97) (hj138 : GoodF Pg 148 (Fj138 Sj138)) (hj146 : GoodF Pg 149 (Fj146 Sj146)) (hj76 : GoodF Pg 150 (Fj76 Sj76)) (hj106 : GoodF Pg 88 (Fj106 Sj106)) (hj116 : GoodF Pg 151 (Fj116 Sj116)) (h_m_Inf : GoodF Pg 152 (F_m_Inf S_m_Inf)) (hj97 : GoodF Pg 100 (Fj97 Sj97)) : GoodF Pg 121 (Fj188 (Gj188 N Sj138 Sj146 Sj76 Sj106 Sj116 S_m_Inf Sj97)) := by
  refine good_fs (cx := ⟨Pg, ofList [(148, (Fj138 Sj138)), (149, (Fj146 Sj146)), (150, (Fj76 Sj76)), (88, (Fj106 Sj106)), (151, (Fj116 Sj116)), (152, (F_m_Inf S_m_Inf)), (100, (Fj97 Sj97))], isref, N⟩) (ofList_cons hj138 (ofList_cons hj146 (ofList_cons hj76 (ofList_cons hj106 (ofList_cons hj116 (ofList_cons h_m_Inf (ofList_cons hj97 (ofList_nil _)))))))) shFj188 (spj188 (Gj188 N Sj138 Sj146 Sj76 Sj106 Sj116 S_m_Inf Sj97)) (anj188 N Sj138 Sj146 Sj76 Sj106 Sj116 S_m_Inf Sj97) 0 0 (by kernel_rfl) (fun i_ hi_ => by omega) ?_
  intro a k h
  unfold spj188 at h
  split at h
  · exact ⟨[], rfl, rfl, (eqj188 _ _ _ _ _ _ _ _ _ _ _).trans h⟩
  · cases h

def anj187 (N : Nat) (Sj188 : TSj188) : Nat -> Option Ann := fun b_ => none
theorem eqj187 (N : Nat) (Sj188 : TSj188) (frac : Fl) (exp : Int) (c_ : V -> List Blk -> Bool) : bodyV ⟨Pg, ofList [(121, (Fj188 Sj188))], isref, N⟩ (anj187 N Sj188) 71 (shFj187.args [.fl frac, .int exp]) [] c_ = Gj187 N Sj188 frac exp (fun r0 => c_ (.flt r0) []) := by kernel_rfl
theorem goodj187 (N : Nat) (Sj188 : TSj188) (hj188 : GoodF Pg 121 (Fj188 Sj188)) : GoodF Pg 71 (Fj187 (Gj187 N Sj188)) := by
  refine good_fs (cx := ⟨Pg, ofList [(121, (Fj188 Sj188))], isref, N⟩) (ofList_cons hj188 (ofList_nil _)) shFj187 (spj187 (Gj187 N Sj188)) (anj187 N Sj188) 0 0 (by kernel_rfl) (fun i_ hi_ => by omega) ?_
  intro a k h
  unfold spj187 at h
  split at h
  · exact ⟨[], rfl, rfl, (eqj187 _ _ _ _ _).trans h⟩
  · cases h


def anj190 (N : Nat) (Sj205 : TSj205) : Nat -> Option Ann := fun b_ => none
theorem eqj190 (N : Nat) (Sj205 : TSj205) (x : Fl) (c_ : V -> List Blk -> Bool) : bodyV ⟨Pg, ofList [(122, (Fj205 Sj205))], isref, N⟩ (anj190 N Sj205) 72 (shFj190.args [.fl x]) [] c_ = Gj190 N Sj205 x (fun r0 => c_ (.flt r0) []) := by kernel_rfl
theorem goodj190 (N : Nat) (Sj205 : TSj205) (hj205 : GoodF Pg 122 (Fj205 Sj205)) : GoodF Pg 72 (Fj190 (Gj190 N Sj205)) := by
  refine good_fs (cx := ⟨Pg, ofList [(122, (Fj205 Sj205))], isref, N⟩) (ofList_cons hj205 (ofList_nil _)) shFj190 (spj190 (Gj190 N Sj205)) (anj190 N Sj205) 0 0 (by kernel_rfl) (fun i_ hi_ => by omega) ?_
  intro a k h
  unfold spj190 at h
  split at h
  · exact ⟨[], rfl, rfl, (eqj190 _ _ _ _).trans h⟩
  · cases h

def anj164 (N : Nat) : Nat -> Option Ann := fun b_ => none
theorem eqj164 (N : Nat) (l_0 l_1 l_2 l_3 : Fl) (c_ : V -> List Blk -> Bool) : bodyV ⟨Pg, ofList [], isref, N⟩ (anj164 N) 73 (shFj164.args [.fl l_0, .fl l_1, .fl l_2, .fl l_3]) [] c_ = Gj164 N l_0 l_1 l_2 l_3 (c_ (.agg [.flt l_0, .flt l_1, .flt l_2, .flt l_3]) []) := by kernel_rfl
theorem goodj164 (N : Nat) : GoodF Pg 73 (Fj164 (Gj164 N)) := by
  refine good_fs (cx := ⟨Pg, ofList [], isref, N⟩) (ofList_nil _) shFj164 (spj164 (Gj164 N)) (anj164 N) 0 0 (by kernel_rfl) (fun i_ hi_ => by omega) ?_
  intro a k h
  unfold spj164 at h
  split at h
  · exact ⟨[], rfl, rfl, (eqj164 _ _ _ _ _ _).trans h⟩
  · cases h

def anj89 (N : Nat) (Sj15 : TSj15) (Sj60 : TSj60) (S_m_Abs : TS_m_Abs) (Sj136 : TSj136) (Sj187 : TSj187) (Sj190 : TSj190) (Sj164 : TSj164) : Nat -> Option Ann := fun b_ => none
theorem eqj89 (N : Nat) (Sj15 : TSj15) (Sj60 : TSj60) (S_m_Abs : TS_m_Abs) (Sj136 : TSj136) (Sj187 : TSj187) (Sj190 : TSj190) (Sj164 : TSj164) (q_0 q_1 q_2 q_3 : Fl) (c_ : V -> List Blk -> Bool) : bodyV ⟨Pg, ofList [(56, (Fj15 Sj15)), (68, (Fj60 Sj60)), (69, (F_m_Abs S_m_Abs)), (70, (Fj136 Sj136)), (71, (Fj187 Sj187)), (72, (Fj190 Sj190)), (73, (Fj164 Sj164))], isref, (N + 24)⟩ (anj89 (N + 24) Sj15 Sj60 S_m_Abs Sj136 Sj187 Sj190 Sj164) 18 (shFj89.args [.fl q_0, .fl q_1, .fl q_2, .fl q_3]) [] c_ = Gj89 (N + 24) Sj15 Sj60 S_m_Abs Sj136 Sj187 Sj190 Sj164 q_0 q_1 q_2 q_3 (fun r0 r1 r2 r3 r4 => c_ (.tup [.agg [.flt r0, .flt r1, .flt r2, .flt r3], .int .i64 r4]) []) := by kernel_rfl
theorem goodj89 (N : Nat) (Sj15 : TSj15) (Sj60 : TSj60) (S_m_Abs : TS_m_Abs) (Sj136 : TSj136) (Sj187 : TSj187) (Sj190 : TSj190) (Sj164 : TSj164) (hj15 : GoodF Pg 56 (Fj15 Sj15)) (hj60 : GoodF Pg 68 (Fj60 Sj60)) (h_m_Abs : GoodF Pg 69 (F_m_Abs S_m_Abs)) (hj136 : GoodF Pg 70 (Fj136 Sj136)) (hj187 : GoodF Pg 71 (Fj187 Sj187)) (hj190 : GoodF Pg 72 (Fj190 Sj190)) (hj164 : GoodF Pg 73 (Fj164 Sj164)) : GoodF Pg 18 (Fj89 (Gj89 (N + 24) Sj15 Sj60 S_m_Abs Sj136 Sj187 Sj190 Sj164)) := by
  refine good_fs (cx := ⟨Pg, ofList [(56, (Fj15 Sj15)), (68, (Fj60 Sj60)), (69, (F_m_Abs S_m_Abs)), (70, (Fj136 Sj136)), (71, (Fj187 Sj187)), (72, (Fj190 Sj190)), (73, (Fj164 Sj164))], isref, (N + 24)⟩) (ofList_cons hj15 (ofList_cons hj60 (ofList_cons h_m_Abs (ofList_cons hj136 (ofList_cons hj187 (ofList_cons hj190 (ofList_cons hj164 (ofList_nil _)))))))) shFj89 (spj89 (Gj89 (N + 24) Sj15 Sj60 S_m_Abs Sj136 Sj187 Sj190 Sj164)) (anj89 (N + 24) Sj15 Sj60 S_m_Abs Sj136 Sj187 Sj190 Sj164) 3 0 (by kernel_rfl) (fun i_ hi_ => by
    match i_, hi_ with
    | 0, _ => exact (fun hk e => by rw [show hookOf ((anj89 (N + 24) Sj15 Sj60 S_m_Abs Sj136 Sj187 Sj190 Sj164) (lp Pg 18 0).1) = none from by kernel_rfl] at e; cases e)
    | 1, _ => exact (fun hk e => by rw [show hookOf ((anj89 (N + 24) Sj15 Sj60 S_m_Abs Sj136 Sj187 Sj190 Sj164) (lp Pg 18 1).1) = none from by kernel_rfl] at e; cases e)
    | 2, _ => exact (fun hk e => by rw [show hookOf ((anj89 (N + 24) Sj15 Sj60 S_m_Abs Sj136 Sj187 Sj190 Sj164) (lp Pg 18 2).1) = none from by kernel_rfl] at e; cases e)
    | (q + 3), h => omega) ?_
  intro a k h
  unfold spj89 at h
  split at h
  · exact ⟨[], rfl, rfl, (eqj89 _ _ _ _ _ _ _ _ _ _ _ _ _).trans h⟩
  · cases h

def anj117 (N : Nat) : Nat -> Option Ann := fun b_ => none
theorem eqj117 (N : Nat) (q_0 q_1 q_2 q_3 : Fl) (c_ : V -> List Blk -> Bool) : bodyV ⟨Pg, ofList [], isref, N⟩ (anj117 N) 60 (shFj117.args [.fl q_0, .fl q_1, .fl q_2, .fl q_3]) [] c_ = Gj117 N q_0 q_1 q_2 q_3 (fun r0 => c_ (.slw 0) [⟨24, 1, .flts r0⟩]) := by kernel_rfl
theorem goodj117 (N : Nat) : GoodF Pg 60 (Fj117 (Gj117 N)) := by
  refine good_fs (cx := ⟨Pg, ofList [], isref, N⟩) (ofList_nil _) shFj117 (spj117 (Gj117 N)) (anj117 N) 0 0 (by kernel_rfl) (fun i_ hi_ => by omega) ?_
  intro a k h
  unfold spj117 at h
  split at h
  · exact ⟨[], rfl, rfl, (eqj117 _ _ _ _ _ _).trans h⟩
  · cases h

def anj144 (N : Nat) (Sj106 : TSj106) : Nat -> Option Ann := fun b_ => none
theorem eqj144 (N : Nat) (Sj106 : TSj106) (x : Fl) (c_ : V -> List Blk -> Bool) : bodyV ⟨Pg, ofList [(88, (Fj106 Sj106))], isref, N⟩ (anj144 N Sj106) 89 (shFj144.args [.fl x]) [] c_ = Gj144 N Sj106 x (fun r0 => c_ (.int .u64 r0) []) := by kernel_rfl
theorem goodj144 (N : Nat) (Sj106 : TSj106) (hj106 : GoodF Pg 88 (Fj106 Sj106)) : GoodF Pg 89 (Fj144 (Gj144 N Sj106)) := by
  refine good_fs (cx := ⟨Pg, ofList [(88, (Fj106 Sj106))], isref, N⟩) (ofList_cons hj106 (ofList_nil _)) shFj144 (spj144 (Gj144 N Sj106)) (anj144 N Sj106) 0 0 (by kernel_rfl) (fun i_ hi_ => by omega) ?_
  intro a k h
  unfold spj144 at h
  split at h
  · exact ⟨[], rfl, rfl, (eqj144 _ _ _ _).trans h⟩
  · cases h

def anj105 (N : Nat) (Sj144 : TSj144) : Nat -> Option Ann := fun b_ => none
theorem eqj105 (N : Nat) (Sj144 : TSj144) (x : Fl) (c_ : V -> List Blk -> Bool) : bodyV ⟨Pg, ofList [(89, (Fj144 Sj144))], isref, N⟩ (anj105 N Sj144) 115 (shFj105.args [.fl x]) [] c_ = Gj105 N Sj144 x (fun r0 r1 r2 => c_ (.tup [.bool r0, .int .i64 r1, .int .u64 r2]) []) := by kernel_rfl
theorem goodj105 (N : Nat) (Sj144 : TSj144) (hj144 : GoodF Pg 89 (Fj144 Sj144)) : GoodF Pg 115 (Fj105 (Gj105 N Sj144)) := by
  refine good_fs (cx := ⟨Pg, ofList [(89, (Fj144 Sj144))], isref, N⟩) (ofList_cons hj144 (ofList_nil _)) shFj105 (spj105 (Gj105 N Sj144)) (anj105 N Sj144) 0 0 (by kernel_rfl) (fun i_ hi_ => by omega) ?_
  intro a k h
  unfold spj105 at h
  split at h
  · exact ⟨[], rfl, rfl, (eqj105 _ _ _ _).trans h⟩
  · cases h

def anj127 (N : Nat) : Nat -> Option Ann := fun b_ => none
theorem eqj127 (N : Nat) (exp frac most : Int) (c_ : V -> List Blk -> Bool) : bodyV ⟨Pg, ofList [], isref, N⟩ (anj127 N) 176 (shFj127.args [.int exp, .int frac, .int most]) [] c_ = Gj127 N exp frac most (fun r0 => c_ (.int .i64 r0) []) := by kernel_rfl
theorem goodj127 (N : Nat) : GoodF Pg 176 (Fj127 (Gj127 N)) := by
  refine good_fs (cx := ⟨Pg, ofList [], isref, N⟩) (ofList_nil _) shFj127 (spj127 (Gj127 N)) (anj127 N) 0 0 (by kernel_rfl) (fun i_ hi_ => by omega) ?_
  intro a k h
  unfold spj127 at h
  split at h
  · exact ⟨[], rfl, rfl, (eqj127 _ _ _ _ _).trans h⟩
  · cases h

def anj166 (N : Nat) (Sj105 : TSj105) (Sj127 : TSj127) : Nat -> Option Ann := fun b_ => none
theorem eqj166 (N : Nat) (Sj105 : TSj105) (Sj127 : TSj127) (x : Fl) (c_ : V -> List Blk -> Bool) : bodyV ⟨Pg, ofList [(115, (Fj105 Sj105)), (176, (Fj127 Sj127))], isref, N⟩ (anj166 N Sj105 Sj127) 138 (shFj166.args [.fl x]) [] c_ = Gj166 N Sj105 Sj127 x (fun r0 => c_ (.int .i64 r0) []) := by kernel_rfl
theorem goodj166 (N : Nat) (Sj105 : TSj105) (Sj127 : TSj127) (hj105 : GoodF Pg 115 (Fj105 Sj105)) (hj127 : GoodF Pg 176 (Fj127 Sj127)) : GoodF Pg 138 (Fj166 (Gj166 N Sj105 Sj127)) := by
  refine good_fs (cx := ⟨Pg, ofList [(115, (Fj105 Sj105)), (176, (Fj127 Sj127))], isref, N⟩) (ofList_cons hj105 (ofList_cons hj127 (ofList_nil _))) shFj166 (spj166 (Gj166 N Sj105 Sj127)) (anj166 N Sj105 Sj127) 0 0 (by kernel_rfl) (fun i_ hi_ => by omega) ?_
  intro a k h
  unfold spj166 at h
  split at h
  · exact ⟨[], rfl, rfl, (eqj166 _ _ _ _ _).trans h⟩
  · cases h

def anj87 (N : Nat) (Sj166 : TSj166) : Nat -> Option Ann := fun b_ => none
theorem eqj87 (N : Nat) (Sj166 : TSj166) (x : Fl) (c_ : V -> List Blk -> Bool) : bodyV ⟨Pg, ofList [(138, (Fj166 Sj166))], isref, N⟩ (anj87 N Sj166) 87 (shFj87.args [.fl x]) [] c_ = Gj87 N Sj166 x (fun r0 => c_ (.bool r0) []) := by kernel_rfl
theorem goodj87 (N : Nat) (Sj166 : TSj166) (hj166 : GoodF Pg 138 (Fj166 Sj166)) : GoodF Pg 87 (Fj87 (Gj87 N Sj166)) := by
  refine good_fs (cx := ⟨Pg, ofList [(138, (Fj166 Sj166))], isref, N⟩) (ofList_cons hj166 (ofList_nil _)) shFj87 (spj87 (Gj87 N Sj166)) (anj87 N Sj166) 0 0 (by kernel_rfl) (fun i_ hi_ => by omega) ?_
  intro a k h
  unfold spj87 at h
  split at h
  · exact ⟨[], rfl, rfl, (eqj87 _ _ _ _).trans h⟩
  · cases h

def sh_st_binnacleref01_AllFinite_0 : StSh := ⟨(sqs 5 (.rof :: (.int .i64 :: (.int .i64 :: (sqs 7 []))))), []⟩
def sx0_st_binnacleref01_AllFinite_0 : StSh := ⟨(.any :: (.any :: (.bool :: (sqs 12 [])))), []⟩
def sx1_st_binnacleref01_AllFinite_0 : StSh := ⟨(sqs 15 []), []⟩
def hk_st_binnacleref01_AllFinite_0 (N : Nat) (Sj87 : TSj87) : List Atom -> K -> Bool := fun a_ κ => match a_ with
  | [.fls t5, .int t6, .int t7] => iterG N (stj238 N Sj87 t5 t6 (fun r0 => κ.ret (sx0_st_binnacleref01_AllFinite_0.build [.bool r0])) (κ.ext 0 (sx1_st_binnacleref01_AllFinite_0.build []))) t7
  | _ => false
def anj107 (N : Nat) (Sj87 : TSj87) : Nat -> Option Ann := fun b_ => cond (b_ == 0) (some ⟨⟨[5, 6, 7], [], []⟩, [(0, ⟨[], [], []⟩)], some ⟨[2], [], []⟩, some (mkHooks [(sh_st_binnacleref01_AllFinite_0, hk_st_binnacleref01_AllFinite_0 N Sj87)])⟩) (none)
theorem eq_st_binnacleref01_AllFinite_0 (N : Nat) (Sj87 : TSj87) (κ : K) (t5 : List Fl) (t6 t7 : Int) : iter N (fun s k => codeV ⟨Pg, ofList [(87, (Fj87 Sj87))], isref, N⟩ 0 (anj107 N Sj87) (lp Pg 101 0).2 (lp Pg 101 0).1 s (roundK Pg 0 ((anj107 N Sj87) (lp Pg 101 0).1) κ k)) (sh_st_binnacleref01_AllFinite_0.build [.fls t5, .int t6, .int t7]) = iterG N (stj238 N Sj87 t5 t6 (fun r0 => κ.ret (sx0_st_binnacleref01_AllFinite_0.build [.bool r0])) (κ.ext 0 (sx1_st_binnacleref01_AllFinite_0.build []))) t7 :=
  iter_tr (fun v_ => sh_st_binnacleref01_AllFinite_0.build [.fls t5, .int t6, .int v_]) (fun v_ K_ => by kernel_rfl) N t7
theorem hk1_st_binnacleref01_AllFinite_0 (N : Nat) (Sj87 : TSj87) : HookFor ⟨Pg, ofList [(87, (Fj87 Sj87))], isref, N⟩ 0 (anj107 N Sj87) (lp Pg 101 0) (sh_st_binnacleref01_AllFinite_0, hk_st_binnacleref01_AllFinite_0 N Sj87) := by
  intro a κ h
  simp only at h
  unfold hk_st_binnacleref01_AllFinite_0 at h
  split at h
  · exact (eq_st_binnacleref01_AllFinite_0 _ _ _ _ _ _).trans h
  · cases h
theorem ho_binnacleref01_AllFinite_0 (N : Nat) (Sj87 : TSj87) : HookOk ⟨Pg, ofList [(87, (Fj87 Sj87))], isref, N⟩ 0 (anj107 N Sj87) (lp Pg 101 0) :=
  hooks_ok [(sh_st_binnacleref01_AllFinite_0, hk_st_binnacleref01_AllFinite_0 N Sj87)] (by kernel_rfl) ⟨hk1_st_binnacleref01_AllFinite_0 _ _, trivial⟩
theorem eqj107 (N : Nat) (Sj87 : TSj87) (l : List Fl) (c_ : V -> List Blk -> Bool) : bodyV ⟨Pg, ofList [(87, (Fj87 Sj87))], isref, N⟩ (anj107 N Sj87) 101 (shFj107.args [.fls l]) [] c_ = Gj107 N Sj87 l (fun r0 => c_ (.bool r0) []) := by kernel_rfl
theorem goodj107 (N : Nat) (Sj87 : TSj87) (hj87 : GoodF Pg 87 (Fj87 Sj87)) : GoodF Pg 101 (Fj107 (Gj107 N Sj87)) := by
  refine good_fs (cx := ⟨Pg, ofList [(87, (Fj87 Sj87))], isref, N⟩) (ofList_cons hj87 (ofList_nil _)) shFj107 (spj107 (Gj107 N Sj87)) (anj107 N Sj87) 1 0 (by kernel_rfl) (fun i_ hi_ => by
    match i_, hi_ with
    | 0, _ => exact ho_binnacleref01_AllFinite_0 _ _
    | (q + 1), h => omega) ?_
  intro a k h
  unfold spj107 at h
  split at h
  · exact ⟨[], rfl, rfl, (eqj107 _ _ _ _).trans h⟩
  · cases h

def anj44 (N : Nat) (Sj117 : TSj117) (Sj107 : TSj107) : Nat -> Option Ann := fun b_ => none
theorem eqj44 (N : Nat) (Sj117 : TSj117) (Sj107 : TSj107) (q_0 q_1 q_2 q_3 : Fl) (c_ : V -> List Blk -> Bool) : bodyV ⟨Pg, ofList [(60, (Fj117 Sj117)), (101, (Fj107 Sj107))], isref, N⟩ (anj44 N Sj117 Sj107) 75 (shFj44.args [.fl q_0, .fl q_1, .fl q_2, .fl q_3]) [] c_ = Gj44 N Sj117 Sj107 q_0 q_1 q_2 q_3 (fun r0 => c_ (.bool r0) []) := by kernel_rfl
theorem goodj44 (N : Nat) (Sj117 : TSj117) (Sj107 : TSj107) (hj117 : GoodF Pg 60 (Fj117 Sj117)) (hj107 : GoodF Pg 101 (Fj107 Sj107)) : GoodF Pg 75 (Fj44 (Gj44 N Sj117 Sj107)) := by
  refine good_fs (cx := ⟨Pg, ofList [(60, (Fj117 Sj117)), (101, (Fj107 Sj107))], isref, N⟩) (ofList_cons hj117 (ofList_cons hj107 (ofList_nil _))) shFj44 (spj44 (Gj44 N Sj117 Sj107)) (anj44 N Sj117 Sj107) 0 0 (by kernel_rfl) (fun i_ hi_ => by omega) ?_
  intro a k h
  unfold spj44 at h
  split at h
  · exact ⟨[], rfl, rfl, (eqj44 _ _ _ _ _ _ _ _).trans h⟩
  · cases h

def anj64 (N : Nat) : Nat -> Option Ann := fun b_ => none
theorem eqj64 (N : Nat) (ok : Bool) (c_ : V -> List Blk -> Bool) : bodyV ⟨Pg, ofList [], isref, (N + 24)⟩ (anj64 (N + 24)) 74 (shFj64.args [.bool ok]) [] c_ = Gj64 (N + 24) ok (fun r0 => c_ (.int .i64 r0) []) := by kernel_rfl
theorem goodj64 (N : Nat) : GoodF Pg 74 (Fj64 (Gj64 (N + 24))) := by
  refine good_fs (cx := ⟨Pg, ofList [], isref, (N + 24)⟩) (ofList_nil _) shFj64 (spj64 (Gj64 (N + 24))) (anj64 (N + 24)) 1 0 (by kernel_rfl) (fun i_ hi_ => by
    match i_, hi_ with
    | 0, _ => exact (fun hk e => by rw [show hookOf ((anj64 (N + 24)) (lp Pg 74 0).1) = none from by kernel_rfl] at e; cases e)
    | (q + 1), h => omega) ?_
  intro a k h
  unfold spj64 at h
  split at h
  · exact ⟨[], rfl, rfl, (eqj64 _ _ _).trans h⟩
  · cases h

def sh_st_binnacleref10_Power_0 : StSh := ⟨(.rof :: (.any :: (.any :: (.any :: (.flt :: (.int .i64 :: (sqs 24 []))))))), []⟩
def sx0_st_binnacleref10_Power_0 : StSh := ⟨(sqs 4 (.flt :: (sqs 25 []))), []⟩
def hk_st_binnacleref10_Power_0 (N : Nat) (S_m_Abs : TS_m_Abs) (Sj136 : TSj136) : List Atom -> K -> Bool := fun a_ κ => match a_ with
  | [.fls x_1, .fl m, .int i] => iterG N (st_z10_Power_0 N S_m_Abs Sj136 x_1 (fun r0 => κ.ext 0 (sx0_st_binnacleref10_Power_0.build [.fl r0]))) (m, i)
  | _ => false
def anj155 (N : Nat) (S_m_Abs : TS_m_Abs) (Sj136 : TSj136) : Nat -> Option Ann := fun b_ => cond (b_ == 0) (some ⟨⟨[0, 4, 5], [], []⟩, [(0, ⟨[4], [], []⟩)], some ⟨[2, 3], [], []⟩, some (mkHooks [(sh_st_binnacleref10_Power_0, hk_st_binnacleref10_Power_0 N S_m_Abs Sj136)])⟩) (none)
theorem eq_st_binnacleref10_Power_0 (N : Nat) (S_m_Abs : TS_m_Abs) (Sj136 : TSj136) (κ : K) (x_1 : List Fl) (m : Fl) (i : Int) : iter N (fun s k => codeV ⟨Pg, ofList [(69, (F_m_Abs S_m_Abs)), (70, (Fj136 Sj136))], isref, N⟩ 0 (anj155 N S_m_Abs Sj136) (lp Pg 76 0).2 (lp Pg 76 0).1 s (roundK Pg 0 ((anj155 N S_m_Abs Sj136) (lp Pg 76 0).1) κ k)) (sh_st_binnacleref10_Power_0.build [.fls x_1, .fl m, .int i]) = iterG N (st_z10_Power_0 N S_m_Abs Sj136 x_1 (fun r0 => κ.ext 0 (sx0_st_binnacleref10_Power_0.build [.fl r0]))) (m, i) :=
  iter_tr (fun (v_ : Fl × Int) => sh_st_binnacleref10_Power_0.build [.fls x_1, .fl v_.1, .int v_.2]) (fun v_ K_ => by obtain ⟨m, i⟩ := v_; kernel_rfl) N (m, i)
theorem hk1_st_binnacleref10_Power_0 (N : Nat) (S_m_Abs : TS_m_Abs) (Sj136 : TSj136) : HookFor ⟨Pg, ofList [(69, (F_m_Abs S_m_Abs)), (70, (Fj136 Sj136))], isref, N⟩ 0 (anj155 N S_m_Abs Sj136) (lp Pg 76 0) (sh_st_binnacleref10_Power_0, hk_st_binnacleref10_Power_0 N S_m_Abs Sj136) := by
  intro a κ h
  simp only at h
  unfold hk_st_binnacleref10_Power_0 at h
  split at h
  · exact (eq_st_binnacleref10_Power_0 _ _ _ _ _ _ _).trans h
  · cases h
theorem ho_binnacleref10_Power_0 (N : Nat) (S_m_Abs : TS_m_Abs) (Sj136 : TSj136) : HookOk ⟨Pg, ofList [(69, (F_m_Abs S_m_Abs)), (70, (Fj136 Sj136))], isref, N⟩ 0 (anj155 N S_m_Abs Sj136) (lp Pg 76 0) :=
  hooks_ok [(sh_st_binnacleref10_Power_0, hk_st_binnacleref10_Power_0 N S_m_Abs Sj136)] (by kernel_rfl) ⟨hk1_st_binnacleref10_Power_0 _ _ _, trivial⟩
theorem eqj155 (N : Nat) (S_m_Abs : TS_m_Abs) (Sj136 : TSj136) (x : List Fl) (c_ : V -> List Blk -> Bool) : bodyV ⟨Pg, ofList [(69, (F_m_Abs S_m_Abs)), (70, (Fj136 Sj136))], isref, N⟩ (anj155 N S_m_Abs Sj136) 76 (shFj155.args [.fls x]) [] c_ = Gj155 N S_m_Abs Sj136 x (fun r0 r1 => c_ (.tup [.int .i64 r0, .bool r1]) []) := by kernel_rfl
theorem goodj155 (N : Nat) (S_m_Abs : TS_m_Abs) (Sj136 : TSj136) (h_m_Abs : GoodF Pg 69 (F_m_Abs S_m_Abs)) (hj136 : GoodF Pg 70 (Fj136 Sj136)) : GoodF Pg 76 (Fj155 (Gj155 N S_m_Abs Sj136)) := by
  refine good_fs (cx := ⟨Pg, ofList [(69, (F_m_Abs S_m_Abs)), (70, (Fj136 Sj136))], isref, N⟩) (ofList_cons h_m_Abs (ofList_cons hj136 (ofList_nil _))) shFj155 (spj155 (Gj155 N S_m_Abs Sj136)) (anj155 N S_m_Abs Sj136) 1 0 (by kernel_rfl) (fun i_ hi_ => by
    match i_, hi_ with
    | 0, _ => exact ho_binnacleref10_Power_0 _ _ _
    | (q + 1), h => omega) ?_
  intro a k h
  unfold spj155 at h
  split at h
  · exact ⟨[], rfl, rfl, (eqj155 _ _ _ _ _).trans h⟩
  · cases h

def anj120 (N : Nat) : Nat -> Option Ann := fun b_ => none
theorem eqj120 (N : Nat) (c_ : V -> List Blk -> Bool) : bodyV ⟨Pg, ofList [], isref, N⟩ (anj120 N) 153 (shFj120.args []) [] c_ = Gj120 N (c_ (.bool true) []) := by kernel_rfl
theorem goodj120 (N : Nat) : GoodF Pg 153 (Fj120 (Gj120 N)) := by
  refine good_fs (cx := ⟨Pg, ofList [], isref, N⟩) (ofList_nil _) shFj120 (spj120 (Gj120 N)) (anj120 N) 0 0 (by kernel_rfl) (fun i_ hi_ => by omega) ?_
  intro a k h
  unfold spj120 at h
  split at h
  · exact ⟨[], rfl, rfl, (eqj120 _ _).trans h⟩
  · cases h

def anj100 (N : Nat) : Nat -> Option Ann := fun b_ => none
theorem eqj100 (N : Nat) (c_ : V -> List Blk -> Bool) : bodyV ⟨Pg, ofList [], isref, N⟩ (anj100 N) 154 (shFj100.args []) [] c_ = Gj100 N (c_ (.agg [.int .i64 53, .int .i64 (-1022), .int .i64 1023, .int .i64 11]) []) := by kernel_rfl
theorem goodj100 (N : Nat) : GoodF Pg 154 (Fj100 (Gj100 N)) := by
  refine good_fs (cx := ⟨Pg, ofList [], isref, N⟩) (ofList_nil _) shFj100 (spj100 (Gj100 N)) (anj100 N) 0 0 (by kernel_rfl) (fun i_ hi_ => by omega) ?_
  intro a k h
  unfold spj100 at h
  split at h
  · exact ⟨[], rfl, rfl, (eqj100 _ _).trans h⟩
  · cases h

def sh_st_binnacleref00_cut_w_0 : StSh := ⟨(.sl 0 :: (sqs 20 [])), [some (127, 1, .ints .u32)]⟩
def sx0_st_binnacleref00_cut_w_0 : StSh := ⟨(.sl 0 :: (sqs 20 [])), [some (127, 1, .ints .u32)]⟩
def hk_st_binnacleref00_cut_w_0 (N : Nat) : List Atom -> K -> Bool := fun a_ κ => match a_ with
  | [.nat m_1, .nat m_2, .ints m_3] => iterG N (stj237 N m_1 m_3 (fun r1 => κ.ext 0 (sx0_st_binnacleref00_cut_w_0.build [.nat m_1, .nat r1, .ints m_3]))) m_2
  | _ => false
def anj10 (N : Nat) : Nat -> Option Ann := fun b_ => cond (b_ == 0) (some ⟨⟨[0], [(0, some 0, 0)], []⟩, [(0, ⟨[0], [], []⟩)], some ⟨[2], [], []⟩, some (mkHooks [(sh_st_binnacleref00_cut_w_0, hk_st_binnacleref00_cut_w_0 N)])⟩) (none)
theorem eq_st_binnacleref00_cut_w_0 (N : Nat) (κ : K) (m_1 m_2 : Nat) (m_3 : List Int) : iter N (fun s k => codeV ⟨Pg, ofList [], isref, N⟩ 1 (anj10 N) (lp Pg 147 0).2 (lp Pg 147 0).1 s (roundK Pg 1 ((anj10 N) (lp Pg 147 0).1) κ k)) (sh_st_binnacleref00_cut_w_0.build [.nat m_1, .nat m_2, .ints m_3]) = iterG N (stj237 N m_1 m_3 (fun r1 => κ.ext 0 (sx0_st_binnacleref00_cut_w_0.build [.nat m_1, .nat r1, .ints m_3]))) m_2 :=
  iter_tr (fun v_ => sh_st_binnacleref00_cut_w_0.build [.nat m_1, .nat v_, .ints m_3]) (fun v_ K_ => by kernel_rfl) N m_2
theorem hk1_st_binnacleref00_cut_w_0 (N : Nat) : HookFor ⟨Pg, ofList [], isref, N⟩ 1 (anj10 N) (lp Pg 147 0) (sh_st_binnacleref00_cut_w_0, hk_st_binnacleref00_cut_w_0 N) := by
  intro a κ h
  simp only at h
  unfold hk_st_binnacleref00_cut_w_0 at h
  split at h
  · exact (eq_st_binnacleref00_cut_w_0 _ _ _ _ _).trans h
  · cases h
theorem ho_binnacleref00_cut_w_0 (N : Nat) : HookOk ⟨Pg, ofList [], isref, N⟩ 1 (anj10 N) (lp Pg 147 0) :=
  hooks_ok [(sh_st_binnacleref00_cut_w_0, hk_st_binnacleref00_cut_w_0 N)] (by kernel_rfl) ⟨hk1_st_binnacleref00_cut_w_0 _, trivial⟩
theorem eqj10 (N : Nat) (b : List Int) (c_ : V -> List Blk -> Bool) : bodyZ ⟨Pg, ofList [], isref, N⟩ (anj10 N) 147 (shFj10.args [.ints b]) [⟨127, 1, .ints .u32 b⟩] c_ = Gj10 N b (fun r0 r1 => c_ (.sl 0 r0 r1) [⟨127, 1, .ints .u32 b⟩]) := by kernel_rfl
theorem goodj10 (N : Nat) : GoodF Pg 147 (Fj10 (Gj10 N)) := by
  refine good_fsZ (cx := ⟨Pg, ofList [], isref, N⟩) (ofList_nil _) shFj10 (spj10 (Gj10 N)) (anj10 N) 1 1 (by kernel_rfl) (fun i_ hi_ => by
    match i_, hi_ with
    | 0, _ => exact ho_binnacleref00_cut_w_0 _
    | (q + 1), h => omega) ?_
  intro a k h
  unfold spj10 at h
  split at h
  · exact ⟨[_], rfl, rfl, (eqj10 _ _ _).trans h⟩
  · cases h

def anj104 (N : Nat) (Sj10 : TSj10) : Nat -> Option Ann := fun b_ => none
theorem eqj104 (N : Nat) (Sj10 : TSj10) (n : Int) (c_ : V -> List Blk -> Bool) : bodyZ ⟨Pg, ofList [(147, (Fj10 Sj10))], isref, N⟩ (anj104 N Sj10) 117 (shFj104.args [.int n]) [] c_ = Gj104 N Sj10 n (fun r0 => c_ (.roi .u32 r0) []) := by kernel_rfl
theorem goodj104 (N : Nat) (Sj10 : TSj10) (hj10 : GoodF Pg 147 (Fj10 Sj10)) : GoodF Pg 117 (Fj104 (Gj104 N Sj10)) := by
  refine good_fsZ (cx := ⟨Pg, ofList [(147, (Fj10 Sj10))], isref, N⟩) (ofList_cons hj10 (ofList_nil _)) shFj104 (spj104 (Gj104 N Sj10)) (anj104 N Sj10) 0 0 (by kernel_rfl) (fun i_ hi_ => by omega) ?_
  intro a k h
  unfold spj104 at h
  split at h
  · exact ⟨[], rfl, rfl, (eqj104 _ _ _ _).trans h⟩
  · cases h

def sh_st_binnacleref00_cut_0 : StSh := ⟨(.roi .u32 :: (sqs 20 [])), []⟩
def sx0_st_binnacleref00_cut_0 : StSh := ⟨(.roi .u32 :: (sqs 20 [])), []⟩
def hk_st_binnacleref00_cut_0 (N : Nat) : List Atom -> K -> Bool := fun a_ κ => match a_ with
  | [.ints m_1] => iterG N (st_z00_cut_0 N (fun r0 => κ.ext 0 (sx0_st_binnacleref00_cut_0.build [.ints r0]))) m_1
  | _ => false
def anj173 (N : Nat) : Nat -> Option Ann := fun b_ => cond (b_ == 0) (some ⟨⟨[0], [], []⟩, [(0, ⟨[0], [], []⟩)], some ⟨[2], [], []⟩, some (mkHooks [(sh_st_binnacleref00_cut_0, hk_st_binnacleref00_cut_0 N)])⟩) (none)
theorem eq_st_binnacleref00_cut_0 (N : Nat) (κ : K) (m_1 : List Int) : iter N (fun s k => codeV ⟨Pg, ofList [], isref, N⟩ 0 (anj173 N) (lp Pg 147 0).2 (lp Pg 147 0).1 s (roundK Pg 0 ((anj173 N) (lp Pg 147 0).1) κ k)) (sh_st_binnacleref00_cut_0.build [.ints m_1]) = iterG N (st_z00_cut_0 N (fun r0 => κ.ext 0 (sx0_st_binnacleref00_cut_0.build [.ints r0]))) m_1 :=
  iter_tr (fun v_ => sh_st_binnacleref00_cut_0.build [.ints v_]) (fun v_ K_ => by kernel_rfl) N m_1
theorem hk1_st_binnacleref00_cut_0 (N : Nat) : HookFor ⟨Pg, ofList [], isref, N⟩ 0 (anj173 N) (lp Pg 147 0) (sh_st_binnacleref00_cut_0, hk_st_binnacleref00_cut_0 N) := by
  intro a κ h
  simp only at h
  unfold hk_st_binnacleref00_cut_0 at h
  split at h
  · exact (eq_st_binnacleref00_cut_0 _ _ _).trans h
  · cases h
theorem ho_binnacleref00_cut_0 (N : Nat) : HookOk ⟨Pg, ofList [], isref, N⟩ 0 (anj173 N) (lp Pg 147 0) :=
  hooks_ok [(sh_st_binnacleref00_cut_0, hk_st_binnacleref00_cut_0 N)] (by kernel_rfl) ⟨hk1_st_binnacleref00_cut_0 _, trivial⟩
theorem eqj173 (N : Nat) (m : List Int) (c_ : V -> List Blk -> Bool) : bodyZ ⟨Pg, ofList [], isref, N⟩ (anj173 N) 147 (shFj173.args [.ints m]) [] c_ = Gj173 N m (fun r0 => c_ (.roi .u32 r0) []) := by kernel_rfl
theorem goodj173 (N : Nat) : GoodF Pg 147 (Fj173 (Gj173 N)) := by
  refine good_fsZ (cx := ⟨Pg, ofList [], isref, N⟩) (ofList_nil _) shFj173 (spj173 (Gj173 N)) (anj173 N) 1 0 (by kernel_rfl) (fun i_ hi_ => by
    match i_, hi_ with
    | 0, _ => exact ho_binnacleref00_cut_0 _
    | (q + 1), h => omega) ?_
  intro a k h
  unfold spj173 at h
  split at h
  · exact ⟨[], rfl, rfl, (eqj173 _ _ _).trans h⟩
  · cases h

def anj43 (N : Nat) (Sj173 : TSj173) : Nat -> Option Ann := fun b_ => none
theorem eqj43 (N : Nat) (Sj173 : TSj173) (neg : Bool) (m : List Int) (b : Bool) (c_ : V -> List Blk -> Bool) : bodyZ ⟨Pg, ofList [(147, (Fj173 Sj173))], isref, N⟩ (anj43 N Sj173) 113 (shFj43.args [.bool neg, .ints m, .bool b]) [⟨105, 1, .cells [.bool b, .nil]⟩] c_ = Gj43 N Sj173 neg m b (fun r0 r1 => c_ (.ptr 0 0) [⟨105, 1, .cells [.bool r0, .roi .u32 r1]⟩]) := by kernel_rfl
theorem goodj43 (N : Nat) (Sj173 : TSj173) (hj173 : GoodF Pg 147 (Fj173 Sj173)) : GoodF Pg 113 (Fj43 (Gj43 N Sj173)) := by
  refine good_fsZ (cx := ⟨Pg, ofList [(147, (Fj173 Sj173))], isref, N⟩) (ofList_cons hj173 (ofList_nil _)) shFj43 (spj43 (Gj43 N Sj173)) (anj43 N Sj173) 0 1 (by kernel_rfl) (fun i_ hi_ => by omega) ?_
  intro a k h
  unfold spj43 at h
  split at h
  · exact ⟨[_], rfl, rfl, (eqj43 _ _ _ _ _ _).trans h⟩
  · cases h

def anj54 (N : Nat) (Sj104 : TSj104) (Sj43 : TSj43) : Nat -> Option Ann := fun b_ => none
theorem eqj54 (N : Nat) (Sj104 : TSj104) (Sj43 : TSj43) (n : Int) (b : Bool) (c_ : V -> List Blk -> Bool) : bodyZ ⟨Pg, ofList [(117, (Fj104 Sj104)), (113, (Fj43 Sj43))], isref, N⟩ (anj54 N Sj104 Sj43) 66 (shFj54.args [.int n, .bool b]) [⟨105, 1, .cells [.bool b, .nil]⟩] c_ = Gj54 N Sj104 Sj43 n b (fun r0 r1 => c_ (.ptr 0 0) [⟨105, 1, .cells [.bool r0, .roi .u32 r1]⟩]) := by kernel_rfl
theorem goodj54 (N : Nat) (Sj104 : TSj104) (Sj43 : TSj43) (hj104 : GoodF Pg 117 (Fj104 Sj104)) (hj43 : GoodF Pg 113 (Fj43 Sj43)) : GoodF Pg 66 (Fj54 (Gj54 N Sj104 Sj43)) := by
  refine good_fsZ (cx := ⟨Pg, ofList [(117, (Fj104 Sj104)), (113, (Fj43 Sj43))], isref, N⟩) (ofList_cons hj104 (ofList_cons hj43 (ofList_nil _))) shFj54 (spj54 (Gj54 N Sj104 Sj43)) (anj54 N Sj104 Sj43) 0 1 (by kernel_rfl) (fun i_ hi_ => by omega) ?_
  intro a k h
  unfold spj54 at h
  split at h
  · exact ⟨[_], rfl, rfl, (eqj54 _ _ _ _ _ _).trans h⟩
  · cases h

def anj72 (N : Nat) (Sj173 : TSj173) : Nat -> Option Ann := fun b_ => none
theorem eqj72 (N : Nat) (Sj173 : TSj173) (neg : Bool) (m : List Int) (b : Bool) (b_1 : List Int) (c_ : V -> List Blk -> Bool) : bodyZ ⟨Pg, ofList [(147, (Fj173 Sj173))], isref, N⟩ (anj72 N Sj173) 113 (shFj72.args [.bool neg, .ints m, .bool b, .ints b_1]) [⟨105, 1, .cells [.bool b, .roi .u32 b_1]⟩] c_ = Gj72 N Sj173 neg m b b_1 (fun r0 r1 => c_ (.ptr 0 0) [⟨105, 1, .cells [.bool r0, .roi .u32 r1]⟩]) := by kernel_rfl
theorem goodj72 (N : Nat) (Sj173 : TSj173) (hj173 : GoodF Pg 147 (Fj173 Sj173)) : GoodF Pg 113 (Fj72 (Gj72 N Sj173)) := by
  refine good_fsZ (cx := ⟨Pg, ofList [(147, (Fj173 Sj173))], isref, N⟩) (ofList_cons hj173 (ofList_nil _)) shFj72 (spj72 (Gj72 N Sj173)) (anj72 N Sj173) 0 1 (by kernel_rfl) (fun i_ hi_ => by omega) ?_
  intro a k h
  unfold spj72 at h
  split at h
  · exact ⟨[_], rfl, rfl, (eqj72 _ _ _ _ _ _ _).trans h⟩
  · cases h

def anj85 (N : Nat) (Sj104 : TSj104) (Sj72 : TSj72) : Nat -> Option Ann := fun b_ => none
theorem eqj85 (N : Nat) (Sj104 : TSj104) (Sj72 : TSj72) (n : Int) (b : Bool) (b_1 : List Int) (c_ : V -> List Blk -> Bool) : bodyZ ⟨Pg, ofList [(117, (Fj104 Sj104)), (113, (Fj72 Sj72))], isref, N⟩ (anj85 N Sj104 Sj72) 66 (shFj85.args [.int n, .bool b, .ints b_1]) [⟨105, 1, .cells [.bool b, .roi .u32 b_1]⟩] c_ = Gj85 N Sj104 Sj72 n b b_1 (fun r0 r1 => c_ (.ptr 0 0) [⟨105, 1, .cells [.bool r0, .roi .u32 r1]⟩]) := by kernel_rfl
theorem goodj85 (N : Nat) (Sj104 : TSj104) (Sj72 : TSj72) (hj104 : GoodF Pg 117 (Fj104 Sj104)) (hj72 : GoodF Pg 113 (Fj72 Sj72)) : GoodF Pg 66 (Fj85 (Gj85 N Sj104 Sj72)) := by
  refine good_fsZ (cx := ⟨Pg, ofList [(117, (Fj104 Sj104)), (113, (Fj72 Sj72))], isref, N⟩) (ofList_cons hj104 (ofList_cons hj72 (ofList_nil _))) shFj85 (spj85 (Gj85 N Sj104 Sj72)) (anj85 N Sj104 Sj72) 0 1 (by kernel_rfl) (fun i_ hi_ => by omega) ?_
  intro a k h
  unfold spj85 at h
  split at h
  · exact ⟨[_], rfl, rfl, (eqj85 _ _ _ _ _ _ _).trans h⟩
  · cases h

def anj156 (N : Nat) (Sj54 : TSj54) (Sj85 : TSj85) : Nat -> Option Ann := fun b_ => none
theorem eqj156 (N : Nat) (Sj54 : TSj54) (Sj85 : TSj85) (bits : Int) (c_ : V -> List Blk -> Bool) : bodyV ⟨Pg, ofList [(66, (orFs (Fj54 Sj54) (Fj85 Sj85) shFj54))], isref, N⟩ (anj156 N Sj54 Sj85) 155 (shFj156.args [.int bits]) [] c_ = Gj156 N Sj54 Sj85 bits (fun r0 => c_ (.agg [.int .i64 2, .bool false, .ptr 0 0, .int .i64 0]) [⟨105, 1, .cells [.bool r0, .nil]⟩]) (fun r0 r1 r2 => c_ (.agg [.int .i64 1, .bool r0, .ptr 0 0, .int .i64 (-1074)]) [⟨105, 1, .cells [.bool r1, .roi .u32 r2]⟩]) (fun r0 r1 r2 r3 => c_ (.agg [.int .i64 0, .bool r0, .ptr 0 0, .int .i64 r1]) [⟨105, 1, .cells [.bool r2, .roi .u32 r3]⟩]) (fun r0 r1 r2 => c_ (.agg [.int .i64 0, .bool r0, .ptr 0 0, .int .i64 (-1074)]) [⟨105, 1, .cells [.bool r1, .roi .u32 r2]⟩]) := by kernel_rfl
theorem goodj156 (N : Nat) (Sj54 : TSj54) (Sj85 : TSj85) (hj54 : GoodF Pg 66 (Fj54 Sj54)) (hj85 : GoodF Pg 66 (Fj85 Sj85)) : GoodF Pg 155 (Fj156 (Gj156 N Sj54 Sj85)) := by
  refine good_fs (cx := ⟨Pg, ofList [(66, (orFs (Fj54 Sj54) (Fj85 Sj85) shFj54))], isref, N⟩) (ofList_cons (good_or hj54 hj85) (ofList_nil _)) shFj156 (spj156 (Gj156 N Sj54 Sj85)) (anj156 N Sj54 Sj85) 0 0 (by kernel_rfl) (fun i_ hi_ => by omega) ?_
  intro a k h
  unfold spj156 at h
  split at h
  · exact ⟨[], rfl, rfl, (eqj156 _ _ _ _ _).trans h⟩
  · cases h

def anj179 (N : Nat) : Nat -> Option Ann := fun b_ => none
theorem eqj179 (N : Nat) (c_ : V -> List Blk -> Bool) : bodyV ⟨Pg, ofList [], isref, N⟩ (anj179 N) 184 (shFj179.args []) [] c_ = Gj179 N (fun r0 => c_ (.int .u64 r0) []) := by kernel_rfl
theorem goodj179 (N : Nat) : GoodF Pg 184 (Fj179 (Gj179 N)) := by
  refine good_fs (cx := ⟨Pg, ofList [], isref, N⟩) (ofList_nil _) shFj179 (spj179 (Gj179 N)) (anj179 N) 0 0 (by kernel_rfl) (fun i_ hi_ => by omega) ?_
  intro a k h
  unfold spj179 at h
  split at h
  · exact ⟨[], rfl, rfl, (eqj179 _ _).trans h⟩
  · cases h

def anj167 (N : Nat) (Sj179 : TSj179) : Nat -> Option Ann := fun b_ => none
theorem eqj167 (N : Nat) (Sj179 : TSj179) (b : Bool) (c_ : V -> List Blk -> Bool) : bodyV ⟨Pg, ofList [(184, (Fj179 Sj179))], isref, N⟩ (anj167 N Sj179) 156 (shFj167.args [.bool b]) [⟨105, 1, .cells [.bool b, .nil]⟩] c_ = Gj167 N Sj179 b (fun r0 r1 => c_ (.tup [.int .u64 r0, .int .i64 r1]) [⟨105, 1, .cells [.bool b, .nil]⟩]) := by kernel_rfl
theorem goodj167 (N : Nat) (Sj179 : TSj179) (hj179 : GoodF Pg 184 (Fj179 Sj179)) : GoodF Pg 156 (Fj167 (Gj167 N Sj179)) := by
  refine good_fs (cx := ⟨Pg, ofList [(184, (Fj179 Sj179))], isref, N⟩) (ofList_cons hj179 (ofList_nil _)) shFj167 (spj167 (Gj167 N Sj179)) (anj167 N Sj179) 0 1 (by kernel_rfl) (fun i_ hi_ => by omega) ?_
  intro a k h
  unfold spj167 at h
  split at h
  · exact ⟨[_], rfl, rfl, (eqj167 _ _ _ _).trans h⟩
  · cases h

end Go.Proofs.YtccocdgimamdhaaGreatDoor
