/-
  THE TIES: each printed meaning is what the program does (written by program).
  Conditions: none.
-/
import Derived.Test.YtnfgnjciliapaaaGreatDoorGs
namespace Go.Proofs.YtnfgnjciliapaaaGreatDoor
open Go Go.Mach Go.Proofs
set_option linter.unusedVariables false
set_option maxRecDepth 50000


def an_an_of (N : Nat) : Nat -> Option Ann := fun b_ => none
theorem eq_an_of (N : Nat) (c_ : V -> List Blk -> Bool) : bodyV ⟨Pg, ofList [], isref, N⟩ (an_an_of N) 155 (shF_an_of.args []) [] c_ = G_an_of N (fun r0 r1 r2 => c_ (.agg [.int .u64 r0, .int .i64 r1, .int .i64 r2]) []) := by kernel_rfl
theorem good_an_of (N : Nat) : GoodF Pg 155 (F_an_of (G_an_of N)) := by
  refine good_fs (cx := ⟨Pg, ofList [], isref, N⟩) (ofList_nil _) shF_an_of (sp_an_of (G_an_of N)) (an_an_of N) 0 0 (by kernel_rfl) (fun i_ hi_ => by omega) ?_
  intro a k h
  unfold sp_an_of at h
  split at h
  · exact ⟨[], rfl, rfl, (eq_an_of _ _).trans h⟩
  · cases h

def anQ150 (N : Nat) : Nat -> Option Ann := fun b_ => none
theorem eqQ150 (N : Nat) (f_0 f_1 f_2 : Int) (c_ : V -> List Blk -> Bool) : bodyV ⟨Pg, ofList [], isref, N⟩ (anQ150 N) 190 (shFQ150.args [.int f_0, .int f_1, .int f_2]) [] c_ = GQ150 N f_0 f_1 f_2 (fun r0 => c_ (.int .u64 r0) []) := by kernel_rfl
theorem goodQ150 (N : Nat) : GoodF Pg 190 (FQ150 (GQ150 N)) := by
  refine good_fs (cx := ⟨Pg, ofList [], isref, N⟩) (ofList_nil _) shFQ150 (spQ150 (GQ150 N)) (anQ150 N) 0 0 (by kernel_rfl) (fun i_ hi_ => by omega) ?_
  intro a k h
  unfold spQ150 at h
  split at h
  · exact ⟨[], rfl, rfl, (eqQ150 _ _ _ _ _).trans h⟩
  · cases h

def anQ89 (N : Nat) : Nat -> Option Ann := fun b_ => none
theorem eqQ89 (N : Nat) (f_0 f_1 f_2 : Int) (c_ : V -> List Blk -> Bool) : bodyV ⟨Pg, ofList [], isref, N⟩ (anQ89 N) 209 (shFQ89.args [.int f_0, .int f_1, .int f_2]) [] c_ = GQ89 N f_0 f_1 f_2 (fun r0 => c_ (.int .u64 r0) []) := by kernel_rfl
theorem goodQ89 (N : Nat) : GoodF Pg 209 (FQ89 (GQ89 N)) := by
  refine good_fs (cx := ⟨Pg, ofList [], isref, N⟩) (ofList_nil _) shFQ89 (spQ89 (GQ89 N)) (anQ89 N) 0 0 (by kernel_rfl) (fun i_ hi_ => by omega) ?_
  intro a k h
  unfold spQ89 at h
  split at h
  · exact ⟨[], rfl, rfl, (eqQ89 _ _ _ _ _).trans h⟩
  · cases h

def anQ88 (N : Nat) (SQ150 : TSQ150) (SQ89 : TSQ89) : Nat -> Option Ann := fun b_ => none
theorem eqQ88 (N : Nat) (SQ150 : TSQ150) (SQ89 : TSQ89) (b f_0 f_1 f_2 : Int) (c_ : V -> List Blk -> Bool) : bodyV ⟨Pg, ofList [(190, (FQ150 SQ150)), (209, (FQ89 SQ89))], isref, N⟩ (anQ88 N SQ150 SQ89) 201 (shFQ88.args [.int b, .int f_0, .int f_1, .int f_2]) [] c_ = GQ88 N SQ150 SQ89 b f_0 f_1 f_2 (fun r0 => c_ (.bool r0) []) := by kernel_rfl
theorem goodQ88 (N : Nat) (SQ150 : TSQ150) (SQ89 : TSQ89) (hQ150 : GoodF Pg 190 (FQ150 SQ150)) (hQ89 : GoodF Pg 209 (FQ89 SQ89)) : GoodF Pg 201 (FQ88 (GQ88 N SQ150 SQ89)) := by
  refine good_fs (cx := ⟨Pg, ofList [(190, (FQ150 SQ150)), (209, (FQ89 SQ89))], isref, N⟩) (ofList_cons hQ150 (ofList_cons hQ89 (ofList_nil _))) shFQ88 (spQ88 (GQ88 N SQ150 SQ89)) (anQ88 N SQ150 SQ89) 0 0 (by kernel_rfl) (fun i_ hi_ => by omega) ?_
  intro a k h
  unfold spQ88 at h
  split at h
  · exact ⟨[], rfl, rfl, (eqQ88 _ _ _ _ _ _ _ _).trans h⟩
  · cases h

def anQ74 (N : Nat) : Nat -> Option Ann := fun b_ => none
theorem eqQ74 (N : Nat) (f_0 f_1 f_2 : Int) (c_ : V -> List Blk -> Bool) : bodyV ⟨Pg, ofList [], isref, N⟩ (anQ74 N) 179 (shFQ74.args [.int f_0, .int f_1, .int f_2]) [] c_ = GQ74 N f_0 f_1 f_2 (fun r0 => c_ (.int .u64 r0) []) := by kernel_rfl
theorem goodQ74 (N : Nat) : GoodF Pg 179 (FQ74 (GQ74 N)) := by
  refine good_fs (cx := ⟨Pg, ofList [], isref, N⟩) (ofList_nil _) shFQ74 (spQ74 (GQ74 N)) (anQ74 N) 0 0 (by kernel_rfl) (fun i_ hi_ => by omega) ?_
  intro a k h
  unfold spQ74 at h
  split at h
  · exact ⟨[], rfl, rfl, (eqQ74 _ _ _ _ _).trans h⟩
  · cases h

def anQ171 (N : Nat) (SQ89 : TSQ89) (SQ74 : TSQ74) : Nat -> Option Ann := fun b_ => none
theorem eqQ171 (N : Nat) (SQ89 : TSQ89) (SQ74 : TSQ74) (f_0 f_1 f_2 : Int) (c_ : V -> List Blk -> Bool) : bodyV ⟨Pg, ofList [(209, (FQ89 SQ89)), (179, (FQ74 SQ74))], isref, N⟩ (anQ171 N SQ89 SQ74) 202 (shFQ171.args [.int f_0, .int f_1, .int f_2]) [] c_ = GQ171 N SQ89 SQ74 f_0 f_1 f_2 (fun r0 => c_ (.int .u64 r0) []) := by kernel_rfl
theorem goodQ171 (N : Nat) (SQ89 : TSQ89) (SQ74 : TSQ74) (hQ89 : GoodF Pg 209 (FQ89 SQ89)) (hQ74 : GoodF Pg 179 (FQ74 SQ74)) : GoodF Pg 202 (FQ171 (GQ171 N SQ89 SQ74)) := by
  refine good_fs (cx := ⟨Pg, ofList [(209, (FQ89 SQ89)), (179, (FQ74 SQ74))], isref, N⟩) (ofList_cons hQ89 (ofList_cons hQ74 (ofList_nil _))) shFQ171 (spQ171 (GQ171 N SQ89 SQ74)) (anQ171 N SQ89 SQ74) 0 0 (by kernel_rfl) (fun i_ hi_ => by omega) ?_
  intro a k h
  unfold spQ171 at h
  split at h
  · exact ⟨[], rfl, rfl, (eqQ171 _ _ _ _ _ _ _).trans h⟩
  · cases h

def anQ78 (N : Nat) (SQ88 : TSQ88) (SQ171 : TSQ171) : Nat -> Option Ann := fun b_ => none
theorem eqQ78 (N : Nat) (SQ88 : TSQ88) (SQ171 : TSQ171) (b f_0 f_1 f_2 : Int) (c_ : V -> List Blk -> Bool) : bodyV ⟨Pg, ofList [(201, (FQ88 SQ88)), (202, (FQ171 SQ171))], isref, N⟩ (anQ78 N SQ88 SQ171) 189 (shFQ78.args [.int b, .int f_0, .int f_1, .int f_2]) [] c_ = GQ78 N SQ88 SQ171 b f_0 f_1 f_2 (fun r0 => c_ (.int .u64 r0) []) := by kernel_rfl
theorem goodQ78 (N : Nat) (SQ88 : TSQ88) (SQ171 : TSQ171) (hQ88 : GoodF Pg 201 (FQ88 SQ88)) (hQ171 : GoodF Pg 202 (FQ171 SQ171)) : GoodF Pg 189 (FQ78 (GQ78 N SQ88 SQ171)) := by
  refine good_fs (cx := ⟨Pg, ofList [(201, (FQ88 SQ88)), (202, (FQ171 SQ171))], isref, N⟩) (ofList_cons hQ88 (ofList_cons hQ171 (ofList_nil _))) shFQ78 (spQ78 (GQ78 N SQ88 SQ171)) (anQ78 N SQ88 SQ171) 0 0 (by kernel_rfl) (fun i_ hi_ => by omega) ?_
  intro a k h
  unfold spQ78 at h
  split at h
  · exact ⟨[], rfl, rfl, (eqQ78 _ _ _ _ _ _ _ _).trans h⟩
  · cases h

def anQ32 (N : Nat) (SQ78 : TSQ78) (SQ150 : TSQ150) (SQ74 : TSQ74) : Nat -> Option Ann := fun b_ => none
theorem eqQ32 (N : Nat) (SQ78 : TSQ78) (SQ150 : TSQ150) (SQ74 : TSQ74) (b f_0 f_1 f_2 : Int) (c_ : V -> List Blk -> Bool) : bodyV ⟨Pg, ofList [(189, (FQ78 SQ78)), (190, (FQ150 SQ150)), (179, (FQ74 SQ74))], isref, N⟩ (anQ32 N SQ78 SQ150 SQ74) 176 (shFQ32.args [.int b, .int f_0, .int f_1, .int f_2]) [] c_ = GQ32 N SQ78 SQ150 SQ74 b f_0 f_1 f_2 (fun r0 r1 r2 => c_ (.tup [.bool r0, .int .i64 r1, .int .u64 r2]) []) := by kernel_rfl
theorem goodQ32 (N : Nat) (SQ78 : TSQ78) (SQ150 : TSQ150) (SQ74 : TSQ74) (hQ78 : GoodF Pg 189 (FQ78 SQ78)) (hQ150 : GoodF Pg 190 (FQ150 SQ150)) (hQ74 : GoodF Pg 179 (FQ74 SQ74)) : GoodF Pg 176 (FQ32 (GQ32 N SQ78 SQ150 SQ74)) := by
  refine good_fs (cx := ⟨Pg, ofList [(189, (FQ78 SQ78)), (190, (FQ150 SQ150)), (179, (FQ74 SQ74))], isref, N⟩) (ofList_cons hQ78 (ofList_cons hQ150 (ofList_cons hQ74 (ofList_nil _)))) shFQ32 (spQ32 (GQ32 N SQ78 SQ150 SQ74)) (anQ32 N SQ78 SQ150 SQ74) 0 0 (by kernel_rfl) (fun i_ hi_ => by omega) ?_
  intro a k h
  unfold spQ32 at h
  split at h
  · exact ⟨[], rfl, rfl, (eqQ32 _ _ _ _ _ _ _ _ _).trans h⟩
  · cases h

def anQ31 (N : Nat) (SQ32 : TSQ32) : Nat -> Option Ann := fun b_ => none
theorem eqQ31 (N : Nat) (SQ32 : TSQ32) (b f_0 f_1 f_2 : Int) (c_ : V -> List Blk -> Bool) : bodyV ⟨Pg, ofList [(176, (FQ32 SQ32))], isref, N⟩ (anQ31 N SQ32) 154 (shFQ31.args [.int b, .int f_0, .int f_1, .int f_2]) [] c_ = GQ31 N SQ32 b f_0 f_1 f_2 (fun r0 => c_ (.int .i64 r0) []) := by kernel_rfl
theorem goodQ31 (N : Nat) (SQ32 : TSQ32) (hQ32 : GoodF Pg 176 (FQ32 SQ32)) : GoodF Pg 154 (FQ31 (GQ31 N SQ32)) := by
  refine good_fs (cx := ⟨Pg, ofList [(176, (FQ32 SQ32))], isref, N⟩) (ofList_cons hQ32 (ofList_nil _)) shFQ31 (spQ31 (GQ31 N SQ32)) (anQ31 N SQ32) 0 0 (by kernel_rfl) (fun i_ hi_ => by omega) ?_
  intro a k h
  unfold spQ31 at h
  split at h
  · exact ⟨[], rfl, rfl, (eqQ31 _ _ _ _ _ _ _).trans h⟩
  · cases h

def anQ163 (N : Nat) (SQ147 : TSQ147) (S_an_of : TS_an_of) (SQ31 : TSQ31) : Nat -> Option Ann := fun b_ => none
theorem eqQ163 (N : Nat) (SQ147 : TSQ147) (S_an_of : TS_an_of) (SQ31 : TSQ31) (x : Nat) (c_ : V -> List Blk -> Bool) : bodyV ⟨Pg, ofList [(95, (FQ147 SQ147)), (155, (F_an_of S_an_of)), (154, (FQ31 SQ31))], isref, N⟩ (anQ163 N SQ147 S_an_of SQ31) 126 (shFQ163.args [.nat x]) [] c_ = GQ163 N SQ147 S_an_of SQ31 x (fun r0 => c_ (.int .i64 r0) []) := by kernel_rfl
theorem goodQ163 (N : Nat) (SQ147 : TSQ147) (S_an_of : TS_an_of) (SQ31 : TSQ31) (hQ147 : GoodF Pg 95 (FQ147 SQ147)) (h_an_of : GoodF Pg 155 (F_an_of S_an_of)) (hQ31 : GoodF Pg 154 (FQ31 SQ31)) : GoodF Pg 126 (FQ163 (GQ163 N SQ147 S_an_of SQ31)) := by
  refine good_fs (cx := ⟨Pg, ofList [(95, (FQ147 SQ147)), (155, (F_an_of S_an_of)), (154, (FQ31 SQ31))], isref, N⟩) (ofList_cons hQ147 (ofList_cons h_an_of (ofList_cons hQ31 (ofList_nil _)))) shFQ163 (spQ163 (GQ163 N SQ147 S_an_of SQ31)) (anQ163 N SQ147 S_an_of SQ31) 0 0 (by kernel_rfl) (fun i_ hi_ => by omega) ?_
  intro a k h
  unfold spQ163 at h
  split at h
  · exact ⟨[], rfl, rfl, (eqQ163 _ _ _ _ _ _).trans h⟩
  · cases h


def anQ177 (N : Nat) (SQ147 : TSQ147) (SQ82 : TSQ82) : Nat -> Option Ann := fun b_ => none
theorem eqQ177 (N : Nat) (SQ147 : TSQ147) (SQ82 : TSQ82) (x : Nat) (c_ : V -> List Blk -> Bool) : bodyV ⟨Pg, ofList [(95, (FQ147 SQ147)), (82, (FQ82 SQ82))], isref, N⟩ (anQ177 N SQ147 SQ82) 47 (shFQ177.args [.nat x]) [] c_ = GQ177 N SQ147 SQ82 x (fun r0 => c_ (.flt r0) []) := by kernel_rfl
theorem goodQ177 (N : Nat) (SQ147 : TSQ147) (SQ82 : TSQ82) (hQ147 : GoodF Pg 95 (FQ147 SQ147)) (hQ82 : GoodF Pg 82 (FQ82 SQ82)) : GoodF Pg 47 (FQ177 (GQ177 N SQ147 SQ82)) := by
  refine good_fs (cx := ⟨Pg, ofList [(95, (FQ147 SQ147)), (82, (FQ82 SQ82))], isref, N⟩) (ofList_cons hQ147 (ofList_cons hQ82 (ofList_nil _))) shFQ177 (spQ177 (GQ177 N SQ147 SQ82)) (anQ177 N SQ147 SQ82) 0 0 (by kernel_rfl) (fun i_ hi_ => by omega) ?_
  intro a k h
  unfold spQ177 at h
  split at h
  · exact ⟨[], rfl, rfl, (eqQ177 _ _ _ _ _).trans h⟩
  · cases h

def sh_st_quat_finite_0 : StSh := ⟨(.rof :: (sqs 4 (.int .i64 :: (.int .i64 :: (sqs 13 []))))), []⟩
def sx0_st_quat_finite_0 : StSh := ⟨(.any :: (.any :: (.bool :: (sqs 17 [])))), []⟩
def sx1_st_quat_finite_0 : StSh := ⟨(sqs 20 []), []⟩
def hk_st_quat_finite_0 (N : Nat) : List Atom -> K -> Bool := fun a_ κ => match a_ with
  | [.fls l_1, .int t5, .int t6] => iterG N (st_quat_finite_0 N l_1 t5 (fun r0 => κ.ret (sx0_st_quat_finite_0.build [.bool r0])) (κ.ext 0 (sx1_st_quat_finite_0.build []))) t6
  | _ => false
def anQ12 (N : Nat) : Nat -> Option Ann := fun b_ => cond (b_ == 0) (some ⟨⟨[0, 5, 6], [], []⟩, [(0, ⟨[], [], []⟩)], some ⟨[2], [], []⟩, some (mkHooks [(sh_st_quat_finite_0, hk_st_quat_finite_0 N)])⟩) (none)
theorem eq_st_quat_finite_0 (N : Nat) (κ : K) (l_1 : List Fl) (t5 t6 : Int) : iter N (fun s k => codeV ⟨Pg, ofList [], isref, N⟩ 0 (anQ12 N) (lp Pg 48 0).2 (lp Pg 48 0).1 s (roundK Pg 0 ((anQ12 N) (lp Pg 48 0).1) κ k)) (sh_st_quat_finite_0.build [.fls l_1, .int t5, .int t6]) = iterG N (st_quat_finite_0 N l_1 t5 (fun r0 => κ.ret (sx0_st_quat_finite_0.build [.bool r0])) (κ.ext 0 (sx1_st_quat_finite_0.build []))) t6 :=
  iter_tr (fun v_ => sh_st_quat_finite_0.build [.fls l_1, .int t5, .int v_]) (fun v_ K_ => by kernel_rfl) N t6
theorem hk1_st_quat_finite_0 (N : Nat) : HookFor ⟨Pg, ofList [], isref, N⟩ 0 (anQ12 N) (lp Pg 48 0) (sh_st_quat_finite_0, hk_st_quat_finite_0 N) := by
  intro a κ h
  simp only at h
  unfold hk_st_quat_finite_0 at h
  split at h
  · exact (eq_st_quat_finite_0 _ _ _ _ _).trans h
  · cases h
theorem ho_quat_finite_0 (N : Nat) : HookOk ⟨Pg, ofList [], isref, N⟩ 0 (anQ12 N) (lp Pg 48 0) :=
  hooks_ok [(sh_st_quat_finite_0, hk_st_quat_finite_0 N)] (by kernel_rfl) ⟨hk1_st_quat_finite_0 _, trivial⟩
theorem eqQ12 (N : Nat) (l : List Fl) (c_ : V -> List Blk -> Bool) : bodyV ⟨Pg, ofList [], isref, N⟩ (anQ12 N) 48 (shFQ12.args [.fls l]) [] c_ = GQ12 N l (fun r0 => c_ (.bool r0) []) := by kernel_rfl
theorem goodQ12 (N : Nat) : GoodF Pg 48 (FQ12 (GQ12 N)) := by
  refine good_fs (cx := ⟨Pg, ofList [], isref, N⟩) (ofList_nil _) shFQ12 (spQ12 (GQ12 N)) (anQ12 N) 1 0 (by kernel_rfl) (fun i_ hi_ => by
    match i_, hi_ with
    | 0, _ => exact ho_quat_finite_0 _
    | (q + 1), h => omega) ?_
  intro a k h
  unfold spQ12 at h
  split at h
  · exact ⟨[], rfl, rfl, (eqQ12 _ _ _).trans h⟩
  · cases h

def anQ17 (N : Nat) (SQ12 : TSQ12) : Nat -> Option Ann := fun b_ => none
theorem eqQ17 (N : Nat) (SQ12 : TSQ12) (qs_0 qs_1 qs_2 qs_3 : Fl) (c_ : V -> List Blk -> Bool) : bodyV ⟨Pg, ofList [(48, (FQ12 SQ12))], isref, (N + 24)⟩ (anQ17 (N + 24) SQ12) 42 (shFQ17.args [.fl qs_0, .fl qs_1, .fl qs_2, .fl qs_3]) [] c_ = GQ17 (N + 24) SQ12 qs_0 qs_1 qs_2 qs_3 (fun r0 => c_ (.bool r0) []) := by kernel_rfl
theorem goodQ17 (N : Nat) (SQ12 : TSQ12) (hQ12 : GoodF Pg 48 (FQ12 SQ12)) : GoodF Pg 42 (FQ17 (GQ17 (N + 24) SQ12)) := by
  refine good_fs (cx := ⟨Pg, ofList [(48, (FQ12 SQ12))], isref, (N + 24)⟩) (ofList_cons hQ12 (ofList_nil _)) shFQ17 (spQ17 (GQ17 (N + 24) SQ12)) (anQ17 (N + 24) SQ12) 1 0 (by kernel_rfl) (fun i_ hi_ => by
    match i_, hi_ with
    | 0, _ => exact (fun hk e => by rw [show hookOf ((anQ17 (N + 24) SQ12) (lp Pg 42 0).1) = none from by kernel_rfl] at e; cases e)
    | (q + 1), h => omega) ?_
  intro a k h
  unfold spQ17 at h
  split at h
  · exact ⟨[], rfl, rfl, (eqQ17 _ _ _ _ _ _ _).trans h⟩
  · cases h

def anQ26 (N : Nat) : Nat -> Option Ann := fun b_ => none
theorem eqQ26 (N : Nat) (q_0 q_1 q_2 q_3 : Fl) (c_ : V -> List Blk -> Bool) : bodyV ⟨Pg, ofList [], isref, N⟩ (anQ26 N) 43 (shFQ26.args [.fl q_0, .fl q_1, .fl q_2, .fl q_3]) [] c_ = GQ26 N q_0 q_1 q_2 q_3 (c_ (.agg [.flt q_0, .flt q_1, .flt q_2, .flt q_3]) []) := by kernel_rfl
theorem goodQ26 (N : Nat) : GoodF Pg 43 (FQ26 (GQ26 N)) := by
  refine good_fs (cx := ⟨Pg, ofList [], isref, N⟩) (ofList_nil _) shFQ26 (spQ26 (GQ26 N)) (anQ26 N) 0 0 (by kernel_rfl) (fun i_ hi_ => by omega) ?_
  intro a k h
  unfold spQ26 at h
  split at h
  · exact ⟨[], rfl, rfl, (eqQ26 _ _ _ _ _ _).trans h⟩
  · cases h


def anQ121 (N : Nat) (S_m_Abs : TS_m_Abs) : Nat -> Option Ann := fun b_ => none
theorem eqQ121 (N : Nat) (S_m_Abs : TS_m_Abs) (f : Fl) (sign : Int) (c_ : V -> List Blk -> Bool) : bodyV ⟨Pg, ofList [(47, (F_m_Abs S_m_Abs))], isref, N⟩ (anQ121 N S_m_Abs) 110 (shFQ121.args [.fl f, .int sign]) [] c_ = GQ121 N S_m_Abs f sign (fun r0 => c_ (.bool r0) []) := by kernel_rfl
theorem goodQ121 (N : Nat) (S_m_Abs : TS_m_Abs) (h_m_Abs : GoodF Pg 47 (F_m_Abs S_m_Abs)) : GoodF Pg 110 (FQ121 (GQ121 N S_m_Abs)) := by
  refine good_fs (cx := ⟨Pg, ofList [(47, (F_m_Abs S_m_Abs))], isref, N⟩) (ofList_cons h_m_Abs (ofList_nil _)) shFQ121 (spQ121 (GQ121 N S_m_Abs)) (anQ121 N S_m_Abs) 0 0 (by kernel_rfl) (fun i_ hi_ => by omega) ?_
  intro a k h
  unfold spQ121 at h
  split at h
  · exact ⟨[], rfl, rfl, (eqQ121 _ _ _ _ _).trans h⟩
  · cases h

def anQ126 (N : Nat) : Nat -> Option Ann := fun b_ => none
theorem eqQ126 (N : Nat) (f : Fl) (c_ : V -> List Blk -> Bool) : bodyV ⟨Pg, ofList [], isref, N⟩ (anQ126 N) 111 (shFQ126.args [.fl f]) [] c_ = GQ126 N f (fun r0 => c_ (.bool r0) []) := by kernel_rfl
theorem goodQ126 (N : Nat) : GoodF Pg 111 (FQ126 (GQ126 N)) := by
  refine good_fs (cx := ⟨Pg, ofList [], isref, N⟩) (ofList_nil _) shFQ126 (spQ126 (GQ126 N)) (anQ126 N) 0 0 (by kernel_rfl) (fun i_ hi_ => by omega) ?_
  intro a k h
  unfold spQ126 at h
  split at h
  · exact ⟨[], rfl, rfl, (eqQ126 _ _ _).trans h⟩
  · cases h

def anQ66 (N : Nat) (S_m_Abs : TS_m_Abs) : Nat -> Option Ann := fun b_ => none
theorem eqQ66 (N : Nat) (S_m_Abs : TS_m_Abs) (x : Fl) (c_ : V -> List Blk -> Bool) : bodyV ⟨Pg, ofList [(47, (F_m_Abs S_m_Abs))], isref, N⟩ (anQ66 N S_m_Abs) 112 (shFQ66.args [.fl x]) [] c_ = GQ66 N S_m_Abs x (fun r0 r1 => c_ (.tup [.flt r0, .int .i64 r1]) []) := by kernel_rfl
theorem goodQ66 (N : Nat) (S_m_Abs : TS_m_Abs) (h_m_Abs : GoodF Pg 47 (F_m_Abs S_m_Abs)) : GoodF Pg 112 (FQ66 (GQ66 N S_m_Abs)) := by
  refine good_fs (cx := ⟨Pg, ofList [(47, (F_m_Abs S_m_Abs))], isref, N⟩) (ofList_cons h_m_Abs (ofList_nil _)) shFQ66 (spQ66 (GQ66 N S_m_Abs)) (anQ66 N S_m_Abs) 0 0 (by kernel_rfl) (fun i_ hi_ => by omega) ?_
  intro a k h
  unfold spQ66 at h
  split at h
  · exact ⟨[], rfl, rfl, (eqQ66 _ _ _ _).trans h⟩
  · cases h


def anQ174 (N : Nat) (SQ121 : TSQ121) (SQ126 : TSQ126) (SQ66 : TSQ66) (SQ114 : TSQ114) (SQ82 : TSQ82) : Nat -> Option Ann := fun b_ => none
theorem eqQ174 (N : Nat) (SQ121 : TSQ121) (SQ126 : TSQ126) (SQ66 : TSQ66) (SQ114 : TSQ114) (SQ82 : TSQ82) (f : Fl) (c_ : V -> List Blk -> Bool) : bodyV ⟨Pg, ofList [(110, (FQ121 SQ121)), (111, (FQ126 SQ126)), (112, (FQ66 SQ66)), (95, (FQ114 SQ114)), (82, (FQ82 SQ82))], isref, N⟩ (anQ174 N SQ121 SQ126 SQ66 SQ114 SQ82) 123 (shFQ174.args [.fl f]) [] c_ = GQ174 N SQ121 SQ126 SQ66 SQ114 SQ82 f (fun r0 r1 => c_ (.tup [.flt r0, .int .i64 r1]) []) := by kernel_rfl
theorem goodQ174 (N : Nat) (SQ121 : TSQ121) (SQ126 : TSQ126) (SQ66 : TSQ66) (SQ114 : TSQ114) (SQ82 : TSQ82) (hQ121 : GoodF Pg 110 (FQ121 SQ121)) (hQ126 : GoodF Pg 111 (FQ126 SQ126)) (hQ66 : GoodF Pg 112 (FQ66 SQ66)) (hQ114 : GoodF Pg 95 (FQ114 SQ114)) (hQ82 : GoodF Pg 82 (FQ82 SQ82)) : GoodF Pg 123 (FQ174 (GQ174 N SQ121 SQ126 SQ66 SQ114 SQ82)) := by
  refine good_fs (cx := ⟨Pg, ofList [(110, (FQ121 SQ121)), (111, (FQ126 SQ126)), (112, (FQ66 SQ66)), (95, (FQ114 SQ114)), (82, (FQ82 SQ82))], isref, N⟩) (ofList_cons hQ121 (ofList_cons hQ126 (ofList_cons hQ66 (ofList_cons hQ114 (ofList_cons hQ82 (ofList_nil _)))))) shFQ174 (spQ174 (GQ174 N SQ121 SQ126 SQ66 SQ114 SQ82)) (anQ174 N SQ121 SQ126 SQ66 SQ114 SQ82) 0 0 (by kernel_rfl) (fun i_ hi_ => by omega) ?_
  intro a k h
  unfold spQ174 at h
  split at h
  · exact ⟨[], rfl, rfl, (eqQ174 _ _ _ _ _ _ _ _).trans h⟩
  · cases h

def anQ120 (N : Nat) (SQ174 : TSQ174) : Nat -> Option Ann := fun b_ => none
theorem eqQ120 (N : Nat) (SQ174 : TSQ174) (f : Fl) (c_ : V -> List Blk -> Bool) : bodyV ⟨Pg, ofList [(123, (FQ174 SQ174))], isref, N⟩ (anQ120 N SQ174) 75 (shFQ120.args [.fl f]) [] c_ = GQ120 N SQ174 f (fun r0 r1 => c_ (.tup [.flt r0, .int .i64 r1]) []) := by kernel_rfl
theorem goodQ120 (N : Nat) (SQ174 : TSQ174) (hQ174 : GoodF Pg 123 (FQ174 SQ174)) : GoodF Pg 75 (FQ120 (GQ120 N SQ174)) := by
  refine good_fs (cx := ⟨Pg, ofList [(123, (FQ174 SQ174))], isref, N⟩) (ofList_cons hQ174 (ofList_nil _)) shFQ120 (spQ120 (GQ120 N SQ174)) (anQ120 N SQ174) 0 0 (by kernel_rfl) (fun i_ hi_ => by omega) ?_
  intro a k h
  unfold spQ120 at h
  split at h
  · exact ⟨[], rfl, rfl, (eqQ120 _ _ _ _).trans h⟩
  · cases h

def anQ100 (N : Nat) (SQ114 : TSQ114) (SQ82 : TSQ82) : Nat -> Option Ann := fun b_ => none
theorem eqQ100 (N : Nat) (SQ114 : TSQ114) (SQ82 : TSQ82) (f sign : Fl) (c_ : V -> List Blk -> Bool) : bodyV ⟨Pg, ofList [(95, (FQ114 SQ114)), (82, (FQ82 SQ82))], isref, N⟩ (anQ100 N SQ114 SQ82) 113 (shFQ100.args [.fl f, .fl sign]) [] c_ = GQ100 N SQ114 SQ82 f sign (fun r0 => c_ (.flt r0) []) := by kernel_rfl
theorem goodQ100 (N : Nat) (SQ114 : TSQ114) (SQ82 : TSQ82) (hQ114 : GoodF Pg 95 (FQ114 SQ114)) (hQ82 : GoodF Pg 82 (FQ82 SQ82)) : GoodF Pg 113 (FQ100 (GQ100 N SQ114 SQ82)) := by
  refine good_fs (cx := ⟨Pg, ofList [(95, (FQ114 SQ114)), (82, (FQ82 SQ82))], isref, N⟩) (ofList_cons hQ114 (ofList_cons hQ82 (ofList_nil _))) shFQ100 (spQ100 (GQ100 N SQ114 SQ82)) (anQ100 N SQ114 SQ82) 0 0 (by kernel_rfl) (fun i_ hi_ => by omega) ?_
  intro a k h
  unfold spQ100 at h
  split at h
  · exact ⟨[], rfl, rfl, (eqQ100 _ _ _ _ _ _).trans h⟩
  · cases h

def an_m_Inf (N : Nat) (SQ82 : TSQ82) : Nat -> Option Ann := fun b_ => none
def ls_m_Inf_0 (d_ : List V) (u_ : List (Option Blk)) (sign v : Int) : St := ⟨(dqs d_ 0 3 (.int .u64 v :: (dqs d_ 3 4 []))), []⟩
theorem jn_m_Inf_0 (N : Nat) (SQ82 : TSQ82) (d_ : List V) (u_ : List (Option Blk)) (sign v : Int) (c_ : V -> List Blk -> Bool) : codesV ⟨Pg, ofList [(82, (FQ82 SQ82))], isref, N⟩ 0 (an_m_Inf N SQ82) ((cds Pg 114).drop 4) 0 (ls_m_Inf_0 d_ u_ sign v) (finV Pg 114 0 c_) = J_m_Inf_0 N SQ82 sign v (fun r0 => c_ (.flt r0) []) := by kernel_rfl
theorem hd_m_Inf_w (N : Nat) (SQ82 : TSQ82) (sign : Int) (c_ : V -> List Blk -> Bool) (κn_ : St -> Bool) : codesV ⟨Pg, ofList [(82, (FQ82 SQ82))], isref, N⟩ 0 (an_m_Inf N SQ82) (sg Pg 114 0 4) 0 (st0 Pg 114 (shF_m_Inf.args [.int sign]) []) { (finV Pg 114 0 c_) with nrm := κn_ } = (cond (decide (sign >= 0)) (κn_ (ls_m_Inf_0 [.int .i64 sign, .any, .flt (some 0), .int .i64 sign, .bool true, .any, .any] [] sign 9218868437227405312)) (κn_ (ls_m_Inf_0 [.int .i64 sign, .any, .flt (some 0), .int .i64 sign, .bool false, .any, .any] [] sign 18442240474082181120))) := by kernel_rfl
theorem jn_m_Inf_w (N : Nat) (SQ82 : TSQ82) (sign : Int) (c_ : V -> List Blk -> Bool) : codesV ⟨Pg, ofList [(82, (FQ82 SQ82))], isref, N⟩ 0 (an_m_Inf N SQ82) ((cds Pg 114).drop 0) 0 (st0 Pg 114 (shF_m_Inf.args [.int sign]) []) (finV Pg 114 0 c_) = G_m_Inf N SQ82 sign (fun r0 => c_ (.flt r0) []) := by
  rw [codesV_cut 0 4 4 rfl]
  refine (hd_m_Inf_w N SQ82 sign c_ _).trans ?_
  simp only [jn_m_Inf_0]
  kernel_rfl
theorem eq_m_Inf (N : Nat) (SQ82 : TSQ82) (sign : Int) (c_ : V -> List Blk -> Bool) : bodyV ⟨Pg, ofList [(82, (FQ82 SQ82))], isref, N⟩ (an_m_Inf N SQ82) 114 (shF_m_Inf.args [.int sign]) [] c_ = G_m_Inf N SQ82 sign (fun r0 => c_ (.flt r0) []) :=
  (bodyV_codes (by kernel_rfl)).trans (jn_m_Inf_w N SQ82 sign c_)
theorem good_m_Inf (N : Nat) (SQ82 : TSQ82) (hQ82 : GoodF Pg 82 (FQ82 SQ82)) : GoodF Pg 114 (F_m_Inf (G_m_Inf N SQ82)) := by
  refine good_fs (cx := ⟨Pg, ofList [(82, (FQ82 SQ82))], isref, N⟩) (ofList_cons hQ82 (ofList_nil _)) shF_m_Inf (sp_m_Inf (G_m_Inf N SQ82)) (an_m_Inf N SQ82) 0 0 (by kernel_rfl) (fun i_ hi_ => by omega) ?_
  intro a k h
  unfold sp_m_Inf at h
  split at h
  · exact ⟨[], rfl, rfl, (eq_m_Inf _ _ _ _).trans h⟩
  · cases h

def anQ165 (N : Nat) (SQ121 : TSQ121) (SQ126 : TSQ126) (SQ66 : TSQ66) (SQ114 : TSQ114) (SQ100 : TSQ100) (S_m_Inf : TS_m_Inf) (SQ82 : TSQ82) : Nat -> Option Ann := fun b_ => none
def lsQ196 (d_ : List V) (u_ : List (Option Blk)) (frac : Fl) (exp exp_1 x : Int) (m : Fl) : St := ⟨((dq d_ 0) :: (.int .i64 exp_1 :: (dqs d_ 1 4 (.int .u64 x :: (.flt m :: (dqs d_ 5 55 [])))))), []⟩
theorem jnQ196 (N : Nat) (SQ121 : TSQ121) (SQ126 : TSQ126) (SQ66 : TSQ66) (SQ114 : TSQ114) (SQ100 : TSQ100) (S_m_Inf : TS_m_Inf) (SQ82 : TSQ82) (d_ : List V) (u_ : List (Option Blk)) (frac : Fl) (exp exp_1 x : Int) (m : Fl) (c_ : V -> List Blk -> Bool) : codesV ⟨Pg, ofList [(110, (FQ121 SQ121)), (111, (FQ126 SQ126)), (112, (FQ66 SQ66)), (95, (FQ114 SQ114)), (113, (FQ100 SQ100)), (114, (F_m_Inf S_m_Inf)), (82, (FQ82 SQ82))], isref, N⟩ 0 (anQ165 N SQ121 SQ126 SQ66 SQ114 SQ100 S_m_Inf SQ82) ((cds Pg 64).drop 13) 0 (lsQ196 d_ u_ frac exp exp_1 x m) (finV Pg 64 0 c_) = JQ196 N SQ121 SQ126 SQ66 SQ114 SQ100 S_m_Inf SQ82 frac exp exp_1 x m (fun r0 => c_ (.flt r0) []) := by kernel_rfl
theorem hd_m_ldexp_w (N : Nat) (SQ121 : TSQ121) (SQ126 : TSQ126) (SQ66 : TSQ66) (SQ114 : TSQ114) (SQ100 : TSQ100) (S_m_Inf : TS_m_Inf) (SQ82 : TSQ82) (frac : Fl) (exp : Int) (c_ : V -> List Blk -> Bool) (κn_ : St -> Bool) : codesV ⟨Pg, ofList [(110, (FQ121 SQ121)), (111, (FQ126 SQ126)), (112, (FQ66 SQ66)), (95, (FQ114 SQ114)), (113, (FQ100 SQ100)), (114, (F_m_Inf S_m_Inf)), (82, (FQ82 SQ82))], isref, N⟩ 0 (anQ165 N SQ121 SQ126 SQ66 SQ114 SQ100 S_m_Inf SQ82) (sg Pg 64 0 13) 0 (st0 Pg 64 (shFQ165.args [.fl frac, .int exp]) []) { (finV Pg 64 0 c_) with nrm := κn_ } = (cond (feq frac (some 0)) (c_ (.flt frac) []) (SQ121 frac 0 (fun cr => (cond (cr == false) (SQ126 frac (fun cr_1 => (cond cr_1 (c_ (.flt frac) []) (SQ66 frac (fun xr nr => ((fits .i64 (exp + nr)) && (SQ114 xr (fun nr_1 => ((fits .i64 (Int.fdiv nr_1 (2 ^ 52))) && ((fits .i64 ((bitsN .and .i64 (Int.fdiv nr_1 (2 ^ 52)) 2047) - 1023)) && ((fits .i64 ((exp + nr) + ((bitsN .and .i64 (Int.fdiv nr_1 (2 ^ 52)) 2047) - 1023))) && (cond (decide (((exp + nr) + ((bitsN .and .i64 (Int.fdiv nr_1 (2 ^ 52)) 2047) - 1023)) < (-1075))) (SQ100 (some 0) xr (fun xr_1 => (c_ (.flt xr_1) []))) (cond (decide (((exp + nr) + ((bitsN .and .i64 (Int.fdiv nr_1 (2 ^ 52)) 2047) - 1023)) > 1023)) (cond (flt xr (some 0)) (S_m_Inf (-1) (fun xr_2 => (c_ (.flt xr_2) []))) (S_m_Inf 1 (fun xr_3 => (c_ (.flt xr_3) [])))) (cond (decide (((exp + nr) + ((bitsN .and .i64 (Int.fdiv nr_1 (2 ^ 52)) 2047) - 1023)) < (-1022))) ((fits .i64 (((exp + nr) + ((bitsN .and .i64 (Int.fdiv nr_1 (2 ^ 52)) 2047) - 1023)) + 53)) && (κn_ (lsQ196 [.flt xr, .any, .any, .flt (some 0), .int .i64 nr, .bool false, .flt frac, .bool (feq frac (some 0)), .any, .bool false, .flt frac, .bool cr, .bool false, .flt frac, .bool cr_1, .bool cr_1, .any, .tup [.flt xr, .int .i64 nr], .flt frac, .tup [.flt xr, .int .i64 nr], .flt xr, .int .i64 nr, .int .i64 exp, .int .i64 nr, .int .i64 (exp + nr), .flt xr, .int .u64 nr_1, .int .i64 (exp + nr), .int .u64 nr_1, .int .u64 (Int.fdiv nr_1 (2 ^ 52)), .int .i64 (Int.fdiv nr_1 (2 ^ 52)), .int .i64 (bitsN .and .i64 (Int.fdiv nr_1 (2 ^ 52)) 2047), .int .i64 ((bitsN .and .i64 (Int.fdiv nr_1 (2 ^ 52)) 2047) - 1023), .int .i64 ((exp + nr) + ((bitsN .and .i64 (Int.fdiv nr_1 (2 ^ 52)) 2047) - 1023)), .int .i64 ((exp + nr) + ((bitsN .and .i64 (Int.fdiv nr_1 (2 ^ 52)) 2047) - 1023)), .bool false, .any, .any, .int .i64 ((exp + nr) + ((bitsN .and .i64 (Int.fdiv nr_1 (2 ^ 52)) 2047) - 1023)), .bool false, .any, .any, .any, .any, .int .i64 ((exp + nr) + ((bitsN .and .i64 (Int.fdiv nr_1 (2 ^ 52)) 2047) - 1023)), .bool true, .int .i64 ((exp + nr) + ((bitsN .and .i64 (Int.fdiv nr_1 (2 ^ 52)) 2047) - 1023)), .int .i64 (((exp + nr) + ((bitsN .and .i64 (Int.fdiv nr_1 (2 ^ 52)) 2047) - 1023)) + 53), .any, .any, .any, .any, .any, .any, .any, .any, .any, .any, .any, .any] [] frac exp (((exp + nr) + ((bitsN .and .i64 (Int.fdiv nr_1 (2 ^ 52)) 2047) - 1023)) + 53) nr_1 (some 4368491638549381120)))) (κn_ (lsQ196 [.flt xr, .any, .any, .flt (some 0), .int .i64 nr, .bool false, .flt frac, .bool (feq frac (some 0)), .any, .bool false, .flt frac, .bool cr, .bool false, .flt frac, .bool cr_1, .bool cr_1, .any, .tup [.flt xr, .int .i64 nr], .flt frac, .tup [.flt xr, .int .i64 nr], .flt xr, .int .i64 nr, .int .i64 exp, .int .i64 nr, .int .i64 (exp + nr), .flt xr, .int .u64 nr_1, .int .i64 (exp + nr), .int .u64 nr_1, .int .u64 (Int.fdiv nr_1 (2 ^ 52)), .int .i64 (Int.fdiv nr_1 (2 ^ 52)), .int .i64 (bitsN .and .i64 (Int.fdiv nr_1 (2 ^ 52)) 2047), .int .i64 ((bitsN .and .i64 (Int.fdiv nr_1 (2 ^ 52)) 2047) - 1023), .int .i64 ((exp + nr) + ((bitsN .and .i64 (Int.fdiv nr_1 (2 ^ 52)) 2047) - 1023)), .int .i64 ((exp + nr) + ((bitsN .and .i64 (Int.fdiv nr_1 (2 ^ 52)) 2047) - 1023)), .bool false, .any, .any, .int .i64 ((exp + nr) + ((bitsN .and .i64 (Int.fdiv nr_1 (2 ^ 52)) 2047) - 1023)), .bool false, .any, .any, .any, .any, .int .i64 ((exp + nr) + ((bitsN .and .i64 (Int.fdiv nr_1 (2 ^ 52)) 2047) - 1023)), .bool false, .any, .any, .any, .any, .any, .any, .any, .any, .any, .any, .any, .any, .any, .any] [] frac exp ((exp + nr) + ((bitsN .and .i64 (Int.fdiv nr_1 (2 ^ 52)) 2047) - 1023)) nr_1 (some 4607182418800017408))))))))))))))))) (c_ (.flt frac) []))))) := by kernel_rfl
theorem jn_m_ldexp_w (N : Nat) (SQ121 : TSQ121) (SQ126 : TSQ126) (SQ66 : TSQ66) (SQ114 : TSQ114) (SQ100 : TSQ100) (S_m_Inf : TS_m_Inf) (SQ82 : TSQ82) (frac : Fl) (exp : Int) (c_ : V -> List Blk -> Bool) : codesV ⟨Pg, ofList [(110, (FQ121 SQ121)), (111, (FQ126 SQ126)), (112, (FQ66 SQ66)), (95, (FQ114 SQ114)), (113, (FQ100 SQ100)), (114, (F_m_Inf S_m_Inf)), (82, (FQ82 SQ82))], isref, N⟩ 0 (anQ165 N SQ121 SQ126 SQ66 SQ114 SQ100 S_m_Inf SQ82) ((cds Pg 64).drop 0) 0 (st0 Pg 64 (shFQ165.args [.fl frac, .int exp]) []) (finV Pg 64 0 c_) = GQ165 N SQ121 SQ126 SQ66 SQ114 SQ100 S_m_Inf SQ82 frac exp (fun r0 => c_ (.flt r0) []) := by
  rw [codesV_cut 0 13 13 rfl]
  refine (hd_m_ldexp_w N SQ121 SQ126 SQ66 SQ114 SQ100 S_m_Inf SQ82 frac exp c_ _).trans ?_
  simp only [jnQ196]
  kernel_rfl
theorem eqQ165 (N : Nat) (SQ121 : TSQ121) (SQ126 : TSQ126) (SQ66 : TSQ66) (SQ114 : TSQ114) (SQ100 : TSQ100) (S_m_Inf : TS_m_Inf) (SQ82 : TSQ82) (frac : Fl) (exp : Int) (c_ : V -> List Blk -> Bool) : bodyV ⟨Pg, ofList [(110, (FQ121 SQ121)), (111, (FQ126 SQ126)), (112, (FQ66 SQ66)), (95, (FQ114 SQ114)), (113, (FQ100 SQ100)), (114, (F_m_Inf S_m_Inf)), (82, (FQ82 SQ82))], isref, N⟩ (anQ165 N SQ121 SQ126 SQ66 SQ114 SQ100 S_m_Inf SQ82) 64 (shFQ165.args [.fl frac, .int exp]) [] c_ = GQ165 N SQ121 SQ126 SQ66 SQ114 SQ100 S_m_Inf SQ82 frac exp (fun r0 => c_ (.flt r0) []) :=
  (bodyV_codes (by kernel_rfl)).trans (jn_m_ldexp_w N SQ121 SQ126 SQ66 SQ114 SQ100 S_m_Inf SQ82 frac exp c_)
theorem goodQ165 (N : Nat) (SQ121 : TSQ121) (SQ126 : TSQ126) (SQ66 : TSQ66) (SQ114 : TSQ114) (SQ100 : TSQ100) (S_m_Inf : TS_m_Inf) (SQ82 : TSQ82) (hQ121 : GoodF Pg 110 (FQ121 SQ121)) (hQ126 : GoodF Pg 111 (FQ126 SQ126)) (hQ66 : GoodF Pg 112 (FQ66 SQ66)) (hQ114 : GoodF Pg 95 (FQ114 SQ114)) (hQ100 : GoodF Pg 113 (FQ100 SQ100)) (h_m_Inf : GoodF Pg 114 (F_m_Inf S_m_Inf)) (hQ82 : GoodF Pg 82 (FQ82 SQ82)) : GoodF Pg 64 (FQ165 (GQ165 N SQ121 SQ126 SQ66 SQ114 SQ100 S_m_Inf SQ82)) := by
  refine good_fs (cx := ⟨Pg, ofList [(110, (FQ121 SQ121)), (111, (FQ126 SQ126)), (112, (FQ66 SQ66)), (95, (FQ114 SQ114)), (113, (FQ100 SQ100)), (114, (F_m_Inf S_m_Inf)), (82, (FQ82 SQ82))], isref, N⟩) (ofList_cons hQ121 (ofList_cons hQ126 (ofList_cons hQ66 (ofList_cons hQ114 (ofList_cons hQ100 (ofList_cons h_m_Inf (ofList_cons hQ82 (ofList_nil _)))))))) shFQ165 (spQ165 (GQ165 N SQ121 SQ126 SQ66 SQ114 SQ100 S_m_Inf SQ82)) (anQ165 N SQ121 SQ126 SQ66 SQ114 SQ100 S_m_Inf SQ82) 0 0 (by kernel_rfl) (fun i_ hi_ => by omega) ?_
  intro a k h
  unfold spQ165 at h
  split at h
  · exact ⟨[], rfl, rfl, (eqQ165 _ _ _ _ _ _ _ _ _ _ _).trans h⟩
  · cases h

def anQ101 (N : Nat) (SQ165 : TSQ165) : Nat -> Option Ann := fun b_ => none
theorem eqQ101 (N : Nat) (SQ165 : TSQ165) (frac : Fl) (exp : Int) (c_ : V -> List Blk -> Bool) : bodyV ⟨Pg, ofList [(64, (FQ165 SQ165))], isref, N⟩ (anQ101 N SQ165) 26 (shFQ101.args [.fl frac, .int exp]) [] c_ = GQ101 N SQ165 frac exp (fun r0 => c_ (.flt r0) []) := by kernel_rfl
theorem goodQ101 (N : Nat) (SQ165 : TSQ165) (hQ165 : GoodF Pg 64 (FQ165 SQ165)) : GoodF Pg 26 (FQ101 (GQ101 N SQ165)) := by
  refine good_fs (cx := ⟨Pg, ofList [(64, (FQ165 SQ165))], isref, N⟩) (ofList_cons hQ165 (ofList_nil _)) shFQ101 (spQ101 (GQ101 N SQ165)) (anQ101 N SQ165) 0 0 (by kernel_rfl) (fun i_ hi_ => by omega) ?_
  intro a k h
  unfold spQ101 at h
  split at h
  · exact ⟨[], rfl, rfl, (eqQ101 _ _ _ _ _).trans h⟩
  · cases h


def anQ149 (N : Nat) (SQ184 : TSQ184) : Nat -> Option Ann := fun b_ => none
theorem eqQ149 (N : Nat) (SQ184 : TSQ184) (x : Fl) (c_ : V -> List Blk -> Bool) : bodyV ⟨Pg, ofList [(124, (FQ184 SQ184))], isref, N⟩ (anQ149 N SQ184) 76 (shFQ149.args [.fl x]) [] c_ = GQ149 N SQ184 x (fun r0 => c_ (.flt r0) []) := by kernel_rfl
theorem goodQ149 (N : Nat) (SQ184 : TSQ184) (hQ184 : GoodF Pg 124 (FQ184 SQ184)) : GoodF Pg 76 (FQ149 (GQ149 N SQ184)) := by
  refine good_fs (cx := ⟨Pg, ofList [(124, (FQ184 SQ184))], isref, N⟩) (ofList_cons hQ184 (ofList_nil _)) shFQ149 (spQ149 (GQ149 N SQ184)) (anQ149 N SQ184) 0 0 (by kernel_rfl) (fun i_ hi_ => by omega) ?_
  intro a k h
  unfold spQ149 at h
  split at h
  · exact ⟨[], rfl, rfl, (eqQ149 _ _ _ _).trans h⟩
  · cases h

def anQ108 (N : Nat) : Nat -> Option Ann := fun b_ => none
theorem eqQ108 (N : Nat) (l_0 l_1 l_2 l_3 : Fl) (c_ : V -> List Blk -> Bool) : bodyV ⟨Pg, ofList [], isref, N⟩ (anQ108 N) 77 (shFQ108.args [.fl l_0, .fl l_1, .fl l_2, .fl l_3]) [] c_ = GQ108 N l_0 l_1 l_2 l_3 (c_ (.agg [.flt l_0, .flt l_1, .flt l_2, .flt l_3]) []) := by kernel_rfl
theorem goodQ108 (N : Nat) : GoodF Pg 77 (FQ108 (GQ108 N)) := by
  refine good_fs (cx := ⟨Pg, ofList [], isref, N⟩) (ofList_nil _) shFQ108 (spQ108 (GQ108 N)) (anQ108 N) 0 0 (by kernel_rfl) (fun i_ hi_ => by omega) ?_
  intro a k h
  unfold spQ108 at h
  split at h
  · exact ⟨[], rfl, rfl, (eqQ108 _ _ _ _ _ _).trans h⟩
  · cases h

def anQ13 (N : Nat) (SQ17 : TSQ17) (SQ26 : TSQ26) (S_m_Abs : TS_m_Abs) (SQ120 : TSQ120) (SQ101 : TSQ101) (SQ149 : TSQ149) (SQ108 : TSQ108) : Nat -> Option Ann := fun b_ => none
theorem eqQ13 (N : Nat) (SQ17 : TSQ17) (SQ26 : TSQ26) (S_m_Abs : TS_m_Abs) (SQ120 : TSQ120) (SQ101 : TSQ101) (SQ149 : TSQ149) (SQ108 : TSQ108) (q_0 q_1 q_2 q_3 : Fl) (c_ : V -> List Blk -> Bool) : bodyV ⟨Pg, ofList [(42, (FQ17 SQ17)), (43, (FQ26 SQ26)), (47, (F_m_Abs S_m_Abs)), (75, (FQ120 SQ120)), (26, (FQ101 SQ101)), (76, (FQ149 SQ149)), (77, (FQ108 SQ108))], isref, (N + 24)⟩ (anQ13 (N + 24) SQ17 SQ26 S_m_Abs SQ120 SQ101 SQ149 SQ108) 35 (shFQ13.args [.fl q_0, .fl q_1, .fl q_2, .fl q_3]) [] c_ = GQ13 (N + 24) SQ17 SQ26 S_m_Abs SQ120 SQ101 SQ149 SQ108 q_0 q_1 q_2 q_3 (fun r0 r1 r2 r3 r4 => c_ (.tup [.agg [.flt r0, .flt r1, .flt r2, .flt r3], .int .i64 r4]) []) := by kernel_rfl
theorem goodQ13 (N : Nat) (SQ17 : TSQ17) (SQ26 : TSQ26) (S_m_Abs : TS_m_Abs) (SQ120 : TSQ120) (SQ101 : TSQ101) (SQ149 : TSQ149) (SQ108 : TSQ108) (hQ17 : GoodF Pg 42 (FQ17 SQ17)) (hQ26 : GoodF Pg 43 (FQ26 SQ26)) (h_m_Abs : GoodF Pg 47 (F_m_Abs S_m_Abs)) (hQ120 : GoodF Pg 75 (FQ120 SQ120)) (hQ101 : GoodF Pg 26 (FQ101 SQ101)) (hQ149 : GoodF Pg 76 (FQ149 SQ149)) (hQ108 : GoodF Pg 77 (FQ108 SQ108)) : GoodF Pg 35 (FQ13 (GQ13 (N + 24) SQ17 SQ26 S_m_Abs SQ120 SQ101 SQ149 SQ108)) := by
  refine good_fs (cx := ⟨Pg, ofList [(42, (FQ17 SQ17)), (43, (FQ26 SQ26)), (47, (F_m_Abs S_m_Abs)), (75, (FQ120 SQ120)), (26, (FQ101 SQ101)), (76, (FQ149 SQ149)), (77, (FQ108 SQ108))], isref, (N + 24)⟩) (ofList_cons hQ17 (ofList_cons hQ26 (ofList_cons h_m_Abs (ofList_cons hQ120 (ofList_cons hQ101 (ofList_cons hQ149 (ofList_cons hQ108 (ofList_nil _)))))))) shFQ13 (spQ13 (GQ13 (N + 24) SQ17 SQ26 S_m_Abs SQ120 SQ101 SQ149 SQ108)) (anQ13 (N + 24) SQ17 SQ26 S_m_Abs SQ120 SQ101 SQ149 SQ108) 3 0 (by kernel_rfl) (fun i_ hi_ => by
    match i_, hi_ with
    | 0, _ => exact (fun hk e => by rw [show hookOf ((anQ13 (N + 24) SQ17 SQ26 S_m_Abs SQ120 SQ101 SQ149 SQ108) (lp Pg 35 0).1) = none from by kernel_rfl] at e; cases e)
    | 1, _ => exact (fun hk e => by rw [show hookOf ((anQ13 (N + 24) SQ17 SQ26 S_m_Abs SQ120 SQ101 SQ149 SQ108) (lp Pg 35 1).1) = none from by kernel_rfl] at e; cases e)
    | 2, _ => exact (fun hk e => by rw [show hookOf ((anQ13 (N + 24) SQ17 SQ26 S_m_Abs SQ120 SQ101 SQ149 SQ108) (lp Pg 35 2).1) = none from by kernel_rfl] at e; cases e)
    | (q + 3), h => omega) ?_
  intro a k h
  unfold spQ13 at h
  split at h
  · exact ⟨[], rfl, rfl, (eqQ13 _ _ _ _ _ _ _ _ _ _ _ _ _).trans h⟩
  · cases h

def anQ60 (N : Nat) : Nat -> Option Ann := fun b_ => none
theorem eqQ60 (N : Nat) (a_0 a_1 a_2 b_0 b_1 b_2 : Fl) (c_ : V -> List Blk -> Bool) : bodyV ⟨Pg, ofList [], isref, N⟩ (anQ60 N) 49 (shFQ60.args [.fl a_0, .fl a_1, .fl a_2, .fl b_0, .fl b_1, .fl b_2]) [] c_ = GQ60 N a_0 a_1 a_2 b_0 b_1 b_2 (fun r0 r1 r2 => c_ (.agg [.flt r0, .flt r1, .flt r2]) []) := by kernel_rfl
theorem goodQ60 (N : Nat) : GoodF Pg 49 (FQ60 (GQ60 N)) := by
  refine good_fs (cx := ⟨Pg, ofList [], isref, N⟩) (ofList_nil _) shFQ60 (spQ60 (GQ60 N)) (anQ60 N) 0 0 (by kernel_rfl) (fun i_ hi_ => by omega) ?_
  intro a k h
  unfold spQ60 at h
  split at h
  · exact ⟨[], rfl, rfl, (eqQ60 _ _ _ _ _ _ _ _).trans h⟩
  · cases h

def anQ155 (N : Nat) (SQ12 : TSQ12) : Nat -> Option Ann := fun b_ => none
theorem eqQ155 (N : Nat) (SQ12 : TSQ12) (v_0 v_1 v_2 : Fl) (c_ : V -> List Blk -> Bool) : bodyV ⟨Pg, ofList [(48, (FQ12 SQ12))], isref, N⟩ (anQ155 N SQ12) 50 (shFQ155.args [.fl v_0, .fl v_1, .fl v_2]) [] c_ = GQ155 N SQ12 v_0 v_1 v_2 (fun r0 r1 r2 r3 => c_ (.tup [.agg [.flt r0, .flt r1, .flt r2], .int .i64 r3]) []) := by kernel_rfl
theorem goodQ155 (N : Nat) (SQ12 : TSQ12) (hQ12 : GoodF Pg 48 (FQ12 SQ12)) : GoodF Pg 50 (FQ155 (GQ155 N SQ12)) := by
  refine good_fs (cx := ⟨Pg, ofList [(48, (FQ12 SQ12))], isref, N⟩) (ofList_cons hQ12 (ofList_nil _)) shFQ155 (spQ155 (GQ155 N SQ12)) (anQ155 N SQ12) 0 0 (by kernel_rfl) (fun i_ hi_ => by omega) ?_
  intro a k h
  unfold spQ155 at h
  split at h
  · exact ⟨[], rfl, rfl, (eqQ155 _ _ _ _ _ _).trans h⟩
  · cases h

def anQ142 (N : Nat) (SQ17 : TSQ17) (SQ12 : TSQ12) (SQ60 : TSQ60) (SQ155 : TSQ155) : Nat -> Option Ann := fun b_ => none
theorem eqQ142 (N : Nat) (SQ17 : TSQ17) (SQ12 : TSQ12) (SQ60 : TSQ60) (SQ155 : TSQ155) (q_0 q_1 q_2 q_3 v_0 v_1 v_2 : Fl) (c_ : V -> List Blk -> Bool) : bodyV ⟨Pg, ofList [(42, (FQ17 SQ17)), (48, (FQ12 SQ12)), (49, (FQ60 SQ60)), (50, (FQ155 SQ155))], isref, (N + 24)⟩ (anQ142 (N + 24) SQ17 SQ12 SQ60 SQ155) 13 (shFQ142.args [.fl q_0, .fl q_1, .fl q_2, .fl q_3, .fl v_0, .fl v_1, .fl v_2]) [] c_ = GQ142 (N + 24) SQ17 SQ12 SQ60 SQ155 q_0 q_1 q_2 q_3 v_0 v_1 v_2 (fun r0 r1 r2 r3 => c_ (.tup [.agg [.flt r0, .flt r1, .flt r2], .int .i64 r3]) []) := by kernel_rfl
theorem goodQ142 (N : Nat) (SQ17 : TSQ17) (SQ12 : TSQ12) (SQ60 : TSQ60) (SQ155 : TSQ155) (hQ17 : GoodF Pg 42 (FQ17 SQ17)) (hQ12 : GoodF Pg 48 (FQ12 SQ12)) (hQ60 : GoodF Pg 49 (FQ60 SQ60)) (hQ155 : GoodF Pg 50 (FQ155 SQ155)) : GoodF Pg 13 (FQ142 (GQ142 (N + 24) SQ17 SQ12 SQ60 SQ155)) := by
  refine good_fs (cx := ⟨Pg, ofList [(42, (FQ17 SQ17)), (48, (FQ12 SQ12)), (49, (FQ60 SQ60)), (50, (FQ155 SQ155))], isref, (N + 24)⟩) (ofList_cons hQ17 (ofList_cons hQ12 (ofList_cons hQ60 (ofList_cons hQ155 (ofList_nil _))))) shFQ142 (spQ142 (GQ142 (N + 24) SQ17 SQ12 SQ60 SQ155)) (anQ142 (N + 24) SQ17 SQ12 SQ60 SQ155) 2 0 (by kernel_rfl) (fun i_ hi_ => by
    match i_, hi_ with
    | 0, _ => exact (fun hk e => by rw [show hookOf ((anQ142 (N + 24) SQ17 SQ12 SQ60 SQ155) (lp Pg 13 0).1) = none from by kernel_rfl] at e; cases e)
    | 1, _ => exact (fun hk e => by rw [show hookOf ((anQ142 (N + 24) SQ17 SQ12 SQ60 SQ155) (lp Pg 13 1).1) = none from by kernel_rfl] at e; cases e)
    | (q + 2), h => omega) ?_
  intro a k h
  unfold spQ142 at h
  split at h
  · exact ⟨[], rfl, rfl, (eqQ142 _ _ _ _ _ _ _ _ _ _ _ _ _).trans h⟩
  · cases h

def anQ59 (N : Nat) (SQ12 : TSQ12) : Nat -> Option Ann := fun b_ => none
theorem eqQ59 (N : Nat) (SQ12 : TSQ12) (qs_0 qs_1 qs_2 qs_3 qs_4 qs_5 qs_6 qs_7 : Fl) (c_ : V -> List Blk -> Bool) : bodyV ⟨Pg, ofList [(48, (FQ12 SQ12))], isref, (N + 24)⟩ (anQ59 (N + 24) SQ12) 42 (shFQ59.args [.fl qs_0, .fl qs_1, .fl qs_2, .fl qs_3, .fl qs_4, .fl qs_5, .fl qs_6, .fl qs_7]) [] c_ = GQ59 (N + 24) SQ12 qs_0 qs_1 qs_2 qs_3 qs_4 qs_5 qs_6 qs_7 (fun r0 => c_ (.bool r0) []) := by kernel_rfl
theorem goodQ59 (N : Nat) (SQ12 : TSQ12) (hQ12 : GoodF Pg 48 (FQ12 SQ12)) : GoodF Pg 42 (FQ59 (GQ59 (N + 24) SQ12)) := by
  refine good_fs (cx := ⟨Pg, ofList [(48, (FQ12 SQ12))], isref, (N + 24)⟩) (ofList_cons hQ12 (ofList_nil _)) shFQ59 (spQ59 (GQ59 (N + 24) SQ12)) (anQ59 (N + 24) SQ12) 1 0 (by kernel_rfl) (fun i_ hi_ => by
    match i_, hi_ with
    | 0, _ => exact (fun hk e => by rw [show hookOf ((anQ59 (N + 24) SQ12) (lp Pg 42 0).1) = none from by kernel_rfl] at e; cases e)
    | (q + 1), h => omega) ?_
  intro a k h
  unfold spQ59 at h
  split at h
  · exact ⟨[], rfl, rfl, (eqQ59 _ _ _ _ _ _ _ _ _ _ _).trans h⟩
  · cases h

def anQ164 (N : Nat) : Nat -> Option Ann := fun b_ => none
theorem eqQ164 (N : Nat) (a_0 a_1 a_2 a_3 b_0 b_1 b_2 b_3 : Fl) (c_ : V -> List Blk -> Bool) : bodyV ⟨Pg, ofList [], isref, N⟩ (anQ164 N) 83 (shFQ164.args [.fl a_0, .fl a_1, .fl a_2, .fl a_3, .fl b_0, .fl b_1, .fl b_2, .fl b_3]) [] c_ = GQ164 N a_0 a_1 a_2 a_3 b_0 b_1 b_2 b_3 (fun r0 r1 r2 r3 => c_ (.agg [.flt r0, .flt r1, .flt r2, .flt r3]) []) := by kernel_rfl
theorem goodQ164 (N : Nat) : GoodF Pg 83 (FQ164 (GQ164 N)) := by
  refine good_fs (cx := ⟨Pg, ofList [], isref, N⟩) (ofList_nil _) shFQ164 (spQ164 (GQ164 N)) (anQ164 N) 0 0 (by kernel_rfl) (fun i_ hi_ => by omega) ?_
  intro a k h
  unfold spQ164 at h
  split at h
  · exact ⟨[], rfl, rfl, (eqQ164 _ _ _ _ _ _ _ _ _ _).trans h⟩
  · cases h

def anQ72 (N : Nat) (SQ17 : TSQ17) : Nat -> Option Ann := fun b_ => none
theorem eqQ72 (N : Nat) (SQ17 : TSQ17) (q_0 q_1 q_2 q_3 : Fl) (c_ : V -> List Blk -> Bool) : bodyV ⟨Pg, ofList [(42, (FQ17 SQ17))], isref, N⟩ (anQ72 N SQ17) 72 (shFQ72.args [.fl q_0, .fl q_1, .fl q_2, .fl q_3]) [] c_ = GQ72 N SQ17 q_0 q_1 q_2 q_3 (fun r0 r1 r2 r3 r4 => c_ (.tup [.agg [.flt r0, .flt r1, .flt r2, .flt r3], .int .i64 r4]) []) := by kernel_rfl
theorem goodQ72 (N : Nat) (SQ17 : TSQ17) (hQ17 : GoodF Pg 42 (FQ17 SQ17)) : GoodF Pg 72 (FQ72 (GQ72 N SQ17)) := by
  refine good_fs (cx := ⟨Pg, ofList [(42, (FQ17 SQ17))], isref, N⟩) (ofList_cons hQ17 (ofList_nil _)) shFQ72 (spQ72 (GQ72 N SQ17)) (anQ72 N SQ17) 0 0 (by kernel_rfl) (fun i_ hi_ => by omega) ?_
  intro a k h
  unfold spQ72 at h
  split at h
  · exact ⟨[], rfl, rfl, (eqQ72 _ _ _ _ _ _ _).trans h⟩
  · cases h

def anQ123 (N : Nat) (SQ59 : TSQ59) (SQ164 : TSQ164) (SQ72 : TSQ72) : Nat -> Option Ann := fun b_ => none
theorem eqQ123 (N : Nat) (SQ59 : TSQ59) (SQ164 : TSQ164) (SQ72 : TSQ72) (a_0 a_1 a_2 a_3 b_0 b_1 b_2 b_3 : Fl) (c_ : V -> List Blk -> Bool) : bodyV ⟨Pg, ofList [(42, (FQ59 SQ59)), (83, (FQ164 SQ164)), (72, (FQ72 SQ72))], isref, N⟩ (anQ123 N SQ59 SQ164 SQ72) 40 (shFQ123.args [.fl a_0, .fl a_1, .fl a_2, .fl a_3, .fl b_0, .fl b_1, .fl b_2, .fl b_3]) [] c_ = GQ123 N SQ59 SQ164 SQ72 a_0 a_1 a_2 a_3 b_0 b_1 b_2 b_3 (fun r0 r1 r2 r3 r4 => c_ (.tup [.agg [.flt r0, .flt r1, .flt r2, .flt r3], .int .i64 r4]) []) := by kernel_rfl
theorem goodQ123 (N : Nat) (SQ59 : TSQ59) (SQ164 : TSQ164) (SQ72 : TSQ72) (hQ59 : GoodF Pg 42 (FQ59 SQ59)) (hQ164 : GoodF Pg 83 (FQ164 SQ164)) (hQ72 : GoodF Pg 72 (FQ72 SQ72)) : GoodF Pg 40 (FQ123 (GQ123 N SQ59 SQ164 SQ72)) := by
  refine good_fs (cx := ⟨Pg, ofList [(42, (FQ59 SQ59)), (83, (FQ164 SQ164)), (72, (FQ72 SQ72))], isref, N⟩) (ofList_cons hQ59 (ofList_cons hQ164 (ofList_cons hQ72 (ofList_nil _)))) shFQ123 (spQ123 (GQ123 N SQ59 SQ164 SQ72)) (anQ123 N SQ59 SQ164 SQ72) 0 0 (by kernel_rfl) (fun i_ hi_ => by omega) ?_
  intro a k h
  unfold spQ123 at h
  split at h
  · exact ⟨[], rfl, rfl, (eqQ123 _ _ _ _ _ _ _ _ _ _ _ _ _).trans h⟩
  · cases h


def sh_st_anatomy_Finite_0 : StSh := ⟨(sqs 6 (.rof :: (.int .i64 :: (.int .i64 :: (sqs 12 []))))), []⟩
def sx0_st_anatomy_Finite_0 : StSh := ⟨(.any :: (.any :: (.bool :: (sqs 18 [])))), []⟩
def sx1_st_anatomy_Finite_0 : StSh := ⟨(sqs 21 []), []⟩
def hk_st_anatomy_Finite_0 (N : Nat) (SQ138 : TSQ138) : List Atom -> K -> Bool := fun a_ κ => match a_ with
  | [.fls t6, .int t7, .int t8] => iterG N (st_an_Finite_0 N SQ138 t6 t7 (fun r0 => κ.ret (sx0_st_anatomy_Finite_0.build [.bool r0])) (κ.ext 0 (sx1_st_anatomy_Finite_0.build []))) t8
  | _ => false
def anQ69 (N : Nat) (SQ138 : TSQ138) : Nat -> Option Ann := fun b_ => cond (b_ == 0) (some ⟨⟨[6, 7, 8], [], []⟩, [(0, ⟨[], [], []⟩)], some ⟨[2], [], []⟩, some (mkHooks [(sh_st_anatomy_Finite_0, hk_st_anatomy_Finite_0 N SQ138)])⟩) (none)
theorem eq_st_anatomy_Finite_0 (N : Nat) (SQ138 : TSQ138) (κ : K) (t6 : List Fl) (t7 t8 : Int) : iter N (fun s k => codeV ⟨Pg, ofList [(126, (FQ138 SQ138))], isref, N⟩ 0 (anQ69 N SQ138) (lp Pg 84 0).2 (lp Pg 84 0).1 s (roundK Pg 0 ((anQ69 N SQ138) (lp Pg 84 0).1) κ k)) (sh_st_anatomy_Finite_0.build [.fls t6, .int t7, .int t8]) = iterG N (st_an_Finite_0 N SQ138 t6 t7 (fun r0 => κ.ret (sx0_st_anatomy_Finite_0.build [.bool r0])) (κ.ext 0 (sx1_st_anatomy_Finite_0.build []))) t8 :=
  iter_tr (fun v_ => sh_st_anatomy_Finite_0.build [.fls t6, .int t7, .int v_]) (fun v_ K_ => by kernel_rfl) N t8
theorem hk1_st_anatomy_Finite_0 (N : Nat) (SQ138 : TSQ138) : HookFor ⟨Pg, ofList [(126, (FQ138 SQ138))], isref, N⟩ 0 (anQ69 N SQ138) (lp Pg 84 0) (sh_st_anatomy_Finite_0, hk_st_anatomy_Finite_0 N SQ138) := by
  intro a κ h
  simp only at h
  unfold hk_st_anatomy_Finite_0 at h
  split at h
  · exact (eq_st_anatomy_Finite_0 _ _ _ _ _ _).trans h
  · cases h
theorem ho_anatomy_Finite_0 (N : Nat) (SQ138 : TSQ138) : HookOk ⟨Pg, ofList [(126, (FQ138 SQ138))], isref, N⟩ 0 (anQ69 N SQ138) (lp Pg 84 0) :=
  hooks_ok [(sh_st_anatomy_Finite_0, hk_st_anatomy_Finite_0 N SQ138)] (by kernel_rfl) ⟨hk1_st_anatomy_Finite_0 _ _, trivial⟩
theorem eqQ69 (N : Nat) (SQ138 : TSQ138) (l : List Fl) (c_ : V -> List Blk -> Bool) : bodyV ⟨Pg, ofList [(126, (FQ138 SQ138))], isref, N⟩ (anQ69 N SQ138) 84 (shFQ69.args [.fls l]) [] c_ = GQ69 N SQ138 l (fun r0 => c_ (.bool r0) []) := by kernel_rfl
theorem goodQ69 (N : Nat) (SQ138 : TSQ138) (hQ138 : GoodF Pg 126 (FQ138 SQ138)) : GoodF Pg 84 (FQ69 (GQ69 N SQ138)) := by
  refine good_fs (cx := ⟨Pg, ofList [(126, (FQ138 SQ138))], isref, N⟩) (ofList_cons hQ138 (ofList_nil _)) shFQ69 (spQ69 (GQ69 N SQ138)) (anQ69 N SQ138) 1 0 (by kernel_rfl) (fun i_ hi_ => by
    match i_, hi_ with
    | 0, _ => exact ho_anatomy_Finite_0 _ _
    | (q + 1), h => omega) ?_
  intro a k h
  unfold spQ69 at h
  split at h
  · exact ⟨[], rfl, rfl, (eqQ69 _ _ _ _).trans h⟩
  · cases h

def anQ6 (N : Nat) : Nat -> Option Ann := fun b_ => none
theorem eqQ6 (N : Nat) (x : Int) (c_ : V -> List Blk -> Bool) : bodyV ⟨Pg, ofList [], isref, N⟩ (anQ6 N) 180 (shFQ6.args [.int x]) [] c_ = GQ6 N x (fun r0 => c_ (.int .i64 r0) []) := by
  have key : ∀ L_ : Int, codesV ⟨Pg, ofList [], isref, N⟩ 0 (anQ6 N) (((cds Pg 180).drop 0).map (subC 285870213051353865 L_)) 0 (st0 Pg 180 (shFQ6.args [.int x]) []) (finV Pg 180 0 c_) = (fun (k0 : Int -> Bool) => (cond (x == 0) (k0 64) ((inR (Int.fdiv (IntKind.wrap .u64 ((bitsN .and .u64 x (IntKind.wrap .u64 (0 - x))) * L_)) (2 ^ 58)) 64) && ((fits .i64 (List.getD tab64 (Int.toNat (Int.fdiv (IntKind.wrap .u64 ((bitsN .and .u64 x (IntKind.wrap .u64 (0 - x))) * L_)) (2 ^ 58))) 0)) && (k0 (List.getD tab64 (Int.toNat (Int.fdiv (IntKind.wrap .u64 ((bitsN .and .u64 x (IntKind.wrap .u64 (0 - x))) * L_)) (2 ^ 58))) 0)))))) (fun r0 => c_ (.int .i64 r0) []) := fun L_ => by kernel_rfl
  have hc : (cds Pg 180).drop 0 = ((cds Pg 180).drop 0).map (subC 285870213051353865 285870213051353865) := by kernel_rfl
  refine (bodyV_codes (by kernel_rfl)).trans ?_
  rw [hc]
  exact key 285870213051353865
theorem goodQ6 (N : Nat) : GoodF Pg 180 (FQ6 (GQ6 N)) := by
  refine good_fs (cx := ⟨Pg, ofList [], isref, N⟩) (ofList_nil _) shFQ6 (spQ6 (GQ6 N)) (anQ6 N) 0 0 (by kernel_rfl) (fun i_ hi_ => by omega) ?_
  intro a k h
  unfold spQ6 at h
  split at h
  · exact ⟨[], rfl, rfl, (eqQ6 _ _ _).trans h⟩
  · cases h

def anQ67 (N : Nat) (SQ32 : TSQ32) (SQ31 : TSQ31) (SQ74 : TSQ74) (SQ6 : TSQ6) : Nat -> Option Ann := fun b_ => none
def lsQ175 (d_ : List V) (u_ : List (Option Blk)) (b f_0 f_1 f_2 : Int) (p : Bool) (p_1 p_2 : Int) : St := ⟨(dqs d_ 0 4 (.ptr 1 0 :: (dqs d_ 4 4 (.ptr 2 0 :: (dqs d_ 8 52 []))))), [(u_.getD 0 none), some ⟨108, 1, .cells [.bool false, .int .u64 0, .int .i64 0]⟩, some ⟨108, 1, .cells [.bool p, .int .u64 p_1, .int .i64 p_2]⟩]⟩
theorem jnQ175 (N : Nat) (SQ32 : TSQ32) (SQ31 : TSQ31) (SQ74 : TSQ74) (SQ6 : TSQ6) (d_ : List V) (u_ : List (Option Blk)) (b f_0 f_1 f_2 : Int) (p : Bool) (p_1 p_2 : Int) (c_ : V -> List Blk -> Bool) : codesV ⟨Pg, ofList [(176, (FQ32 SQ32)), (154, (FQ31 SQ31)), (179, (FQ74 SQ74)), (180, (FQ6 SQ6))], isref, N⟩ 0 (anQ67 N SQ32 SQ31 SQ74 SQ6) ((cds Pg 157).drop 5) 0 (lsQ175 d_ u_ b f_0 f_1 f_2 p p_1 p_2) (finV Pg 157 0 c_) = JQ175 N SQ32 SQ31 SQ74 SQ6 b f_0 f_1 f_2 p p_1 p_2 (fun r0 r1 r2 r3 => c_ (.tup [.agg [.bool r0, .int .u64 r1, .int .i64 r2], .int .i64 r3]) []) := by kernel_rfl
theorem hd_an_parts_uint64__w (N : Nat) (SQ32 : TSQ32) (SQ31 : TSQ31) (SQ74 : TSQ74) (SQ6 : TSQ6) (b f_0 f_1 f_2 : Int) (c_ : V -> List Blk -> Bool) (κn_ : St -> Bool) : codesV ⟨Pg, ofList [(176, (FQ32 SQ32)), (154, (FQ31 SQ31)), (179, (FQ74 SQ74)), (180, (FQ6 SQ6))], isref, N⟩ 0 (anQ67 N SQ32 SQ31 SQ74 SQ6) (sg Pg 157 0 5) 0 (st0 Pg 157 (shFQ67.args [.int b, .int f_0, .int f_1, .int f_2]) []) { (finV Pg 157 0 c_) with nrm := κn_ } = (SQ32 b f_0 f_1 f_2 (fun cr nr nr_1 => ((fits .i64 (nr - f_2)) && (SQ31 b f_0 f_1 f_2 (fun nr_2 => (cond (nr_2 == 1) (c_ (.tup [.agg [.bool false, .int .u64 0, .int .i64 0], .int .i64 4]) []) (cond (nr_2 == 2) (c_ (.tup [.agg [.bool false, .int .u64 0, .int .i64 0], .int .i64 4]) []) (cond (nr_2 == 3) (c_ (.tup [.agg [.bool cr, .int .u64 0, .int .i64 0], .int .i64 0]) []) (cond (nr_2 == 4) ((fits .i64 ((nr - f_2) + 1)) && (κn_ (lsQ175 [.int .u64 b, .agg [.int .u64 f_0, .int .i64 f_1, .int .i64 f_2], .any, .ptr 0 0, .int .i64 0, .bool cr, .int .i64 nr, .int .u64 nr_1, .any, .tup [.bool cr, .int .i64 nr, .int .u64 nr_1], .int .u64 b, .agg [.int .u64 f_0, .int .i64 f_1, .int .i64 f_2], .tup [.bool cr, .int .i64 nr, .int .u64 nr_1], .bool cr, .int .i64 nr, .int .u64 nr_1, .bool cr, .int .u64 nr_1, .int .i64 nr, .ptr 0 2, .int .i64 f_2, .int .i64 (nr - f_2), .agg [.bool cr, .int .u64 nr_1, .int .i64 (nr - f_2)], .int .u64 b, .agg [.int .u64 f_0, .int .i64 f_1, .int .i64 f_2], .int .i64 nr_2, .any, .any, .any, .any, .any, .any, .bool false, .bool (nr_2 == 1), .bool (nr_2 == 2), .any, .bool false, .bool (nr_2 == 3), .any, .any, .bool true, .bool (nr_2 == 4), .ptr 2 2, .int .i64 (nr - f_2), .int .i64 ((nr - f_2) + 1), .ptr 2 2, .any, .any, .any, .any, .any, .any, .any, .any, .any, .any, .any, .any, .any, .any] [some ⟨185, 1, .cells [.int .u64 f_0, .int .i64 f_1, .int .i64 f_2]⟩] b f_0 f_1 f_2 cr nr_1 ((nr - f_2) + 1)))) (SQ74 f_0 f_1 f_2 (fun nr_3 => (κn_ (lsQ175 [.int .u64 b, .agg [.int .u64 f_0, .int .i64 f_1, .int .i64 f_2], .any, .ptr 0 0, .int .i64 0, .bool cr, .int .i64 nr, .int .u64 nr_1, .any, .tup [.bool cr, .int .i64 nr, .int .u64 nr_1], .int .u64 b, .agg [.int .u64 f_0, .int .i64 f_1, .int .i64 f_2], .tup [.bool cr, .int .i64 nr, .int .u64 nr_1], .bool cr, .int .i64 nr, .int .u64 nr_1, .bool cr, .int .u64 nr_1, .int .i64 nr, .ptr 0 2, .int .i64 f_2, .int .i64 (nr - f_2), .agg [.bool cr, .int .u64 nr_1, .int .i64 (nr - f_2)], .int .u64 b, .agg [.int .u64 f_0, .int .i64 f_1, .int .i64 f_2], .int .i64 nr_2, .ptr 2 1, .int .u64 nr_1, .agg [.int .u64 f_0, .int .i64 f_1, .int .i64 f_2], .int .u64 nr_3, .int .u64 (bitsN .or .u64 nr_1 nr_3), .ptr 2 1, .bool false, .bool (nr_2 == 1), .bool (nr_2 == 2), .any, .bool false, .bool (nr_2 == 3), .any, .any, .bool false, .bool (nr_2 == 4), .any, .any, .any, .any, .any, .any, .any, .any, .any, .any, .any, .any, .any, .any, .any, .any, .any, .any] [some ⟨185, 1, .cells [.int .u64 f_0, .int .i64 f_1, .int .i64 f_2]⟩] b f_0 f_1 f_2 cr (bitsN .or .u64 nr_1 nr_3) (nr - f_2)))))))))))))) := by kernel_rfl
theorem jn_an_parts_uint64__w (N : Nat) (SQ32 : TSQ32) (SQ31 : TSQ31) (SQ74 : TSQ74) (SQ6 : TSQ6) (b f_0 f_1 f_2 : Int) (c_ : V -> List Blk -> Bool) : codesV ⟨Pg, ofList [(176, (FQ32 SQ32)), (154, (FQ31 SQ31)), (179, (FQ74 SQ74)), (180, (FQ6 SQ6))], isref, N⟩ 0 (anQ67 N SQ32 SQ31 SQ74 SQ6) ((cds Pg 157).drop 0) 0 (st0 Pg 157 (shFQ67.args [.int b, .int f_0, .int f_1, .int f_2]) []) (finV Pg 157 0 c_) = GQ67 N SQ32 SQ31 SQ74 SQ6 b f_0 f_1 f_2 (fun r0 r1 r2 r3 => c_ (.tup [.agg [.bool r0, .int .u64 r1, .int .i64 r2], .int .i64 r3]) []) := by
  rw [codesV_cut 0 5 5 rfl]
  refine (hd_an_parts_uint64__w N SQ32 SQ31 SQ74 SQ6 b f_0 f_1 f_2 c_ _).trans ?_
  simp only [jnQ175]
  kernel_rfl
theorem eqQ67 (N : Nat) (SQ32 : TSQ32) (SQ31 : TSQ31) (SQ74 : TSQ74) (SQ6 : TSQ6) (b f_0 f_1 f_2 : Int) (c_ : V -> List Blk -> Bool) : bodyV ⟨Pg, ofList [(176, (FQ32 SQ32)), (154, (FQ31 SQ31)), (179, (FQ74 SQ74)), (180, (FQ6 SQ6))], isref, N⟩ (anQ67 N SQ32 SQ31 SQ74 SQ6) 157 (shFQ67.args [.int b, .int f_0, .int f_1, .int f_2]) [] c_ = GQ67 N SQ32 SQ31 SQ74 SQ6 b f_0 f_1 f_2 (fun r0 r1 r2 r3 => c_ (.tup [.agg [.bool r0, .int .u64 r1, .int .i64 r2], .int .i64 r3]) []) :=
  (bodyV_codes (by kernel_rfl)).trans (jn_an_parts_uint64__w N SQ32 SQ31 SQ74 SQ6 b f_0 f_1 f_2 c_)
theorem goodQ67 (N : Nat) (SQ32 : TSQ32) (SQ31 : TSQ31) (SQ74 : TSQ74) (SQ6 : TSQ6) (hQ32 : GoodF Pg 176 (FQ32 SQ32)) (hQ31 : GoodF Pg 154 (FQ31 SQ31)) (hQ74 : GoodF Pg 179 (FQ74 SQ74)) (hQ6 : GoodF Pg 180 (FQ6 SQ6)) : GoodF Pg 157 (FQ67 (GQ67 N SQ32 SQ31 SQ74 SQ6)) := by
  refine good_fs (cx := ⟨Pg, ofList [(176, (FQ32 SQ32)), (154, (FQ31 SQ31)), (179, (FQ74 SQ74)), (180, (FQ6 SQ6))], isref, N⟩) (ofList_cons hQ32 (ofList_cons hQ31 (ofList_cons hQ74 (ofList_cons hQ6 (ofList_nil _))))) shFQ67 (spQ67 (GQ67 N SQ32 SQ31 SQ74 SQ6)) (anQ67 N SQ32 SQ31 SQ74 SQ6) 0 0 (by kernel_rfl) (fun i_ hi_ => by omega) ?_
  intro a k h
  unfold spQ67 at h
  split at h
  · exact ⟨[], rfl, rfl, (eqQ67 _ _ _ _ _ _ _ _ _ _).trans h⟩
  · cases h

def anQ156 (N : Nat) (SQ114 : TSQ114) (S_an_of : TS_an_of) (SQ67 : TSQ67) : Nat -> Option Ann := fun b_ => none
theorem eqQ156 (N : Nat) (SQ114 : TSQ114) (S_an_of : TS_an_of) (SQ67 : TSQ67) (x : Fl) (c_ : V -> List Blk -> Bool) : bodyV ⟨Pg, ofList [(95, (FQ114 SQ114)), (155, (F_an_of S_an_of)), (157, (FQ67 SQ67))], isref, N⟩ (anQ156 N SQ114 S_an_of SQ67) 129 (shFQ156.args [.fl x]) [] c_ = GQ156 N SQ114 S_an_of SQ67 x (fun r0 r1 r2 r3 => c_ (.tup [.agg [.bool r0, .int .u64 r1, .int .i64 r2], .int .i64 r3]) []) := by kernel_rfl
theorem goodQ156 (N : Nat) (SQ114 : TSQ114) (S_an_of : TS_an_of) (SQ67 : TSQ67) (hQ114 : GoodF Pg 95 (FQ114 SQ114)) (h_an_of : GoodF Pg 155 (F_an_of S_an_of)) (hQ67 : GoodF Pg 157 (FQ67 SQ67)) : GoodF Pg 129 (FQ156 (GQ156 N SQ114 S_an_of SQ67)) := by
  refine good_fs (cx := ⟨Pg, ofList [(95, (FQ114 SQ114)), (155, (F_an_of S_an_of)), (157, (FQ67 SQ67))], isref, N⟩) (ofList_cons hQ114 (ofList_cons h_an_of (ofList_cons hQ67 (ofList_nil _)))) shFQ156 (spQ156 (GQ156 N SQ114 S_an_of SQ67)) (anQ156 N SQ114 S_an_of SQ67) 0 0 (by kernel_rfl) (fun i_ hi_ => by omega) ?_
  intro a k h
  unfold spQ156 at h
  split at h
  · exact ⟨[], rfl, rfl, (eqQ156 _ _ _ _ _ _).trans h⟩
  · cases h

def sh_st_big_norm_w_0 : StSh := ⟨(.slw 0 :: (.any :: (.any :: (.int .i64 :: (sqs 17 []))))), [some (22, 1, .ints .u64)]⟩
def sx0_st_big_norm_w_0 : StSh := ⟨(.slw 0 :: (.any :: (.any :: (.int .i64 :: (sqs 17 []))))), [some (22, 1, .ints .u64)]⟩
def hk_st_big_norm_w_0 (N : Nat) : List Atom -> K -> Bool := fun a_ κ => match a_ with
  | [.int n, .ints x] => iterG N (stQ195 N x (fun r0 => κ.ext 0 (sx0_st_big_norm_w_0.build [.int r0, .ints x]))) n
  | _ => false
def anQ1 (N : Nat) : Nat -> Option Ann := fun b_ => cond (b_ == 0) (some ⟨⟨[0, 3], [], []⟩, [(0, ⟨[0, 3], [], []⟩)], some ⟨[2], [], []⟩, some (mkHooks [(sh_st_big_norm_w_0, hk_st_big_norm_w_0 N)])⟩) (none)
theorem eq_st_big_norm_w_0 (N : Nat) (κ : K) (n : Int) (x : List Int) : iter N (fun s k => codeV ⟨Pg, ofList [], isref, N⟩ 1 (anQ1 N) (lp Pg 167 0).2 (lp Pg 167 0).1 s (roundK Pg 1 ((anQ1 N) (lp Pg 167 0).1) κ k)) (sh_st_big_norm_w_0.build [.int n, .ints x]) = iterG N (stQ195 N x (fun r0 => κ.ext 0 (sx0_st_big_norm_w_0.build [.int r0, .ints x]))) n :=
  iter_tr (fun v_ => sh_st_big_norm_w_0.build [.int v_, .ints x]) (fun v_ K_ => by kernel_rfl) N n
theorem hk1_st_big_norm_w_0 (N : Nat) : HookFor ⟨Pg, ofList [], isref, N⟩ 1 (anQ1 N) (lp Pg 167 0) (sh_st_big_norm_w_0, hk_st_big_norm_w_0 N) := by
  intro a κ h
  simp only at h
  unfold hk_st_big_norm_w_0 at h
  split at h
  · exact (eq_st_big_norm_w_0 _ _ _ _).trans h
  · cases h
theorem ho_big_norm_w_0 (N : Nat) : HookOk ⟨Pg, ofList [], isref, N⟩ 1 (anQ1 N) (lp Pg 167 0) :=
  hooks_ok [(sh_st_big_norm_w_0, hk_st_big_norm_w_0 N)] (by kernel_rfl) ⟨hk1_st_big_norm_w_0 _, trivial⟩
theorem eqQ1 (N : Nat) (b : List Int) (c_ : V -> List Blk -> Bool) : bodyZ ⟨Pg, ofList [], isref, N⟩ (anQ1 N) 167 (shFQ1.args [.ints b]) [⟨22, 1, .ints .u64 b⟩] c_ = GQ1 N b (fun r0 r1 => c_ (.sl 0 r0 r1) [⟨22, 1, .ints .u64 b⟩]) := by kernel_rfl
theorem goodQ1 (N : Nat) : GoodF Pg 167 (FQ1 (GQ1 N)) := by
  refine good_fsZ (cx := ⟨Pg, ofList [], isref, N⟩) (ofList_nil _) shFQ1 (spQ1 (GQ1 N)) (anQ1 N) 1 1 (by kernel_rfl) (fun i_ hi_ => by
    match i_, hi_ with
    | 0, _ => exact ho_big_norm_w_0 _
    | (q + 1), h => omega) ?_
  intro a k h
  unfold spQ1 at h
  split at h
  · exact ⟨[_], rfl, rfl, (eqQ1 _ _ _).trans h⟩
  · cases h

def anQ124 (N : Nat) (SQ1 : TSQ1) : Nat -> Option Ann := fun b_ => none
theorem eqQ124 (N : Nat) (SQ1 : TSQ1) (n : Int) (c_ : V -> List Blk -> Bool) : bodyZ ⟨Pg, ofList [(167, (FQ1 SQ1))], isref, N⟩ (anQ124 N SQ1) 158 (shFQ124.args [.int n]) [] c_ = GQ124 N SQ1 n (fun r0 => c_ (.roi .u64 r0) []) := by kernel_rfl
theorem goodQ124 (N : Nat) (SQ1 : TSQ1) (hQ1 : GoodF Pg 167 (FQ1 SQ1)) : GoodF Pg 158 (FQ124 (GQ124 N SQ1)) := by
  refine good_fsZ (cx := ⟨Pg, ofList [(167, (FQ1 SQ1))], isref, N⟩) (ofList_cons hQ1 (ofList_nil _)) shFQ124 (spQ124 (GQ124 N SQ1)) (anQ124 N SQ1) 0 0 (by kernel_rfl) (fun i_ hi_ => by omega) ?_
  intro a k h
  unfold spQ124 at h
  split at h
  · exact ⟨[], rfl, rfl, (eqQ124 _ _ _ _).trans h⟩
  · cases h

def anQ0 (N : Nat) : Nat -> Option Ann := fun b_ => none
theorem eqQ0 (N : Nat) (neg : Bool) (abs : List Int) (b : Bool) (c_ : V -> List Blk -> Bool) : bodyZ ⟨Pg, ofList [], isref, N⟩ (anQ0 N) 139 (shFQ0.args [.bool neg, .ints abs, .bool b]) [⟨126, 1, .cells [.bool b, .nil]⟩] c_ = GQ0 N neg abs b (fun r0 => c_ (.ptr 0 0) [⟨126, 1, .cells [.bool r0, .roi .u64 abs]⟩]) := by kernel_rfl
theorem goodQ0 (N : Nat) : GoodF Pg 139 (FQ0 (GQ0 N)) := by
  refine good_fsZ (cx := ⟨Pg, ofList [], isref, N⟩) (ofList_nil _) shFQ0 (spQ0 (GQ0 N)) (anQ0 N) 0 1 (by kernel_rfl) (fun i_ hi_ => by omega) ?_
  intro a k h
  unfold spQ0 at h
  split at h
  · exact ⟨[_], rfl, rfl, (eqQ0 _ _ _ _ _).trans h⟩
  · cases h

def anQ52 (N : Nat) (SQ124 : TSQ124) (SQ0 : TSQ0) : Nat -> Option Ann := fun b_ => none
theorem eqQ52 (N : Nat) (SQ124 : TSQ124) (SQ0 : TSQ0) (n : Int) (b : Bool) (c_ : V -> List Blk -> Bool) : bodyZ ⟨Pg, ofList [(158, (FQ124 SQ124)), (139, (FQ0 SQ0))], isref, N⟩ (anQ52 N SQ124 SQ0) 130 (shFQ52.args [.int n, .bool b]) [⟨126, 1, .cells [.bool b, .nil]⟩] c_ = GQ52 N SQ124 SQ0 n b (fun r0 r1 => c_ (.ptr 0 0) [⟨126, 1, .cells [.bool r0, .roi .u64 r1]⟩]) := by kernel_rfl
theorem goodQ52 (N : Nat) (SQ124 : TSQ124) (SQ0 : TSQ0) (hQ124 : GoodF Pg 158 (FQ124 SQ124)) (hQ0 : GoodF Pg 139 (FQ0 SQ0)) : GoodF Pg 130 (FQ52 (GQ52 N SQ124 SQ0)) := by
  refine good_fsZ (cx := ⟨Pg, ofList [(158, (FQ124 SQ124)), (139, (FQ0 SQ0))], isref, N⟩) (ofList_cons hQ124 (ofList_cons hQ0 (ofList_nil _))) shFQ52 (spQ52 (GQ52 N SQ124 SQ0)) (anQ52 N SQ124 SQ0) 0 1 (by kernel_rfl) (fun i_ hi_ => by omega) ?_
  intro a k h
  unfold spQ52 at h
  split at h
  · exact ⟨[_], rfl, rfl, (eqQ52 _ _ _ _ _ _).trans h⟩
  · cases h

def anQ77 (N : Nat) : Nat -> Option Ann := fun b_ => none
theorem eqQ77 (N : Nat) (x : List Int) (c_ : V -> List Blk -> Bool) : bodyZ ⟨Pg, ofList [], isref, N⟩ (anQ77 N) 140 (shFQ77.args [.ints x]) [] c_ = GQ77 N x (fun r0 => c_ (.roi .u64 r0) []) := by kernel_rfl
theorem goodQ77 (N : Nat) : GoodF Pg 140 (FQ77 (GQ77 N)) := by
  refine good_fsZ (cx := ⟨Pg, ofList [], isref, N⟩) (ofList_nil _) shFQ77 (spQ77 (GQ77 N)) (anQ77 N) 0 0 (by kernel_rfl) (fun i_ hi_ => by omega) ?_
  intro a k h
  unfold spQ77 at h
  split at h
  · exact ⟨[], rfl, rfl, (eqQ77 _ _ _).trans h⟩
  · cases h

def anQ35 (N : Nat) : Nat -> Option Ann := fun b_ => none
theorem eqQ35 (N : Nat) (neg : Bool) (abs : List Int) (b : Bool) (b_1 : List Int) (c_ : V -> List Blk -> Bool) : bodyZ ⟨Pg, ofList [], isref, N⟩ (anQ35 N) 139 (shFQ35.args [.bool neg, .ints abs, .bool b, .ints b_1]) [⟨126, 1, .cells [.bool b, .roi .u64 b_1]⟩] c_ = GQ35 N neg abs b b_1 (fun r0 => c_ (.ptr 0 0) [⟨126, 1, .cells [.bool r0, .roi .u64 abs]⟩]) := by kernel_rfl
theorem goodQ35 (N : Nat) : GoodF Pg 139 (FQ35 (GQ35 N)) := by
  refine good_fsZ (cx := ⟨Pg, ofList [], isref, N⟩) (ofList_nil _) shFQ35 (spQ35 (GQ35 N)) (anQ35 N) 0 1 (by kernel_rfl) (fun i_ hi_ => by omega) ?_
  intro a k h
  unfold spQ35 at h
  split at h
  · exact ⟨[_], rfl, rfl, (eqQ35 _ _ _ _ _ _).trans h⟩
  · cases h

def anQ27 (N : Nat) (SQ77 : TSQ77) (SQ35 : TSQ35) : Nat -> Option Ann := fun b_ => none
theorem eqQ27 (N : Nat) (SQ77 : TSQ77) (SQ35 : TSQ35) (b : Bool) (b_1 : List Int) (c_ : V -> List Blk -> Bool) : bodyZ ⟨Pg, ofList [(140, (FQ77 SQ77)), (139, (FQ35 SQ35))], isref, N⟩ (anQ27 N SQ77 SQ35) 91 (shFQ27.args [.bool b, .ints b_1]) [⟨126, 1, .cells [.bool b, .roi .u64 b_1]⟩] c_ = GQ27 N SQ77 SQ35 b b_1 (fun r0 r1 => c_ (.ptr 0 0) [⟨126, 1, .cells [.bool r0, .roi .u64 r1]⟩]) := by kernel_rfl
theorem goodQ27 (N : Nat) (SQ77 : TSQ77) (SQ35 : TSQ35) (hQ77 : GoodF Pg 140 (FQ77 SQ77)) (hQ35 : GoodF Pg 139 (FQ35 SQ35)) : GoodF Pg 91 (FQ27 (GQ27 N SQ77 SQ35)) := by
  refine good_fsZ (cx := ⟨Pg, ofList [(140, (FQ77 SQ77)), (139, (FQ35 SQ35))], isref, N⟩) (ofList_cons hQ77 (ofList_cons hQ35 (ofList_nil _))) shFQ27 (spQ27 (GQ27 N SQ77 SQ35)) (anQ27 N SQ77 SQ35) 0 1 (by kernel_rfl) (fun i_ hi_ => by omega) ?_
  intro a k h
  unfold spQ27 at h
  split at h
  · exact ⟨[_], rfl, rfl, (eqQ27 _ _ _ _ _ _).trans h⟩
  · cases h

def anQ146 (N : Nat) (SQ156 : TSQ156) (SQ52 : TSQ52) (SQ27 : TSQ27) : Nat -> Option Ann := fun b_ => none
theorem eqQ146 (N : Nat) (SQ156 : TSQ156) (SQ52 : TSQ52) (SQ27 : TSQ27) (x : Fl) (c_ : V -> List Blk -> Bool) : bodyV ⟨Pg, ofList [(129, (FQ156 SQ156)), (130, (FQ52 SQ52)), (91, (FQ27 SQ27))], isref, N⟩ (anQ146 N SQ156 SQ52 SQ27) 86 (shFQ146.args [.fl x]) [] c_ = GQ146 N SQ156 SQ52 SQ27 x (fun r0 r1 r2 => c_ (.agg [.ptr 0 0, .int .i64 r0]) [⟨126, 1, .cells [.bool r1, .roi .u64 r2]⟩]) := by kernel_rfl
theorem goodQ146 (N : Nat) (SQ156 : TSQ156) (SQ52 : TSQ52) (SQ27 : TSQ27) (hQ156 : GoodF Pg 129 (FQ156 SQ156)) (hQ52 : GoodF Pg 130 (FQ52 SQ52)) (hQ27 : GoodF Pg 91 (FQ27 SQ27)) : GoodF Pg 86 (FQ146 (GQ146 N SQ156 SQ52 SQ27)) := by
  refine good_fs (cx := ⟨Pg, ofList [(129, (FQ156 SQ156)), (130, (FQ52 SQ52)), (91, (FQ27 SQ27))], isref, N⟩) (ofList_cons hQ156 (ofList_cons hQ52 (ofList_cons hQ27 (ofList_nil _)))) shFQ146 (spQ146 (GQ146 N SQ156 SQ52 SQ27)) (anQ146 N SQ156 SQ52 SQ27) 0 0 (by kernel_rfl) (fun i_ hi_ => by omega) ?_
  intro a k h
  unfold spQ146 at h
  split at h
  · exact ⟨[], rfl, rfl, (eqQ146 _ _ _ _ _ _).trans h⟩
  · cases h

def anQ105 (N : Nat) : Nat -> Option Ann := fun b_ => none
theorem eqQ105 (N : Nat) (x y : Int) (c_ : V -> List Blk -> Bool) : bodyV ⟨Pg, ofList [], isref, N⟩ (anQ105 N) 192 (shFQ105.args [.int x, .int y]) [] c_ = GQ105 N x y (fun r0 r1 => c_ (.tup [.int .u64 r0, .int .u64 r1]) []) := by kernel_rfl
theorem goodQ105 (N : Nat) : GoodF Pg 192 (FQ105 (GQ105 N)) := by
  refine good_fs (cx := ⟨Pg, ofList [], isref, N⟩) (ofList_nil _) shFQ105 (spQ105 (GQ105 N)) (anQ105 N) 0 0 (by kernel_rfl) (fun i_ hi_ => by omega) ?_
  intro a k h
  unfold spQ105 at h
  split at h
  · exact ⟨[], rfl, rfl, (eqQ105 _ _ _ _).trans h⟩
  · cases h


def anQ102 (N : Nat) (SQ105 : TSQ105) (SQ68 : TSQ68) : Nat -> Option Ann := fun b_ => none
theorem eqQ102 (N : Nat) (SQ105 : TSQ105) (SQ68 : TSQ68) (a b c d : Int) (c_ : V -> List Blk -> Bool) : bodyZ ⟨Pg, ofList [(192, (FQ105 SQ105)), (183, (FQ68 SQ68))], isref, N⟩ (anQ102 N SQ105 SQ68) 181 (shFQ102.args [.int a, .int b, .int c, .int d]) [] c_ = GQ102 N SQ105 SQ68 a b c d (fun r0 r1 => c_ (.tup [.int .u64 r0, .int .u64 r1]) []) := by kernel_rfl
theorem goodQ102 (N : Nat) (SQ105 : TSQ105) (SQ68 : TSQ68) (hQ105 : GoodF Pg 192 (FQ105 SQ105)) (hQ68 : GoodF Pg 183 (FQ68 SQ68)) : GoodF Pg 181 (FQ102 (GQ102 N SQ105 SQ68)) := by
  refine good_fsZ (cx := ⟨Pg, ofList [(192, (FQ105 SQ105)), (183, (FQ68 SQ68))], isref, N⟩) (ofList_cons hQ105 (ofList_cons hQ68 (ofList_nil _))) shFQ102 (spQ102 (GQ102 N SQ105 SQ68)) (anQ102 N SQ105 SQ68) 0 0 (by kernel_rfl) (fun i_ hi_ => by omega) ?_
  intro a k h
  unfold spQ102 at h
  split at h
  · exact ⟨[], rfl, rfl, (eqQ102 _ _ _ _ _ _ _ _).trans h⟩
  · cases h

end Go.Proofs.YtnfgnjciliapaaaGreatDoor
