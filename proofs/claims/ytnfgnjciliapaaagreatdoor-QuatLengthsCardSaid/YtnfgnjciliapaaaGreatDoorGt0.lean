/-
  THE TIES: each printed meaning is what the program does (written by program).
  Conditions: none.
-/
import Derived.Test.YtnfgnjciliapaaaGreatDoorGs
namespace Go.Proofs.YtnfgnjciliapaaaGreatDoor
open Go Go.Mach Go.Proofs
set_option linter.unusedVariables false
set_option maxRecDepth 50000


def an_an_of (N : Nat) : Nat -> Option Ann := fun b_ => none
theorem eq_an_of (N : Nat) (c_ : V -> List Blk -> Bool) : bodyV ⟨Pg, ofList [], isref, N⟩ (an_an_of N) 155 (shF_an_of.args []) [] c_ = G_an_of N (fun r0 r1 r2 => c_ (.agg [.int .u64 r0, .int .i64 r1, .int .i64 r2]) []) := by kernel_rfl
theorem good_an_of (N : Nat) : GoodF Pg 155 (F_an_of (G_an_of N)) := by
  refine good_fs (cx := ⟨Pg, ofList [], isref, N⟩) (ofList_nil _) shF_an_of (sp_an_of (G_an_of N)) (an_an_of N) 0 0 (by kernel_rfl) (fun i_ hi_ => by omega) ?_
  intro a k h
  unfold sp_an_of at h
  split at h
  · exact ⟨[], rfl, rfl, (eq_an_of _ _).trans h⟩
  · cases h

def anQ122 (N : Nat) : Nat -> Option Ann := fun b_ => none
theorem eqQ122 (N : Nat) (f_0 f_1 f_2 : Int) (c_ : V -> List Blk -> Bool) : bodyV ⟨Pg, ofList [], isref, N⟩ (anQ122 N) 190 (shFQ122.args [.int f_0, .int f_1, .int f_2]) [] c_ = GQ122 N f_0 f_1 f_2 (fun r0 => c_ (.int .u64 r0) []) := by kernel_rfl
theorem goodQ122 (N : Nat) : GoodF Pg 190 (FQ122 (GQ122 N)) := by
  refine good_fs (cx := ⟨Pg, ofList [], isref, N⟩) (ofList_nil _) shFQ122 (spQ122 (GQ122 N)) (anQ122 N) 0 0 (by kernel_rfl) (fun i_ hi_ => by omega) ?_
  intro a k h
  unfold spQ122 at h
  split at h
  · exact ⟨[], rfl, rfl, (eqQ122 _ _ _ _ _).trans h⟩
  · cases h

def anQ74 (N : Nat) : Nat -> Option Ann := fun b_ => none
theorem eqQ74 (N : Nat) (f_0 f_1 f_2 : Int) (c_ : V -> List Blk -> Bool) : bodyV ⟨Pg, ofList [], isref, N⟩ (anQ74 N) 209 (shFQ74.args [.int f_0, .int f_1, .int f_2]) [] c_ = GQ74 N f_0 f_1 f_2 (fun r0 => c_ (.int .u64 r0) []) := by kernel_rfl
theorem goodQ74 (N : Nat) : GoodF Pg 209 (FQ74 (GQ74 N)) := by
  refine good_fs (cx := ⟨Pg, ofList [], isref, N⟩) (ofList_nil _) shFQ74 (spQ74 (GQ74 N)) (anQ74 N) 0 0 (by kernel_rfl) (fun i_ hi_ => by omega) ?_
  intro a k h
  unfold spQ74 at h
  split at h
  · exact ⟨[], rfl, rfl, (eqQ74 _ _ _ _ _).trans h⟩
  · cases h

def anQ73 (N : Nat) (SQ122 : TSQ122) (SQ74 : TSQ74) : Nat -> Option Ann := fun b_ => none
theorem eqQ73 (N : Nat) (SQ122 : TSQ122) (SQ74 : TSQ74) (b f_0 f_1 f_2 : Int) (c_ : V -> List Blk -> Bool) : bodyV ⟨Pg, ofList [(190, (FQ122 SQ122)), (209, (FQ74 SQ74))], isref, N⟩ (anQ73 N SQ122 SQ74) 201 (shFQ73.args [.int b, .int f_0, .int f_1, .int f_2]) [] c_ = GQ73 N SQ122 SQ74 b f_0 f_1 f_2 (fun r0 => c_ (.bool r0) []) := by kernel_rfl
theorem goodQ73 (N : Nat) (SQ122 : TSQ122) (SQ74 : TSQ74) (hQ122 : GoodF Pg 190 (FQ122 SQ122)) (hQ74 : GoodF Pg 209 (FQ74 SQ74)) : GoodF Pg 201 (FQ73 (GQ73 N SQ122 SQ74)) := by
  refine good_fs (cx := ⟨Pg, ofList [(190, (FQ122 SQ122)), (209, (FQ74 SQ74))], isref, N⟩) (ofList_cons hQ122 (ofList_cons hQ74 (ofList_nil _))) shFQ73 (spQ73 (GQ73 N SQ122 SQ74)) (anQ73 N SQ122 SQ74) 0 0 (by kernel_rfl) (fun i_ hi_ => by omega) ?_
  intro a k h
  unfold spQ73 at h
  split at h
  · exact ⟨[], rfl, rfl, (eqQ73 _ _ _ _ _ _ _ _).trans h⟩
  · cases h

def anQ61 (N : Nat) : Nat -> Option Ann := fun b_ => none
theorem eqQ61 (N : Nat) (f_0 f_1 f_2 : Int) (c_ : V -> List Blk -> Bool) : bodyV ⟨Pg, ofList [], isref, N⟩ (anQ61 N) 179 (shFQ61.args [.int f_0, .int f_1, .int f_2]) [] c_ = GQ61 N f_0 f_1 f_2 (fun r0 => c_ (.int .u64 r0) []) := by kernel_rfl
theorem goodQ61 (N : Nat) : GoodF Pg 179 (FQ61 (GQ61 N)) := by
  refine good_fs (cx := ⟨Pg, ofList [], isref, N⟩) (ofList_nil _) shFQ61 (spQ61 (GQ61 N)) (anQ61 N) 0 0 (by kernel_rfl) (fun i_ hi_ => by omega) ?_
  intro a k h
  unfold spQ61 at h
  split at h
  · exact ⟨[], rfl, rfl, (eqQ61 _ _ _ _ _).trans h⟩
  · cases h

def anQ138 (N : Nat) (SQ74 : TSQ74) (SQ61 : TSQ61) : Nat -> Option Ann := fun b_ => none
theorem eqQ138 (N : Nat) (SQ74 : TSQ74) (SQ61 : TSQ61) (f_0 f_1 f_2 : Int) (c_ : V -> List Blk -> Bool) : bodyV ⟨Pg, ofList [(209, (FQ74 SQ74)), (179, (FQ61 SQ61))], isref, N⟩ (anQ138 N SQ74 SQ61) 202 (shFQ138.args [.int f_0, .int f_1, .int f_2]) [] c_ = GQ138 N SQ74 SQ61 f_0 f_1 f_2 (fun r0 => c_ (.int .u64 r0) []) := by kernel_rfl
theorem goodQ138 (N : Nat) (SQ74 : TSQ74) (SQ61 : TSQ61) (hQ74 : GoodF Pg 209 (FQ74 SQ74)) (hQ61 : GoodF Pg 179 (FQ61 SQ61)) : GoodF Pg 202 (FQ138 (GQ138 N SQ74 SQ61)) := by
  refine good_fs (cx := ⟨Pg, ofList [(209, (FQ74 SQ74)), (179, (FQ61 SQ61))], isref, N⟩) (ofList_cons hQ74 (ofList_cons hQ61 (ofList_nil _))) shFQ138 (spQ138 (GQ138 N SQ74 SQ61)) (anQ138 N SQ74 SQ61) 0 0 (by kernel_rfl) (fun i_ hi_ => by omega) ?_
  intro a k h
  unfold spQ138 at h
  split at h
  · exact ⟨[], rfl, rfl, (eqQ138 _ _ _ _ _ _ _).trans h⟩
  · cases h

def anQ64 (N : Nat) (SQ73 : TSQ73) (SQ138 : TSQ138) : Nat -> Option Ann := fun b_ => none
theorem eqQ64 (N : Nat) (SQ73 : TSQ73) (SQ138 : TSQ138) (b f_0 f_1 f_2 : Int) (c_ : V -> List Blk -> Bool) : bodyV ⟨Pg, ofList [(201, (FQ73 SQ73)), (202, (FQ138 SQ138))], isref, N⟩ (anQ64 N SQ73 SQ138) 189 (shFQ64.args [.int b, .int f_0, .int f_1, .int f_2]) [] c_ = GQ64 N SQ73 SQ138 b f_0 f_1 f_2 (fun r0 => c_ (.int .u64 r0) []) := by kernel_rfl
theorem goodQ64 (N : Nat) (SQ73 : TSQ73) (SQ138 : TSQ138) (hQ73 : GoodF Pg 201 (FQ73 SQ73)) (hQ138 : GoodF Pg 202 (FQ138 SQ138)) : GoodF Pg 189 (FQ64 (GQ64 N SQ73 SQ138)) := by
  refine good_fs (cx := ⟨Pg, ofList [(201, (FQ73 SQ73)), (202, (FQ138 SQ138))], isref, N⟩) (ofList_cons hQ73 (ofList_cons hQ138 (ofList_nil _))) shFQ64 (spQ64 (GQ64 N SQ73 SQ138)) (anQ64 N SQ73 SQ138) 0 0 (by kernel_rfl) (fun i_ hi_ => by omega) ?_
  intro a k h
  unfold spQ64 at h
  split at h
  · exact ⟨[], rfl, rfl, (eqQ64 _ _ _ _ _ _ _ _).trans h⟩
  · cases h

def anQ24 (N : Nat) (SQ64 : TSQ64) (SQ122 : TSQ122) (SQ61 : TSQ61) : Nat -> Option Ann := fun b_ => none
theorem eqQ24 (N : Nat) (SQ64 : TSQ64) (SQ122 : TSQ122) (SQ61 : TSQ61) (b f_0 f_1 f_2 : Int) (c_ : V -> List Blk -> Bool) : bodyV ⟨Pg, ofList [(189, (FQ64 SQ64)), (190, (FQ122 SQ122)), (179, (FQ61 SQ61))], isref, N⟩ (anQ24 N SQ64 SQ122 SQ61) 176 (shFQ24.args [.int b, .int f_0, .int f_1, .int f_2]) [] c_ = GQ24 N SQ64 SQ122 SQ61 b f_0 f_1 f_2 (fun r0 r1 r2 => c_ (.tup [.bool r0, .int .i64 r1, .int .u64 r2]) []) := by kernel_rfl
theorem goodQ24 (N : Nat) (SQ64 : TSQ64) (SQ122 : TSQ122) (SQ61 : TSQ61) (hQ64 : GoodF Pg 189 (FQ64 SQ64)) (hQ122 : GoodF Pg 190 (FQ122 SQ122)) (hQ61 : GoodF Pg 179 (FQ61 SQ61)) : GoodF Pg 176 (FQ24 (GQ24 N SQ64 SQ122 SQ61)) := by
  refine good_fs (cx := ⟨Pg, ofList [(189, (FQ64 SQ64)), (190, (FQ122 SQ122)), (179, (FQ61 SQ61))], isref, N⟩) (ofList_cons hQ64 (ofList_cons hQ122 (ofList_cons hQ61 (ofList_nil _)))) shFQ24 (spQ24 (GQ24 N SQ64 SQ122 SQ61)) (anQ24 N SQ64 SQ122 SQ61) 0 0 (by kernel_rfl) (fun i_ hi_ => by omega) ?_
  intro a k h
  unfold spQ24 at h
  split at h
  · exact ⟨[], rfl, rfl, (eqQ24 _ _ _ _ _ _ _ _ _).trans h⟩
  · cases h

def anQ23 (N : Nat) (SQ24 : TSQ24) : Nat -> Option Ann := fun b_ => none
theorem eqQ23 (N : Nat) (SQ24 : TSQ24) (b f_0 f_1 f_2 : Int) (c_ : V -> List Blk -> Bool) : bodyV ⟨Pg, ofList [(176, (FQ24 SQ24))], isref, N⟩ (anQ23 N SQ24) 154 (shFQ23.args [.int b, .int f_0, .int f_1, .int f_2]) [] c_ = GQ23 N SQ24 b f_0 f_1 f_2 (fun r0 => c_ (.int .i64 r0) []) := by kernel_rfl
theorem goodQ23 (N : Nat) (SQ24 : TSQ24) (hQ24 : GoodF Pg 176 (FQ24 SQ24)) : GoodF Pg 154 (FQ23 (GQ23 N SQ24)) := by
  refine good_fs (cx := ⟨Pg, ofList [(176, (FQ24 SQ24))], isref, N⟩) (ofList_cons hQ24 (ofList_nil _)) shFQ23 (spQ23 (GQ23 N SQ24)) (anQ23 N SQ24) 0 0 (by kernel_rfl) (fun i_ hi_ => by omega) ?_
  intro a k h
  unfold spQ23 at h
  split at h
  · exact ⟨[], rfl, rfl, (eqQ23 _ _ _ _ _ _ _).trans h⟩
  · cases h

def anQ129 (N : Nat) (SQ121 : TSQ121) (S_an_of : TS_an_of) (SQ23 : TSQ23) : Nat -> Option Ann := fun b_ => none
theorem eqQ129 (N : Nat) (SQ121 : TSQ121) (S_an_of : TS_an_of) (SQ23 : TSQ23) (x : Nat) (c_ : V -> List Blk -> Bool) : bodyV ⟨Pg, ofList [(95, (FQ121 SQ121)), (155, (F_an_of S_an_of)), (154, (FQ23 SQ23))], isref, N⟩ (anQ129 N SQ121 S_an_of SQ23) 126 (shFQ129.args [.nat x]) [] c_ = GQ129 N SQ121 S_an_of SQ23 x (fun r0 => c_ (.int .i64 r0) []) := by kernel_rfl
theorem goodQ129 (N : Nat) (SQ121 : TSQ121) (S_an_of : TS_an_of) (SQ23 : TSQ23) (hQ121 : GoodF Pg 95 (FQ121 SQ121)) (h_an_of : GoodF Pg 155 (F_an_of S_an_of)) (hQ23 : GoodF Pg 154 (FQ23 SQ23)) : GoodF Pg 126 (FQ129 (GQ129 N SQ121 S_an_of SQ23)) := by
  refine good_fs (cx := ⟨Pg, ofList [(95, (FQ121 SQ121)), (155, (F_an_of S_an_of)), (154, (FQ23 SQ23))], isref, N⟩) (ofList_cons hQ121 (ofList_cons h_an_of (ofList_cons hQ23 (ofList_nil _)))) shFQ129 (spQ129 (GQ129 N SQ121 S_an_of SQ23)) (anQ129 N SQ121 S_an_of SQ23) 0 0 (by kernel_rfl) (fun i_ hi_ => by omega) ?_
  intro a k h
  unfold spQ129 at h
  split at h
  · exact ⟨[], rfl, rfl, (eqQ129 _ _ _ _ _ _).trans h⟩
  · cases h


def anQ144 (N : Nat) (SQ121 : TSQ121) (SQ75 : TSQ75) : Nat -> Option Ann := fun b_ => none
theorem eqQ144 (N : Nat) (SQ121 : TSQ121) (SQ75 : TSQ75) (x : Nat) (c_ : V -> List Blk -> Bool) : bodyV ⟨Pg, ofList [(95, (FQ121 SQ121)), (82, (FQ75 SQ75))], isref, N⟩ (anQ144 N SQ121 SQ75) 47 (shFQ144.args [.nat x]) [] c_ = GQ144 N SQ121 SQ75 x (fun r0 => c_ (.flt r0) []) := by kernel_rfl
theorem goodQ144 (N : Nat) (SQ121 : TSQ121) (SQ75 : TSQ75) (hQ121 : GoodF Pg 95 (FQ121 SQ121)) (hQ75 : GoodF Pg 82 (FQ75 SQ75)) : GoodF Pg 47 (FQ144 (GQ144 N SQ121 SQ75)) := by
  refine good_fs (cx := ⟨Pg, ofList [(95, (FQ121 SQ121)), (82, (FQ75 SQ75))], isref, N⟩) (ofList_cons hQ121 (ofList_cons hQ75 (ofList_nil _))) shFQ144 (spQ144 (GQ144 N SQ121 SQ75)) (anQ144 N SQ121 SQ75) 0 0 (by kernel_rfl) (fun i_ hi_ => by omega) ?_
  intro a k h
  unfold spQ144 at h
  split at h
  · exact ⟨[], rfl, rfl, (eqQ144 _ _ _ _ _).trans h⟩
  · cases h

def sh_st_quat_finite_0 : StSh := ⟨(.rof :: (sqs 4 (.int .i64 :: (.int .i64 :: (sqs 13 []))))), []⟩
def sx0_st_quat_finite_0 : StSh := ⟨(.any :: (.any :: (.bool :: (sqs 17 [])))), []⟩
def sx1_st_quat_finite_0 : StSh := ⟨(sqs 20 []), []⟩
def hk_st_quat_finite_0 (N : Nat) : List Atom -> K -> Bool := fun a_ κ => match a_ with
  | [.fls l_1, .int t5, .int t6] => iterG N (st_quat_finite_0 N l_1 t5 (fun r0 => κ.ret (sx0_st_quat_finite_0.build [.bool r0])) (κ.ext 0 (sx1_st_quat_finite_0.build []))) t6
  | _ => false
def anQ41 (N : Nat) : Nat -> Option Ann := fun b_ => cond (b_ == 0) (some ⟨⟨[0, 5, 6], [], []⟩, [(0, ⟨[], [], []⟩)], some ⟨[2], [], []⟩, some (mkHooks [(sh_st_quat_finite_0, hk_st_quat_finite_0 N)])⟩) (none)
theorem eq_st_quat_finite_0 (N : Nat) (κ : K) (l_1 : List Fl) (t5 t6 : Int) : iter N (fun s k => codeV ⟨Pg, ofList [], isref, N⟩ 0 (anQ41 N) (lp Pg 48 0).2 (lp Pg 48 0).1 s (roundK Pg 0 ((anQ41 N) (lp Pg 48 0).1) κ k)) (sh_st_quat_finite_0.build [.fls l_1, .int t5, .int t6]) = iterG N (st_quat_finite_0 N l_1 t5 (fun r0 => κ.ret (sx0_st_quat_finite_0.build [.bool r0])) (κ.ext 0 (sx1_st_quat_finite_0.build []))) t6 :=
  iter_tr (fun v_ => sh_st_quat_finite_0.build [.fls l_1, .int t5, .int v_]) (fun v_ K_ => by kernel_rfl) N t6
theorem hk1_st_quat_finite_0 (N : Nat) : HookFor ⟨Pg, ofList [], isref, N⟩ 0 (anQ41 N) (lp Pg 48 0) (sh_st_quat_finite_0, hk_st_quat_finite_0 N) := by
  intro a κ h
  simp only at h
  unfold hk_st_quat_finite_0 at h
  split at h
  · exact (eq_st_quat_finite_0 _ _ _ _ _).trans h
  · cases h
theorem ho_quat_finite_0 (N : Nat) : HookOk ⟨Pg, ofList [], isref, N⟩ 0 (anQ41 N) (lp Pg 48 0) :=
  hooks_ok [(sh_st_quat_finite_0, hk_st_quat_finite_0 N)] (by kernel_rfl) ⟨hk1_st_quat_finite_0 _, trivial⟩
theorem eqQ41 (N : Nat) (l : List Fl) (c_ : V -> List Blk -> Bool) : bodyV ⟨Pg, ofList [], isref, N⟩ (anQ41 N) 48 (shFQ41.args [.fls l]) [] c_ = GQ41 N l (fun r0 => c_ (.bool r0) []) := by kernel_rfl
theorem goodQ41 (N : Nat) : GoodF Pg 48 (FQ41 (GQ41 N)) := by
  refine good_fs (cx := ⟨Pg, ofList [], isref, N⟩) (ofList_nil _) shFQ41 (spQ41 (GQ41 N)) (anQ41 N) 1 0 (by kernel_rfl) (fun i_ hi_ => by
    match i_, hi_ with
    | 0, _ => exact ho_quat_finite_0 _
    | (q + 1), h => omega) ?_
  intro a k h
  unfold spQ41 at h
  split at h
  · exact ⟨[], rfl, rfl, (eqQ41 _ _ _).trans h⟩
  · cases h

def anQ10 (N : Nat) (SQ41 : TSQ41) : Nat -> Option Ann := fun b_ => none
theorem eqQ10 (N : Nat) (SQ41 : TSQ41) (qs_0 qs_1 qs_2 qs_3 : Fl) (c_ : V -> List Blk -> Bool) : bodyV ⟨Pg, ofList [(48, (FQ41 SQ41))], isref, (N + 24)⟩ (anQ10 (N + 24) SQ41) 42 (shFQ10.args [.fl qs_0, .fl qs_1, .fl qs_2, .fl qs_3]) [] c_ = GQ10 (N + 24) SQ41 qs_0 qs_1 qs_2 qs_3 (fun r0 => c_ (.bool r0) []) := by kernel_rfl
theorem goodQ10 (N : Nat) (SQ41 : TSQ41) (hQ41 : GoodF Pg 48 (FQ41 SQ41)) : GoodF Pg 42 (FQ10 (GQ10 (N + 24) SQ41)) := by
  refine good_fs (cx := ⟨Pg, ofList [(48, (FQ41 SQ41))], isref, (N + 24)⟩) (ofList_cons hQ41 (ofList_nil _)) shFQ10 (spQ10 (GQ10 (N + 24) SQ41)) (anQ10 (N + 24) SQ41) 1 0 (by kernel_rfl) (fun i_ hi_ => by
    match i_, hi_ with
    | 0, _ => exact (fun hk e => by rw [show hookOf ((anQ10 (N + 24) SQ41) (lp Pg 42 0).1) = none from by kernel_rfl] at e; cases e)
    | (q + 1), h => omega) ?_
  intro a k h
  unfold spQ10 at h
  split at h
  · exact ⟨[], rfl, rfl, (eqQ10 _ _ _ _ _ _ _).trans h⟩
  · cases h

def anQ52 (N : Nat) : Nat -> Option Ann := fun b_ => none
theorem eqQ52 (N : Nat) (q_0 q_1 q_2 q_3 : Fl) (c_ : V -> List Blk -> Bool) : bodyV ⟨Pg, ofList [], isref, N⟩ (anQ52 N) 43 (shFQ52.args [.fl q_0, .fl q_1, .fl q_2, .fl q_3]) [] c_ = GQ52 N q_0 q_1 q_2 q_3 (c_ (.agg [.flt q_0, .flt q_1, .flt q_2, .flt q_3]) []) := by kernel_rfl
theorem goodQ52 (N : Nat) : GoodF Pg 43 (FQ52 (GQ52 N)) := by
  refine good_fs (cx := ⟨Pg, ofList [], isref, N⟩) (ofList_nil _) shFQ52 (spQ52 (GQ52 N)) (anQ52 N) 0 0 (by kernel_rfl) (fun i_ hi_ => by omega) ?_
  intro a k h
  unfold spQ52 at h
  split at h
  · exact ⟨[], rfl, rfl, (eqQ52 _ _ _ _ _ _).trans h⟩
  · cases h


def anQ101 (N : Nat) (S_m_Abs : TS_m_Abs) : Nat -> Option Ann := fun b_ => none
theorem eqQ101 (N : Nat) (S_m_Abs : TS_m_Abs) (f : Fl) (sign : Int) (c_ : V -> List Blk -> Bool) : bodyV ⟨Pg, ofList [(47, (F_m_Abs S_m_Abs))], isref, N⟩ (anQ101 N S_m_Abs) 110 (shFQ101.args [.fl f, .int sign]) [] c_ = GQ101 N S_m_Abs f sign (fun r0 => c_ (.bool r0) []) := by kernel_rfl
theorem goodQ101 (N : Nat) (S_m_Abs : TS_m_Abs) (h_m_Abs : GoodF Pg 47 (F_m_Abs S_m_Abs)) : GoodF Pg 110 (FQ101 (GQ101 N S_m_Abs)) := by
  refine good_fs (cx := ⟨Pg, ofList [(47, (F_m_Abs S_m_Abs))], isref, N⟩) (ofList_cons h_m_Abs (ofList_nil _)) shFQ101 (spQ101 (GQ101 N S_m_Abs)) (anQ101 N S_m_Abs) 0 0 (by kernel_rfl) (fun i_ hi_ => by omega) ?_
  intro a k h
  unfold spQ101 at h
  split at h
  · exact ⟨[], rfl, rfl, (eqQ101 _ _ _ _ _).trans h⟩
  · cases h

def anQ106 (N : Nat) : Nat -> Option Ann := fun b_ => none
theorem eqQ106 (N : Nat) (f : Fl) (c_ : V -> List Blk -> Bool) : bodyV ⟨Pg, ofList [], isref, N⟩ (anQ106 N) 111 (shFQ106.args [.fl f]) [] c_ = GQ106 N f (fun r0 => c_ (.bool r0) []) := by kernel_rfl
theorem goodQ106 (N : Nat) : GoodF Pg 111 (FQ106 (GQ106 N)) := by
  refine good_fs (cx := ⟨Pg, ofList [], isref, N⟩) (ofList_nil _) shFQ106 (spQ106 (GQ106 N)) (anQ106 N) 0 0 (by kernel_rfl) (fun i_ hi_ => by omega) ?_
  intro a k h
  unfold spQ106 at h
  split at h
  · exact ⟨[], rfl, rfl, (eqQ106 _ _ _).trans h⟩
  · cases h

def anQ57 (N : Nat) (S_m_Abs : TS_m_Abs) : Nat -> Option Ann := fun b_ => none
theorem eqQ57 (N : Nat) (S_m_Abs : TS_m_Abs) (x : Fl) (c_ : V -> List Blk -> Bool) : bodyV ⟨Pg, ofList [(47, (F_m_Abs S_m_Abs))], isref, N⟩ (anQ57 N S_m_Abs) 112 (shFQ57.args [.fl x]) [] c_ = GQ57 N S_m_Abs x (fun r0 r1 => c_ (.tup [.flt r0, .int .i64 r1]) []) := by kernel_rfl
theorem goodQ57 (N : Nat) (S_m_Abs : TS_m_Abs) (h_m_Abs : GoodF Pg 47 (F_m_Abs S_m_Abs)) : GoodF Pg 112 (FQ57 (GQ57 N S_m_Abs)) := by
  refine good_fs (cx := ⟨Pg, ofList [(47, (F_m_Abs S_m_Abs))], isref, N⟩) (ofList_cons h_m_Abs (ofList_nil _)) shFQ57 (spQ57 (GQ57 N S_m_Abs)) (anQ57 N S_m_Abs) 0 0 (by kernel_rfl) (fun i_ hi_ => by omega) ?_
  intro a k h
  unfold spQ57 at h
  split at h
  · exact ⟨[], rfl, rfl, (eqQ57 _ _ _ _).trans h⟩
  · cases h


def anQ140 (N : Nat) (SQ101 : TSQ101) (SQ106 : TSQ106) (SQ57 : TSQ57) (SQ96 : TSQ96) (SQ75 : TSQ75) : Nat -> Option Ann := fun b_ => none
theorem eqQ140 (N : Nat) (SQ101 : TSQ101) (SQ106 : TSQ106) (SQ57 : TSQ57) (SQ96 : TSQ96) (SQ75 : TSQ75) (f : Fl) (c_ : V -> List Blk -> Bool) : bodyV ⟨Pg, ofList [(110, (FQ101 SQ101)), (111, (FQ106 SQ106)), (112, (FQ57 SQ57)), (95, (FQ96 SQ96)), (82, (FQ75 SQ75))], isref, N⟩ (anQ140 N SQ101 SQ106 SQ57 SQ96 SQ75) 123 (shFQ140.args [.fl f]) [] c_ = GQ140 N SQ101 SQ106 SQ57 SQ96 SQ75 f (fun r0 r1 => c_ (.tup [.flt r0, .int .i64 r1]) []) := by kernel_rfl
theorem goodQ140 (N : Nat) (SQ101 : TSQ101) (SQ106 : TSQ106) (SQ57 : TSQ57) (SQ96 : TSQ96) (SQ75 : TSQ75) (hQ101 : GoodF Pg 110 (FQ101 SQ101)) (hQ106 : GoodF Pg 111 (FQ106 SQ106)) (hQ57 : GoodF Pg 112 (FQ57 SQ57)) (hQ96 : GoodF Pg 95 (FQ96 SQ96)) (hQ75 : GoodF Pg 82 (FQ75 SQ75)) : GoodF Pg 123 (FQ140 (GQ140 N SQ101 SQ106 SQ57 SQ96 SQ75)) := by
  refine good_fs (cx := ⟨Pg, ofList [(110, (FQ101 SQ101)), (111, (FQ106 SQ106)), (112, (FQ57 SQ57)), (95, (FQ96 SQ96)), (82, (FQ75 SQ75))], isref, N⟩) (ofList_cons hQ101 (ofList_cons hQ106 (ofList_cons hQ57 (ofList_cons hQ96 (ofList_cons hQ75 (ofList_nil _)))))) shFQ140 (spQ140 (GQ140 N SQ101 SQ106 SQ57 SQ96 SQ75)) (anQ140 N SQ101 SQ106 SQ57 SQ96 SQ75) 0 0 (by kernel_rfl) (fun i_ hi_ => by omega) ?_
  intro a k h
  unfold spQ140 at h
  split at h
  · exact ⟨[], rfl, rfl, (eqQ140 _ _ _ _ _ _ _ _).trans h⟩
  · cases h

def anQ134 (N : Nat) (SQ140 : TSQ140) : Nat -> Option Ann := fun b_ => none
theorem eqQ134 (N : Nat) (SQ140 : TSQ140) (f : Fl) (c_ : V -> List Blk -> Bool) : bodyV ⟨Pg, ofList [(123, (FQ140 SQ140))], isref, N⟩ (anQ134 N SQ140) 75 (shFQ134.args [.fl f]) [] c_ = GQ134 N SQ140 f (fun r0 r1 => c_ (.tup [.flt r0, .int .i64 r1]) []) := by kernel_rfl
theorem goodQ134 (N : Nat) (SQ140 : TSQ140) (hQ140 : GoodF Pg 123 (FQ140 SQ140)) : GoodF Pg 75 (FQ134 (GQ134 N SQ140)) := by
  refine good_fs (cx := ⟨Pg, ofList [(123, (FQ140 SQ140))], isref, N⟩) (ofList_cons hQ140 (ofList_nil _)) shFQ134 (spQ134 (GQ134 N SQ140)) (anQ134 N SQ140) 0 0 (by kernel_rfl) (fun i_ hi_ => by omega) ?_
  intro a k h
  unfold spQ134 at h
  split at h
  · exact ⟨[], rfl, rfl, (eqQ134 _ _ _ _).trans h⟩
  · cases h

def anQ82 (N : Nat) (SQ96 : TSQ96) (SQ75 : TSQ75) : Nat -> Option Ann := fun b_ => none
theorem eqQ82 (N : Nat) (SQ96 : TSQ96) (SQ75 : TSQ75) (f sign : Fl) (c_ : V -> List Blk -> Bool) : bodyV ⟨Pg, ofList [(95, (FQ96 SQ96)), (82, (FQ75 SQ75))], isref, N⟩ (anQ82 N SQ96 SQ75) 113 (shFQ82.args [.fl f, .fl sign]) [] c_ = GQ82 N SQ96 SQ75 f sign (fun r0 => c_ (.flt r0) []) := by kernel_rfl
theorem goodQ82 (N : Nat) (SQ96 : TSQ96) (SQ75 : TSQ75) (hQ96 : GoodF Pg 95 (FQ96 SQ96)) (hQ75 : GoodF Pg 82 (FQ75 SQ75)) : GoodF Pg 113 (FQ82 (GQ82 N SQ96 SQ75)) := by
  refine good_fs (cx := ⟨Pg, ofList [(95, (FQ96 SQ96)), (82, (FQ75 SQ75))], isref, N⟩) (ofList_cons hQ96 (ofList_cons hQ75 (ofList_nil _))) shFQ82 (spQ82 (GQ82 N SQ96 SQ75)) (anQ82 N SQ96 SQ75) 0 0 (by kernel_rfl) (fun i_ hi_ => by omega) ?_
  intro a k h
  unfold spQ82 at h
  split at h
  · exact ⟨[], rfl, rfl, (eqQ82 _ _ _ _ _ _).trans h⟩
  · cases h

def an_m_Inf (N : Nat) (SQ75 : TSQ75) : Nat -> Option Ann := fun b_ => none
def ls_m_Inf_0 (d_ : List V) (u_ : List (Option Blk)) (sign v : Int) : St := ⟨(dqs d_ 0 3 (.int .u64 v :: (dqs d_ 3 4 []))), []⟩
theorem jn_m_Inf_0 (N : Nat) (SQ75 : TSQ75) (d_ : List V) (u_ : List (Option Blk)) (sign v : Int) (c_ : V -> List Blk -> Bool) : codesV ⟨Pg, ofList [(82, (FQ75 SQ75))], isref, N⟩ 0 (an_m_Inf N SQ75) ((cds Pg 114).drop 4) 0 (ls_m_Inf_0 d_ u_ sign v) (finV Pg 114 0 c_) = J_m_Inf_0 N SQ75 sign v (fun r0 => c_ (.flt r0) []) := by kernel_rfl
theorem hd_m_Inf_w (N : Nat) (SQ75 : TSQ75) (sign : Int) (c_ : V -> List Blk -> Bool) (κn_ : St -> Bool) : codesV ⟨Pg, ofList [(82, (FQ75 SQ75))], isref, N⟩ 0 (an_m_Inf N SQ75) (sg Pg 114 0 4) 0 (st0 Pg 114 (shF_m_Inf.args [.int sign]) []) { (finV Pg 114 0 c_) with nrm := κn_ } = (cond (decide (sign >= 0)) (κn_ (ls_m_Inf_0 [.int .i64 sign, .any, .flt (some 0), .int .i64 sign, .bool true, .any, .any] [] sign 9218868437227405312)) (κn_ (ls_m_Inf_0 [.int .i64 sign, .any, .flt (some 0), .int .i64 sign, .bool false, .any, .any] [] sign 18442240474082181120))) := by kernel_rfl
theorem jn_m_Inf_w (N : Nat) (SQ75 : TSQ75) (sign : Int) (c_ : V -> List Blk -> Bool) : codesV ⟨Pg, ofList [(82, (FQ75 SQ75))], isref, N⟩ 0 (an_m_Inf N SQ75) ((cds Pg 114).drop 0) 0 (st0 Pg 114 (shF_m_Inf.args [.int sign]) []) (finV Pg 114 0 c_) = G_m_Inf N SQ75 sign (fun r0 => c_ (.flt r0) []) := by
  rw [codesV_cut 0 4 4 rfl]
  refine (hd_m_Inf_w N SQ75 sign c_ _).trans ?_
  simp only [jn_m_Inf_0]
  kernel_rfl
theorem eq_m_Inf (N : Nat) (SQ75 : TSQ75) (sign : Int) (c_ : V -> List Blk -> Bool) : bodyV ⟨Pg, ofList [(82, (FQ75 SQ75))], isref, N⟩ (an_m_Inf N SQ75) 114 (shF_m_Inf.args [.int sign]) [] c_ = G_m_Inf N SQ75 sign (fun r0 => c_ (.flt r0) []) :=
  (bodyV_codes (by kernel_rfl)).trans (jn_m_Inf_w N SQ75 sign c_)
theorem good_m_Inf (N : Nat) (SQ75 : TSQ75) (hQ75 : GoodF Pg 82 (FQ75 SQ75)) : GoodF Pg 114 (F_m_Inf (G_m_Inf N SQ75)) := by
  refine good_fs (cx := ⟨Pg, ofList [(82, (FQ75 SQ75))], isref, N⟩) (ofList_cons hQ75 (ofList_nil _)) shF_m_Inf (sp_m_Inf (G_m_Inf N SQ75)) (an_m_Inf N SQ75) 0 0 (by kernel_rfl) (fun i_ hi_ => by omega) ?_
  intro a k h
  unfold sp_m_Inf at h
  split at h
  · exact ⟨[], rfl, rfl, (eq_m_Inf _ _ _ _).trans h⟩
  · cases h

def anQ133 (N : Nat) (SQ101 : TSQ101) (SQ106 : TSQ106) (SQ57 : TSQ57) (SQ96 : TSQ96) (SQ82 : TSQ82) (S_m_Inf : TS_m_Inf) (SQ75 : TSQ75) : Nat -> Option Ann := fun b_ => none
def lsQ160 (d_ : List V) (u_ : List (Option Blk)) (frac : Fl) (exp exp_1 x : Int) (m : Fl) : St := ⟨((dq d_ 0) :: (.int .i64 exp_1 :: (dqs d_ 1 4 (.int .u64 x :: (.flt m :: (dqs d_ 5 55 [])))))), []⟩
theorem jnQ160 (N : Nat) (SQ101 : TSQ101) (SQ106 : TSQ106) (SQ57 : TSQ57) (SQ96 : TSQ96) (SQ82 : TSQ82) (S_m_Inf : TS_m_Inf) (SQ75 : TSQ75) (d_ : List V) (u_ : List (Option Blk)) (frac : Fl) (exp exp_1 x : Int) (m : Fl) (c_ : V -> List Blk -> Bool) : codesV ⟨Pg, ofList [(110, (FQ101 SQ101)), (111, (FQ106 SQ106)), (112, (FQ57 SQ57)), (95, (FQ96 SQ96)), (113, (FQ82 SQ82)), (114, (F_m_Inf S_m_Inf)), (82, (FQ75 SQ75))], isref, N⟩ 0 (anQ133 N SQ101 SQ106 SQ57 SQ96 SQ82 S_m_Inf SQ75) ((cds Pg 64).drop 13) 0 (lsQ160 d_ u_ frac exp exp_1 x m) (finV Pg 64 0 c_) = JQ160 N SQ101 SQ106 SQ57 SQ96 SQ82 S_m_Inf SQ75 frac exp exp_1 x m (fun r0 => c_ (.flt r0) []) := by kernel_rfl
theorem hd_m_ldexp_w (N : Nat) (SQ101 : TSQ101) (SQ106 : TSQ106) (SQ57 : TSQ57) (SQ96 : TSQ96) (SQ82 : TSQ82) (S_m_Inf : TS_m_Inf) (SQ75 : TSQ75) (frac : Fl) (exp : Int) (c_ : V -> List Blk -> Bool) (κn_ : St -> Bool) : codesV ⟨Pg, ofList [(110, (FQ101 SQ101)), (111, (FQ106 SQ106)), (112, (FQ57 SQ57)), (95, (FQ96 SQ96)), (113, (FQ82 SQ82)), (114, (F_m_Inf S_m_Inf)), (82, (FQ75 SQ75))], isref, N⟩ 0 (anQ133 N SQ101 SQ106 SQ57 SQ96 SQ82 S_m_Inf SQ75) (sg Pg 64 0 13) 0 (st0 Pg 64 (shFQ133.args [.fl frac, .int exp]) []) { (finV Pg 64 0 c_) with nrm := κn_ } = (cond (feq frac (some 0)) (c_ (.flt frac) []) (SQ101 frac 0 (fun cr => (cond (cr == false) (SQ106 frac (fun cr_1 => (cond cr_1 (c_ (.flt frac) []) (SQ57 frac (fun xr nr => ((fits .i64 (exp + nr)) && (SQ96 xr (fun nr_1 => ((fits .i64 (Int.fdiv nr_1 (2 ^ 52))) && ((fits .i64 ((bitsN .and .i64 (Int.fdiv nr_1 (2 ^ 52)) 2047) - 1023)) && ((fits .i64 ((exp + nr) + ((bitsN .and .i64 (Int.fdiv nr_1 (2 ^ 52)) 2047) - 1023))) && (cond (decide (((exp + nr) + ((bitsN .and .i64 (Int.fdiv nr_1 (2 ^ 52)) 2047) - 1023)) < (-1075))) (SQ82 (some 0) xr (fun xr_1 => (c_ (.flt xr_1) []))) (cond (decide (((exp + nr) + ((bitsN .and .i64 (Int.fdiv nr_1 (2 ^ 52)) 2047) - 1023)) > 1023)) (cond (flt xr (some 0)) (S_m_Inf (-1) (fun xr_2 => (c_ (.flt xr_2) []))) (S_m_Inf 1 (fun xr_3 => (c_ (.flt xr_3) [])))) (cond (decide (((exp + nr) + ((bitsN .and .i64 (Int.fdiv nr_1 (2 ^ 52)) 2047) - 1023)) < (-1022))) ((fits .i64 (((exp + nr) + ((bitsN .and .i64 (Int.fdiv nr_1 (2 ^ 52)) 2047) - 1023)) + 53)) && (κn_ (lsQ160 [.flt xr, .any, .any, .flt (some 0), .int .i64 nr, .bool false, .flt frac, .bool (feq frac (some 0)), .any, .bool false, .flt frac, .bool cr, .bool false, .flt frac, .bool cr_1, .bool cr_1, .any, .tup [.flt xr, .int .i64 nr], .flt frac, .tup [.flt xr, .int .i64 nr], .flt xr, .int .i64 nr, .int .i64 exp, .int .i64 nr, .int .i64 (exp + nr), .flt xr, .int .u64 nr_1, .int .i64 (exp + nr), .int .u64 nr_1, .int .u64 (Int.fdiv nr_1 (2 ^ 52)), .int .i64 (Int.fdiv nr_1 (2 ^ 52)), .int .i64 (bitsN .and .i64 (Int.fdiv nr_1 (2 ^ 52)) 2047), .int .i64 ((bitsN .and .i64 (Int.fdiv nr_1 (2 ^ 52)) 2047) - 1023), .int .i64 ((exp + nr) + ((bitsN .and .i64 (Int.fdiv nr_1 (2 ^ 52)) 2047) - 1023)), .int .i64 ((exp + nr) + ((bitsN .and .i64 (Int.fdiv nr_1 (2 ^ 52)) 2047) - 1023)), .bool false, .any, .any, .int .i64 ((exp + nr) + ((bitsN .and .i64 (Int.fdiv nr_1 (2 ^ 52)) 2047) - 1023)), .bool false, .any, .any, .any, .any, .int .i64 ((exp + nr) + ((bitsN .and .i64 (Int.fdiv nr_1 (2 ^ 52)) 2047) - 1023)), .bool true, .int .i64 ((exp + nr) + ((bitsN .and .i64 (Int.fdiv nr_1 (2 ^ 52)) 2047) - 1023)), .int .i64 (((exp + nr) + ((bitsN .and .i64 (Int.fdiv nr_1 (2 ^ 52)) 2047) - 1023)) + 53), .any, .any, .any, .any, .any, .any, .any, .any, .any, .any, .any, .any] [] frac exp (((exp + nr) + ((bitsN .and .i64 (Int.fdiv nr_1 (2 ^ 52)) 2047) - 1023)) + 53) nr_1 (some 4368491638549381120)))) (κn_ (lsQ160 [.flt xr, .any, .any, .flt (some 0), .int .i64 nr, .bool false, .flt frac, .bool (feq frac (some 0)), .any, .bool false, .flt frac, .bool cr, .bool false, .flt frac, .bool cr_1, .bool cr_1, .any, .tup [.flt xr, .int .i64 nr], .flt frac, .tup [.flt xr, .int .i64 nr], .flt xr, .int .i64 nr, .int .i64 exp, .int .i64 nr, .int .i64 (exp + nr), .flt xr, .int .u64 nr_1, .int .i64 (exp + nr), .int .u64 nr_1, .int .u64 (Int.fdiv nr_1 (2 ^ 52)), .int .i64 (Int.fdiv nr_1 (2 ^ 52)), .int .i64 (bitsN .and .i64 (Int.fdiv nr_1 (2 ^ 52)) 2047), .int .i64 ((bitsN .and .i64 (Int.fdiv nr_1 (2 ^ 52)) 2047) - 1023), .int .i64 ((exp + nr) + ((bitsN .and .i64 (Int.fdiv nr_1 (2 ^ 52)) 2047) - 1023)), .int .i64 ((exp + nr) + ((bitsN .and .i64 (Int.fdiv nr_1 (2 ^ 52)) 2047) - 1023)), .bool false, .any, .any, .int .i64 ((exp + nr) + ((bitsN .and .i64 (Int.fdiv nr_1 (2 ^ 52)) 2047) - 1023)), .bool false, .any, .any, .any, .any, .int .i64 ((exp + nr) + ((bitsN .and .i64 (Int.fdiv nr_1 (2 ^ 52)) 2047) - 1023)), .bool false, .any, .any, .any, .any, .any, .any, .any, .any, .any, .any, .any, .any, .any, .any] [] frac exp ((exp + nr) + ((bitsN .and .i64 (Int.fdiv nr_1 (2 ^ 52)) 2047) - 1023)) nr_1 (some 4607182418800017408))))))))))))))))) (c_ (.flt frac) []))))) := by kernel_rfl
theorem jn_m_ldexp_w (N : Nat) (SQ101 : TSQ101) (SQ106 : TSQ106) (SQ57 : TSQ57) (SQ96 : TSQ96) (SQ82 : TSQ82) (S_m_Inf : TS_m_Inf) (SQ75 : TSQ75) (frac : Fl) (exp : Int) (c_ : V -> List Blk -> Bool) : codesV ⟨Pg, ofList [(110, (FQ101 SQ101)), (111, (FQ106 SQ106)), (112, (FQ57 SQ57)), (95, (FQ96 SQ96)), (113, (FQ82 SQ82)), (114, (F_m_Inf S_m_Inf)), (82, (FQ75 SQ75))], isref, N⟩ 0 (anQ133 N SQ101 SQ106 SQ57 SQ96 SQ82 S_m_Inf SQ75) ((cds Pg 64).drop 0) 0 (st0 Pg 64 (shFQ133.args [.fl frac, .int exp]) []) (finV Pg 64 0 c_) = GQ133 N SQ101 SQ106 SQ57 SQ96 SQ82 S_m_Inf SQ75 frac exp (fun r0 => c_ (.flt r0) []) := by
  rw [codesV_cut 0 13 13 rfl]
  refine (hd_m_ldexp_w N SQ101 SQ106 SQ57 SQ96 SQ82 S_m_Inf SQ75 frac exp c_ _).trans ?_
  simp only [jnQ160]
  kernel_rfl
theorem eqQ133 (N : Nat) (SQ101 : TSQ101) (SQ106 : TSQ106) (SQ57 : TSQ57) (SQ96 : TSQ96) (SQ82 : TSQ82) (S_m_Inf : TS_m_Inf) (SQ75 : TSQ75) (frac : Fl) (exp : Int) (c_ : V -> List Blk -> Bool) : bodyV ⟨Pg, ofList [(110, (FQ101 SQ101)), (111, (FQ106 SQ106)), (112, (FQ57 SQ57)), (95, (FQ96 SQ96)), (113, (FQ82 SQ82)), (114, (F_m_Inf S_m_Inf)), (82, (FQ75 SQ75))], isref, N⟩ (anQ133 N SQ101 SQ106 SQ57 SQ96 SQ82 S_m_Inf SQ75) 64 (shFQ133.args [.fl frac, .int exp]) [] c_ = GQ133 N SQ101 SQ106 SQ57 SQ96 SQ82 S_m_Inf SQ75 frac exp (fun r0 => c_ (.flt r0) []) :=
  (bodyV_codes (by kernel_rfl)).trans (jn_m_ldexp_w N SQ101 SQ106 SQ57 SQ96 SQ82 S_m_Inf SQ75 frac exp c_)
theorem goodQ133 (N : Nat) (SQ101 : TSQ101) (SQ106 : TSQ106) (SQ57 : TSQ57) (SQ96 : TSQ96) (SQ82 : TSQ82) (S_m_Inf : TS_m_Inf) (SQ75 : TSQ75) (hQ101 : GoodF Pg 110 (FQ101 SQ101)) (hQ106 : GoodF Pg 111 (FQ106 SQ106)) (hQ57 : GoodF Pg 112 (FQ57 SQ57)) (hQ96 : GoodF Pg 95 (FQ96 SQ96)) (hQ82 : GoodF Pg 113 (FQ82 SQ82)) (h_m_Inf : GoodF Pg 114 (F_m_Inf S_m_Inf)) (hQ75 : GoodF Pg 82 (FQ75 SQ75)) : GoodF Pg 64 (FQ133 (GQ133 N SQ101 SQ106 SQ57 SQ96 SQ82 S_m_Inf SQ75)) := by
  refine good_fs (cx := ⟨Pg, ofList [(110, (FQ101 SQ101)), (111, (FQ106 SQ106)), (112, (FQ57 SQ57)), (95, (FQ96 SQ96)), (113, (FQ82 SQ82)), (114, (F_m_Inf S_m_Inf)), (82, (FQ75 SQ75))], isref, N⟩) (ofList_cons hQ101 (ofList_cons hQ106 (ofList_cons hQ57 (ofList_cons hQ96 (ofList_cons hQ82 (ofList_cons h_m_Inf (ofList_cons hQ75 (ofList_nil _)))))))) shFQ133 (spQ133 (GQ133 N SQ101 SQ106 SQ57 SQ96 SQ82 S_m_Inf SQ75)) (anQ133 N SQ101 SQ106 SQ57 SQ96 SQ82 S_m_Inf SQ75) 0 0 (by kernel_rfl) (fun i_ hi_ => by omega) ?_
  intro a k h
  unfold spQ133 at h
  split at h
  · exact ⟨[], rfl, rfl, (eqQ133 _ _ _ _ _ _ _ _ _ _ _).trans h⟩
  · cases h

def anQ102 (N : Nat) (SQ133 : TSQ133) : Nat -> Option Ann := fun b_ => none
theorem eqQ102 (N : Nat) (SQ133 : TSQ133) (frac : Fl) (exp : Int) (c_ : V -> List Blk -> Bool) : bodyV ⟨Pg, ofList [(64, (FQ133 SQ133))], isref, N⟩ (anQ102 N SQ133) 26 (shFQ102.args [.fl frac, .int exp]) [] c_ = GQ102 N SQ133 frac exp (fun r0 => c_ (.flt r0) []) := by kernel_rfl
theorem goodQ102 (N : Nat) (SQ133 : TSQ133) (hQ133 : GoodF Pg 64 (FQ133 SQ133)) : GoodF Pg 26 (FQ102 (GQ102 N SQ133)) := by
  refine good_fs (cx := ⟨Pg, ofList [(64, (FQ133 SQ133))], isref, N⟩) (ofList_cons hQ133 (ofList_nil _)) shFQ102 (spQ102 (GQ102 N SQ133)) (anQ102 N SQ133) 0 0 (by kernel_rfl) (fun i_ hi_ => by omega) ?_
  intro a k h
  unfold spQ102 at h
  split at h
  · exact ⟨[], rfl, rfl, (eqQ102 _ _ _ _ _).trans h⟩
  · cases h


def anQ143 (N : Nat) (SQ150 : TSQ150) : Nat -> Option Ann := fun b_ => none
theorem eqQ143 (N : Nat) (SQ150 : TSQ150) (x : Fl) (c_ : V -> List Blk -> Bool) : bodyV ⟨Pg, ofList [(124, (FQ150 SQ150))], isref, N⟩ (anQ143 N SQ150) 76 (shFQ143.args [.fl x]) [] c_ = GQ143 N SQ150 x (fun r0 => c_ (.flt r0) []) := by kernel_rfl
theorem goodQ143 (N : Nat) (SQ150 : TSQ150) (hQ150 : GoodF Pg 124 (FQ150 SQ150)) : GoodF Pg 76 (FQ143 (GQ143 N SQ150)) := by
  refine good_fs (cx := ⟨Pg, ofList [(124, (FQ150 SQ150))], isref, N⟩) (ofList_cons hQ150 (ofList_nil _)) shFQ143 (spQ143 (GQ143 N SQ150)) (anQ143 N SQ150) 0 0 (by kernel_rfl) (fun i_ hi_ => by omega) ?_
  intro a k h
  unfold spQ143 at h
  split at h
  · exact ⟨[], rfl, rfl, (eqQ143 _ _ _ _).trans h⟩
  · cases h

def anQ117 (N : Nat) : Nat -> Option Ann := fun b_ => none
theorem eqQ117 (N : Nat) (l_0 l_1 l_2 l_3 : Fl) (c_ : V -> List Blk -> Bool) : bodyV ⟨Pg, ofList [], isref, N⟩ (anQ117 N) 77 (shFQ117.args [.fl l_0, .fl l_1, .fl l_2, .fl l_3]) [] c_ = GQ117 N l_0 l_1 l_2 l_3 (c_ (.agg [.flt l_0, .flt l_1, .flt l_2, .flt l_3]) []) := by kernel_rfl
theorem goodQ117 (N : Nat) : GoodF Pg 77 (FQ117 (GQ117 N)) := by
  refine good_fs (cx := ⟨Pg, ofList [], isref, N⟩) (ofList_nil _) shFQ117 (spQ117 (GQ117 N)) (anQ117 N) 0 0 (by kernel_rfl) (fun i_ hi_ => by omega) ?_
  intro a k h
  unfold spQ117 at h
  split at h
  · exact ⟨[], rfl, rfl, (eqQ117 _ _ _ _ _ _).trans h⟩
  · cases h

def anQ114 (N : Nat) (SQ10 : TSQ10) (SQ52 : TSQ52) (S_m_Abs : TS_m_Abs) (SQ134 : TSQ134) (SQ102 : TSQ102) (SQ143 : TSQ143) (SQ117 : TSQ117) : Nat -> Option Ann := fun b_ => none
theorem eqQ114 (N : Nat) (SQ10 : TSQ10) (SQ52 : TSQ52) (S_m_Abs : TS_m_Abs) (SQ134 : TSQ134) (SQ102 : TSQ102) (SQ143 : TSQ143) (SQ117 : TSQ117) (q_0 q_1 q_2 q_3 : Fl) (c_ : V -> List Blk -> Bool) : bodyV ⟨Pg, ofList [(42, (FQ10 SQ10)), (43, (FQ52 SQ52)), (47, (F_m_Abs S_m_Abs)), (75, (FQ134 SQ134)), (26, (FQ102 SQ102)), (76, (FQ143 SQ143)), (77, (FQ117 SQ117))], isref, (N + 24)⟩ (anQ114 (N + 24) SQ10 SQ52 S_m_Abs SQ134 SQ102 SQ143 SQ117) 35 (shFQ114.args [.fl q_0, .fl q_1, .fl q_2, .fl q_3]) [] c_ = GQ114 (N + 24) SQ10 SQ52 S_m_Abs SQ134 SQ102 SQ143 SQ117 q_0 q_1 q_2 q_3 (fun r0 r1 r2 r3 r4 => c_ (.tup [.agg [.flt r0, .flt r1, .flt r2, .flt r3], .int .i64 r4]) []) := by kernel_rfl
theorem goodQ114 (N : Nat) (SQ10 : TSQ10) (SQ52 : TSQ52) (S_m_Abs : TS_m_Abs) (SQ134 : TSQ134) (SQ102 : TSQ102) (SQ143 : TSQ143) (SQ117 : TSQ117) (hQ10 : GoodF Pg 42 (FQ10 SQ10)) (hQ52 : GoodF Pg 43 (FQ52 SQ52)) (h_m_Abs : GoodF Pg 47 (F_m_Abs S_m_Abs)) (hQ134 : GoodF Pg 75 (FQ134 SQ134)) (hQ102 : GoodF Pg 26 (FQ102 SQ102)) (hQ143 : GoodF Pg 76 (FQ143 SQ143)) (hQ117 : GoodF Pg 77 (FQ117 SQ117)) : GoodF Pg 35 (FQ114 (GQ114 (N + 24) SQ10 SQ52 S_m_Abs SQ134 SQ102 SQ143 SQ117)) := by
  refine good_fs (cx := ⟨Pg, ofList [(42, (FQ10 SQ10)), (43, (FQ52 SQ52)), (47, (F_m_Abs S_m_Abs)), (75, (FQ134 SQ134)), (26, (FQ102 SQ102)), (76, (FQ143 SQ143)), (77, (FQ117 SQ117))], isref, (N + 24)⟩) (ofList_cons hQ10 (ofList_cons hQ52 (ofList_cons h_m_Abs (ofList_cons hQ134 (ofList_cons hQ102 (ofList_cons hQ143 (ofList_cons hQ117 (ofList_nil _)))))))) shFQ114 (spQ114 (GQ114 (N + 24) SQ10 SQ52 S_m_Abs SQ134 SQ102 SQ143 SQ117)) (anQ114 (N + 24) SQ10 SQ52 S_m_Abs SQ134 SQ102 SQ143 SQ117) 3 0 (by kernel_rfl) (fun i_ hi_ => by
    match i_, hi_ with
    | 0, _ => exact (fun hk e => by rw [show hookOf ((anQ114 (N + 24) SQ10 SQ52 S_m_Abs SQ134 SQ102 SQ143 SQ117) (lp Pg 35 0).1) = none from by kernel_rfl] at e; cases e)
    | 1, _ => exact (fun hk e => by rw [show hookOf ((anQ114 (N + 24) SQ10 SQ52 S_m_Abs SQ134 SQ102 SQ143 SQ117) (lp Pg 35 1).1) = none from by kernel_rfl] at e; cases e)
    | 2, _ => exact (fun hk e => by rw [show hookOf ((anQ114 (N + 24) SQ10 SQ52 S_m_Abs SQ134 SQ102 SQ143 SQ117) (lp Pg 35 2).1) = none from by kernel_rfl] at e; cases e)
    | (q + 3), h => omega) ?_
  intro a k h
  unfold spQ114 at h
  split at h
  · exact ⟨[], rfl, rfl, (eqQ114 _ _ _ _ _ _ _ _ _ _ _ _ _).trans h⟩
  · cases h

def anQ107 (N : Nat) : Nat -> Option Ann := fun b_ => none
theorem eqQ107 (N : Nat) (a_0 a_1 a_2 b_0 b_1 b_2 : Fl) (c_ : V -> List Blk -> Bool) : bodyV ⟨Pg, ofList [], isref, N⟩ (anQ107 N) 49 (shFQ107.args [.fl a_0, .fl a_1, .fl a_2, .fl b_0, .fl b_1, .fl b_2]) [] c_ = GQ107 N a_0 a_1 a_2 b_0 b_1 b_2 (fun r0 r1 r2 => c_ (.agg [.flt r0, .flt r1, .flt r2]) []) := by kernel_rfl
theorem goodQ107 (N : Nat) : GoodF Pg 49 (FQ107 (GQ107 N)) := by
  refine good_fs (cx := ⟨Pg, ofList [], isref, N⟩) (ofList_nil _) shFQ107 (spQ107 (GQ107 N)) (anQ107 N) 0 0 (by kernel_rfl) (fun i_ hi_ => by omega) ?_
  intro a k h
  unfold spQ107 at h
  split at h
  · exact ⟨[], rfl, rfl, (eqQ107 _ _ _ _ _ _ _ _).trans h⟩
  · cases h

def anQ126 (N : Nat) (SQ41 : TSQ41) : Nat -> Option Ann := fun b_ => none
theorem eqQ126 (N : Nat) (SQ41 : TSQ41) (v_0 v_1 v_2 : Fl) (c_ : V -> List Blk -> Bool) : bodyV ⟨Pg, ofList [(48, (FQ41 SQ41))], isref, N⟩ (anQ126 N SQ41) 50 (shFQ126.args [.fl v_0, .fl v_1, .fl v_2]) [] c_ = GQ126 N SQ41 v_0 v_1 v_2 (fun r0 r1 r2 r3 => c_ (.tup [.agg [.flt r0, .flt r1, .flt r2], .int .i64 r3]) []) := by kernel_rfl
theorem goodQ126 (N : Nat) (SQ41 : TSQ41) (hQ41 : GoodF Pg 48 (FQ41 SQ41)) : GoodF Pg 50 (FQ126 (GQ126 N SQ41)) := by
  refine good_fs (cx := ⟨Pg, ofList [(48, (FQ41 SQ41))], isref, N⟩) (ofList_cons hQ41 (ofList_nil _)) shFQ126 (spQ126 (GQ126 N SQ41)) (anQ126 N SQ41) 0 0 (by kernel_rfl) (fun i_ hi_ => by omega) ?_
  intro a k h
  unfold spQ126 at h
  split at h
  · exact ⟨[], rfl, rfl, (eqQ126 _ _ _ _ _ _).trans h⟩
  · cases h

def anQ81 (N : Nat) (SQ10 : TSQ10) (SQ41 : TSQ41) (SQ107 : TSQ107) (SQ126 : TSQ126) : Nat -> Option Ann := fun b_ => none
theorem eqQ81 (N : Nat) (SQ10 : TSQ10) (SQ41 : TSQ41) (SQ107 : TSQ107) (SQ126 : TSQ126) (q_0 q_1 q_2 q_3 v_0 v_1 v_2 : Fl) (c_ : V -> List Blk -> Bool) : bodyV ⟨Pg, ofList [(42, (FQ10 SQ10)), (48, (FQ41 SQ41)), (49, (FQ107 SQ107)), (50, (FQ126 SQ126))], isref, (N + 24)⟩ (anQ81 (N + 24) SQ10 SQ41 SQ107 SQ126) 13 (shFQ81.args [.fl q_0, .fl q_1, .fl q_2, .fl q_3, .fl v_0, .fl v_1, .fl v_2]) [] c_ = GQ81 (N + 24) SQ10 SQ41 SQ107 SQ126 q_0 q_1 q_2 q_3 v_0 v_1 v_2 (fun r0 r1 r2 r3 => c_ (.tup [.agg [.flt r0, .flt r1, .flt r2], .int .i64 r3]) []) := by kernel_rfl
theorem goodQ81 (N : Nat) (SQ10 : TSQ10) (SQ41 : TSQ41) (SQ107 : TSQ107) (SQ126 : TSQ126) (hQ10 : GoodF Pg 42 (FQ10 SQ10)) (hQ41 : GoodF Pg 48 (FQ41 SQ41)) (hQ107 : GoodF Pg 49 (FQ107 SQ107)) (hQ126 : GoodF Pg 50 (FQ126 SQ126)) : GoodF Pg 13 (FQ81 (GQ81 (N + 24) SQ10 SQ41 SQ107 SQ126)) := by
  refine good_fs (cx := ⟨Pg, ofList [(42, (FQ10 SQ10)), (48, (FQ41 SQ41)), (49, (FQ107 SQ107)), (50, (FQ126 SQ126))], isref, (N + 24)⟩) (ofList_cons hQ10 (ofList_cons hQ41 (ofList_cons hQ107 (ofList_cons hQ126 (ofList_nil _))))) shFQ81 (spQ81 (GQ81 (N + 24) SQ10 SQ41 SQ107 SQ126)) (anQ81 (N + 24) SQ10 SQ41 SQ107 SQ126) 2 0 (by kernel_rfl) (fun i_ hi_ => by
    match i_, hi_ with
    | 0, _ => exact (fun hk e => by rw [show hookOf ((anQ81 (N + 24) SQ10 SQ41 SQ107 SQ126) (lp Pg 13 0).1) = none from by kernel_rfl] at e; cases e)
    | 1, _ => exact (fun hk e => by rw [show hookOf ((anQ81 (N + 24) SQ10 SQ41 SQ107 SQ126) (lp Pg 13 1).1) = none from by kernel_rfl] at e; cases e)
    | (q + 2), h => omega) ?_
  intro a k h
  unfold spQ81 at h
  split at h
  · exact ⟨[], rfl, rfl, (eqQ81 _ _ _ _ _ _ _ _ _ _ _ _ _).trans h⟩
  · cases h

def anQ91 (N : Nat) (SQ41 : TSQ41) : Nat -> Option Ann := fun b_ => none
theorem eqQ91 (N : Nat) (SQ41 : TSQ41) (qs_0 qs_1 qs_2 qs_3 qs_4 qs_5 qs_6 qs_7 : Fl) (c_ : V -> List Blk -> Bool) : bodyV ⟨Pg, ofList [(48, (FQ41 SQ41))], isref, (N + 24)⟩ (anQ91 (N + 24) SQ41) 42 (shFQ91.args [.fl qs_0, .fl qs_1, .fl qs_2, .fl qs_3, .fl qs_4, .fl qs_5, .fl qs_6, .fl qs_7]) [] c_ = GQ91 (N + 24) SQ41 qs_0 qs_1 qs_2 qs_3 qs_4 qs_5 qs_6 qs_7 (fun r0 => c_ (.bool r0) []) := by kernel_rfl
theorem goodQ91 (N : Nat) (SQ41 : TSQ41) (hQ41 : GoodF Pg 48 (FQ41 SQ41)) : GoodF Pg 42 (FQ91 (GQ91 (N + 24) SQ41)) := by
  refine good_fs (cx := ⟨Pg, ofList [(48, (FQ41 SQ41))], isref, (N + 24)⟩) (ofList_cons hQ41 (ofList_nil _)) shFQ91 (spQ91 (GQ91 (N + 24) SQ41)) (anQ91 (N + 24) SQ41) 1 0 (by kernel_rfl) (fun i_ hi_ => by
    match i_, hi_ with
    | 0, _ => exact (fun hk e => by rw [show hookOf ((anQ91 (N + 24) SQ41) (lp Pg 42 0).1) = none from by kernel_rfl] at e; cases e)
    | (q + 1), h => omega) ?_
  intro a k h
  unfold spQ91 at h
  split at h
  · exact ⟨[], rfl, rfl, (eqQ91 _ _ _ _ _ _ _ _ _ _ _).trans h⟩
  · cases h

def anQ131 (N : Nat) : Nat -> Option Ann := fun b_ => none
theorem eqQ131 (N : Nat) (a_0 a_1 a_2 a_3 b_0 b_1 b_2 b_3 : Fl) (c_ : V -> List Blk -> Bool) : bodyV ⟨Pg, ofList [], isref, N⟩ (anQ131 N) 83 (shFQ131.args [.fl a_0, .fl a_1, .fl a_2, .fl a_3, .fl b_0, .fl b_1, .fl b_2, .fl b_3]) [] c_ = GQ131 N a_0 a_1 a_2 a_3 b_0 b_1 b_2 b_3 (fun r0 r1 r2 r3 => c_ (.agg [.flt r0, .flt r1, .flt r2, .flt r3]) []) := by kernel_rfl
theorem goodQ131 (N : Nat) : GoodF Pg 83 (FQ131 (GQ131 N)) := by
  refine good_fs (cx := ⟨Pg, ofList [], isref, N⟩) (ofList_nil _) shFQ131 (spQ131 (GQ131 N)) (anQ131 N) 0 0 (by kernel_rfl) (fun i_ hi_ => by omega) ?_
  intro a k h
  unfold spQ131 at h
  split at h
  · exact ⟨[], rfl, rfl, (eqQ131 _ _ _ _ _ _ _ _ _ _).trans h⟩
  · cases h

def anQ118 (N : Nat) (SQ10 : TSQ10) : Nat -> Option Ann := fun b_ => none
theorem eqQ118 (N : Nat) (SQ10 : TSQ10) (q_0 q_1 q_2 q_3 : Fl) (c_ : V -> List Blk -> Bool) : bodyV ⟨Pg, ofList [(42, (FQ10 SQ10))], isref, N⟩ (anQ118 N SQ10) 72 (shFQ118.args [.fl q_0, .fl q_1, .fl q_2, .fl q_3]) [] c_ = GQ118 N SQ10 q_0 q_1 q_2 q_3 (fun r0 r1 r2 r3 r4 => c_ (.tup [.agg [.flt r0, .flt r1, .flt r2, .flt r3], .int .i64 r4]) []) := by kernel_rfl
theorem goodQ118 (N : Nat) (SQ10 : TSQ10) (hQ10 : GoodF Pg 42 (FQ10 SQ10)) : GoodF Pg 72 (FQ118 (GQ118 N SQ10)) := by
  refine good_fs (cx := ⟨Pg, ofList [(42, (FQ10 SQ10))], isref, N⟩) (ofList_cons hQ10 (ofList_nil _)) shFQ118 (spQ118 (GQ118 N SQ10)) (anQ118 N SQ10) 0 0 (by kernel_rfl) (fun i_ hi_ => by omega) ?_
  intro a k h
  unfold spQ118 at h
  split at h
  · exact ⟨[], rfl, rfl, (eqQ118 _ _ _ _ _ _ _).trans h⟩
  · cases h

def anQ130 (N : Nat) (SQ91 : TSQ91) (SQ131 : TSQ131) (SQ118 : TSQ118) : Nat -> Option Ann := fun b_ => none
theorem eqQ130 (N : Nat) (SQ91 : TSQ91) (SQ131 : TSQ131) (SQ118 : TSQ118) (a_0 a_1 a_2 a_3 b_0 b_1 b_2 b_3 : Fl) (c_ : V -> List Blk -> Bool) : bodyV ⟨Pg, ofList [(42, (FQ91 SQ91)), (83, (FQ131 SQ131)), (72, (FQ118 SQ118))], isref, N⟩ (anQ130 N SQ91 SQ131 SQ118) 40 (shFQ130.args [.fl a_0, .fl a_1, .fl a_2, .fl a_3, .fl b_0, .fl b_1, .fl b_2, .fl b_3]) [] c_ = GQ130 N SQ91 SQ131 SQ118 a_0 a_1 a_2 a_3 b_0 b_1 b_2 b_3 (fun r0 r1 r2 r3 r4 => c_ (.tup [.agg [.flt r0, .flt r1, .flt r2, .flt r3], .int .i64 r4]) []) := by kernel_rfl
theorem goodQ130 (N : Nat) (SQ91 : TSQ91) (SQ131 : TSQ131) (SQ118 : TSQ118) (hQ91 : GoodF Pg 42 (FQ91 SQ91)) (hQ131 : GoodF Pg 83 (FQ131 SQ131)) (hQ118 : GoodF Pg 72 (FQ118 SQ118)) : GoodF Pg 40 (FQ130 (GQ130 N SQ91 SQ131 SQ118)) := by
  refine good_fs (cx := ⟨Pg, ofList [(42, (FQ91 SQ91)), (83, (FQ131 SQ131)), (72, (FQ118 SQ118))], isref, N⟩) (ofList_cons hQ91 (ofList_cons hQ131 (ofList_cons hQ118 (ofList_nil _)))) shFQ130 (spQ130 (GQ130 N SQ91 SQ131 SQ118)) (anQ130 N SQ91 SQ131 SQ118) 0 0 (by kernel_rfl) (fun i_ hi_ => by omega) ?_
  intro a k h
  unfold spQ130 at h
  split at h
  · exact ⟨[], rfl, rfl, (eqQ130 _ _ _ _ _ _ _ _ _ _ _ _ _).trans h⟩
  · cases h


def sh_st_anatomy_Finite_0 : StSh := ⟨(sqs 6 (.rof :: (.int .i64 :: (.int .i64 :: (sqs 12 []))))), []⟩
def sx0_st_anatomy_Finite_0 : StSh := ⟨(.any :: (.any :: (.bool :: (sqs 18 [])))), []⟩
def sx1_st_anatomy_Finite_0 : StSh := ⟨(sqs 21 []), []⟩
def hk_st_anatomy_Finite_0 (N : Nat) (SQ115 : TSQ115) : List Atom -> K -> Bool := fun a_ κ => match a_ with
  | [.fls t6, .int t7, .int t8] => iterG N (st_an_Finite_0 N SQ115 t6 t7 (fun r0 => κ.ret (sx0_st_anatomy_Finite_0.build [.bool r0])) (κ.ext 0 (sx1_st_anatomy_Finite_0.build []))) t8
  | _ => false
def anQ85 (N : Nat) (SQ115 : TSQ115) : Nat -> Option Ann := fun b_ => cond (b_ == 0) (some ⟨⟨[6, 7, 8], [], []⟩, [(0, ⟨[], [], []⟩)], some ⟨[2], [], []⟩, some (mkHooks [(sh_st_anatomy_Finite_0, hk_st_anatomy_Finite_0 N SQ115)])⟩) (none)
theorem eq_st_anatomy_Finite_0 (N : Nat) (SQ115 : TSQ115) (κ : K) (t6 : List Fl) (t7 t8 : Int) : iter N (fun s k => codeV ⟨Pg, ofList [(126, (FQ115 SQ115))], isref, N⟩ 0 (anQ85 N SQ115) (lp Pg 84 0).2 (lp Pg 84 0).1 s (roundK Pg 0 ((anQ85 N SQ115) (lp Pg 84 0).1) κ k)) (sh_st_anatomy_Finite_0.build [.fls t6, .int t7, .int t8]) = iterG N (st_an_Finite_0 N SQ115 t6 t7 (fun r0 => κ.ret (sx0_st_anatomy_Finite_0.build [.bool r0])) (κ.ext 0 (sx1_st_anatomy_Finite_0.build []))) t8 :=
  iter_tr (fun v_ => sh_st_anatomy_Finite_0.build [.fls t6, .int t7, .int v_]) (fun v_ K_ => by kernel_rfl) N t8
theorem hk1_st_anatomy_Finite_0 (N : Nat) (SQ115 : TSQ115) : HookFor ⟨Pg, ofList [(126, (FQ115 SQ115))], isref, N⟩ 0 (anQ85 N SQ115) (lp Pg 84 0) (sh_st_anatomy_Finite_0, hk_st_anatomy_Finite_0 N SQ115) := by
  intro a κ h
  simp only at h
  unfold hk_st_anatomy_Finite_0 at h
  split at h
  · exact (eq_st_anatomy_Finite_0 _ _ _ _ _ _).trans h
  · cases h
theorem ho_anatomy_Finite_0 (N : Nat) (SQ115 : TSQ115) : HookOk ⟨Pg, ofList [(126, (FQ115 SQ115))], isref, N⟩ 0 (anQ85 N SQ115) (lp Pg 84 0) :=
  hooks_ok [(sh_st_anatomy_Finite_0, hk_st_anatomy_Finite_0 N SQ115)] (by kernel_rfl) ⟨hk1_st_anatomy_Finite_0 _ _, trivial⟩
theorem eqQ85 (N : Nat) (SQ115 : TSQ115) (l : List Fl) (c_ : V -> List Blk -> Bool) : bodyV ⟨Pg, ofList [(126, (FQ115 SQ115))], isref, N⟩ (anQ85 N SQ115) 84 (shFQ85.args [.fls l]) [] c_ = GQ85 N SQ115 l (fun r0 => c_ (.bool r0) []) := by kernel_rfl
theorem goodQ85 (N : Nat) (SQ115 : TSQ115) (hQ115 : GoodF Pg 126 (FQ115 SQ115)) : GoodF Pg 84 (FQ85 (GQ85 N SQ115)) := by
  refine good_fs (cx := ⟨Pg, ofList [(126, (FQ115 SQ115))], isref, N⟩) (ofList_cons hQ115 (ofList_nil _)) shFQ85 (spQ85 (GQ85 N SQ115)) (anQ85 N SQ115) 1 0 (by kernel_rfl) (fun i_ hi_ => by
    match i_, hi_ with
    | 0, _ => exact ho_anatomy_Finite_0 _ _
    | (q + 1), h => omega) ?_
  intro a k h
  unfold spQ85 at h
  split at h
  · exact ⟨[], rfl, rfl, (eqQ85 _ _ _ _).trans h⟩
  · cases h

def anQ6 (N : Nat) : Nat -> Option Ann := fun b_ => none
theorem eqQ6 (N : Nat) (x : Int) (c_ : V -> List Blk -> Bool) : bodyV ⟨Pg, ofList [], isref, N⟩ (anQ6 N) 180 (shFQ6.args [.int x]) [] c_ = GQ6 N x (fun r0 => c_ (.int .i64 r0) []) := by
  have key : ∀ L_ : Int, codesV ⟨Pg, ofList [], isref, N⟩ 0 (anQ6 N) (((cds Pg 180).drop 0).map (subC 285870213051353865 L_)) 0 (st0 Pg 180 (shFQ6.args [.int x]) []) (finV Pg 180 0 c_) = (fun (k0 : Int -> Bool) => (cond (x == 0) (k0 64) ((inR (Int.fdiv (IntKind.wrap .u64 ((bitsN .and .u64 x (IntKind.wrap .u64 (0 - x))) * L_)) (2 ^ 58)) 64) && ((fits .i64 (List.getD tab64 (Int.toNat (Int.fdiv (IntKind.wrap .u64 ((bitsN .and .u64 x (IntKind.wrap .u64 (0 - x))) * L_)) (2 ^ 58))) 0)) && (k0 (List.getD tab64 (Int.toNat (Int.fdiv (IntKind.wrap .u64 ((bitsN .and .u64 x (IntKind.wrap .u64 (0 - x))) * L_)) (2 ^ 58))) 0)))))) (fun r0 => c_ (.int .i64 r0) []) := fun L_ => by kernel_rfl
  have hc : (cds Pg 180).drop 0 = ((cds Pg 180).drop 0).map (subC 285870213051353865 285870213051353865) := by kernel_rfl
  refine (bodyV_codes (by kernel_rfl)).trans ?_
  rw [hc]
  exact key 285870213051353865
theorem goodQ6 (N : Nat) : GoodF Pg 180 (FQ6 (GQ6 N)) := by
  refine good_fs (cx := ⟨Pg, ofList [], isref, N⟩) (ofList_nil _) shFQ6 (spQ6 (GQ6 N)) (anQ6 N) 0 0 (by kernel_rfl) (fun i_ hi_ => by omega) ?_
  intro a k h
  unfold spQ6 at h
  split at h
  · exact ⟨[], rfl, rfl, (eqQ6 _ _ _).trans h⟩
  · cases h

def anQ58 (N : Nat) (SQ24 : TSQ24) (SQ23 : TSQ23) (SQ61 : TSQ61) (SQ6 : TSQ6) : Nat -> Option Ann := fun b_ => none
def lsQ141 (d_ : List V) (u_ : List (Option Blk)) (b f_0 f_1 f_2 : Int) (p : Bool) (p_1 p_2 : Int) : St := ⟨(dqs d_ 0 4 (.ptr 1 0 :: (dqs d_ 4 4 (.ptr 2 0 :: (dqs d_ 8 52 []))))), [(u_.getD 0 none), some ⟨108, 1, .cells [.bool false, .int .u64 0, .int .i64 0]⟩, some ⟨108, 1, .cells [.bool p, .int .u64 p_1, .int .i64 p_2]⟩]⟩
theorem jnQ141 (N : Nat) (SQ24 : TSQ24) (SQ23 : TSQ23) (SQ61 : TSQ61) (SQ6 : TSQ6) (d_ : List V) (u_ : List (Option Blk)) (b f_0 f_1 f_2 : Int) (p : Bool) (p_1 p_2 : Int) (c_ : V -> List Blk -> Bool) : codesV ⟨Pg, ofList [(176, (FQ24 SQ24)), (154, (FQ23 SQ23)), (179, (FQ61 SQ61)), (180, (FQ6 SQ6))], isref, N⟩ 0 (anQ58 N SQ24 SQ23 SQ61 SQ6) ((cds Pg 157).drop 5) 0 (lsQ141 d_ u_ b f_0 f_1 f_2 p p_1 p_2) (finV Pg 157 0 c_) = JQ141 N SQ24 SQ23 SQ61 SQ6 b f_0 f_1 f_2 p p_1 p_2 (fun r0 r1 r2 r3 => c_ (.tup [.agg [.bool r0, .int .u64 r1, .int .i64 r2], .int .i64 r3]) []) := by kernel_rfl
theorem hd_an_parts_uint64__w (N : Nat) (SQ24 : TSQ24) (SQ23 : TSQ23) (SQ61 : TSQ61) (SQ6 : TSQ6) (b f_0 f_1 f_2 : Int) (c_ : V -> List Blk -> Bool) (κn_ : St -> Bool) : codesV ⟨Pg, ofList [(176, (FQ24 SQ24)), (154, (FQ23 SQ23)), (179, (FQ61 SQ61)), (180, (FQ6 SQ6))], isref, N⟩ 0 (anQ58 N SQ24 SQ23 SQ61 SQ6) (sg Pg 157 0 5) 0 (st0 Pg 157 (shFQ58.args [.int b, .int f_0, .int f_1, .int f_2]) []) { (finV Pg 157 0 c_) with nrm := κn_ } = (SQ24 b f_0 f_1 f_2 (fun cr nr nr_1 => ((fits .i64 (nr - f_2)) && (SQ23 b f_0 f_1 f_2 (fun nr_2 => (cond (nr_2 == 1) (c_ (.tup [.agg [.bool false, .int .u64 0, .int .i64 0], .int .i64 4]) []) (cond (nr_2 == 2) (c_ (.tup [.agg [.bool false, .int .u64 0, .int .i64 0], .int .i64 4]) []) (cond (nr_2 == 3) (c_ (.tup [.agg [.bool cr, .int .u64 0, .int .i64 0], .int .i64 0]) []) (cond (nr_2 == 4) ((fits .i64 ((nr - f_2) + 1)) && (κn_ (lsQ141 [.int .u64 b, .agg [.int .u64 f_0, .int .i64 f_1, .int .i64 f_2], .any, .ptr 0 0, .int .i64 0, .bool cr, .int .i64 nr, .int .u64 nr_1, .any, .tup [.bool cr, .int .i64 nr, .int .u64 nr_1], .int .u64 b, .agg [.int .u64 f_0, .int .i64 f_1, .int .i64 f_2], .tup [.bool cr, .int .i64 nr, .int .u64 nr_1], .bool cr, .int .i64 nr, .int .u64 nr_1, .bool cr, .int .u64 nr_1, .int .i64 nr, .ptr 0 2, .int .i64 f_2, .int .i64 (nr - f_2), .agg [.bool cr, .int .u64 nr_1, .int .i64 (nr - f_2)], .int .u64 b, .agg [.int .u64 f_0, .int .i64 f_1, .int .i64 f_2], .int .i64 nr_2, .any, .any, .any, .any, .any, .any, .bool false, .bool (nr_2 == 1), .bool (nr_2 == 2), .any, .bool false, .bool (nr_2 == 3), .any, .any, .bool true, .bool (nr_2 == 4), .ptr 2 2, .int .i64 (nr - f_2), .int .i64 ((nr - f_2) + 1), .ptr 2 2, .any, .any, .any, .any, .any, .any, .any, .any, .any, .any, .any, .any, .any, .any] [some ⟨185, 1, .cells [.int .u64 f_0, .int .i64 f_1, .int .i64 f_2]⟩] b f_0 f_1 f_2 cr nr_1 ((nr - f_2) + 1)))) (SQ61 f_0 f_1 f_2 (fun nr_3 => (κn_ (lsQ141 [.int .u64 b, .agg [.int .u64 f_0, .int .i64 f_1, .int .i64 f_2], .any, .ptr 0 0, .int .i64 0, .bool cr, .int .i64 nr, .int .u64 nr_1, .any, .tup [.bool cr, .int .i64 nr, .int .u64 nr_1], .int .u64 b, .agg [.int .u64 f_0, .int .i64 f_1, .int .i64 f_2], .tup [.bool cr, .int .i64 nr, .int .u64 nr_1], .bool cr, .int .i64 nr, .int .u64 nr_1, .bool cr, .int .u64 nr_1, .int .i64 nr, .ptr 0 2, .int .i64 f_2, .int .i64 (nr - f_2), .agg [.bool cr, .int .u64 nr_1, .int .i64 (nr - f_2)], .int .u64 b, .agg [.int .u64 f_0, .int .i64 f_1, .int .i64 f_2], .int .i64 nr_2, .ptr 2 1, .int .u64 nr_1, .agg [.int .u64 f_0, .int .i64 f_1, .int .i64 f_2], .int .u64 nr_3, .int .u64 (bitsN .or .u64 nr_1 nr_3), .ptr 2 1, .bool false, .bool (nr_2 == 1), .bool (nr_2 == 2), .any, .bool false, .bool (nr_2 == 3), .any, .any, .bool false, .bool (nr_2 == 4), .any, .any, .any, .any, .any, .any, .any, .any, .any, .any, .any, .any, .any, .any, .any, .any, .any, .any] [some ⟨185, 1, .cells [.int .u64 f_0, .int .i64 f_1, .int .i64 f_2]⟩] b f_0 f_1 f_2 cr (bitsN .or .u64 nr_1 nr_3) (nr - f_2)))))))))))))) := by kernel_rfl
theorem jn_an_parts_uint64__w (N : Nat) (SQ24 : TSQ24) (SQ23 : TSQ23) (SQ61 : TSQ61) (SQ6 : TSQ6) (b f_0 f_1 f_2 : Int) (c_ : V -> List Blk -> Bool) : codesV ⟨Pg, ofList [(176, (FQ24 SQ24)), (154, (FQ23 SQ23)), (179, (FQ61 SQ61)), (180, (FQ6 SQ6))], isref, N⟩ 0 (anQ58 N SQ24 SQ23 SQ61 SQ6) ((cds Pg 157).drop 0) 0 (st0 Pg 157 (shFQ58.args [.int b, .int f_0, .int f_1, .int f_2]) []) (finV Pg 157 0 c_) = GQ58 N SQ24 SQ23 SQ61 SQ6 b f_0 f_1 f_2 (fun r0 r1 r2 r3 => c_ (.tup [.agg [.bool r0, .int .u64 r1, .int .i64 r2], .int .i64 r3]) []) := by
  rw [codesV_cut 0 5 5 rfl]
  refine (hd_an_parts_uint64__w N SQ24 SQ23 SQ61 SQ6 b f_0 f_1 f_2 c_ _).trans ?_
  simp only [jnQ141]
  kernel_rfl
theorem eqQ58 (N : Nat) (SQ24 : TSQ24) (SQ23 : TSQ23) (SQ61 : TSQ61) (SQ6 : TSQ6) (b f_0 f_1 f_2 : Int) (c_ : V -> List Blk -> Bool) : bodyV ⟨Pg, ofList [(176, (FQ24 SQ24)), (154, (FQ23 SQ23)), (179, (FQ61 SQ61)), (180, (FQ6 SQ6))], isref, N⟩ (anQ58 N SQ24 SQ23 SQ61 SQ6) 157 (shFQ58.args [.int b, .int f_0, .int f_1, .int f_2]) [] c_ = GQ58 N SQ24 SQ23 SQ61 SQ6 b f_0 f_1 f_2 (fun r0 r1 r2 r3 => c_ (.tup [.agg [.bool r0, .int .u64 r1, .int .i64 r2], .int .i64 r3]) []) :=
  (bodyV_codes (by kernel_rfl)).trans (jn_an_parts_uint64__w N SQ24 SQ23 SQ61 SQ6 b f_0 f_1 f_2 c_)
theorem goodQ58 (N : Nat) (SQ24 : TSQ24) (SQ23 : TSQ23) (SQ61 : TSQ61) (SQ6 : TSQ6) (hQ24 : GoodF Pg 176 (FQ24 SQ24)) (hQ23 : GoodF Pg 154 (FQ23 SQ23)) (hQ61 : GoodF Pg 179 (FQ61 SQ61)) (hQ6 : GoodF Pg 180 (FQ6 SQ6)) : GoodF Pg 157 (FQ58 (GQ58 N SQ24 SQ23 SQ61 SQ6)) := by
  refine good_fs (cx := ⟨Pg, ofList [(176, (FQ24 SQ24)), (154, (FQ23 SQ23)), (179, (FQ61 SQ61)), (180, (FQ6 SQ6))], isref, N⟩) (ofList_cons hQ24 (ofList_cons hQ23 (ofList_cons hQ61 (ofList_cons hQ6 (ofList_nil _))))) shFQ58 (spQ58 (GQ58 N SQ24 SQ23 SQ61 SQ6)) (anQ58 N SQ24 SQ23 SQ61 SQ6) 0 0 (by kernel_rfl) (fun i_ hi_ => by omega) ?_
  intro a k h
  unfold spQ58 at h
  split at h
  · exact ⟨[], rfl, rfl, (eqQ58 _ _ _ _ _ _ _ _ _ _).trans h⟩
  · cases h

def anQ127 (N : Nat) (SQ96 : TSQ96) (S_an_of : TS_an_of) (SQ58 : TSQ58) : Nat -> Option Ann := fun b_ => none
theorem eqQ127 (N : Nat) (SQ96 : TSQ96) (S_an_of : TS_an_of) (SQ58 : TSQ58) (x : Fl) (c_ : V -> List Blk -> Bool) : bodyV ⟨Pg, ofList [(95, (FQ96 SQ96)), (155, (F_an_of S_an_of)), (157, (FQ58 SQ58))], isref, N⟩ (anQ127 N SQ96 S_an_of SQ58) 129 (shFQ127.args [.fl x]) [] c_ = GQ127 N SQ96 S_an_of SQ58 x (fun r0 r1 r2 r3 => c_ (.tup [.agg [.bool r0, .int .u64 r1, .int .i64 r2], .int .i64 r3]) []) := by kernel_rfl
theorem goodQ127 (N : Nat) (SQ96 : TSQ96) (S_an_of : TS_an_of) (SQ58 : TSQ58) (hQ96 : GoodF Pg 95 (FQ96 SQ96)) (h_an_of : GoodF Pg 155 (F_an_of S_an_of)) (hQ58 : GoodF Pg 157 (FQ58 SQ58)) : GoodF Pg 129 (FQ127 (GQ127 N SQ96 S_an_of SQ58)) := by
  refine good_fs (cx := ⟨Pg, ofList [(95, (FQ96 SQ96)), (155, (F_an_of S_an_of)), (157, (FQ58 SQ58))], isref, N⟩) (ofList_cons hQ96 (ofList_cons h_an_of (ofList_cons hQ58 (ofList_nil _)))) shFQ127 (spQ127 (GQ127 N SQ96 S_an_of SQ58)) (anQ127 N SQ96 S_an_of SQ58) 0 0 (by kernel_rfl) (fun i_ hi_ => by omega) ?_
  intro a k h
  unfold spQ127 at h
  split at h
  · exact ⟨[], rfl, rfl, (eqQ127 _ _ _ _ _ _).trans h⟩
  · cases h

def sh_st_big_norm_w_0 : StSh := ⟨(.slw 0 :: (.any :: (.any :: (.int .i64 :: (sqs 17 []))))), [some (22, 1, .ints .u64)]⟩
def sx0_st_big_norm_w_0 : StSh := ⟨(.slw 0 :: (.any :: (.any :: (.int .i64 :: (sqs 17 []))))), [some (22, 1, .ints .u64)]⟩
def hk_st_big_norm_w_0 (N : Nat) : List Atom -> K -> Bool := fun a_ κ => match a_ with
  | [.int n, .ints x] => iterG N (stQ159 N x (fun r0 => κ.ext 0 (sx0_st_big_norm_w_0.build [.int r0, .ints x]))) n
  | _ => false
def anQ1 (N : Nat) : Nat -> Option Ann := fun b_ => cond (b_ == 0) (some ⟨⟨[0, 3], [], []⟩, [(0, ⟨[0, 3], [], []⟩)], some ⟨[2], [], []⟩, some (mkHooks [(sh_st_big_norm_w_0, hk_st_big_norm_w_0 N)])⟩) (none)
theorem eq_st_big_norm_w_0 (N : Nat) (κ : K) (n : Int) (x : List Int) : iter N (fun s k => codeV ⟨Pg, ofList [], isref, N⟩ 1 (anQ1 N) (lp Pg 167 0).2 (lp Pg 167 0).1 s (roundK Pg 1 ((anQ1 N) (lp Pg 167 0).1) κ k)) (sh_st_big_norm_w_0.build [.int n, .ints x]) = iterG N (stQ159 N x (fun r0 => κ.ext 0 (sx0_st_big_norm_w_0.build [.int r0, .ints x]))) n :=
  iter_tr (fun v_ => sh_st_big_norm_w_0.build [.int v_, .ints x]) (fun v_ K_ => by kernel_rfl) N n
theorem hk1_st_big_norm_w_0 (N : Nat) : HookFor ⟨Pg, ofList [], isref, N⟩ 1 (anQ1 N) (lp Pg 167 0) (sh_st_big_norm_w_0, hk_st_big_norm_w_0 N) := by
  intro a κ h
  simp only at h
  unfold hk_st_big_norm_w_0 at h
  split at h
  · exact (eq_st_big_norm_w_0 _ _ _ _).trans h
  · cases h
theorem ho_big_norm_w_0 (N : Nat) : HookOk ⟨Pg, ofList [], isref, N⟩ 1 (anQ1 N) (lp Pg 167 0) :=
  hooks_ok [(sh_st_big_norm_w_0, hk_st_big_norm_w_0 N)] (by kernel_rfl) ⟨hk1_st_big_norm_w_0 _, trivial⟩
theorem eqQ1 (N : Nat) (b : List Int) (c_ : V -> List Blk -> Bool) : bodyZ ⟨Pg, ofList [], isref, N⟩ (anQ1 N) 167 (shFQ1.args [.ints b]) [⟨22, 1, .ints .u64 b⟩] c_ = GQ1 N b (fun r0 r1 => c_ (.sl 0 r0 r1) [⟨22, 1, .ints .u64 b⟩]) := by kernel_rfl
theorem goodQ1 (N : Nat) : GoodF Pg 167 (FQ1 (GQ1 N)) := by
  refine good_fsZ (cx := ⟨Pg, ofList [], isref, N⟩) (ofList_nil _) shFQ1 (spQ1 (GQ1 N)) (anQ1 N) 1 1 (by kernel_rfl) (fun i_ hi_ => by
    match i_, hi_ with
    | 0, _ => exact ho_big_norm_w_0 _
    | (q + 1), h => omega) ?_
  intro a k h
  unfold spQ1 at h
  split at h
  · exact ⟨[_], rfl, rfl, (eqQ1 _ _ _).trans h⟩
  · cases h

def anQ104 (N : Nat) (SQ1 : TSQ1) : Nat -> Option Ann := fun b_ => none
theorem eqQ104 (N : Nat) (SQ1 : TSQ1) (n : Int) (c_ : V -> List Blk -> Bool) : bodyZ ⟨Pg, ofList [(167, (FQ1 SQ1))], isref, N⟩ (anQ104 N SQ1) 158 (shFQ104.args [.int n]) [] c_ = GQ104 N SQ1 n (fun r0 => c_ (.roi .u64 r0) []) := by kernel_rfl
theorem goodQ104 (N : Nat) (SQ1 : TSQ1) (hQ1 : GoodF Pg 167 (FQ1 SQ1)) : GoodF Pg 158 (FQ104 (GQ104 N SQ1)) := by
  refine good_fsZ (cx := ⟨Pg, ofList [(167, (FQ1 SQ1))], isref, N⟩) (ofList_cons hQ1 (ofList_nil _)) shFQ104 (spQ104 (GQ104 N SQ1)) (anQ104 N SQ1) 0 0 (by kernel_rfl) (fun i_ hi_ => by omega) ?_
  intro a k h
  unfold spQ104 at h
  split at h
  · exact ⟨[], rfl, rfl, (eqQ104 _ _ _ _).trans h⟩
  · cases h

def anQ0 (N : Nat) : Nat -> Option Ann := fun b_ => none
theorem eqQ0 (N : Nat) (neg : Bool) (abs : List Int) (b : Bool) (c_ : V -> List Blk -> Bool) : bodyZ ⟨Pg, ofList [], isref, N⟩ (anQ0 N) 139 (shFQ0.args [.bool neg, .ints abs, .bool b]) [⟨126, 1, .cells [.bool b, .nil]⟩] c_ = GQ0 N neg abs b (fun r0 => c_ (.ptr 0 0) [⟨126, 1, .cells [.bool r0, .roi .u64 abs]⟩]) := by kernel_rfl
theorem goodQ0 (N : Nat) : GoodF Pg 139 (FQ0 (GQ0 N)) := by
  refine good_fsZ (cx := ⟨Pg, ofList [], isref, N⟩) (ofList_nil _) shFQ0 (spQ0 (GQ0 N)) (anQ0 N) 0 1 (by kernel_rfl) (fun i_ hi_ => by omega) ?_
  intro a k h
  unfold spQ0 at h
  split at h
  · exact ⟨[_], rfl, rfl, (eqQ0 _ _ _ _ _).trans h⟩
  · cases h

def anQ45 (N : Nat) (SQ104 : TSQ104) (SQ0 : TSQ0) : Nat -> Option Ann := fun b_ => none
theorem eqQ45 (N : Nat) (SQ104 : TSQ104) (SQ0 : TSQ0) (n : Int) (b : Bool) (c_ : V -> List Blk -> Bool) : bodyZ ⟨Pg, ofList [(158, (FQ104 SQ104)), (139, (FQ0 SQ0))], isref, N⟩ (anQ45 N SQ104 SQ0) 130 (shFQ45.args [.int n, .bool b]) [⟨126, 1, .cells [.bool b, .nil]⟩] c_ = GQ45 N SQ104 SQ0 n b (fun r0 r1 => c_ (.ptr 0 0) [⟨126, 1, .cells [.bool r0, .roi .u64 r1]⟩]) := by kernel_rfl
theorem goodQ45 (N : Nat) (SQ104 : TSQ104) (SQ0 : TSQ0) (hQ104 : GoodF Pg 158 (FQ104 SQ104)) (hQ0 : GoodF Pg 139 (FQ0 SQ0)) : GoodF Pg 130 (FQ45 (GQ45 N SQ104 SQ0)) := by
  refine good_fsZ (cx := ⟨Pg, ofList [(158, (FQ104 SQ104)), (139, (FQ0 SQ0))], isref, N⟩) (ofList_cons hQ104 (ofList_cons hQ0 (ofList_nil _))) shFQ45 (spQ45 (GQ45 N SQ104 SQ0)) (anQ45 N SQ104 SQ0) 0 1 (by kernel_rfl) (fun i_ hi_ => by omega) ?_
  intro a k h
  unfold spQ45 at h
  split at h
  · exact ⟨[_], rfl, rfl, (eqQ45 _ _ _ _ _ _).trans h⟩
  · cases h

def anQ63 (N : Nat) : Nat -> Option Ann := fun b_ => none
theorem eqQ63 (N : Nat) (x : List Int) (c_ : V -> List Blk -> Bool) : bodyZ ⟨Pg, ofList [], isref, N⟩ (anQ63 N) 140 (shFQ63.args [.ints x]) [] c_ = GQ63 N x (fun r0 => c_ (.roi .u64 r0) []) := by kernel_rfl
theorem goodQ63 (N : Nat) : GoodF Pg 140 (FQ63 (GQ63 N)) := by
  refine good_fsZ (cx := ⟨Pg, ofList [], isref, N⟩) (ofList_nil _) shFQ63 (spQ63 (GQ63 N)) (anQ63 N) 0 0 (by kernel_rfl) (fun i_ hi_ => by omega) ?_
  intro a k h
  unfold spQ63 at h
  split at h
  · exact ⟨[], rfl, rfl, (eqQ63 _ _ _).trans h⟩
  · cases h

def anQ27 (N : Nat) : Nat -> Option Ann := fun b_ => none
theorem eqQ27 (N : Nat) (neg : Bool) (abs : List Int) (b : Bool) (b_1 : List Int) (c_ : V -> List Blk -> Bool) : bodyZ ⟨Pg, ofList [], isref, N⟩ (anQ27 N) 139 (shFQ27.args [.bool neg, .ints abs, .bool b, .ints b_1]) [⟨126, 1, .cells [.bool b, .roi .u64 b_1]⟩] c_ = GQ27 N neg abs b b_1 (fun r0 => c_ (.ptr 0 0) [⟨126, 1, .cells [.bool r0, .roi .u64 abs]⟩]) := by kernel_rfl
theorem goodQ27 (N : Nat) : GoodF Pg 139 (FQ27 (GQ27 N)) := by
  refine good_fsZ (cx := ⟨Pg, ofList [], isref, N⟩) (ofList_nil _) shFQ27 (spQ27 (GQ27 N)) (anQ27 N) 0 1 (by kernel_rfl) (fun i_ hi_ => by omega) ?_
  intro a k h
  unfold spQ27 at h
  split at h
  · exact ⟨[_], rfl, rfl, (eqQ27 _ _ _ _ _ _).trans h⟩
  · cases h

def anQ20 (N : Nat) (SQ63 : TSQ63) (SQ27 : TSQ27) : Nat -> Option Ann := fun b_ => none
theorem eqQ20 (N : Nat) (SQ63 : TSQ63) (SQ27 : TSQ27) (b : Bool) (b_1 : List Int) (c_ : V -> List Blk -> Bool) : bodyZ ⟨Pg, ofList [(140, (FQ63 SQ63)), (139, (FQ27 SQ27))], isref, N⟩ (anQ20 N SQ63 SQ27) 91 (shFQ20.args [.bool b, .ints b_1]) [⟨126, 1, .cells [.bool b, .roi .u64 b_1]⟩] c_ = GQ20 N SQ63 SQ27 b b_1 (fun r0 r1 => c_ (.ptr 0 0) [⟨126, 1, .cells [.bool r0, .roi .u64 r1]⟩]) := by kernel_rfl
theorem goodQ20 (N : Nat) (SQ63 : TSQ63) (SQ27 : TSQ27) (hQ63 : GoodF Pg 140 (FQ63 SQ63)) (hQ27 : GoodF Pg 139 (FQ27 SQ27)) : GoodF Pg 91 (FQ20 (GQ20 N SQ63 SQ27)) := by
  refine good_fsZ (cx := ⟨Pg, ofList [(140, (FQ63 SQ63)), (139, (FQ27 SQ27))], isref, N⟩) (ofList_cons hQ63 (ofList_cons hQ27 (ofList_nil _))) shFQ20 (spQ20 (GQ20 N SQ63 SQ27)) (anQ20 N SQ63 SQ27) 0 1 (by kernel_rfl) (fun i_ hi_ => by omega) ?_
  intro a k h
  unfold spQ20 at h
  split at h
  · exact ⟨[_], rfl, rfl, (eqQ20 _ _ _ _ _ _).trans h⟩
  · cases h

def anQ120 (N : Nat) (SQ127 : TSQ127) (SQ45 : TSQ45) (SQ20 : TSQ20) : Nat -> Option Ann := fun b_ => none
theorem eqQ120 (N : Nat) (SQ127 : TSQ127) (SQ45 : TSQ45) (SQ20 : TSQ20) (x : Fl) (c_ : V -> List Blk -> Bool) : bodyV ⟨Pg, ofList [(129, (FQ127 SQ127)), (130, (FQ45 SQ45)), (91, (FQ20 SQ20))], isref, N⟩ (anQ120 N SQ127 SQ45 SQ20) 86 (shFQ120.args [.fl x]) [] c_ = GQ120 N SQ127 SQ45 SQ20 x (fun r0 r1 r2 => c_ (.agg [.ptr 0 0, .int .i64 r0]) [⟨126, 1, .cells [.bool r1, .roi .u64 r2]⟩]) := by kernel_rfl
theorem goodQ120 (N : Nat) (SQ127 : TSQ127) (SQ45 : TSQ45) (SQ20 : TSQ20) (hQ127 : GoodF Pg 129 (FQ127 SQ127)) (hQ45 : GoodF Pg 130 (FQ45 SQ45)) (hQ20 : GoodF Pg 91 (FQ20 SQ20)) : GoodF Pg 86 (FQ120 (GQ120 N SQ127 SQ45 SQ20)) := by
  refine good_fs (cx := ⟨Pg, ofList [(129, (FQ127 SQ127)), (130, (FQ45 SQ45)), (91, (FQ20 SQ20))], isref, N⟩) (ofList_cons hQ127 (ofList_cons hQ45 (ofList_cons hQ20 (ofList_nil _)))) shFQ120 (spQ120 (GQ120 N SQ127 SQ45 SQ20)) (anQ120 N SQ127 SQ45 SQ20) 0 0 (by kernel_rfl) (fun i_ hi_ => by omega) ?_
  intro a k h
  unfold spQ120 at h
  split at h
  · exact ⟨[], rfl, rfl, (eqQ120 _ _ _ _ _ _).trans h⟩
  · cases h

def anQ86 (N : Nat) : Nat -> Option Ann := fun b_ => none
theorem eqQ86 (N : Nat) (x y : Int) (c_ : V -> List Blk -> Bool) : bodyV ⟨Pg, ofList [], isref, N⟩ (anQ86 N) 192 (shFQ86.args [.int x, .int y]) [] c_ = GQ86 N x y (fun r0 r1 => c_ (.tup [.int .u64 r0, .int .u64 r1]) []) := by kernel_rfl
theorem goodQ86 (N : Nat) : GoodF Pg 192 (FQ86 (GQ86 N)) := by
  refine good_fs (cx := ⟨Pg, ofList [], isref, N⟩) (ofList_nil _) shFQ86 (spQ86 (GQ86 N)) (anQ86 N) 0 0 (by kernel_rfl) (fun i_ hi_ => by omega) ?_
  intro a k h
  unfold spQ86 at h
  split at h
  · exact ⟨[], rfl, rfl, (eqQ86 _ _ _ _).trans h⟩
  · cases h


def anQ83 (N : Nat) (SQ86 : TSQ86) (SQ59 : TSQ59) : Nat -> Option Ann := fun b_ => none
theorem eqQ83 (N : Nat) (SQ86 : TSQ86) (SQ59 : TSQ59) (a b c d : Int) (c_ : V -> List Blk -> Bool) : bodyZ ⟨Pg, ofList [(192, (FQ86 SQ86)), (183, (FQ59 SQ59))], isref, N⟩ (anQ83 N SQ86 SQ59) 181 (shFQ83.args [.int a, .int b, .int c, .int d]) [] c_ = GQ83 N SQ86 SQ59 a b c d (fun r0 r1 => c_ (.tup [.int .u64 r0, .int .u64 r1]) []) := by kernel_rfl
theorem goodQ83 (N : Nat) (SQ86 : TSQ86) (SQ59 : TSQ59) (hQ86 : GoodF Pg 192 (FQ86 SQ86)) (hQ59 : GoodF Pg 183 (FQ59 SQ59)) : GoodF Pg 181 (FQ83 (GQ83 N SQ86 SQ59)) := by
  refine good_fsZ (cx := ⟨Pg, ofList [(192, (FQ86 SQ86)), (183, (FQ59 SQ59))], isref, N⟩) (ofList_cons hQ86 (ofList_cons hQ59 (ofList_nil _))) shFQ83 (spQ83 (GQ83 N SQ86 SQ59)) (anQ83 N SQ86 SQ59) 0 0 (by kernel_rfl) (fun i_ hi_ => by omega) ?_
  intro a k h
  unfold spQ83 at h
  split at h
  · exact ⟨[], rfl, rfl, (eqQ83 _ _ _ _ _ _ _ _).trans h⟩
  · cases h

end Go.Proofs.YtnfgnjciliapaaaGreatDoor
