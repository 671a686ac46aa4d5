/-
  THE TIES: each printed meaning is what the program does (written by program).
  Conditions: none.
-/
import Derived.Test.YtnfgnjciliapaaaGreatDoorGs
namespace Go.Proofs.YtnfgnjciliapaaaGreatDoor
open Go Go.Mach Go.Proofs
set_option linter.unusedVariables false
set_option maxRecDepth 50000


def an_an_of (N : Nat) : Nat -> Option Ann := fun b_ => none
theorem eq_an_of (N : Nat) (c_ : V -> List Blk -> Bool) : bodyV ⟨Pg, ofList [], isref, N⟩ (an_an_of N) 155 (shF_an_of.args []) [] c_ = G_an_of N (fun r0 r1 r2 => c_ (.agg [.int .u64 r0, .int .i64 r1, .int .i64 r2]) []) := by kernel_rfl
theorem good_an_of (N : Nat) : GoodF Pg 155 (F_an_of (G_an_of N)) := by
  refine good_fs (cx := ⟨Pg, ofList [], isref, N⟩) (ofList_nil _) shF_an_of (sp_an_of (G_an_of N)) (an_an_of N) 0 0 (by kernel_rfl) (fun i_ hi_ => by omega) ?_
  intro a k h
  unfold sp_an_of at h
  split at h
  · exact ⟨[], rfl, rfl, (eq_an_of _ _).trans h⟩
  · cases h

def anQ129 (N : Nat) : Nat -> Option Ann := fun b_ => none
theorem eqQ129 (N : Nat) (f_0 f_1 f_2 : Int) (c_ : V -> List Blk -> Bool) : bodyV ⟨Pg, ofList [], isref, N⟩ (anQ129 N) 190 (shFQ129.args [.int f_0, .int f_1, .int f_2]) [] c_ = GQ129 N f_0 f_1 f_2 (fun r0 => c_ (.int .u64 r0) []) := by kernel_rfl
theorem goodQ129 (N : Nat) : GoodF Pg 190 (FQ129 (GQ129 N)) := by
  refine good_fs (cx := ⟨Pg, ofList [], isref, N⟩) (ofList_nil _) shFQ129 (spQ129 (GQ129 N)) (anQ129 N) 0 0 (by kernel_rfl) (fun i_ hi_ => by omega) ?_
  intro a k h
  unfold spQ129 at h
  split at h
  · exact ⟨[], rfl, rfl, (eqQ129 _ _ _ _ _).trans h⟩
  · cases h

def anQ78 (N : Nat) : Nat -> Option Ann := fun b_ => none
theorem eqQ78 (N : Nat) (f_0 f_1 f_2 : Int) (c_ : V -> List Blk -> Bool) : bodyV ⟨Pg, ofList [], isref, N⟩ (anQ78 N) 209 (shFQ78.args [.int f_0, .int f_1, .int f_2]) [] c_ = GQ78 N f_0 f_1 f_2 (fun r0 => c_ (.int .u64 r0) []) := by kernel_rfl
theorem goodQ78 (N : Nat) : GoodF Pg 209 (FQ78 (GQ78 N)) := by
  refine good_fs (cx := ⟨Pg, ofList [], isref, N⟩) (ofList_nil _) shFQ78 (spQ78 (GQ78 N)) (anQ78 N) 0 0 (by kernel_rfl) (fun i_ hi_ => by omega) ?_
  intro a k h
  unfold spQ78 at h
  split at h
  · exact ⟨[], rfl, rfl, (eqQ78 _ _ _ _ _).trans h⟩
  · cases h

def anQ76 (N : Nat) (SQ129 : TSQ129) (SQ78 : TSQ78) : Nat -> Option Ann := fun b_ => none
theorem eqQ76 (N : Nat) (SQ129 : TSQ129) (SQ78 : TSQ78) (b f_0 f_1 f_2 : Int) (c_ : V -> List Blk -> Bool) : bodyV ⟨Pg, ofList [(190, (FQ129 SQ129)), (209, (FQ78 SQ78))], isref, N⟩ (anQ76 N SQ129 SQ78) 201 (shFQ76.args [.int b, .int f_0, .int f_1, .int f_2]) [] c_ = GQ76 N SQ129 SQ78 b f_0 f_1 f_2 (fun r0 => c_ (.bool r0) []) := by kernel_rfl
theorem goodQ76 (N : Nat) (SQ129 : TSQ129) (SQ78 : TSQ78) (hQ129 : GoodF Pg 190 (FQ129 SQ129)) (hQ78 : GoodF Pg 209 (FQ78 SQ78)) : GoodF Pg 201 (FQ76 (GQ76 N SQ129 SQ78)) := by
  refine good_fs (cx := ⟨Pg, ofList [(190, (FQ129 SQ129)), (209, (FQ78 SQ78))], isref, N⟩) (ofList_cons hQ129 (ofList_cons hQ78 (ofList_nil _))) shFQ76 (spQ76 (GQ76 N SQ129 SQ78)) (anQ76 N SQ129 SQ78) 0 0 (by kernel_rfl) (fun i_ hi_ => by omega) ?_
  intro a k h
  unfold spQ76 at h
  split at h
  · exact ⟨[], rfl, rfl, (eqQ76 _ _ _ _ _ _ _ _).trans h⟩
  · cases h

def anQ63 (N : Nat) : Nat -> Option Ann := fun b_ => none
theorem eqQ63 (N : Nat) (f_0 f_1 f_2 : Int) (c_ : V -> List Blk -> Bool) : bodyV ⟨Pg, ofList [], isref, N⟩ (anQ63 N) 179 (shFQ63.args [.int f_0, .int f_1, .int f_2]) [] c_ = GQ63 N f_0 f_1 f_2 (fun r0 => c_ (.int .u64 r0) []) := by kernel_rfl
theorem goodQ63 (N : Nat) : GoodF Pg 179 (FQ63 (GQ63 N)) := by
  refine good_fs (cx := ⟨Pg, ofList [], isref, N⟩) (ofList_nil _) shFQ63 (spQ63 (GQ63 N)) (anQ63 N) 0 0 (by kernel_rfl) (fun i_ hi_ => by omega) ?_
  intro a k h
  unfold spQ63 at h
  split at h
  · exact ⟨[], rfl, rfl, (eqQ63 _ _ _ _ _).trans h⟩
  · cases h

def anQ143 (N : Nat) (SQ78 : TSQ78) (SQ63 : TSQ63) : Nat -> Option Ann := fun b_ => none
theorem eqQ143 (N : Nat) (SQ78 : TSQ78) (SQ63 : TSQ63) (f_0 f_1 f_2 : Int) (c_ : V -> List Blk -> Bool) : bodyV ⟨Pg, ofList [(209, (FQ78 SQ78)), (179, (FQ63 SQ63))], isref, N⟩ (anQ143 N SQ78 SQ63) 202 (shFQ143.args [.int f_0, .int f_1, .int f_2]) [] c_ = GQ143 N SQ78 SQ63 f_0 f_1 f_2 (fun r0 => c_ (.int .u64 r0) []) := by kernel_rfl
theorem goodQ143 (N : Nat) (SQ78 : TSQ78) (SQ63 : TSQ63) (hQ78 : GoodF Pg 209 (FQ78 SQ78)) (hQ63 : GoodF Pg 179 (FQ63 SQ63)) : GoodF Pg 202 (FQ143 (GQ143 N SQ78 SQ63)) := by
  refine good_fs (cx := ⟨Pg, ofList [(209, (FQ78 SQ78)), (179, (FQ63 SQ63))], isref, N⟩) (ofList_cons hQ78 (ofList_cons hQ63 (ofList_nil _))) shFQ143 (spQ143 (GQ143 N SQ78 SQ63)) (anQ143 N SQ78 SQ63) 0 0 (by kernel_rfl) (fun i_ hi_ => by omega) ?_
  intro a k h
  unfold spQ143 at h
  split at h
  · exact ⟨[], rfl, rfl, (eqQ143 _ _ _ _ _ _ _).trans h⟩
  · cases h

def anQ66 (N : Nat) (SQ76 : TSQ76) (SQ143 : TSQ143) : Nat -> Option Ann := fun b_ => none
theorem eqQ66 (N : Nat) (SQ76 : TSQ76) (SQ143 : TSQ143) (b f_0 f_1 f_2 : Int) (c_ : V -> List Blk -> Bool) : bodyV ⟨Pg, ofList [(201, (FQ76 SQ76)), (202, (FQ143 SQ143))], isref, N⟩ (anQ66 N SQ76 SQ143) 189 (shFQ66.args [.int b, .int f_0, .int f_1, .int f_2]) [] c_ = GQ66 N SQ76 SQ143 b f_0 f_1 f_2 (fun r0 => c_ (.int .u64 r0) []) := by kernel_rfl
theorem goodQ66 (N : Nat) (SQ76 : TSQ76) (SQ143 : TSQ143) (hQ76 : GoodF Pg 201 (FQ76 SQ76)) (hQ143 : GoodF Pg 202 (FQ143 SQ143)) : GoodF Pg 189 (FQ66 (GQ66 N SQ76 SQ143)) := by
  refine good_fs (cx := ⟨Pg, ofList [(201, (FQ76 SQ76)), (202, (FQ143 SQ143))], isref, N⟩) (ofList_cons hQ76 (ofList_cons hQ143 (ofList_nil _))) shFQ66 (spQ66 (GQ66 N SQ76 SQ143)) (anQ66 N SQ76 SQ143) 0 0 (by kernel_rfl) (fun i_ hi_ => by omega) ?_
  intro a k h
  unfold spQ66 at h
  split at h
  · exact ⟨[], rfl, rfl, (eqQ66 _ _ _ _ _ _ _ _).trans h⟩
  · cases h

def anQ25 (N : Nat) (SQ66 : TSQ66) (SQ129 : TSQ129) (SQ63 : TSQ63) : Nat -> Option Ann := fun b_ => none
theorem eqQ25 (N : Nat) (SQ66 : TSQ66) (SQ129 : TSQ129) (SQ63 : TSQ63) (b f_0 f_1 f_2 : Int) (c_ : V -> List Blk -> Bool) : bodyV ⟨Pg, ofList [(189, (FQ66 SQ66)), (190, (FQ129 SQ129)), (179, (FQ63 SQ63))], isref, N⟩ (anQ25 N SQ66 SQ129 SQ63) 176 (shFQ25.args [.int b, .int f_0, .int f_1, .int f_2]) [] c_ = GQ25 N SQ66 SQ129 SQ63 b f_0 f_1 f_2 (fun r0 r1 r2 => c_ (.tup [.bool r0, .int .i64 r1, .int .u64 r2]) []) := by kernel_rfl
theorem goodQ25 (N : Nat) (SQ66 : TSQ66) (SQ129 : TSQ129) (SQ63 : TSQ63) (hQ66 : GoodF Pg 189 (FQ66 SQ66)) (hQ129 : GoodF Pg 190 (FQ129 SQ129)) (hQ63 : GoodF Pg 179 (FQ63 SQ63)) : GoodF Pg 176 (FQ25 (GQ25 N SQ66 SQ129 SQ63)) := by
  refine good_fs (cx := ⟨Pg, ofList [(189, (FQ66 SQ66)), (190, (FQ129 SQ129)), (179, (FQ63 SQ63))], isref, N⟩) (ofList_cons hQ66 (ofList_cons hQ129 (ofList_cons hQ63 (ofList_nil _)))) shFQ25 (spQ25 (GQ25 N SQ66 SQ129 SQ63)) (anQ25 N SQ66 SQ129 SQ63) 0 0 (by kernel_rfl) (fun i_ hi_ => by omega) ?_
  intro a k h
  unfold spQ25 at h
  split at h
  · exact ⟨[], rfl, rfl, (eqQ25 _ _ _ _ _ _ _ _ _).trans h⟩
  · cases h

def anQ24 (N : Nat) (SQ25 : TSQ25) : Nat -> Option Ann := fun b_ => none
theorem eqQ24 (N : Nat) (SQ25 : TSQ25) (b f_0 f_1 f_2 : Int) (c_ : V -> List Blk -> Bool) : bodyV ⟨Pg, ofList [(176, (FQ25 SQ25))], isref, N⟩ (anQ24 N SQ25) 154 (shFQ24.args [.int b, .int f_0, .int f_1, .int f_2]) [] c_ = GQ24 N SQ25 b f_0 f_1 f_2 (fun r0 => c_ (.int .i64 r0) []) := by kernel_rfl
theorem goodQ24 (N : Nat) (SQ25 : TSQ25) (hQ25 : GoodF Pg 176 (FQ25 SQ25)) : GoodF Pg 154 (FQ24 (GQ24 N SQ25)) := by
  refine good_fs (cx := ⟨Pg, ofList [(176, (FQ25 SQ25))], isref, N⟩) (ofList_cons hQ25 (ofList_nil _)) shFQ24 (spQ24 (GQ24 N SQ25)) (anQ24 N SQ25) 0 0 (by kernel_rfl) (fun i_ hi_ => by omega) ?_
  intro a k h
  unfold spQ24 at h
  split at h
  · exact ⟨[], rfl, rfl, (eqQ24 _ _ _ _ _ _ _).trans h⟩
  · cases h

def anQ136 (N : Nat) (SQ128 : TSQ128) (S_an_of : TS_an_of) (SQ24 : TSQ24) : Nat -> Option Ann := fun b_ => none
theorem eqQ136 (N : Nat) (SQ128 : TSQ128) (S_an_of : TS_an_of) (SQ24 : TSQ24) (x : Nat) (c_ : V -> List Blk -> Bool) : bodyV ⟨Pg, ofList [(95, (FQ128 SQ128)), (155, (F_an_of S_an_of)), (154, (FQ24 SQ24))], isref, N⟩ (anQ136 N SQ128 S_an_of SQ24) 126 (shFQ136.args [.nat x]) [] c_ = GQ136 N SQ128 S_an_of SQ24 x (fun r0 => c_ (.int .i64 r0) []) := by kernel_rfl
theorem goodQ136 (N : Nat) (SQ128 : TSQ128) (S_an_of : TS_an_of) (SQ24 : TSQ24) (hQ128 : GoodF Pg 95 (FQ128 SQ128)) (h_an_of : GoodF Pg 155 (F_an_of S_an_of)) (hQ24 : GoodF Pg 154 (FQ24 SQ24)) : GoodF Pg 126 (FQ136 (GQ136 N SQ128 S_an_of SQ24)) := by
  refine good_fs (cx := ⟨Pg, ofList [(95, (FQ128 SQ128)), (155, (F_an_of S_an_of)), (154, (FQ24 SQ24))], isref, N⟩) (ofList_cons hQ128 (ofList_cons h_an_of (ofList_cons hQ24 (ofList_nil _)))) shFQ136 (spQ136 (GQ136 N SQ128 S_an_of SQ24)) (anQ136 N SQ128 S_an_of SQ24) 0 0 (by kernel_rfl) (fun i_ hi_ => by omega) ?_
  intro a k h
  unfold spQ136 at h
  split at h
  · exact ⟨[], rfl, rfl, (eqQ136 _ _ _ _ _ _).trans h⟩
  · cases h


def anQ149 (N : Nat) (SQ128 : TSQ128) (SQ79 : TSQ79) : Nat -> Option Ann := fun b_ => none
theorem eqQ149 (N : Nat) (SQ128 : TSQ128) (SQ79 : TSQ79) (x : Nat) (c_ : V -> List Blk -> Bool) : bodyV ⟨Pg, ofList [(95, (FQ128 SQ128)), (82, (FQ79 SQ79))], isref, N⟩ (anQ149 N SQ128 SQ79) 47 (shFQ149.args [.nat x]) [] c_ = GQ149 N SQ128 SQ79 x (fun r0 => c_ (.flt r0) []) := by kernel_rfl
theorem goodQ149 (N : Nat) (SQ128 : TSQ128) (SQ79 : TSQ79) (hQ128 : GoodF Pg 95 (FQ128 SQ128)) (hQ79 : GoodF Pg 82 (FQ79 SQ79)) : GoodF Pg 47 (FQ149 (GQ149 N SQ128 SQ79)) := by
  refine good_fs (cx := ⟨Pg, ofList [(95, (FQ128 SQ128)), (82, (FQ79 SQ79))], isref, N⟩) (ofList_cons hQ128 (ofList_cons hQ79 (ofList_nil _))) shFQ149 (spQ149 (GQ149 N SQ128 SQ79)) (anQ149 N SQ128 SQ79) 0 0 (by kernel_rfl) (fun i_ hi_ => by omega) ?_
  intro a k h
  unfold spQ149 at h
  split at h
  · exact ⟨[], rfl, rfl, (eqQ149 _ _ _ _ _).trans h⟩
  · cases h

def sh_st_quat_finite_0 : StSh := ⟨(.rof :: (sqs 4 (.int .i64 :: (.int .i64 :: (sqs 13 []))))), []⟩
def sx0_st_quat_finite_0 : StSh := ⟨(.any :: (.any :: (.bool :: (sqs 17 [])))), []⟩
def sx1_st_quat_finite_0 : StSh := ⟨(sqs 20 []), []⟩
def hk_st_quat_finite_0 (N : Nat) : List Atom -> K -> Bool := fun a_ κ => match a_ with
  | [.fls l_1, .int t5, .int t6] => iterG N (st_quat_finite_0 N l_1 t5 (fun r0 => κ.ret (sx0_st_quat_finite_0.build [.bool r0])) (κ.ext 0 (sx1_st_quat_finite_0.build []))) t6
  | _ => false
def anQ29 (N : Nat) : Nat -> Option Ann := fun b_ => cond (b_ == 0) (some ⟨⟨[0, 5, 6], [], []⟩, [(0, ⟨[], [], []⟩)], some ⟨[2], [], []⟩, some (mkHooks [(sh_st_quat_finite_0, hk_st_quat_finite_0 N)])⟩) (none)
theorem eq_st_quat_finite_0 (N : Nat) (κ : K) (l_1 : List Fl) (t5 t6 : Int) : iter N (fun s k => codeV ⟨Pg, ofList [], isref, N⟩ 0 (anQ29 N) (lp Pg 48 0).2 (lp Pg 48 0).1 s (roundK Pg 0 ((anQ29 N) (lp Pg 48 0).1) κ k)) (sh_st_quat_finite_0.build [.fls l_1, .int t5, .int t6]) = iterG N (st_quat_finite_0 N l_1 t5 (fun r0 => κ.ret (sx0_st_quat_finite_0.build [.bool r0])) (κ.ext 0 (sx1_st_quat_finite_0.build []))) t6 :=
  iter_tr (fun v_ => sh_st_quat_finite_0.build [.fls l_1, .int t5, .int v_]) (fun v_ K_ => by kernel_rfl) N t6
theorem hk1_st_quat_finite_0 (N : Nat) : HookFor ⟨Pg, ofList [], isref, N⟩ 0 (anQ29 N) (lp Pg 48 0) (sh_st_quat_finite_0, hk_st_quat_finite_0 N) := by
  intro a κ h
  simp only at h
  unfold hk_st_quat_finite_0 at h
  split at h
  · exact (eq_st_quat_finite_0 _ _ _ _ _).trans h
  · cases h
theorem ho_quat_finite_0 (N : Nat) : HookOk ⟨Pg, ofList [], isref, N⟩ 0 (anQ29 N) (lp Pg 48 0) :=
  hooks_ok [(sh_st_quat_finite_0, hk_st_quat_finite_0 N)] (by kernel_rfl) ⟨hk1_st_quat_finite_0 _, trivial⟩
theorem eqQ29 (N : Nat) (l : List Fl) (c_ : V -> List Blk -> Bool) : bodyV ⟨Pg, ofList [], isref, N⟩ (anQ29 N) 48 (shFQ29.args [.fls l]) [] c_ = GQ29 N l (fun r0 => c_ (.bool r0) []) := by kernel_rfl
theorem goodQ29 (N : Nat) : GoodF Pg 48 (FQ29 (GQ29 N)) := by
  refine good_fs (cx := ⟨Pg, ofList [], isref, N⟩) (ofList_nil _) shFQ29 (spQ29 (GQ29 N)) (anQ29 N) 1 0 (by kernel_rfl) (fun i_ hi_ => by
    match i_, hi_ with
    | 0, _ => exact ho_quat_finite_0 _
    | (q + 1), h => omega) ?_
  intro a k h
  unfold spQ29 at h
  split at h
  · exact ⟨[], rfl, rfl, (eqQ29 _ _ _).trans h⟩
  · cases h

def anQ7 (N : Nat) (SQ29 : TSQ29) : Nat -> Option Ann := fun b_ => none
theorem eqQ7 (N : Nat) (SQ29 : TSQ29) (qs_0 qs_1 qs_2 qs_3 : Fl) (c_ : V -> List Blk -> Bool) : bodyV ⟨Pg, ofList [(48, (FQ29 SQ29))], isref, (N + 24)⟩ (anQ7 (N + 24) SQ29) 42 (shFQ7.args [.fl qs_0, .fl qs_1, .fl qs_2, .fl qs_3]) [] c_ = GQ7 (N + 24) SQ29 qs_0 qs_1 qs_2 qs_3 (fun r0 => c_ (.bool r0) []) := by kernel_rfl
theorem goodQ7 (N : Nat) (SQ29 : TSQ29) (hQ29 : GoodF Pg 48 (FQ29 SQ29)) : GoodF Pg 42 (FQ7 (GQ7 (N + 24) SQ29)) := by
  refine good_fs (cx := ⟨Pg, ofList [(48, (FQ29 SQ29))], isref, (N + 24)⟩) (ofList_cons hQ29 (ofList_nil _)) shFQ7 (spQ7 (GQ7 (N + 24) SQ29)) (anQ7 (N + 24) SQ29) 1 0 (by kernel_rfl) (fun i_ hi_ => by
    match i_, hi_ with
    | 0, _ => exact (fun hk e => by rw [show hookOf ((anQ7 (N + 24) SQ29) (lp Pg 42 0).1) = none from by kernel_rfl] at e; cases e)
    | (q + 1), h => omega) ?_
  intro a k h
  unfold spQ7 at h
  split at h
  · exact ⟨[], rfl, rfl, (eqQ7 _ _ _ _ _ _ _).trans h⟩
  · cases h

def anQ53 (N : Nat) : Nat -> Option Ann := fun b_ => none
theorem eqQ53 (N : Nat) (q_0 q_1 q_2 q_3 : Fl) (c_ : V -> List Blk -> Bool) : bodyV ⟨Pg, ofList [], isref, N⟩ (anQ53 N) 43 (shFQ53.args [.fl q_0, .fl q_1, .fl q_2, .fl q_3]) [] c_ = GQ53 N q_0 q_1 q_2 q_3 (c_ (.agg [.flt q_0, .flt q_1, .flt q_2, .flt q_3]) []) := by kernel_rfl
theorem goodQ53 (N : Nat) : GoodF Pg 43 (FQ53 (GQ53 N)) := by
  refine good_fs (cx := ⟨Pg, ofList [], isref, N⟩) (ofList_nil _) shFQ53 (spQ53 (GQ53 N)) (anQ53 N) 0 0 (by kernel_rfl) (fun i_ hi_ => by omega) ?_
  intro a k h
  unfold spQ53 at h
  split at h
  · exact ⟨[], rfl, rfl, (eqQ53 _ _ _ _ _ _).trans h⟩
  · cases h


def anQ108 (N : Nat) (S_m_Abs : TS_m_Abs) : Nat -> Option Ann := fun b_ => none
theorem eqQ108 (N : Nat) (S_m_Abs : TS_m_Abs) (f : Fl) (sign : Int) (c_ : V -> List Blk -> Bool) : bodyV ⟨Pg, ofList [(47, (F_m_Abs S_m_Abs))], isref, N⟩ (anQ108 N S_m_Abs) 110 (shFQ108.args [.fl f, .int sign]) [] c_ = GQ108 N S_m_Abs f sign (fun r0 => c_ (.bool r0) []) := by kernel_rfl
theorem goodQ108 (N : Nat) (S_m_Abs : TS_m_Abs) (h_m_Abs : GoodF Pg 47 (F_m_Abs S_m_Abs)) : GoodF Pg 110 (FQ108 (GQ108 N S_m_Abs)) := by
  refine good_fs (cx := ⟨Pg, ofList [(47, (F_m_Abs S_m_Abs))], isref, N⟩) (ofList_cons h_m_Abs (ofList_nil _)) shFQ108 (spQ108 (GQ108 N S_m_Abs)) (anQ108 N S_m_Abs) 0 0 (by kernel_rfl) (fun i_ hi_ => by omega) ?_
  intro a k h
  unfold spQ108 at h
  split at h
  · exact ⟨[], rfl, rfl, (eqQ108 _ _ _ _ _).trans h⟩
  · cases h

def anQ114 (N : Nat) : Nat -> Option Ann := fun b_ => none
theorem eqQ114 (N : Nat) (f : Fl) (c_ : V -> List Blk -> Bool) : bodyV ⟨Pg, ofList [], isref, N⟩ (anQ114 N) 111 (shFQ114.args [.fl f]) [] c_ = GQ114 N f (fun r0 => c_ (.bool r0) []) := by kernel_rfl
theorem goodQ114 (N : Nat) : GoodF Pg 111 (FQ114 (GQ114 N)) := by
  refine good_fs (cx := ⟨Pg, ofList [], isref, N⟩) (ofList_nil _) shFQ114 (spQ114 (GQ114 N)) (anQ114 N) 0 0 (by kernel_rfl) (fun i_ hi_ => by omega) ?_
  intro a k h
  unfold spQ114 at h
  split at h
  · exact ⟨[], rfl, rfl, (eqQ114 _ _ _).trans h⟩
  · cases h

def anQ59 (N : Nat) (S_m_Abs : TS_m_Abs) : Nat -> Option Ann := fun b_ => none
theorem eqQ59 (N : Nat) (S_m_Abs : TS_m_Abs) (x : Fl) (c_ : V -> List Blk -> Bool) : bodyV ⟨Pg, ofList [(47, (F_m_Abs S_m_Abs))], isref, N⟩ (anQ59 N S_m_Abs) 112 (shFQ59.args [.fl x]) [] c_ = GQ59 N S_m_Abs x (fun r0 r1 => c_ (.tup [.flt r0, .int .i64 r1]) []) := by kernel_rfl
theorem goodQ59 (N : Nat) (S_m_Abs : TS_m_Abs) (h_m_Abs : GoodF Pg 47 (F_m_Abs S_m_Abs)) : GoodF Pg 112 (FQ59 (GQ59 N S_m_Abs)) := by
  refine good_fs (cx := ⟨Pg, ofList [(47, (F_m_Abs S_m_Abs))], isref, N⟩) (ofList_cons h_m_Abs (ofList_nil _)) shFQ59 (spQ59 (GQ59 N S_m_Abs)) (anQ59 N S_m_Abs) 0 0 (by kernel_rfl) (fun i_ hi_ => by omega) ?_
  intro a k h
  unfold spQ59 at h
  split at h
  · exact ⟨[], rfl, rfl, (eqQ59 _ _ _ _).trans h⟩
  · cases h


def anQ145 (N : Nat) (SQ108 : TSQ108) (SQ114 : TSQ114) (SQ59 : TSQ59) (SQ102 : TSQ102) (SQ79 : TSQ79) : Nat -> Option Ann := fun b_ => none
theorem eqQ145 (N : Nat) (SQ108 : TSQ108) (SQ114 : TSQ114) (SQ59 : TSQ59) (SQ102 : TSQ102) (SQ79 : TSQ79) (f : Fl) (c_ : V -> List Blk -> Bool) : bodyV ⟨Pg, ofList [(110, (FQ108 SQ108)), (111, (FQ114 SQ114)), (112, (FQ59 SQ59)), (95, (FQ102 SQ102)), (82, (FQ79 SQ79))], isref, N⟩ (anQ145 N SQ108 SQ114 SQ59 SQ102 SQ79) 123 (shFQ145.args [.fl f]) [] c_ = GQ145 N SQ108 SQ114 SQ59 SQ102 SQ79 f (fun r0 r1 => c_ (.tup [.flt r0, .int .i64 r1]) []) := by kernel_rfl
theorem goodQ145 (N : Nat) (SQ108 : TSQ108) (SQ114 : TSQ114) (SQ59 : TSQ59) (SQ102 : TSQ102) (SQ79 : TSQ79) (hQ108 : GoodF Pg 110 (FQ108 SQ108)) (hQ114 : GoodF Pg 111 (FQ114 SQ114)) (hQ59 : GoodF Pg 112 (FQ59 SQ59)) (hQ102 : GoodF Pg 95 (FQ102 SQ102)) (hQ79 : GoodF Pg 82 (FQ79 SQ79)) : GoodF Pg 123 (FQ145 (GQ145 N SQ108 SQ114 SQ59 SQ102 SQ79)) := by
  refine good_fs (cx := ⟨Pg, ofList [(110, (FQ108 SQ108)), (111, (FQ114 SQ114)), (112, (FQ59 SQ59)), (95, (FQ102 SQ102)), (82, (FQ79 SQ79))], isref, N⟩) (ofList_cons hQ108 (ofList_cons hQ114 (ofList_cons hQ59 (ofList_cons hQ102 (ofList_cons hQ79 (ofList_nil _)))))) shFQ145 (spQ145 (GQ145 N SQ108 SQ114 SQ59 SQ102 SQ79)) (anQ145 N SQ108 SQ114 SQ59 SQ102 SQ79) 0 0 (by kernel_rfl) (fun i_ hi_ => by omega) ?_
  intro a k h
  unfold spQ145 at h
  split at h
  · exact ⟨[], rfl, rfl, (eqQ145 _ _ _ _ _ _ _ _).trans h⟩
  · cases h

def anQ138 (N : Nat) (SQ145 : TSQ145) : Nat -> Option Ann := fun b_ => none
theorem eqQ138 (N : Nat) (SQ145 : TSQ145) (f : Fl) (c_ : V -> List Blk -> Bool) : bodyV ⟨Pg, ofList [(123, (FQ145 SQ145))], isref, N⟩ (anQ138 N SQ145) 75 (shFQ138.args [.fl f]) [] c_ = GQ138 N SQ145 f (fun r0 r1 => c_ (.tup [.flt r0, .int .i64 r1]) []) := by kernel_rfl
theorem goodQ138 (N : Nat) (SQ145 : TSQ145) (hQ145 : GoodF Pg 123 (FQ145 SQ145)) : GoodF Pg 75 (FQ138 (GQ138 N SQ145)) := by
  refine good_fs (cx := ⟨Pg, ofList [(123, (FQ145 SQ145))], isref, N⟩) (ofList_cons hQ145 (ofList_nil _)) shFQ138 (spQ138 (GQ138 N SQ145)) (anQ138 N SQ145) 0 0 (by kernel_rfl) (fun i_ hi_ => by omega) ?_
  intro a k h
  unfold spQ138 at h
  split at h
  · exact ⟨[], rfl, rfl, (eqQ138 _ _ _ _).trans h⟩
  · cases h

def anQ87 (N : Nat) (SQ102 : TSQ102) (SQ79 : TSQ79) : Nat -> Option Ann := fun b_ => none
theorem eqQ87 (N : Nat) (SQ102 : TSQ102) (SQ79 : TSQ79) (f sign : Fl) (c_ : V -> List Blk -> Bool) : bodyV ⟨Pg, ofList [(95, (FQ102 SQ102)), (82, (FQ79 SQ79))], isref, N⟩ (anQ87 N SQ102 SQ79) 113 (shFQ87.args [.fl f, .fl sign]) [] c_ = GQ87 N SQ102 SQ79 f sign (fun r0 => c_ (.flt r0) []) := by kernel_rfl
theorem goodQ87 (N : Nat) (SQ102 : TSQ102) (SQ79 : TSQ79) (hQ102 : GoodF Pg 95 (FQ102 SQ102)) (hQ79 : GoodF Pg 82 (FQ79 SQ79)) : GoodF Pg 113 (FQ87 (GQ87 N SQ102 SQ79)) := by
  refine good_fs (cx := ⟨Pg, ofList [(95, (FQ102 SQ102)), (82, (FQ79 SQ79))], isref, N⟩) (ofList_cons hQ102 (ofList_cons hQ79 (ofList_nil _))) shFQ87 (spQ87 (GQ87 N SQ102 SQ79)) (anQ87 N SQ102 SQ79) 0 0 (by kernel_rfl) (fun i_ hi_ => by omega) ?_
  intro a k h
  unfold spQ87 at h
  split at h
  · exact ⟨[], rfl, rfl, (eqQ87 _ _ _ _ _ _).trans h⟩
  · cases h

def an_m_Inf (N : Nat) (SQ79 : TSQ79) : Nat -> Option Ann := fun b_ => none
def ls_m_Inf_0 (d_ : List V) (u_ : List (Option Blk)) (sign v : Int) : St := ⟨(dqs d_ 0 3 (.int .u64 v :: (dqs d_ 3 4 []))), []⟩
theorem jn_m_Inf_0 (N : Nat) (SQ79 : TSQ79) (d_ : List V) (u_ : List (Option Blk)) (sign v : Int) (c_ : V -> List Blk -> Bool) : codesV ⟨Pg, ofList [(82, (FQ79 SQ79))], isref, N⟩ 0 (an_m_Inf N SQ79) ((cds Pg 114).drop 4) 0 (ls_m_Inf_0 d_ u_ sign v) (finV Pg 114 0 c_) = J_m_Inf_0 N SQ79 sign v (fun r0 => c_ (.flt r0) []) := by kernel_rfl
theorem hd_m_Inf_w (N : Nat) (SQ79 : TSQ79) (sign : Int) (c_ : V -> List Blk -> Bool) (κn_ : St -> Bool) : codesV ⟨Pg, ofList [(82, (FQ79 SQ79))], isref, N⟩ 0 (an_m_Inf N SQ79) (sg Pg 114 0 4) 0 (st0 Pg 114 (shF_m_Inf.args [.int sign]) []) { (finV Pg 114 0 c_) with nrm := κn_ } = (cond (decide (sign >= 0)) (κn_ (ls_m_Inf_0 [.int .i64 sign, .any, .flt (some 0), .int .i64 sign, .bool true, .any, .any] [] sign 9218868437227405312)) (κn_ (ls_m_Inf_0 [.int .i64 sign, .any, .flt (some 0), .int .i64 sign, .bool false, .any, .any] [] sign 18442240474082181120))) := by kernel_rfl
theorem jn_m_Inf_w (N : Nat) (SQ79 : TSQ79) (sign : Int) (c_ : V -> List Blk -> Bool) : codesV ⟨Pg, ofList [(82, (FQ79 SQ79))], isref, N⟩ 0 (an_m_Inf N SQ79) ((cds Pg 114).drop 0) 0 (st0 Pg 114 (shF_m_Inf.args [.int sign]) []) (finV Pg 114 0 c_) = G_m_Inf N SQ79 sign (fun r0 => c_ (.flt r0) []) := by
  rw [codesV_cut 0 4 4 rfl]
  refine (hd_m_Inf_w N SQ79 sign c_ _).trans ?_
  simp only [jn_m_Inf_0]
  kernel_rfl
theorem eq_m_Inf (N : Nat) (SQ79 : TSQ79) (sign : Int) (c_ : V -> List Blk -> Bool) : bodyV ⟨Pg, ofList [(82, (FQ79 SQ79))], isref, N⟩ (an_m_Inf N SQ79) 114 (shF_m_Inf.args [.int sign]) [] c_ = G_m_Inf N SQ79 sign (fun r0 => c_ (.flt r0) []) :=
  (bodyV_codes (by kernel_rfl)).trans (jn_m_Inf_w N SQ79 sign c_)
theorem good_m_Inf (N : Nat) (SQ79 : TSQ79) (hQ79 : GoodF Pg 82 (FQ79 SQ79)) : GoodF Pg 114 (F_m_Inf (G_m_Inf N SQ79)) := by
  refine good_fs (cx := ⟨Pg, ofList [(82, (FQ79 SQ79))], isref, N⟩) (ofList_cons hQ79 (ofList_nil _)) shF_m_Inf (sp_m_Inf (G_m_Inf N SQ79)) (an_m_Inf N SQ79) 0 0 (by kernel_rfl) (fun i_ hi_ => by omega) ?_
  intro a k h
  unfold sp_m_Inf at h
  split at h
  · exact ⟨[], rfl, rfl, (eq_m_Inf _ _ _ _).trans h⟩
  · cases h

def anQ140 (N : Nat) (SQ108 : TSQ108) (SQ114 : TSQ114) (SQ59 : TSQ59) (SQ102 : TSQ102) (SQ87 : TSQ87) (S_m_Inf : TS_m_Inf) (SQ79 : TSQ79) : Nat -> Option Ann := fun b_ => none
def lsQ165 (d_ : List V) (u_ : List (Option Blk)) (frac : Fl) (exp exp_1 x : Int) (m : Fl) : St := ⟨((dq d_ 0) :: (.int .i64 exp_1 :: (dqs d_ 1 4 (.int .u64 x :: (.flt m :: (dqs d_ 5 55 [])))))), []⟩
theorem jnQ165 (N : Nat) (SQ108 : TSQ108) (SQ114 : TSQ114) (SQ59 : TSQ59) (SQ102 : TSQ102) (SQ87 : TSQ87) (S_m_Inf : TS_m_Inf) (SQ79 : TSQ79) (d_ : List V) (u_ : List (Option Blk)) (frac : Fl) (exp exp_1 x : Int) (m : Fl) (c_ : V -> List Blk -> Bool) : codesV ⟨Pg, ofList [(110, (FQ108 SQ108)), (111, (FQ114 SQ114)), (112, (FQ59 SQ59)), (95, (FQ102 SQ102)), (113, (FQ87 SQ87)), (114, (F_m_Inf S_m_Inf)), (82, (FQ79 SQ79))], isref, N⟩ 0 (anQ140 N SQ108 SQ114 SQ59 SQ102 SQ87 S_m_Inf SQ79) ((cds Pg 64).drop 13) 0 (lsQ165 d_ u_ frac exp exp_1 x m) (finV Pg 64 0 c_) = JQ165 N SQ108 SQ114 SQ59 SQ102 SQ87 S_m_Inf SQ79 frac exp exp_1 x m (fun r0 => c_ (.flt r0) []) := by kernel_rfl
theorem hd_m_ldexp_w (N : Nat) (SQ108 : TSQ108) (SQ114 : TSQ114) (SQ59 : TSQ59) (SQ102 : TSQ102) (SQ87 : TSQ87) (S_m_Inf : TS_m_Inf) (SQ79 : TSQ79) (frac : Fl) (exp : Int) (c_ : V -> List Blk -> Bool) (κn_ : St -> Bool) : codesV ⟨Pg, ofList [(110, (FQ108 SQ108)), (111, (FQ114 SQ114)), (112, (FQ59 SQ59)), (95, (FQ102 SQ102)), (113, (FQ87 SQ87)), (114, (F_m_Inf S_m_Inf)), (82, (FQ79 SQ79))], isref, N⟩ 0 (anQ140 N SQ108 SQ114 SQ59 SQ102 SQ87 S_m_Inf SQ79) (sg Pg 64 0 13) 0 (st0 Pg 64 (shFQ140.args [.fl frac, .int exp]) []) { (finV Pg 64 0 c_) with nrm := κn_ } = (cond (feq frac (some 0)) (c_ (.flt frac) []) (SQ108 frac 0 (fun cr => (cond (cr == false) (SQ114 frac (fun cr_1 => (cond cr_1 (c_ (.flt frac) []) (SQ59 frac (fun xr nr => ((fits .i64 (exp + nr)) && (SQ102 xr (fun nr_1 => ((fits .i64 (Int.fdiv nr_1 (2 ^ 52))) && ((fits .i64 ((bitsN .and .i64 (Int.fdiv nr_1 (2 ^ 52)) 2047) - 1023)) && ((fits .i64 ((exp + nr) + ((bitsN .and .i64 (Int.fdiv nr_1 (2 ^ 52)) 2047) - 1023))) && (cond (decide (((exp + nr) + ((bitsN .and .i64 (Int.fdiv nr_1 (2 ^ 52)) 2047) - 1023)) < (-1075))) (SQ87 (some 0) xr (fun xr_1 => (c_ (.flt xr_1) []))) (cond (decide (((exp + nr) + ((bitsN .and .i64 (Int.fdiv nr_1 (2 ^ 52)) 2047) - 1023)) > 1023)) (cond (flt xr (some 0)) (S_m_Inf (-1) (fun xr_2 => (c_ (.flt xr_2) []))) (S_m_Inf 1 (fun xr_3 => (c_ (.flt xr_3) [])))) (cond (decide (((exp + nr) + ((bitsN .and .i64 (Int.fdiv nr_1 (2 ^ 52)) 2047) - 1023)) < (-1022))) ((fits .i64 (((exp + nr) + ((bitsN .and .i64 (Int.fdiv nr_1 (2 ^ 52)) 2047) - 1023)) + 53)) && (κn_ (lsQ165 [.flt xr, .any, .any, .flt (some 0), .int .i64 nr, .bool false, .flt frac, .bool (feq frac (some 0)), .any, .bool false, .flt frac, .bool cr, .bool false, .flt frac, .bool cr_1, .bool cr_1, .any, .tup [.flt xr, .int .i64 nr], .flt frac, .tup [.flt xr, .int .i64 nr], .flt xr, .int .i64 nr, .int .i64 exp, .int .i64 nr, .int .i64 (exp + nr), .flt xr, .int .u64 nr_1, .int .i64 (exp + nr), .int .u64 nr_1, .int .u64 (Int.fdiv nr_1 (2 ^ 52)), .int .i64 (Int.fdiv nr_1 (2 ^ 52)), .int .i64 (bitsN .and .i64 (Int.fdiv nr_1 (2 ^ 52)) 2047), .int .i64 ((bitsN .and .i64 (Int.fdiv nr_1 (2 ^ 52)) 2047) - 1023), .int .i64 ((exp + nr) + ((bitsN .and .i64 (Int.fdiv nr_1 (2 ^ 52)) 2047) - 1023)), .int .i64 ((exp + nr) + ((bitsN .and .i64 (Int.fdiv nr_1 (2 ^ 52)) 2047) - 1023)), .bool false, .any, .any, .int .i64 ((exp + nr) + ((bitsN .and .i64 (Int.fdiv nr_1 (2 ^ 52)) 2047) - 1023)), .bool false, .any, .any, .any, .any, .int .i64 ((exp + nr) + ((bitsN .and .i64 (Int.fdiv nr_1 (2 ^ 52)) 2047) - 1023)), .bool true, .int .i64 ((exp + nr) + ((bitsN .and .i64 (Int.fdiv nr_1 (2 ^ 52)) 2047) - 1023)), .int .i64 (((exp + nr) + ((bitsN .and .i64 (Int.fdiv nr_1 (2 ^ 52)) 2047) - 1023)) + 53), .any, .any, .any, .any, .any, .any, .any, .any, .any, .any, .any, .any] [] frac exp (((exp + nr) + ((bitsN .and .i64 (Int.fdiv nr_1 (2 ^ 52)) 2047) - 1023)) + 53) nr_1 (some 4368491638549381120)))) (κn_ (lsQ165 [.flt xr, .any, .any, .flt (some 0), .int .i64 nr, .bool false, .flt frac, .bool (feq frac (some 0)), .any, .bool false, .flt frac, .bool cr, .bool false, .flt frac, .bool cr_1, .bool cr_1, .any, .tup [.flt xr, .int .i64 nr], .flt frac, .tup [.flt xr, .int .i64 nr], .flt xr, .int .i64 nr, .int .i64 exp, .int .i64 nr, .int .i64 (exp + nr), .flt xr, .int .u64 nr_1, .int .i64 (exp + nr), .int .u64 nr_1, .int .u64 (Int.fdiv nr_1 (2 ^ 52)), .int .i64 (Int.fdiv nr_1 (2 ^ 52)), .int .i64 (bitsN .and .i64 (Int.fdiv nr_1 (2 ^ 52)) 2047), .int .i64 ((bitsN .and .i64 (Int.fdiv nr_1 (2 ^ 52)) 2047) - 1023), .int .i64 ((exp + nr) + ((bitsN .and .i64 (Int.fdiv nr_1 (2 ^ 52)) 2047) - 1023)), .int .i64 ((exp + nr) + ((bitsN .and .i64 (Int.fdiv nr_1 (2 ^ 52)) 2047) - 1023)), .bool false, .any, .any, .int .i64 ((exp + nr) + ((bitsN .and .i64 (Int.fdiv nr_1 (2 ^ 52)) 2047) - 1023)), .bool false, .any, .any, .any, .any, .int .i64 ((exp + nr) + ((bitsN .and .i64 (Int.fdiv nr_1 (2 ^ 52)) 2047) - 1023)), .bool false, .any, .any, .any, .any, .any, .any, .any, .any, .any, .any, .any, .any, .any, .any] [] frac exp ((exp + nr) + ((bitsN .and .i64 (Int.fdiv nr_1 (2 ^ 52)) 2047) - 1023)) nr_1 (some 4607182418800017408))))))))))))))))) (c_ (.flt frac) []))))) := by kernel_rfl
theorem jn_m_ldexp_w (N : Nat) (SQ108 : TSQ108) (SQ114 : TSQ114) (SQ59 : TSQ59) (SQ102 : TSQ102) (SQ87 : TSQ87) (S_m_Inf : TS_m_Inf) (SQ79 : TSQ79) (frac : Fl) (exp : Int) (c_ : V -> List Blk -> Bool) : codesV ⟨Pg, ofList [(110, (FQ108 SQ108)), (111, (FQ114 SQ114)), (112, (FQ59 SQ59)), (95, (FQ102 SQ102)), (113, (FQ87 SQ87)), (114, (F_m_Inf S_m_Inf)), (82, (FQ79 SQ79))], isref, N⟩ 0 (anQ140 N SQ108 SQ114 SQ59 SQ102 SQ87 S_m_Inf SQ79) ((cds Pg 64).drop 0) 0 (st0 Pg 64 (shFQ140.args [.fl frac, .int exp]) []) (finV Pg 64 0 c_) = GQ140 N SQ108 SQ114 SQ59 SQ102 SQ87 S_m_Inf SQ79 frac exp (fun r0 => c_ (.flt r0) []) := by
  rw [codesV_cut 0 13 13 rfl]
  refine (hd_m_ldexp_w N SQ108 SQ114 SQ59 SQ102 SQ87 S_m_Inf SQ79 frac exp c_ _).trans ?_
  simp only [jnQ165]
  kernel_rfl
theorem eqQ140 (N : Nat) (SQ108 : TSQ108) (SQ114 : TSQ114) (SQ59 : TSQ59) (SQ102 : TSQ102) (SQ87 : TSQ87) (S_m_Inf : TS_m_Inf) (SQ79 : TSQ79) (frac : Fl) (exp : Int) (c_ : V -> List Blk -> Bool) : bodyV ⟨Pg, ofList [(110, (FQ108 SQ108)), (111, (FQ114 SQ114)), (112, (FQ59 SQ59)), (95, (FQ102 SQ102)), (113, (FQ87 SQ87)), (114, (F_m_Inf S_m_Inf)), (82, (FQ79 SQ79))], isref, N⟩ (anQ140 N SQ108 SQ114 SQ59 SQ102 SQ87 S_m_Inf SQ79) 64 (shFQ140.args [.fl frac, .int exp]) [] c_ = GQ140 N SQ108 SQ114 SQ59 SQ102 SQ87 S_m_Inf SQ79 frac exp (fun r0 => c_ (.flt r0) []) :=
  (bodyV_codes (by kernel_rfl)).trans (jn_m_ldexp_w N SQ108 SQ114 SQ59 SQ102 SQ87 S_m_Inf SQ79 frac exp c_)
theorem goodQ140 (N : Nat) (SQ108 : TSQ108) (SQ114 : TSQ114) (SQ59 : TSQ59) (SQ102 : TSQ102) (SQ87 : TSQ87) (S_m_Inf : TS_m_Inf) (SQ79 : TSQ79) (hQ108 : GoodF Pg 110 (FQ108 SQ108)) (hQ114 : GoodF Pg 111 (FQ114 SQ114)) (hQ59 : GoodF Pg 112 (FQ59 SQ59)) (hQ102 : GoodF Pg 95 (FQ102 SQ102)) (hQ87 : GoodF Pg 113 (FQ87 SQ87)) (h_m_Inf : GoodF Pg 114 (F_m_Inf S_m_Inf)) (hQ79 : GoodF Pg 82 (FQ79 SQ79)) : GoodF Pg 64 (FQ140 (GQ140 N SQ108 SQ114 SQ59 SQ102 SQ87 S_m_Inf SQ79)) := by
  refine good_fs (cx := ⟨Pg, ofList [(110, (FQ108 SQ108)), (111, (FQ114 SQ114)), (112, (FQ59 SQ59)), (95, (FQ102 SQ102)), (113, (FQ87 SQ87)), (114, (F_m_Inf S_m_Inf)), (82, (FQ79 SQ79))], isref, N⟩) (ofList_cons hQ108 (ofList_cons hQ114 (ofList_cons hQ59 (ofList_cons hQ102 (ofList_cons hQ87 (ofList_cons h_m_Inf (ofList_cons hQ79 (ofList_nil _)))))))) shFQ140 (spQ140 (GQ140 N SQ108 SQ114 SQ59 SQ102 SQ87 S_m_Inf SQ79)) (anQ140 N SQ108 SQ114 SQ59 SQ102 SQ87 S_m_Inf SQ79) 0 0 (by kernel_rfl) (fun i_ hi_ => by omega) ?_
  intro a k h
  unfold spQ140 at h
  split at h
  · exact ⟨[], rfl, rfl, (eqQ140 _ _ _ _ _ _ _ _ _ _ _).trans h⟩
  · cases h

def anQ109 (N : Nat) (SQ140 : TSQ140) : Nat -> Option Ann := fun b_ => none
theorem eqQ109 (N : Nat) (SQ140 : TSQ140) (frac : Fl) (exp : Int) (c_ : V -> List Blk -> Bool) : bodyV ⟨Pg, ofList [(64, (FQ140 SQ140))], isref, N⟩ (anQ109 N SQ140) 26 (shFQ109.args [.fl frac, .int exp]) [] c_ = GQ109 N SQ140 frac exp (fun r0 => c_ (.flt r0) []) := by kernel_rfl
theorem goodQ109 (N : Nat) (SQ140 : TSQ140) (hQ140 : GoodF Pg 64 (FQ140 SQ140)) : GoodF Pg 26 (FQ109 (GQ109 N SQ140)) := by
  refine good_fs (cx := ⟨Pg, ofList [(64, (FQ140 SQ140))], isref, N⟩) (ofList_cons hQ140 (ofList_nil _)) shFQ109 (spQ109 (GQ109 N SQ140)) (anQ109 N SQ140) 0 0 (by kernel_rfl) (fun i_ hi_ => by omega) ?_
  intro a k h
  unfold spQ109 at h
  split at h
  · exact ⟨[], rfl, rfl, (eqQ109 _ _ _ _ _).trans h⟩
  · cases h


def anQ148 (N : Nat) (SQ155 : TSQ155) : Nat -> Option Ann := fun b_ => none
theorem eqQ148 (N : Nat) (SQ155 : TSQ155) (x : Fl) (c_ : V -> List Blk -> Bool) : bodyV ⟨Pg, ofList [(124, (FQ155 SQ155))], isref, N⟩ (anQ148 N SQ155) 76 (shFQ148.args [.fl x]) [] c_ = GQ148 N SQ155 x (fun r0 => c_ (.flt r0) []) := by kernel_rfl
theorem goodQ148 (N : Nat) (SQ155 : TSQ155) (hQ155 : GoodF Pg 124 (FQ155 SQ155)) : GoodF Pg 76 (FQ148 (GQ148 N SQ155)) := by
  refine good_fs (cx := ⟨Pg, ofList [(124, (FQ155 SQ155))], isref, N⟩) (ofList_cons hQ155 (ofList_nil _)) shFQ148 (spQ148 (GQ148 N SQ155)) (anQ148 N SQ155) 0 0 (by kernel_rfl) (fun i_ hi_ => by omega) ?_
  intro a k h
  unfold spQ148 at h
  split at h
  · exact ⟨[], rfl, rfl, (eqQ148 _ _ _ _).trans h⟩
  · cases h

def anQ124 (N : Nat) : Nat -> Option Ann := fun b_ => none
theorem eqQ124 (N : Nat) (l_0 l_1 l_2 l_3 : Fl) (c_ : V -> List Blk -> Bool) : bodyV ⟨Pg, ofList [], isref, N⟩ (anQ124 N) 77 (shFQ124.args [.fl l_0, .fl l_1, .fl l_2, .fl l_3]) [] c_ = GQ124 N l_0 l_1 l_2 l_3 (c_ (.agg [.flt l_0, .flt l_1, .flt l_2, .flt l_3]) []) := by kernel_rfl
theorem goodQ124 (N : Nat) : GoodF Pg 77 (FQ124 (GQ124 N)) := by
  refine good_fs (cx := ⟨Pg, ofList [], isref, N⟩) (ofList_nil _) shFQ124 (spQ124 (GQ124 N)) (anQ124 N) 0 0 (by kernel_rfl) (fun i_ hi_ => by omega) ?_
  intro a k h
  unfold spQ124 at h
  split at h
  · exact ⟨[], rfl, rfl, (eqQ124 _ _ _ _ _ _).trans h⟩
  · cases h

def anQ85 (N : Nat) (SQ7 : TSQ7) (SQ53 : TSQ53) (S_m_Abs : TS_m_Abs) (SQ138 : TSQ138) (SQ109 : TSQ109) (SQ148 : TSQ148) (SQ124 : TSQ124) : Nat -> Option Ann := fun b_ => none
theorem eqQ85 (N : Nat) (SQ7 : TSQ7) (SQ53 : TSQ53) (S_m_Abs : TS_m_Abs) (SQ138 : TSQ138) (SQ109 : TSQ109) (SQ148 : TSQ148) (SQ124 : TSQ124) (q_0 q_1 q_2 q_3 : Fl) (c_ : V -> List Blk -> Bool) : bodyV ⟨Pg, ofList [(42, (FQ7 SQ7)), (43, (FQ53 SQ53)), (47, (F_m_Abs S_m_Abs)), (75, (FQ138 SQ138)), (26, (FQ109 SQ109)), (76, (FQ148 SQ148)), (77, (FQ124 SQ124))], isref, (N + 24)⟩ (anQ85 (N + 24) SQ7 SQ53 S_m_Abs SQ138 SQ109 SQ148 SQ124) 35 (shFQ85.args [.fl q_0, .fl q_1, .fl q_2, .fl q_3]) [] c_ = GQ85 (N + 24) SQ7 SQ53 S_m_Abs SQ138 SQ109 SQ148 SQ124 q_0 q_1 q_2 q_3 (fun r0 r1 r2 r3 r4 => c_ (.tup [.agg [.flt r0, .flt r1, .flt r2, .flt r3], .int .i64 r4]) []) := by kernel_rfl
theorem goodQ85 (N : Nat) (SQ7 : TSQ7) (SQ53 : TSQ53) (S_m_Abs : TS_m_Abs) (SQ138 : TSQ138) (SQ109 : TSQ109) (SQ148 : TSQ148) (SQ124 : TSQ124) (hQ7 : GoodF Pg 42 (FQ7 SQ7)) (hQ53 : GoodF Pg 43 (FQ53 SQ53)) (h_m_Abs : GoodF Pg 47 (F_m_Abs S_m_Abs)) (hQ138 : GoodF Pg 75 (FQ138 SQ138)) (hQ109 : GoodF Pg 26 (FQ109 SQ109)) (hQ148 : GoodF Pg 76 (FQ148 SQ148)) (hQ124 : GoodF Pg 77 (FQ124 SQ124)) : GoodF Pg 35 (FQ85 (GQ85 (N + 24) SQ7 SQ53 S_m_Abs SQ138 SQ109 SQ148 SQ124)) := by
  refine good_fs (cx := ⟨Pg, ofList [(42, (FQ7 SQ7)), (43, (FQ53 SQ53)), (47, (F_m_Abs S_m_Abs)), (75, (FQ138 SQ138)), (26, (FQ109 SQ109)), (76, (FQ148 SQ148)), (77, (FQ124 SQ124))], isref, (N + 24)⟩) (ofList_cons hQ7 (ofList_cons hQ53 (ofList_cons h_m_Abs (ofList_cons hQ138 (ofList_cons hQ109 (ofList_cons hQ148 (ofList_cons hQ124 (ofList_nil _)))))))) shFQ85 (spQ85 (GQ85 (N + 24) SQ7 SQ53 S_m_Abs SQ138 SQ109 SQ148 SQ124)) (anQ85 (N + 24) SQ7 SQ53 S_m_Abs SQ138 SQ109 SQ148 SQ124) 3 0 (by kernel_rfl) (fun i_ hi_ => by
    match i_, hi_ with
    | 0, _ => exact (fun hk e => by rw [show hookOf ((anQ85 (N + 24) SQ7 SQ53 S_m_Abs SQ138 SQ109 SQ148 SQ124) (lp Pg 35 0).1) = none from by kernel_rfl] at e; cases e)
    | 1, _ => exact (fun hk e => by rw [show hookOf ((anQ85 (N + 24) SQ7 SQ53 S_m_Abs SQ138 SQ109 SQ148 SQ124) (lp Pg 35 1).1) = none from by kernel_rfl] at e; cases e)
    | 2, _ => exact (fun hk e => by rw [show hookOf ((anQ85 (N + 24) SQ7 SQ53 S_m_Abs SQ138 SQ109 SQ148 SQ124) (lp Pg 35 2).1) = none from by kernel_rfl] at e; cases e)
    | (q + 3), h => omega) ?_
  intro a k h
  unfold spQ85 at h
  split at h
  · exact ⟨[], rfl, rfl, (eqQ85 _ _ _ _ _ _ _ _ _ _ _ _ _).trans h⟩
  · cases h

def anQ115 (N : Nat) : Nat -> Option Ann := fun b_ => none
theorem eqQ115 (N : Nat) (a_0 a_1 a_2 b_0 b_1 b_2 : Fl) (c_ : V -> List Blk -> Bool) : bodyV ⟨Pg, ofList [], isref, N⟩ (anQ115 N) 49 (shFQ115.args [.fl a_0, .fl a_1, .fl a_2, .fl b_0, .fl b_1, .fl b_2]) [] c_ = GQ115 N a_0 a_1 a_2 b_0 b_1 b_2 (fun r0 r1 r2 => c_ (.agg [.flt r0, .flt r1, .flt r2]) []) := by kernel_rfl
theorem goodQ115 (N : Nat) : GoodF Pg 49 (FQ115 (GQ115 N)) := by
  refine good_fs (cx := ⟨Pg, ofList [], isref, N⟩) (ofList_nil _) shFQ115 (spQ115 (GQ115 N)) (anQ115 N) 0 0 (by kernel_rfl) (fun i_ hi_ => by omega) ?_
  intro a k h
  unfold spQ115 at h
  split at h
  · exact ⟨[], rfl, rfl, (eqQ115 _ _ _ _ _ _ _ _).trans h⟩
  · cases h

def anQ133 (N : Nat) (SQ29 : TSQ29) : Nat -> Option Ann := fun b_ => none
theorem eqQ133 (N : Nat) (SQ29 : TSQ29) (v_0 v_1 v_2 : Fl) (c_ : V -> List Blk -> Bool) : bodyV ⟨Pg, ofList [(48, (FQ29 SQ29))], isref, N⟩ (anQ133 N SQ29) 50 (shFQ133.args [.fl v_0, .fl v_1, .fl v_2]) [] c_ = GQ133 N SQ29 v_0 v_1 v_2 (fun r0 r1 r2 r3 => c_ (.tup [.agg [.flt r0, .flt r1, .flt r2], .int .i64 r3]) []) := by kernel_rfl
theorem goodQ133 (N : Nat) (SQ29 : TSQ29) (hQ29 : GoodF Pg 48 (FQ29 SQ29)) : GoodF Pg 50 (FQ133 (GQ133 N SQ29)) := by
  refine good_fs (cx := ⟨Pg, ofList [(48, (FQ29 SQ29))], isref, N⟩) (ofList_cons hQ29 (ofList_nil _)) shFQ133 (spQ133 (GQ133 N SQ29)) (anQ133 N SQ29) 0 0 (by kernel_rfl) (fun i_ hi_ => by omega) ?_
  intro a k h
  unfold spQ133 at h
  split at h
  · exact ⟨[], rfl, rfl, (eqQ133 _ _ _ _ _ _).trans h⟩
  · cases h

def anQ77 (N : Nat) (SQ7 : TSQ7) (SQ29 : TSQ29) (SQ115 : TSQ115) (SQ133 : TSQ133) : Nat -> Option Ann := fun b_ => none
theorem eqQ77 (N : Nat) (SQ7 : TSQ7) (SQ29 : TSQ29) (SQ115 : TSQ115) (SQ133 : TSQ133) (q_0 q_1 q_2 q_3 v_0 v_1 v_2 : Fl) (c_ : V -> List Blk -> Bool) : bodyV ⟨Pg, ofList [(42, (FQ7 SQ7)), (48, (FQ29 SQ29)), (49, (FQ115 SQ115)), (50, (FQ133 SQ133))], isref, (N + 24)⟩ (anQ77 (N + 24) SQ7 SQ29 SQ115 SQ133) 13 (shFQ77.args [.fl q_0, .fl q_1, .fl q_2, .fl q_3, .fl v_0, .fl v_1, .fl v_2]) [] c_ = GQ77 (N + 24) SQ7 SQ29 SQ115 SQ133 q_0 q_1 q_2 q_3 v_0 v_1 v_2 (fun r0 r1 r2 r3 => c_ (.tup [.agg [.flt r0, .flt r1, .flt r2], .int .i64 r3]) []) := by kernel_rfl
theorem goodQ77 (N : Nat) (SQ7 : TSQ7) (SQ29 : TSQ29) (SQ115 : TSQ115) (SQ133 : TSQ133) (hQ7 : GoodF Pg 42 (FQ7 SQ7)) (hQ29 : GoodF Pg 48 (FQ29 SQ29)) (hQ115 : GoodF Pg 49 (FQ115 SQ115)) (hQ133 : GoodF Pg 50 (FQ133 SQ133)) : GoodF Pg 13 (FQ77 (GQ77 (N + 24) SQ7 SQ29 SQ115 SQ133)) := by
  refine good_fs (cx := ⟨Pg, ofList [(42, (FQ7 SQ7)), (48, (FQ29 SQ29)), (49, (FQ115 SQ115)), (50, (FQ133 SQ133))], isref, (N + 24)⟩) (ofList_cons hQ7 (ofList_cons hQ29 (ofList_cons hQ115 (ofList_cons hQ133 (ofList_nil _))))) shFQ77 (spQ77 (GQ77 (N + 24) SQ7 SQ29 SQ115 SQ133)) (anQ77 (N + 24) SQ7 SQ29 SQ115 SQ133) 2 0 (by kernel_rfl) (fun i_ hi_ => by
    match i_, hi_ with
    | 0, _ => exact (fun hk e => by rw [show hookOf ((anQ77 (N + 24) SQ7 SQ29 SQ115 SQ133) (lp Pg 13 0).1) = none from by kernel_rfl] at e; cases e)
    | 1, _ => exact (fun hk e => by rw [show hookOf ((anQ77 (N + 24) SQ7 SQ29 SQ115 SQ133) (lp Pg 13 1).1) = none from by kernel_rfl] at e; cases e)
    | (q + 2), h => omega) ?_
  intro a k h
  unfold spQ77 at h
  split at h
  · exact ⟨[], rfl, rfl, (eqQ77 _ _ _ _ _ _ _ _ _ _ _ _ _).trans h⟩
  · cases h

def anQ90 (N : Nat) (SQ29 : TSQ29) : Nat -> Option Ann := fun b_ => none
theorem eqQ90 (N : Nat) (SQ29 : TSQ29) (qs_0 qs_1 qs_2 qs_3 qs_4 qs_5 qs_6 qs_7 : Fl) (c_ : V -> List Blk -> Bool) : bodyV ⟨Pg, ofList [(48, (FQ29 SQ29))], isref, (N + 24)⟩ (anQ90 (N + 24) SQ29) 42 (shFQ90.args [.fl qs_0, .fl qs_1, .fl qs_2, .fl qs_3, .fl qs_4, .fl qs_5, .fl qs_6, .fl qs_7]) [] c_ = GQ90 (N + 24) SQ29 qs_0 qs_1 qs_2 qs_3 qs_4 qs_5 qs_6 qs_7 (fun r0 => c_ (.bool r0) []) := by kernel_rfl
theorem goodQ90 (N : Nat) (SQ29 : TSQ29) (hQ29 : GoodF Pg 48 (FQ29 SQ29)) : GoodF Pg 42 (FQ90 (GQ90 (N + 24) SQ29)) := by
  refine good_fs (cx := ⟨Pg, ofList [(48, (FQ29 SQ29))], isref, (N + 24)⟩) (ofList_cons hQ29 (ofList_nil _)) shFQ90 (spQ90 (GQ90 (N + 24) SQ29)) (anQ90 (N + 24) SQ29) 1 0 (by kernel_rfl) (fun i_ hi_ => by
    match i_, hi_ with
    | 0, _ => exact (fun hk e => by rw [show hookOf ((anQ90 (N + 24) SQ29) (lp Pg 42 0).1) = none from by kernel_rfl] at e; cases e)
    | (q + 1), h => omega) ?_
  intro a k h
  unfold spQ90 at h
  split at h
  · exact ⟨[], rfl, rfl, (eqQ90 _ _ _ _ _ _ _ _ _ _ _).trans h⟩
  · cases h

def anQ137 (N : Nat) : Nat -> Option Ann := fun b_ => none
theorem eqQ137 (N : Nat) (a_0 a_1 a_2 a_3 b_0 b_1 b_2 b_3 : Fl) (c_ : V -> List Blk -> Bool) : bodyV ⟨Pg, ofList [], isref, N⟩ (anQ137 N) 83 (shFQ137.args [.fl a_0, .fl a_1, .fl a_2, .fl a_3, .fl b_0, .fl b_1, .fl b_2, .fl b_3]) [] c_ = GQ137 N a_0 a_1 a_2 a_3 b_0 b_1 b_2 b_3 (fun r0 r1 r2 r3 => c_ (.agg [.flt r0, .flt r1, .flt r2, .flt r3]) []) := by kernel_rfl
theorem goodQ137 (N : Nat) : GoodF Pg 83 (FQ137 (GQ137 N)) := by
  refine good_fs (cx := ⟨Pg, ofList [], isref, N⟩) (ofList_nil _) shFQ137 (spQ137 (GQ137 N)) (anQ137 N) 0 0 (by kernel_rfl) (fun i_ hi_ => by omega) ?_
  intro a k h
  unfold spQ137 at h
  split at h
  · exact ⟨[], rfl, rfl, (eqQ137 _ _ _ _ _ _ _ _ _ _).trans h⟩
  · cases h

def anQ125 (N : Nat) (SQ7 : TSQ7) : Nat -> Option Ann := fun b_ => none
theorem eqQ125 (N : Nat) (SQ7 : TSQ7) (q_0 q_1 q_2 q_3 : Fl) (c_ : V -> List Blk -> Bool) : bodyV ⟨Pg, ofList [(42, (FQ7 SQ7))], isref, N⟩ (anQ125 N SQ7) 72 (shFQ125.args [.fl q_0, .fl q_1, .fl q_2, .fl q_3]) [] c_ = GQ125 N SQ7 q_0 q_1 q_2 q_3 (fun r0 r1 r2 r3 r4 => c_ (.tup [.agg [.flt r0, .flt r1, .flt r2, .flt r3], .int .i64 r4]) []) := by kernel_rfl
theorem goodQ125 (N : Nat) (SQ7 : TSQ7) (hQ7 : GoodF Pg 42 (FQ7 SQ7)) : GoodF Pg 72 (FQ125 (GQ125 N SQ7)) := by
  refine good_fs (cx := ⟨Pg, ofList [(42, (FQ7 SQ7))], isref, N⟩) (ofList_cons hQ7 (ofList_nil _)) shFQ125 (spQ125 (GQ125 N SQ7)) (anQ125 N SQ7) 0 0 (by kernel_rfl) (fun i_ hi_ => by omega) ?_
  intro a k h
  unfold spQ125 at h
  split at h
  · exact ⟨[], rfl, rfl, (eqQ125 _ _ _ _ _ _ _).trans h⟩
  · cases h

def anQ110 (N : Nat) (SQ90 : TSQ90) (SQ137 : TSQ137) (SQ125 : TSQ125) : Nat -> Option Ann := fun b_ => none
theorem eqQ110 (N : Nat) (SQ90 : TSQ90) (SQ137 : TSQ137) (SQ125 : TSQ125) (a_0 a_1 a_2 a_3 b_0 b_1 b_2 b_3 : Fl) (c_ : V -> List Blk -> Bool) : bodyV ⟨Pg, ofList [(42, (FQ90 SQ90)), (83, (FQ137 SQ137)), (72, (FQ125 SQ125))], isref, N⟩ (anQ110 N SQ90 SQ137 SQ125) 40 (shFQ110.args [.fl a_0, .fl a_1, .fl a_2, .fl a_3, .fl b_0, .fl b_1, .fl b_2, .fl b_3]) [] c_ = GQ110 N SQ90 SQ137 SQ125 a_0 a_1 a_2 a_3 b_0 b_1 b_2 b_3 (fun r0 r1 r2 r3 r4 => c_ (.tup [.agg [.flt r0, .flt r1, .flt r2, .flt r3], .int .i64 r4]) []) := by kernel_rfl
theorem goodQ110 (N : Nat) (SQ90 : TSQ90) (SQ137 : TSQ137) (SQ125 : TSQ125) (hQ90 : GoodF Pg 42 (FQ90 SQ90)) (hQ137 : GoodF Pg 83 (FQ137 SQ137)) (hQ125 : GoodF Pg 72 (FQ125 SQ125)) : GoodF Pg 40 (FQ110 (GQ110 N SQ90 SQ137 SQ125)) := by
  refine good_fs (cx := ⟨Pg, ofList [(42, (FQ90 SQ90)), (83, (FQ137 SQ137)), (72, (FQ125 SQ125))], isref, N⟩) (ofList_cons hQ90 (ofList_cons hQ137 (ofList_cons hQ125 (ofList_nil _)))) shFQ110 (spQ110 (GQ110 N SQ90 SQ137 SQ125)) (anQ110 N SQ90 SQ137 SQ125) 0 0 (by kernel_rfl) (fun i_ hi_ => by omega) ?_
  intro a k h
  unfold spQ110 at h
  split at h
  · exact ⟨[], rfl, rfl, (eqQ110 _ _ _ _ _ _ _ _ _ _ _ _ _).trans h⟩
  · cases h


def sh_st_anatomy_Finite_0 : StSh := ⟨(sqs 6 (.rof :: (.int .i64 :: (.int .i64 :: (sqs 12 []))))), []⟩
def sx0_st_anatomy_Finite_0 : StSh := ⟨(.any :: (.any :: (.bool :: (sqs 18 [])))), []⟩
def sx1_st_anatomy_Finite_0 : StSh := ⟨(sqs 21 []), []⟩
def hk_st_anatomy_Finite_0 (N : Nat) (SQ122 : TSQ122) : List Atom -> K -> Bool := fun a_ κ => match a_ with
  | [.fls t6, .int t7, .int t8] => iterG N (st_an_Finite_0 N SQ122 t6 t7 (fun r0 => κ.ret (sx0_st_anatomy_Finite_0.build [.bool r0])) (κ.ext 0 (sx1_st_anatomy_Finite_0.build []))) t8
  | _ => false
def anQ92 (N : Nat) (SQ122 : TSQ122) : Nat -> Option Ann := fun b_ => cond (b_ == 0) (some ⟨⟨[6, 7, 8], [], []⟩, [(0, ⟨[], [], []⟩)], some ⟨[2], [], []⟩, some (mkHooks [(sh_st_anatomy_Finite_0, hk_st_anatomy_Finite_0 N SQ122)])⟩) (none)
theorem eq_st_anatomy_Finite_0 (N : Nat) (SQ122 : TSQ122) (κ : K) (t6 : List Fl) (t7 t8 : Int) : iter N (fun s k => codeV ⟨Pg, ofList [(126, (FQ122 SQ122))], isref, N⟩ 0 (anQ92 N SQ122) (lp Pg 84 0).2 (lp Pg 84 0).1 s (roundK Pg 0 ((anQ92 N SQ122) (lp Pg 84 0).1) κ k)) (sh_st_anatomy_Finite_0.build [.fls t6, .int t7, .int t8]) = iterG N (st_an_Finite_0 N SQ122 t6 t7 (fun r0 => κ.ret (sx0_st_anatomy_Finite_0.build [.bool r0])) (κ.ext 0 (sx1_st_anatomy_Finite_0.build []))) t8 :=
  iter_tr (fun v_ => sh_st_anatomy_Finite_0.build [.fls t6, .int t7, .int v_]) (fun v_ K_ => by kernel_rfl) N t8
theorem hk1_st_anatomy_Finite_0 (N : Nat) (SQ122 : TSQ122) : HookFor ⟨Pg, ofList [(126, (FQ122 SQ122))], isref, N⟩ 0 (anQ92 N SQ122) (lp Pg 84 0) (sh_st_anatomy_Finite_0, hk_st_anatomy_Finite_0 N SQ122) := by
  intro a κ h
  simp only at h
  unfold hk_st_anatomy_Finite_0 at h
  split at h
  · exact (eq_st_anatomy_Finite_0 _ _ _ _ _ _).trans h
  · cases h
theorem ho_anatomy_Finite_0 (N : Nat) (SQ122 : TSQ122) : HookOk ⟨Pg, ofList [(126, (FQ122 SQ122))], isref, N⟩ 0 (anQ92 N SQ122) (lp Pg 84 0) :=
  hooks_ok [(sh_st_anatomy_Finite_0, hk_st_anatomy_Finite_0 N SQ122)] (by kernel_rfl) ⟨hk1_st_anatomy_Finite_0 _ _, trivial⟩
theorem eqQ92 (N : Nat) (SQ122 : TSQ122) (l : List Fl) (c_ : V -> List Blk -> Bool) : bodyV ⟨Pg, ofList [(126, (FQ122 SQ122))], isref, N⟩ (anQ92 N SQ122) 84 (shFQ92.args [.fls l]) [] c_ = GQ92 N SQ122 l (fun r0 => c_ (.bool r0) []) := by kernel_rfl
theorem goodQ92 (N : Nat) (SQ122 : TSQ122) (hQ122 : GoodF Pg 126 (FQ122 SQ122)) : GoodF Pg 84 (FQ92 (GQ92 N SQ122)) := by
  refine good_fs (cx := ⟨Pg, ofList [(126, (FQ122 SQ122))], isref, N⟩) (ofList_cons hQ122 (ofList_nil _)) shFQ92 (spQ92 (GQ92 N SQ122)) (anQ92 N SQ122) 1 0 (by kernel_rfl) (fun i_ hi_ => by
    match i_, hi_ with
    | 0, _ => exact ho_anatomy_Finite_0 _ _
    | (q + 1), h => omega) ?_
  intro a k h
  unfold spQ92 at h
  split at h
  · exact ⟨[], rfl, rfl, (eqQ92 _ _ _ _).trans h⟩
  · cases h

def anQ6 (N : Nat) : Nat -> Option Ann := fun b_ => none
theorem eqQ6 (N : Nat) (x : Int) (c_ : V -> List Blk -> Bool) : bodyV ⟨Pg, ofList [], isref, N⟩ (anQ6 N) 180 (shFQ6.args [.int x]) [] c_ = GQ6 N x (fun r0 => c_ (.int .i64 r0) []) := by
  have key : ∀ L_ : Int, codesV ⟨Pg, ofList [], isref, N⟩ 0 (anQ6 N) (((cds Pg 180).drop 0).map (subC 285870213051353865 L_)) 0 (st0 Pg 180 (shFQ6.args [.int x]) []) (finV Pg 180 0 c_) = (fun (k0 : Int -> Bool) => (cond (x == 0) (k0 64) ((inR (Int.fdiv (IntKind.wrap .u64 ((bitsN .and .u64 x (IntKind.wrap .u64 (0 - x))) * L_)) (2 ^ 58)) 64) && ((fits .i64 (List.getD tab64 (Int.toNat (Int.fdiv (IntKind.wrap .u64 ((bitsN .and .u64 x (IntKind.wrap .u64 (0 - x))) * L_)) (2 ^ 58))) 0)) && (k0 (List.getD tab64 (Int.toNat (Int.fdiv (IntKind.wrap .u64 ((bitsN .and .u64 x (IntKind.wrap .u64 (0 - x))) * L_)) (2 ^ 58))) 0)))))) (fun r0 => c_ (.int .i64 r0) []) := fun L_ => by kernel_rfl
  have hc : (cds Pg 180).drop 0 = ((cds Pg 180).drop 0).map (subC 285870213051353865 285870213051353865) := by kernel_rfl
  refine (bodyV_codes (by kernel_rfl)).trans ?_
  rw [hc]
  exact key 285870213051353865
theorem goodQ6 (N : Nat) : GoodF Pg 180 (FQ6 (GQ6 N)) := by
  refine good_fs (cx := ⟨Pg, ofList [], isref, N⟩) (ofList_nil _) shFQ6 (spQ6 (GQ6 N)) (anQ6 N) 0 0 (by kernel_rfl) (fun i_ hi_ => by omega) ?_
  intro a k h
  unfold spQ6 at h
  split at h
  · exact ⟨[], rfl, rfl, (eqQ6 _ _ _).trans h⟩
  · cases h

def anQ60 (N : Nat) (SQ25 : TSQ25) (SQ24 : TSQ24) (SQ63 : TSQ63) (SQ6 : TSQ6) : Nat -> Option Ann := fun b_ => none
def lsQ146 (d_ : List V) (u_ : List (Option Blk)) (b f_0 f_1 f_2 : Int) (p : Bool) (p_1 p_2 : Int) : St := ⟨(dqs d_ 0 4 (.ptr 1 0 :: (dqs d_ 4 4 (.ptr 2 0 :: (dqs d_ 8 52 []))))), [(u_.getD 0 none), some ⟨108, 1, .cells [.bool false, .int .u64 0, .int .i64 0]⟩, some ⟨108, 1, .cells [.bool p, .int .u64 p_1, .int .i64 p_2]⟩]⟩
theorem jnQ146 (N : Nat) (SQ25 : TSQ25) (SQ24 : TSQ24) (SQ63 : TSQ63) (SQ6 : TSQ6) (d_ : List V) (u_ : List (Option Blk)) (b f_0 f_1 f_2 : Int) (p : Bool) (p_1 p_2 : Int) (c_ : V -> List Blk -> Bool) : codesV ⟨Pg, ofList [(176, (FQ25 SQ25)), (154, (FQ24 SQ24)), (179, (FQ63 SQ63)), (180, (FQ6 SQ6))], isref, N⟩ 0 (anQ60 N SQ25 SQ24 SQ63 SQ6) ((cds Pg 157).drop 5) 0 (lsQ146 d_ u_ b f_0 f_1 f_2 p p_1 p_2) (finV Pg 157 0 c_) = JQ146 N SQ25 SQ24 SQ63 SQ6 b f_0 f_1 f_2 p p_1 p_2 (fun r0 r1 r2 r3 => c_ (.tup [.agg [.bool r0, .int .u64 r1, .int .i64 r2], .int .i64 r3]) []) := by kernel_rfl
theorem hd_an_parts_uint64__w (N : Nat) (SQ25 : TSQ25) (SQ24 : TSQ24) (SQ63 : TSQ63) (SQ6 : TSQ6) (b f_0 f_1 f_2 : Int) (c_ : V -> List Blk -> Bool) (κn_ : St -> Bool) : codesV ⟨Pg, ofList [(176, (FQ25 SQ25)), (154, (FQ24 SQ24)), (179, (FQ63 SQ63)), (180, (FQ6 SQ6))], isref, N⟩ 0 (anQ60 N SQ25 SQ24 SQ63 SQ6) (sg Pg 157 0 5) 0 (st0 Pg 157 (shFQ60.args [.int b, .int f_0, .int f_1, .int f_2]) []) { (finV Pg 157 0 c_) with nrm := κn_ } = (SQ25 b f_0 f_1 f_2 (fun cr nr nr_1 => ((fits .i64 (nr - f_2)) && (SQ24 b f_0 f_1 f_2 (fun nr_2 => (cond (nr_2 == 1) (c_ (.tup [.agg [.bool false, .int .u64 0, .int .i64 0], .int .i64 4]) []) (cond (nr_2 == 2) (c_ (.tup [.agg [.bool false, .int .u64 0, .int .i64 0], .int .i64 4]) []) (cond (nr_2 == 3) (c_ (.tup [.agg [.bool cr, .int .u64 0, .int .i64 0], .int .i64 0]) []) (cond (nr_2 == 4) ((fits .i64 ((nr - f_2) + 1)) && (κn_ (lsQ146 [.int .u64 b, .agg [.int .u64 f_0, .int .i64 f_1, .int .i64 f_2], .any, .ptr 0 0, .int .i64 0, .bool cr, .int .i64 nr, .int .u64 nr_1, .any, .tup [.bool cr, .int .i64 nr, .int .u64 nr_1], .int .u64 b, .agg [.int .u64 f_0, .int .i64 f_1, .int .i64 f_2], .tup [.bool cr, .int .i64 nr, .int .u64 nr_1], .bool cr, .int .i64 nr, .int .u64 nr_1, .bool cr, .int .u64 nr_1, .int .i64 nr, .ptr 0 2, .int .i64 f_2, .int .i64 (nr - f_2), .agg [.bool cr, .int .u64 nr_1, .int .i64 (nr - f_2)], .int .u64 b, .agg [.int .u64 f_0, .int .i64 f_1, .int .i64 f_2], .int .i64 nr_2, .any, .any, .any, .any, .any, .any, .bool false, .bool (nr_2 == 1), .bool (nr_2 == 2), .any, .bool false, .bool (nr_2 == 3), .any, .any, .bool true, .bool (nr_2 == 4), .ptr 2 2, .int .i64 (nr - f_2), .int .i64 ((nr - f_2) + 1), .ptr 2 2, .any, .any, .any, .any, .any, .any, .any, .any, .any, .any, .any, .any, .any, .any] [some ⟨185, 1, .cells [.int .u64 f_0, .int .i64 f_1, .int .i64 f_2]⟩] b f_0 f_1 f_2 cr nr_1 ((nr - f_2) + 1)))) (SQ63 f_0 f_1 f_2 (fun nr_3 => (κn_ (lsQ146 [.int .u64 b, .agg [.int .u64 f_0, .int .i64 f_1, .int .i64 f_2], .any, .ptr 0 0, .int .i64 0, .bool cr, .int .i64 nr, .int .u64 nr_1, .any, .tup [.bool cr, .int .i64 nr, .int .u64 nr_1], .int .u64 b, .agg [.int .u64 f_0, .int .i64 f_1, .int .i64 f_2], .tup [.bool cr, .int .i64 nr, .int .u64 nr_1], .bool cr, .int .i64 nr, .int .u64 nr_1, .bool cr, .int .u64 nr_1, .int .i64 nr, .ptr 0 2, .int .i64 f_2, .int .i64 (nr - f_2), .agg [.bool cr, .int .u64 nr_1, .int .i64 (nr - f_2)], .int .u64 b, .agg [.int .u64 f_0, .int .i64 f_1, .int .i64 f_2], .int .i64 nr_2, .ptr 2 1, .int .u64 nr_1, .agg [.int .u64 f_0, .int .i64 f_1, .int .i64 f_2], .int .u64 nr_3, .int .u64 (bitsN .or .u64 nr_1 nr_3), .ptr 2 1, .bool false, .bool (nr_2 == 1), .bool (nr_2 == 2), .any, .bool false, .bool (nr_2 == 3), .any, .any, .bool false, .bool (nr_2 == 4), .any, .any, .any, .any, .any, .any, .any, .any, .any, .any, .any, .any, .any, .any, .any, .any, .any, .any] [some ⟨185, 1, .cells [.int .u64 f_0, .int .i64 f_1, .int .i64 f_2]⟩] b f_0 f_1 f_2 cr (bitsN .or .u64 nr_1 nr_3) (nr - f_2)))))))))))))) := by kernel_rfl
theorem jn_an_parts_uint64__w (N : Nat) (SQ25 : TSQ25) (SQ24 : TSQ24) (SQ63 : TSQ63) (SQ6 : TSQ6) (b f_0 f_1 f_2 : Int) (c_ : V -> List Blk -> Bool) : codesV ⟨Pg, ofList [(176, (FQ25 SQ25)), (154, (FQ24 SQ24)), (179, (FQ63 SQ63)), (180, (FQ6 SQ6))], isref, N⟩ 0 (anQ60 N SQ25 SQ24 SQ63 SQ6) ((cds Pg 157).drop 0) 0 (st0 Pg 157 (shFQ60.args [.int b, .int f_0, .int f_1, .int f_2]) []) (finV Pg 157 0 c_) = GQ60 N SQ25 SQ24 SQ63 SQ6 b f_0 f_1 f_2 (fun r0 r1 r2 r3 => c_ (.tup [.agg [.bool r0, .int .u64 r1, .int .i64 r2], .int .i64 r3]) []) := by
  rw [codesV_cut 0 5 5 rfl]
  refine (hd_an_parts_uint64__w N SQ25 SQ24 SQ63 SQ6 b f_0 f_1 f_2 c_ _).trans ?_
  simp only [jnQ146]
  kernel_rfl
theorem eqQ60 (N : Nat) (SQ25 : TSQ25) (SQ24 : TSQ24) (SQ63 : TSQ63) (SQ6 : TSQ6) (b f_0 f_1 f_2 : Int) (c_ : V -> List Blk -> Bool) : bodyV ⟨Pg, ofList [(176, (FQ25 SQ25)), (154, (FQ24 SQ24)), (179, (FQ63 SQ63)), (180, (FQ6 SQ6))], isref, N⟩ (anQ60 N SQ25 SQ24 SQ63 SQ6) 157 (shFQ60.args [.int b, .int f_0, .int f_1, .int f_2]) [] c_ = GQ60 N SQ25 SQ24 SQ63 SQ6 b f_0 f_1 f_2 (fun r0 r1 r2 r3 => c_ (.tup [.agg [.bool r0, .int .u64 r1, .int .i64 r2], .int .i64 r3]) []) :=
  (bodyV_codes (by kernel_rfl)).trans (jn_an_parts_uint64__w N SQ25 SQ24 SQ63 SQ6 b f_0 f_1 f_2 c_)
theorem goodQ60 (N : Nat) (SQ25 : TSQ25) (SQ24 : TSQ24) (SQ63 : TSQ63) (SQ6 : TSQ6) (hQ25 : GoodF Pg 176 (FQ25 SQ25)) (hQ24 : GoodF Pg 154 (FQ24 SQ24)) (hQ63 : GoodF Pg 179 (FQ63 SQ63)) (hQ6 : GoodF Pg 180 (FQ6 SQ6)) : GoodF Pg 157 (FQ60 (GQ60 N SQ25 SQ24 SQ63 SQ6)) := by
  refine good_fs (cx := ⟨Pg, ofList [(176, (FQ25 SQ25)), (154, (FQ24 SQ24)), (179, (FQ63 SQ63)), (180, (FQ6 SQ6))], isref, N⟩) (ofList_cons hQ25 (ofList_cons hQ24 (ofList_cons hQ63 (ofList_cons hQ6 (ofList_nil _))))) shFQ60 (spQ60 (GQ60 N SQ25 SQ24 SQ63 SQ6)) (anQ60 N SQ25 SQ24 SQ63 SQ6) 0 0 (by kernel_rfl) (fun i_ hi_ => by omega) ?_
  intro a k h
  unfold spQ60 at h
  split at h
  · exact ⟨[], rfl, rfl, (eqQ60 _ _ _ _ _ _ _ _ _ _).trans h⟩
  · cases h

def anQ134 (N : Nat) (SQ102 : TSQ102) (S_an_of : TS_an_of) (SQ60 : TSQ60) : Nat -> Option Ann := fun b_ => none
theorem eqQ134 (N : Nat) (SQ102 : TSQ102) (S_an_of : TS_an_of) (SQ60 : TSQ60) (x : Fl) (c_ : V -> List Blk -> Bool) : bodyV ⟨Pg, ofList [(95, (FQ102 SQ102)), (155, (F_an_of S_an_of)), (157, (FQ60 SQ60))], isref, N⟩ (anQ134 N SQ102 S_an_of SQ60) 129 (shFQ134.args [.fl x]) [] c_ = GQ134 N SQ102 S_an_of SQ60 x (fun r0 r1 r2 r3 => c_ (.tup [.agg [.bool r0, .int .u64 r1, .int .i64 r2], .int .i64 r3]) []) := by kernel_rfl
theorem goodQ134 (N : Nat) (SQ102 : TSQ102) (S_an_of : TS_an_of) (SQ60 : TSQ60) (hQ102 : GoodF Pg 95 (FQ102 SQ102)) (h_an_of : GoodF Pg 155 (F_an_of S_an_of)) (hQ60 : GoodF Pg 157 (FQ60 SQ60)) : GoodF Pg 129 (FQ134 (GQ134 N SQ102 S_an_of SQ60)) := by
  refine good_fs (cx := ⟨Pg, ofList [(95, (FQ102 SQ102)), (155, (F_an_of S_an_of)), (157, (FQ60 SQ60))], isref, N⟩) (ofList_cons hQ102 (ofList_cons h_an_of (ofList_cons hQ60 (ofList_nil _)))) shFQ134 (spQ134 (GQ134 N SQ102 S_an_of SQ60)) (anQ134 N SQ102 S_an_of SQ60) 0 0 (by kernel_rfl) (fun i_ hi_ => by omega) ?_
  intro a k h
  unfold spQ134 at h
  split at h
  · exact ⟨[], rfl, rfl, (eqQ134 _ _ _ _ _ _).trans h⟩
  · cases h

def sh_st_big_norm_w_0 : StSh := ⟨(.slw 0 :: (.any :: (.any :: (.int .i64 :: (sqs 17 []))))), [some (22, 1, .ints .u64)]⟩
def sx0_st_big_norm_w_0 : StSh := ⟨(.slw 0 :: (.any :: (.any :: (.int .i64 :: (sqs 17 []))))), [some (22, 1, .ints .u64)]⟩
def hk_st_big_norm_w_0 (N : Nat) : List Atom -> K -> Bool := fun a_ κ => match a_ with
  | [.int n, .ints x] => iterG N (stQ164 N x (fun r0 => κ.ext 0 (sx0_st_big_norm_w_0.build [.int r0, .ints x]))) n
  | _ => false
def anQ1 (N : Nat) : Nat -> Option Ann := fun b_ => cond (b_ == 0) (some ⟨⟨[0, 3], [], []⟩, [(0, ⟨[0, 3], [], []⟩)], some ⟨[2], [], []⟩, some (mkHooks [(sh_st_big_norm_w_0, hk_st_big_norm_w_0 N)])⟩) (none)
theorem eq_st_big_norm_w_0 (N : Nat) (κ : K) (n : Int) (x : List Int) : iter N (fun s k => codeV ⟨Pg, ofList [], isref, N⟩ 1 (anQ1 N) (lp Pg 167 0).2 (lp Pg 167 0).1 s (roundK Pg 1 ((anQ1 N) (lp Pg 167 0).1) κ k)) (sh_st_big_norm_w_0.build [.int n, .ints x]) = iterG N (stQ164 N x (fun r0 => κ.ext 0 (sx0_st_big_norm_w_0.build [.int r0, .ints x]))) n :=
  iter_tr (fun v_ => sh_st_big_norm_w_0.build [.int v_, .ints x]) (fun v_ K_ => by kernel_rfl) N n
theorem hk1_st_big_norm_w_0 (N : Nat) : HookFor ⟨Pg, ofList [], isref, N⟩ 1 (anQ1 N) (lp Pg 167 0) (sh_st_big_norm_w_0, hk_st_big_norm_w_0 N) := by
  intro a κ h
  simp only at h
  unfold hk_st_big_norm_w_0 at h
  split at h
  · exact (eq_st_big_norm_w_0 _ _ _ _).trans h
  · cases h
theorem ho_big_norm_w_0 (N : Nat) : HookOk ⟨Pg, ofList [], isref, N⟩ 1 (anQ1 N) (lp Pg 167 0) :=
  hooks_ok [(sh_st_big_norm_w_0, hk_st_big_norm_w_0 N)] (by kernel_rfl) ⟨hk1_st_big_norm_w_0 _, trivial⟩
theorem eqQ1 (N : Nat) (b : List Int) (c_ : V -> List Blk -> Bool) : bodyZ ⟨Pg, ofList [], isref, N⟩ (anQ1 N) 167 (shFQ1.args [.ints b]) [⟨22, 1, .ints .u64 b⟩] c_ = GQ1 N b (fun r0 r1 => c_ (.sl 0 r0 r1) [⟨22, 1, .ints .u64 b⟩]) := by kernel_rfl
theorem goodQ1 (N : Nat) : GoodF Pg 167 (FQ1 (GQ1 N)) := by
  refine good_fsZ (cx := ⟨Pg, ofList [], isref, N⟩) (ofList_nil _) shFQ1 (spQ1 (GQ1 N)) (anQ1 N) 1 1 (by kernel_rfl) (fun i_ hi_ => by
    match i_, hi_ with
    | 0, _ => exact ho_big_norm_w_0 _
    | (q + 1), h => omega) ?_
  intro a k h
  unfold spQ1 at h
  split at h
  · exact ⟨[_], rfl, rfl, (eqQ1 _ _ _).trans h⟩
  · cases h

def anQ112 (N : Nat) (SQ1 : TSQ1) : Nat -> Option Ann := fun b_ => none
theorem eqQ112 (N : Nat) (SQ1 : TSQ1) (n : Int) (c_ : V -> List Blk -> Bool) : bodyZ ⟨Pg, ofList [(167, (FQ1 SQ1))], isref, N⟩ (anQ112 N SQ1) 158 (shFQ112.args [.int n]) [] c_ = GQ112 N SQ1 n (fun r0 => c_ (.roi .u64 r0) []) := by kernel_rfl
theorem goodQ112 (N : Nat) (SQ1 : TSQ1) (hQ1 : GoodF Pg 167 (FQ1 SQ1)) : GoodF Pg 158 (FQ112 (GQ112 N SQ1)) := by
  refine good_fsZ (cx := ⟨Pg, ofList [(167, (FQ1 SQ1))], isref, N⟩) (ofList_cons hQ1 (ofList_nil _)) shFQ112 (spQ112 (GQ112 N SQ1)) (anQ112 N SQ1) 0 0 (by kernel_rfl) (fun i_ hi_ => by omega) ?_
  intro a k h
  unfold spQ112 at h
  split at h
  · exact ⟨[], rfl, rfl, (eqQ112 _ _ _ _).trans h⟩
  · cases h

def anQ0 (N : Nat) : Nat -> Option Ann := fun b_ => none
theorem eqQ0 (N : Nat) (neg : Bool) (abs : List Int) (b : Bool) (c_ : V -> List Blk -> Bool) : bodyZ ⟨Pg, ofList [], isref, N⟩ (anQ0 N) 139 (shFQ0.args [.bool neg, .ints abs, .bool b]) [⟨126, 1, .cells [.bool b, .nil]⟩] c_ = GQ0 N neg abs b (fun r0 => c_ (.ptr 0 0) [⟨126, 1, .cells [.bool r0, .roi .u64 abs]⟩]) := by kernel_rfl
theorem goodQ0 (N : Nat) : GoodF Pg 139 (FQ0 (GQ0 N)) := by
  refine good_fsZ (cx := ⟨Pg, ofList [], isref, N⟩) (ofList_nil _) shFQ0 (spQ0 (GQ0 N)) (anQ0 N) 0 1 (by kernel_rfl) (fun i_ hi_ => by omega) ?_
  intro a k h
  unfold spQ0 at h
  split at h
  · exact ⟨[_], rfl, rfl, (eqQ0 _ _ _ _ _).trans h⟩
  · cases h

def anQ48 (N : Nat) (SQ112 : TSQ112) (SQ0 : TSQ0) : Nat -> Option Ann := fun b_ => none
theorem eqQ48 (N : Nat) (SQ112 : TSQ112) (SQ0 : TSQ0) (n : Int) (b : Bool) (c_ : V -> List Blk -> Bool) : bodyZ ⟨Pg, ofList [(158, (FQ112 SQ112)), (139, (FQ0 SQ0))], isref, N⟩ (anQ48 N SQ112 SQ0) 130 (shFQ48.args [.int n, .bool b]) [⟨126, 1, .cells [.bool b, .nil]⟩] c_ = GQ48 N SQ112 SQ0 n b (fun r0 r1 => c_ (.ptr 0 0) [⟨126, 1, .cells [.bool r0, .roi .u64 r1]⟩]) := by kernel_rfl
theorem goodQ48 (N : Nat) (SQ112 : TSQ112) (SQ0 : TSQ0) (hQ112 : GoodF Pg 158 (FQ112 SQ112)) (hQ0 : GoodF Pg 139 (FQ0 SQ0)) : GoodF Pg 130 (FQ48 (GQ48 N SQ112 SQ0)) := by
  refine good_fsZ (cx := ⟨Pg, ofList [(158, (FQ112 SQ112)), (139, (FQ0 SQ0))], isref, N⟩) (ofList_cons hQ112 (ofList_cons hQ0 (ofList_nil _))) shFQ48 (spQ48 (GQ48 N SQ112 SQ0)) (anQ48 N SQ112 SQ0) 0 1 (by kernel_rfl) (fun i_ hi_ => by omega) ?_
  intro a k h
  unfold spQ48 at h
  split at h
  · exact ⟨[_], rfl, rfl, (eqQ48 _ _ _ _ _ _).trans h⟩
  · cases h

def anQ65 (N : Nat) : Nat -> Option Ann := fun b_ => none
theorem eqQ65 (N : Nat) (x : List Int) (c_ : V -> List Blk -> Bool) : bodyZ ⟨Pg, ofList [], isref, N⟩ (anQ65 N) 140 (shFQ65.args [.ints x]) [] c_ = GQ65 N x (fun r0 => c_ (.roi .u64 r0) []) := by kernel_rfl
theorem goodQ65 (N : Nat) : GoodF Pg 140 (FQ65 (GQ65 N)) := by
  refine good_fsZ (cx := ⟨Pg, ofList [], isref, N⟩) (ofList_nil _) shFQ65 (spQ65 (GQ65 N)) (anQ65 N) 0 0 (by kernel_rfl) (fun i_ hi_ => by omega) ?_
  intro a k h
  unfold spQ65 at h
  split at h
  · exact ⟨[], rfl, rfl, (eqQ65 _ _ _).trans h⟩
  · cases h

def anQ28 (N : Nat) : Nat -> Option Ann := fun b_ => none
theorem eqQ28 (N : Nat) (neg : Bool) (abs : List Int) (b : Bool) (b_1 : List Int) (c_ : V -> List Blk -> Bool) : bodyZ ⟨Pg, ofList [], isref, N⟩ (anQ28 N) 139 (shFQ28.args [.bool neg, .ints abs, .bool b, .ints b_1]) [⟨126, 1, .cells [.bool b, .roi .u64 b_1]⟩] c_ = GQ28 N neg abs b b_1 (fun r0 => c_ (.ptr 0 0) [⟨126, 1, .cells [.bool r0, .roi .u64 abs]⟩]) := by kernel_rfl
theorem goodQ28 (N : Nat) : GoodF Pg 139 (FQ28 (GQ28 N)) := by
  refine good_fsZ (cx := ⟨Pg, ofList [], isref, N⟩) (ofList_nil _) shFQ28 (spQ28 (GQ28 N)) (anQ28 N) 0 1 (by kernel_rfl) (fun i_ hi_ => by omega) ?_
  intro a k h
  unfold spQ28 at h
  split at h
  · exact ⟨[_], rfl, rfl, (eqQ28 _ _ _ _ _ _).trans h⟩
  · cases h

def anQ22 (N : Nat) (SQ65 : TSQ65) (SQ28 : TSQ28) : Nat -> Option Ann := fun b_ => none
theorem eqQ22 (N : Nat) (SQ65 : TSQ65) (SQ28 : TSQ28) (b : Bool) (b_1 : List Int) (c_ : V -> List Blk -> Bool) : bodyZ ⟨Pg, ofList [(140, (FQ65 SQ65)), (139, (FQ28 SQ28))], isref, N⟩ (anQ22 N SQ65 SQ28) 91 (shFQ22.args [.bool b, .ints b_1]) [⟨126, 1, .cells [.bool b, .roi .u64 b_1]⟩] c_ = GQ22 N SQ65 SQ28 b b_1 (fun r0 r1 => c_ (.ptr 0 0) [⟨126, 1, .cells [.bool r0, .roi .u64 r1]⟩]) := by kernel_rfl
theorem goodQ22 (N : Nat) (SQ65 : TSQ65) (SQ28 : TSQ28) (hQ65 : GoodF Pg 140 (FQ65 SQ65)) (hQ28 : GoodF Pg 139 (FQ28 SQ28)) : GoodF Pg 91 (FQ22 (GQ22 N SQ65 SQ28)) := by
  refine good_fsZ (cx := ⟨Pg, ofList [(140, (FQ65 SQ65)), (139, (FQ28 SQ28))], isref, N⟩) (ofList_cons hQ65 (ofList_cons hQ28 (ofList_nil _))) shFQ22 (spQ22 (GQ22 N SQ65 SQ28)) (anQ22 N SQ65 SQ28) 0 1 (by kernel_rfl) (fun i_ hi_ => by omega) ?_
  intro a k h
  unfold spQ22 at h
  split at h
  · exact ⟨[_], rfl, rfl, (eqQ22 _ _ _ _ _ _).trans h⟩
  · cases h

def anQ127 (N : Nat) (SQ134 : TSQ134) (SQ48 : TSQ48) (SQ22 : TSQ22) : Nat -> Option Ann := fun b_ => none
theorem eqQ127 (N : Nat) (SQ134 : TSQ134) (SQ48 : TSQ48) (SQ22 : TSQ22) (x : Fl) (c_ : V -> List Blk -> Bool) : bodyV ⟨Pg, ofList [(129, (FQ134 SQ134)), (130, (FQ48 SQ48)), (91, (FQ22 SQ22))], isref, N⟩ (anQ127 N SQ134 SQ48 SQ22) 86 (shFQ127.args [.fl x]) [] c_ = GQ127 N SQ134 SQ48 SQ22 x (fun r0 r1 r2 => c_ (.agg [.ptr 0 0, .int .i64 r0]) [⟨126, 1, .cells [.bool r1, .roi .u64 r2]⟩]) := by kernel_rfl
theorem goodQ127 (N : Nat) (SQ134 : TSQ134) (SQ48 : TSQ48) (SQ22 : TSQ22) (hQ134 : GoodF Pg 129 (FQ134 SQ134)) (hQ48 : GoodF Pg 130 (FQ48 SQ48)) (hQ22 : GoodF Pg 91 (FQ22 SQ22)) : GoodF Pg 86 (FQ127 (GQ127 N SQ134 SQ48 SQ22)) := by
  refine good_fs (cx := ⟨Pg, ofList [(129, (FQ134 SQ134)), (130, (FQ48 SQ48)), (91, (FQ22 SQ22))], isref, N⟩) (ofList_cons hQ134 (ofList_cons hQ48 (ofList_cons hQ22 (ofList_nil _)))) shFQ127 (spQ127 (GQ127 N SQ134 SQ48 SQ22)) (anQ127 N SQ134 SQ48 SQ22) 0 0 (by kernel_rfl) (fun i_ hi_ => by omega) ?_
  intro a k h
  unfold spQ127 at h
  split at h
  · exact ⟨[], rfl, rfl, (eqQ127 _ _ _ _ _ _).trans h⟩
  · cases h

def anQ93 (N : Nat) : Nat -> Option Ann := fun b_ => none
theorem eqQ93 (N : Nat) (x y : Int) (c_ : V -> List Blk -> Bool) : bodyV ⟨Pg, ofList [], isref, N⟩ (anQ93 N) 192 (shFQ93.args [.int x, .int y]) [] c_ = GQ93 N x y (fun r0 r1 => c_ (.tup [.int .u64 r0, .int .u64 r1]) []) := by kernel_rfl
theorem goodQ93 (N : Nat) : GoodF Pg 192 (FQ93 (GQ93 N)) := by
  refine good_fs (cx := ⟨Pg, ofList [], isref, N⟩) (ofList_nil _) shFQ93 (spQ93 (GQ93 N)) (anQ93 N) 0 0 (by kernel_rfl) (fun i_ hi_ => by omega) ?_
  intro a k h
  unfold spQ93 at h
  split at h
  · exact ⟨[], rfl, rfl, (eqQ93 _ _ _ _).trans h⟩
  · cases h


def anQ88 (N : Nat) (SQ93 : TSQ93) (SQ61 : TSQ61) : Nat -> Option Ann := fun b_ => none
theorem eqQ88 (N : Nat) (SQ93 : TSQ93) (SQ61 : TSQ61) (a b c d : Int) (c_ : V -> List Blk -> Bool) : bodyZ ⟨Pg, ofList [(192, (FQ93 SQ93)), (183, (FQ61 SQ61))], isref, N⟩ (anQ88 N SQ93 SQ61) 181 (shFQ88.args [.int a, .int b, .int c, .int d]) [] c_ = GQ88 N SQ93 SQ61 a b c d (fun r0 r1 => c_ (.tup [.int .u64 r0, .int .u64 r1]) []) := by kernel_rfl
theorem goodQ88 (N : Nat) (SQ93 : TSQ93) (SQ61 : TSQ61) (hQ93 : GoodF Pg 192 (FQ93 SQ93)) (hQ61 : GoodF Pg 183 (FQ61 SQ61)) : GoodF Pg 181 (FQ88 (GQ88 N SQ93 SQ61)) := by
  refine good_fsZ (cx := ⟨Pg, ofList [(192, (FQ93 SQ93)), (183, (FQ61 SQ61))], isref, N⟩) (ofList_cons hQ93 (ofList_cons hQ61 (ofList_nil _))) shFQ88 (spQ88 (GQ88 N SQ93 SQ61)) (anQ88 N SQ93 SQ61) 0 0 (by kernel_rfl) (fun i_ hi_ => by omega) ?_
  intro a k h
  unfold spQ88 at h
  split at h
  · exact ⟨[], rfl, rfl, (eqQ88 _ _ _ _ _ _ _ _).trans h⟩
  · cases h

end Go.Proofs.YtnfgnjciliapaaaGreatDoor
