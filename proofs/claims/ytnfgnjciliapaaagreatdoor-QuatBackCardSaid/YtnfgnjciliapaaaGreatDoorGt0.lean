/-
  THE TIES: each printed meaning is what the program does (written by program).
  Conditions: none.
-/
import Derived.Test.YtnfgnjciliapaaaGreatDoorGs
namespace Go.Proofs.YtnfgnjciliapaaaGreatDoor
open Go Go.Mach Go.Proofs
set_option linter.unusedVariables false
set_option maxRecDepth 50000
def an_an_of (N : Nat) : Nat -> Option Ann := fun b_ => none
theorem eq_an_of (N : Nat) (c_ : V -> List Blk -> Bool) : bodyV ⟨Pg, ofList [], isref, N⟩ (an_an_of N) 155 (shF_an_of.args []) [] c_ = G_an_of N (fun r0 r1 r2 => c_ (.agg [.int .u64 r0, .int .i64 r1, .int .i64 r2]) []) := by kernel_rfl
theorem good_an_of (N : Nat) : GoodF Pg 155 (F_an_of (G_an_of N)) := by
 refine good_fs (cx := ⟨Pg, ofList [], isref, N⟩) (ofList_nil _) shF_an_of (sp_an_of (G_an_of N)) (an_an_of N) 0 0 (by kernel_rfl) (fun i_ hi_ => by omega) ?_
 intro a k h
 unfold sp_an_of at h
 split at h
 ·exact ⟨[], rfl, rfl, (eq_an_of _ _).trans h⟩
 ·cases h
def anZ139 (N : Nat) : Nat -> Option Ann := fun b_ => none
theorem eqZ139 (N : Nat) (f_0 f_1 f_2 : Int) (c_ : V -> List Blk -> Bool) : bodyV ⟨Pg, ofList [], isref, N⟩ (anZ139 N) 190 (shFZ139.args [.int f_0, .int f_1, .int f_2]) [] c_ = GZ139 N f_0 f_1 f_2 (fun r0 => c_ (.int .u64 r0) []) := by kernel_rfl
theorem goodZ139 (N : Nat) : GoodF Pg 190 (FZ139 (GZ139 N)) := by
 refine good_fs (cx := ⟨Pg, ofList [], isref, N⟩) (ofList_nil _) shFZ139 (spZ139 (GZ139 N)) (anZ139 N) 0 0 (by kernel_rfl) (fun i_ hi_ => by omega) ?_
 intro a k h
 unfold spZ139 at h
 split at h
 ·exact ⟨[], rfl, rfl, (eqZ139 _ _ _ _ _).trans h⟩
 ·cases h
def anZ88 (N : Nat) : Nat -> Option Ann := fun b_ => none
theorem eqZ88 (N : Nat) (f_0 f_1 f_2 : Int) (c_ : V -> List Blk -> Bool) : bodyV ⟨Pg, ofList [], isref, N⟩ (anZ88 N) 209 (shFZ88.args [.int f_0, .int f_1, .int f_2]) [] c_ = GZ88 N f_0 f_1 f_2 (fun r0 => c_ (.int .u64 r0) []) := by kernel_rfl
theorem goodZ88 (N : Nat) : GoodF Pg 209 (FZ88 (GZ88 N)) := by
 refine good_fs (cx := ⟨Pg, ofList [], isref, N⟩) (ofList_nil _) shFZ88 (spZ88 (GZ88 N)) (anZ88 N) 0 0 (by kernel_rfl) (fun i_ hi_ => by omega) ?_
 intro a k h
 unfold spZ88 at h
 split at h
 ·exact ⟨[], rfl, rfl, (eqZ88 _ _ _ _ _).trans h⟩
 ·cases h
def anZ86 (N : Nat) (SZ139 : TSZ139) (SZ88 : TSZ88) : Nat -> Option Ann := fun b_ => none
theorem eqZ86 (N : Nat) (SZ139 : TSZ139) (SZ88 : TSZ88) (b f_0 f_1 f_2 : Int) (c_ : V -> List Blk -> Bool) : bodyV ⟨Pg, ofList [(190, (FZ139 SZ139)), (209, (FZ88 SZ88))], isref, N⟩ (anZ86 N SZ139 SZ88) 201 (shFZ86.args [.int b, .int f_0, .int f_1, .int f_2]) [] c_ = GZ86 N SZ139 SZ88 b f_0 f_1 f_2 (fun r0 => c_ (.bool r0) []) := by kernel_rfl
theorem goodZ86 (N : Nat) (SZ139 : TSZ139) (SZ88 : TSZ88) (hZ139 : GoodF Pg 190 (FZ139 SZ139)) (hZ88 : GoodF Pg 209 (FZ88 SZ88)) : GoodF Pg 201 (FZ86 (GZ86 N SZ139 SZ88)) := by
 refine good_fs (cx := ⟨Pg, ofList [(190, (FZ139 SZ139)), (209, (FZ88 SZ88))], isref, N⟩) (ofList_cons hZ139 (ofList_cons hZ88 (ofList_nil _))) shFZ86 (spZ86 (GZ86 N SZ139 SZ88)) (anZ86 N SZ139 SZ88) 0 0 (by kernel_rfl) (fun i_ hi_ => by omega) ?_
 intro a k h
 unfold spZ86 at h
 split at h
 ·exact ⟨[], rfl, rfl, (eqZ86 _ _ _ _ _ _ _ _).trans h⟩
 ·cases h
def anZ70 (N : Nat) : Nat -> Option Ann := fun b_ => none
theorem eqZ70 (N : Nat) (f_0 f_1 f_2 : Int) (c_ : V -> List Blk -> Bool) : bodyV ⟨Pg, ofList [], isref, N⟩ (anZ70 N) 179 (shFZ70.args [.int f_0, .int f_1, .int f_2]) [] c_ = GZ70 N f_0 f_1 f_2 (fun r0 => c_ (.int .u64 r0) []) := by kernel_rfl
theorem goodZ70 (N : Nat) : GoodF Pg 179 (FZ70 (GZ70 N)) := by
 refine good_fs (cx := ⟨Pg, ofList [], isref, N⟩) (ofList_nil _) shFZ70 (spZ70 (GZ70 N)) (anZ70 N) 0 0 (by kernel_rfl) (fun i_ hi_ => by omega) ?_
 intro a k h
 unfold spZ70 at h
 split at h
 ·exact ⟨[], rfl, rfl, (eqZ70 _ _ _ _ _).trans h⟩
 ·cases h
def anZ150 (N : Nat) (SZ88 : TSZ88) (SZ70 : TSZ70) : Nat -> Option Ann := fun b_ => none
theorem eqZ150 (N : Nat) (SZ88 : TSZ88) (SZ70 : TSZ70) (f_0 f_1 f_2 : Int) (c_ : V -> List Blk -> Bool) : bodyV ⟨Pg, ofList [(209, (FZ88 SZ88)), (179, (FZ70 SZ70))], isref, N⟩ (anZ150 N SZ88 SZ70) 202 (shFZ150.args [.int f_0, .int f_1, .int f_2]) [] c_ = GZ150 N SZ88 SZ70 f_0 f_1 f_2 (fun r0 => c_ (.int .u64 r0) []) := by kernel_rfl
theorem goodZ150 (N : Nat) (SZ88 : TSZ88) (SZ70 : TSZ70) (hZ88 : GoodF Pg 209 (FZ88 SZ88)) (hZ70 : GoodF Pg 179 (FZ70 SZ70)) : GoodF Pg 202 (FZ150 (GZ150 N SZ88 SZ70)) := by
 refine good_fs (cx := ⟨Pg, ofList [(209, (FZ88 SZ88)), (179, (FZ70 SZ70))], isref, N⟩) (ofList_cons hZ88 (ofList_cons hZ70 (ofList_nil _))) shFZ150 (spZ150 (GZ150 N SZ88 SZ70)) (anZ150 N SZ88 SZ70) 0 0 (by kernel_rfl) (fun i_ hi_ => by omega) ?_
 intro a k h
 unfold spZ150 at h
 split at h
 ·exact ⟨[], rfl, rfl, (eqZ150 _ _ _ _ _ _ _).trans h⟩
 ·cases h
def anZ74 (N : Nat) (SZ86 : TSZ86) (SZ150 : TSZ150) : Nat -> Option Ann := fun b_ => none
theorem eqZ74 (N : Nat) (SZ86 : TSZ86) (SZ150 : TSZ150) (b f_0 f_1 f_2 : Int) (c_ : V -> List Blk -> Bool) : bodyV ⟨Pg, ofList [(201, (FZ86 SZ86)), (202, (FZ150 SZ150))], isref, N⟩ (anZ74 N SZ86 SZ150) 189 (shFZ74.args [.int b, .int f_0, .int f_1, .int f_2]) [] c_ = GZ74 N SZ86 SZ150 b f_0 f_1 f_2 (fun r0 => c_ (.int .u64 r0) []) := by kernel_rfl
theorem goodZ74 (N : Nat) (SZ86 : TSZ86) (SZ150 : TSZ150) (hZ86 : GoodF Pg 201 (FZ86 SZ86)) (hZ150 : GoodF Pg 202 (FZ150 SZ150)) : GoodF Pg 189 (FZ74 (GZ74 N SZ86 SZ150)) := by
 refine good_fs (cx := ⟨Pg, ofList [(201, (FZ86 SZ86)), (202, (FZ150 SZ150))], isref, N⟩) (ofList_cons hZ86 (ofList_cons hZ150 (ofList_nil _))) shFZ74 (spZ74 (GZ74 N SZ86 SZ150)) (anZ74 N SZ86 SZ150) 0 0 (by kernel_rfl) (fun i_ hi_ => by omega) ?_
 intro a k h
 unfold spZ74 at h
 split at h
 ·exact ⟨[], rfl, rfl, (eqZ74 _ _ _ _ _ _ _ _).trans h⟩
 ·cases h
def anZ29 (N : Nat) (SZ74 : TSZ74) (SZ139 : TSZ139) (SZ70 : TSZ70) : Nat -> Option Ann := fun b_ => none
theorem eqZ29 (N : Nat) (SZ74 : TSZ74) (SZ139 : TSZ139) (SZ70 : TSZ70) (b f_0 f_1 f_2 : Int) (c_ : V -> List Blk -> Bool) : bodyV ⟨Pg, ofList [(189, (FZ74 SZ74)), (190, (FZ139 SZ139)), (179, (FZ70 SZ70))], isref, N⟩ (anZ29 N SZ74 SZ139 SZ70) 176 (shFZ29.args [.int b, .int f_0, .int f_1, .int f_2]) [] c_ = GZ29 N SZ74 SZ139 SZ70 b f_0 f_1 f_2 (fun r0 r1 r2 => c_ (.tup [.bool r0, .int .i64 r1, .int .u64 r2]) []) := by kernel_rfl
theorem goodZ29 (N : Nat) (SZ74 : TSZ74) (SZ139 : TSZ139) (SZ70 : TSZ70) (hZ74 : GoodF Pg 189 (FZ74 SZ74)) (hZ139 : GoodF Pg 190 (FZ139 SZ139)) (hZ70 : GoodF Pg 179 (FZ70 SZ70)) : GoodF Pg 176 (FZ29 (GZ29 N SZ74 SZ139 SZ70)) := by
 refine good_fs (cx := ⟨Pg, ofList [(189, (FZ74 SZ74)), (190, (FZ139 SZ139)), (179, (FZ70 SZ70))], isref, N⟩) (ofList_cons hZ74 (ofList_cons hZ139 (ofList_cons hZ70 (ofList_nil _)))) shFZ29 (spZ29 (GZ29 N SZ74 SZ139 SZ70)) (anZ29 N SZ74 SZ139 SZ70) 0 0 (by kernel_rfl) (fun i_ hi_ => by omega) ?_
 intro a k h
 unfold spZ29 at h
 split at h
 ·exact ⟨[], rfl, rfl, (eqZ29 _ _ _ _ _ _ _ _ _).trans h⟩
 ·cases h
def anZ28 (N : Nat) (SZ29 : TSZ29) : Nat -> Option Ann := fun b_ => none
theorem eqZ28 (N : Nat) (SZ29 : TSZ29) (b f_0 f_1 f_2 : Int) (c_ : V -> List Blk -> Bool) : bodyV ⟨Pg, ofList [(176, (FZ29 SZ29))], isref, N⟩ (anZ28 N SZ29) 154 (shFZ28.args [.int b, .int f_0, .int f_1, .int f_2]) [] c_ = GZ28 N SZ29 b f_0 f_1 f_2 (fun r0 => c_ (.int .i64 r0) []) := by kernel_rfl
theorem goodZ28 (N : Nat) (SZ29 : TSZ29) (hZ29 : GoodF Pg 176 (FZ29 SZ29)) : GoodF Pg 154 (FZ28 (GZ28 N SZ29)) := by
 refine good_fs (cx := ⟨Pg, ofList [(176, (FZ29 SZ29))], isref, N⟩) (ofList_cons hZ29 (ofList_nil _)) shFZ28 (spZ28 (GZ28 N SZ29)) (anZ28 N SZ29) 0 0 (by kernel_rfl) (fun i_ hi_ => by omega) ?_
 intro a k h
 unfold spZ28 at h
 split at h
 ·exact ⟨[], rfl, rfl, (eqZ28 _ _ _ _ _ _ _).trans h⟩
 ·cases h
def anZ145 (N : Nat) (SZ137 : TSZ137) (S_an_of : TS_an_of) (SZ28 : TSZ28) : Nat -> Option Ann := fun b_ => none
theorem eqZ145 (N : Nat) (SZ137 : TSZ137) (S_an_of : TS_an_of) (SZ28 : TSZ28) (x : Nat) (c_ : V -> List Blk -> Bool) : bodyV ⟨Pg, ofList [(95, (FZ137 SZ137)), (155, (F_an_of S_an_of)), (154, (FZ28 SZ28))], isref, N⟩ (anZ145 N SZ137 S_an_of SZ28) 126 (shFZ145.args [.nat x]) [] c_ = GZ145 N SZ137 S_an_of SZ28 x (fun r0 => c_ (.int .i64 r0) []) := by kernel_rfl
theorem goodZ145 (N : Nat) (SZ137 : TSZ137) (S_an_of : TS_an_of) (SZ28 : TSZ28) (hZ137 : GoodF Pg 95 (FZ137 SZ137)) (h_an_of : GoodF Pg 155 (F_an_of S_an_of)) (hZ28 : GoodF Pg 154 (FZ28 SZ28)) : GoodF Pg 126 (FZ145 (GZ145 N SZ137 S_an_of SZ28)) := by
 refine good_fs (cx := ⟨Pg, ofList [(95, (FZ137 SZ137)), (155, (F_an_of S_an_of)), (154, (FZ28 SZ28))], isref, N⟩) (ofList_cons hZ137 (ofList_cons h_an_of (ofList_cons hZ28 (ofList_nil _)))) shFZ145 (spZ145 (GZ145 N SZ137 S_an_of SZ28)) (anZ145 N SZ137 S_an_of SZ28) 0 0 (by kernel_rfl) (fun i_ hi_ => by omega) ?_
 intro a k h
 unfold spZ145 at h
 split at h
 ·exact ⟨[], rfl, rfl, (eqZ145 _ _ _ _ _ _).trans h⟩
 ·cases h
def anZ157 (N : Nat) (SZ137 : TSZ137) (SZ89 : TSZ89) : Nat -> Option Ann := fun b_ => none
theorem eqZ157 (N : Nat) (SZ137 : TSZ137) (SZ89 : TSZ89) (x : Nat) (c_ : V -> List Blk -> Bool) : bodyV ⟨Pg, ofList [(95, (FZ137 SZ137)), (82, (FZ89 SZ89))], isref, N⟩ (anZ157 N SZ137 SZ89) 47 (shFZ157.args [.nat x]) [] c_ = GZ157 N SZ137 SZ89 x (fun r0 => c_ (.flt r0) []) := by kernel_rfl
theorem goodZ157 (N : Nat) (SZ137 : TSZ137) (SZ89 : TSZ89) (hZ137 : GoodF Pg 95 (FZ137 SZ137)) (hZ89 : GoodF Pg 82 (FZ89 SZ89)) : GoodF Pg 47 (FZ157 (GZ157 N SZ137 SZ89)) := by
 refine good_fs (cx := ⟨Pg, ofList [(95, (FZ137 SZ137)), (82, (FZ89 SZ89))], isref, N⟩) (ofList_cons hZ137 (ofList_cons hZ89 (ofList_nil _))) shFZ157 (spZ157 (GZ157 N SZ137 SZ89)) (anZ157 N SZ137 SZ89) 0 0 (by kernel_rfl) (fun i_ hi_ => by omega) ?_
 intro a k h
 unfold spZ157 at h
 split at h
 ·exact ⟨[], rfl, rfl, (eqZ157 _ _ _ _ _).trans h⟩
 ·cases h
def sh_st_quat_finite_0 : StSh := ⟨(.rof :: (sqs 4 (.int .i64 :: (.int .i64 :: (sqs 13 []))))), []⟩
def sx0_st_quat_finite_0 : StSh := ⟨(.any :: (.any :: (.bool :: (sqs 17 [])))), []⟩
def sx1_st_quat_finite_0 : StSh := ⟨(sqs 20 []), []⟩
def hk_st_quat_finite_0 (N : Nat) : List Atom -> K -> Bool := fun a_ κ => match a_ with
 | [.fls l_1, .int t5, .int t6] => iterG N (st_quat_finite_0 N l_1 t5 (fun r0 => κ.ret (sx0_st_quat_finite_0.build [.bool r0])) (κ.ext 0 (sx1_st_quat_finite_0.build []))) t6
 | _ => false
def anZ14 (N : Nat) : Nat -> Option Ann := fun b_ => cond (b_ == 0) (some ⟨⟨[0, 5, 6], [], []⟩, [(0, ⟨[], [], []⟩)], some ⟨[2], [], []⟩, some (mkHooks [(sh_st_quat_finite_0, hk_st_quat_finite_0 N)])⟩) (none)
theorem eq_st_quat_finite_0 (N : Nat) (κ : K) (l_1 : List Fl) (t5 t6 : Int) : iter N (fun s k => codeV ⟨Pg, ofList [], isref, N⟩ 0 (anZ14 N) (lp Pg 48 0).2 (lp Pg 48 0).1 s (roundK Pg 0 ((anZ14 N) (lp Pg 48 0).1) κ k)) (sh_st_quat_finite_0.build [.fls l_1, .int t5, .int t6]) = iterG N (st_quat_finite_0 N l_1 t5 (fun r0 => κ.ret (sx0_st_quat_finite_0.build [.bool r0])) (κ.ext 0 (sx1_st_quat_finite_0.build []))) t6 :=
 iter_tr (fun v_ => sh_st_quat_finite_0.build [.fls l_1, .int t5, .int v_]) (fun v_ K_ => by kernel_rfl) N t6
theorem hk1_st_quat_finite_0 (N : Nat) : HookFor ⟨Pg, ofList [], isref, N⟩ 0 (anZ14 N) (lp Pg 48 0) (sh_st_quat_finite_0, hk_st_quat_finite_0 N) := by
 intro a κ h
 simp only at h
 unfold hk_st_quat_finite_0 at h
 split at h
 ·exact (eq_st_quat_finite_0 _ _ _ _ _).trans h
 ·cases h
theorem ho_quat_finite_0 (N : Nat) : HookOk ⟨Pg, ofList [], isref, N⟩ 0 (anZ14 N) (lp Pg 48 0) :=
 hooks_ok [(sh_st_quat_finite_0, hk_st_quat_finite_0 N)] (by kernel_rfl) ⟨hk1_st_quat_finite_0 _, trivial⟩
theorem eqZ14 (N : Nat) (l : List Fl) (c_ : V -> List Blk -> Bool) : bodyV ⟨Pg, ofList [], isref, N⟩ (anZ14 N) 48 (shFZ14.args [.fls l]) [] c_ = GZ14 N l (fun r0 => c_ (.bool r0) []) := by kernel_rfl
theorem goodZ14 (N : Nat) : GoodF Pg 48 (FZ14 (GZ14 N)) := by
 refine good_fs (cx := ⟨Pg, ofList [], isref, N⟩) (ofList_nil _) shFZ14 (spZ14 (GZ14 N)) (anZ14 N) 1 0 (by kernel_rfl) (fun i_ hi_ => by
  match i_, hi_ with
  | 0, _ => exact ho_quat_finite_0 _
  | (q + 1), h => omega) ?_
 intro a k h
 unfold spZ14 at h
 split at h
 ·exact ⟨[], rfl, rfl, (eqZ14 _ _ _).trans h⟩
 ·cases h
def anZ10 (N : Nat) (SZ14 : TSZ14) : Nat -> Option Ann := fun b_ => none
theorem eqZ10 (N : Nat) (SZ14 : TSZ14) (qs_0 qs_1 qs_2 qs_3 : Fl) (c_ : V -> List Blk -> Bool) : bodyV ⟨Pg, ofList [(48, (FZ14 SZ14))], isref, (N + 24)⟩ (anZ10 (N + 24) SZ14) 42 (shFZ10.args [.fl qs_0, .fl qs_1, .fl qs_2, .fl qs_3]) [] c_ = GZ10 (N + 24) SZ14 qs_0 qs_1 qs_2 qs_3 (fun r0 => c_ (.bool r0) []) := by kernel_rfl
theorem goodZ10 (N : Nat) (SZ14 : TSZ14) (hZ14 : GoodF Pg 48 (FZ14 SZ14)) : GoodF Pg 42 (FZ10 (GZ10 (N + 24) SZ14)) := by
 refine good_fs (cx := ⟨Pg, ofList [(48, (FZ14 SZ14))], isref, (N + 24)⟩) (ofList_cons hZ14 (ofList_nil _)) shFZ10 (spZ10 (GZ10 (N + 24) SZ14)) (anZ10 (N + 24) SZ14) 1 0 (by kernel_rfl) (fun i_ hi_ => by
  match i_, hi_ with
  | 0, _ => exact (fun hk e => by rw [show hookOf ((anZ10 (N + 24) SZ14) (lp Pg 42 0).1) = none from by kernel_rfl] at e; cases e)
  | (q + 1), h => omega) ?_
 intro a k h
 unfold spZ10 at h
 split at h
 ·exact ⟨[], rfl, rfl, (eqZ10 _ _ _ _ _ _ _).trans h⟩
 ·cases h
def anZ51 (N : Nat) : Nat -> Option Ann := fun b_ => none
theorem eqZ51 (N : Nat) (q_0 q_1 q_2 q_3 : Fl) (c_ : V -> List Blk -> Bool) : bodyV ⟨Pg, ofList [], isref, N⟩ (anZ51 N) 43 (shFZ51.args [.fl q_0, .fl q_1, .fl q_2, .fl q_3]) [] c_ = GZ51 N q_0 q_1 q_2 q_3 (c_ (.agg [.flt q_0, .flt q_1, .flt q_2, .flt q_3]) []) := by kernel_rfl
theorem goodZ51 (N : Nat) : GoodF Pg 43 (FZ51 (GZ51 N)) := by
 refine good_fs (cx := ⟨Pg, ofList [], isref, N⟩) (ofList_nil _) shFZ51 (spZ51 (GZ51 N)) (anZ51 N) 0 0 (by kernel_rfl) (fun i_ hi_ => by omega) ?_
 intro a k h
 unfold spZ51 at h
 split at h
 ·exact ⟨[], rfl, rfl, (eqZ51 _ _ _ _ _ _).trans h⟩
 ·cases h
def anZ112 (N : Nat) (S_m_Abs : TS_m_Abs) : Nat -> Option Ann := fun b_ => none
theorem eqZ112 (N : Nat) (S_m_Abs : TS_m_Abs) (f : Fl) (sign : Int) (c_ : V -> List Blk -> Bool) : bodyV ⟨Pg, ofList [(47, (F_m_Abs S_m_Abs))], isref, N⟩ (anZ112 N S_m_Abs) 110 (shFZ112.args [.fl f, .int sign]) [] c_ = GZ112 N S_m_Abs f sign (fun r0 => c_ (.bool r0) []) := by kernel_rfl
theorem goodZ112 (N : Nat) (S_m_Abs : TS_m_Abs) (h_m_Abs : GoodF Pg 47 (F_m_Abs S_m_Abs)) : GoodF Pg 110 (FZ112 (GZ112 N S_m_Abs)) := by
 refine good_fs (cx := ⟨Pg, ofList [(47, (F_m_Abs S_m_Abs))], isref, N⟩) (ofList_cons h_m_Abs (ofList_nil _)) shFZ112 (spZ112 (GZ112 N S_m_Abs)) (anZ112 N S_m_Abs) 0 0 (by kernel_rfl) (fun i_ hi_ => by omega) ?_
 intro a k h
 unfold spZ112 at h
 split at h
 ·exact ⟨[], rfl, rfl, (eqZ112 _ _ _ _ _).trans h⟩
 ·cases h
def anZ116 (N : Nat) : Nat -> Option Ann := fun b_ => none
theorem eqZ116 (N : Nat) (f : Fl) (c_ : V -> List Blk -> Bool) : bodyV ⟨Pg, ofList [], isref, N⟩ (anZ116 N) 111 (shFZ116.args [.fl f]) [] c_ = GZ116 N f (fun r0 => c_ (.bool r0) []) := by kernel_rfl
theorem goodZ116 (N : Nat) : GoodF Pg 111 (FZ116 (GZ116 N)) := by
 refine good_fs (cx := ⟨Pg, ofList [], isref, N⟩) (ofList_nil _) shFZ116 (spZ116 (GZ116 N)) (anZ116 N) 0 0 (by kernel_rfl) (fun i_ hi_ => by omega) ?_
 intro a k h
 unfold spZ116 at h
 split at h
 ·exact ⟨[], rfl, rfl, (eqZ116 _ _ _).trans h⟩
 ·cases h
def anZ61 (N : Nat) (S_m_Abs : TS_m_Abs) : Nat -> Option Ann := fun b_ => none
theorem eqZ61 (N : Nat) (S_m_Abs : TS_m_Abs) (x : Fl) (c_ : V -> List Blk -> Bool) : bodyV ⟨Pg, ofList [(47, (F_m_Abs S_m_Abs))], isref, N⟩ (anZ61 N S_m_Abs) 112 (shFZ61.args [.fl x]) [] c_ = GZ61 N S_m_Abs x (fun r0 r1 => c_ (.tup [.flt r0, .int .i64 r1]) []) := by kernel_rfl
theorem goodZ61 (N : Nat) (S_m_Abs : TS_m_Abs) (h_m_Abs : GoodF Pg 47 (F_m_Abs S_m_Abs)) : GoodF Pg 112 (FZ61 (GZ61 N S_m_Abs)) := by
 refine good_fs (cx := ⟨Pg, ofList [(47, (F_m_Abs S_m_Abs))], isref, N⟩) (ofList_cons h_m_Abs (ofList_nil _)) shFZ61 (spZ61 (GZ61 N S_m_Abs)) (anZ61 N S_m_Abs) 0 0 (by kernel_rfl) (fun i_ hi_ => by omega) ?_
 intro a k h
 unfold spZ61 at h
 split at h
 ·exact ⟨[], rfl, rfl, (eqZ61 _ _ _ _).trans h⟩
 ·cases h
def anZ152 (N : Nat) (SZ112 : TSZ112) (SZ116 : TSZ116) (SZ61 : TSZ61) (SZ106 : TSZ106) (SZ89 : TSZ89) : Nat -> Option Ann := fun b_ => none
theorem eqZ152 (N : Nat) (SZ112 : TSZ112) (SZ116 : TSZ116) (SZ61 : TSZ61) (SZ106 : TSZ106) (SZ89 : TSZ89) (f : Fl) (c_ : V -> List Blk -> Bool) : bodyV ⟨Pg, ofList [(110, (FZ112 SZ112)), (111, (FZ116 SZ116)), (112, (FZ61 SZ61)), (95, (FZ106 SZ106)), (82, (FZ89 SZ89))], isref, N⟩ (anZ152 N SZ112 SZ116 SZ61 SZ106 SZ89) 123 (shFZ152.args [.fl f]) [] c_ = GZ152 N SZ112 SZ116 SZ61 SZ106 SZ89 f (fun r0 r1 => c_ (.tup [.flt r0, .int .i64 r1]) []) := by kernel_rfl
theorem goodZ152 (N : Nat) (SZ112 : TSZ112) (SZ116 : TSZ116) (SZ61 : TSZ61) (SZ106 : TSZ106) (SZ89 : TSZ89) (hZ112 : GoodF Pg 110 (FZ112 SZ112)) (hZ116 : GoodF Pg 111 (FZ116 SZ116)) (hZ61 : GoodF Pg 112 (FZ61 SZ61)) (hZ106 : GoodF Pg 95 (FZ106 SZ106)) (hZ89 : GoodF Pg 82 (FZ89 SZ89)) : GoodF Pg 123 (FZ152 (GZ152 N SZ112 SZ116 SZ61 SZ106 SZ89)) := by
 refine good_fs (cx := ⟨Pg, ofList [(110, (FZ112 SZ112)), (111, (FZ116 SZ116)), (112, (FZ61 SZ61)), (95, (FZ106 SZ106)), (82, (FZ89 SZ89))], isref, N⟩) (ofList_cons hZ112 (ofList_cons hZ116 (ofList_cons hZ61 (ofList_cons hZ106 (ofList_cons hZ89 (ofList_nil _)))))) shFZ152 (spZ152 (GZ152 N SZ112 SZ116 SZ61 SZ106 SZ89)) (anZ152 N SZ112 SZ116 SZ61 SZ106 SZ89) 0 0 (by kernel_rfl) (fun i_ hi_ => by omega) ?_
 intro a k h
 unfold spZ152 at h
 split at h
 ·exact ⟨[], rfl, rfl, (eqZ152 _ _ _ _ _ _ _ _).trans h⟩
 ·cases h
def anZ108 (N : Nat) (SZ152 : TSZ152) : Nat -> Option Ann := fun b_ => none
theorem eqZ108 (N : Nat) (SZ152 : TSZ152) (f : Fl) (c_ : V -> List Blk -> Bool) : bodyV ⟨Pg, ofList [(123, (FZ152 SZ152))], isref, N⟩ (anZ108 N SZ152) 75 (shFZ108.args [.fl f]) [] c_ = GZ108 N SZ152 f (fun r0 r1 => c_ (.tup [.flt r0, .int .i64 r1]) []) := by kernel_rfl
theorem goodZ108 (N : Nat) (SZ152 : TSZ152) (hZ152 : GoodF Pg 123 (FZ152 SZ152)) : GoodF Pg 75 (FZ108 (GZ108 N SZ152)) := by
 refine good_fs (cx := ⟨Pg, ofList [(123, (FZ152 SZ152))], isref, N⟩) (ofList_cons hZ152 (ofList_nil _)) shFZ108 (spZ108 (GZ108 N SZ152)) (anZ108 N SZ152) 0 0 (by kernel_rfl) (fun i_ hi_ => by omega) ?_
 intro a k h
 unfold spZ108 at h
 split at h
 ·exact ⟨[], rfl, rfl, (eqZ108 _ _ _ _).trans h⟩
 ·cases h
def anZ95 (N : Nat) (SZ106 : TSZ106) (SZ89 : TSZ89) : Nat -> Option Ann := fun b_ => none
theorem eqZ95 (N : Nat) (SZ106 : TSZ106) (SZ89 : TSZ89) (f sign : Fl) (c_ : V -> List Blk -> Bool) : bodyV ⟨Pg, ofList [(95, (FZ106 SZ106)), (82, (FZ89 SZ89))], isref, N⟩ (anZ95 N SZ106 SZ89) 113 (shFZ95.args [.fl f, .fl sign]) [] c_ = GZ95 N SZ106 SZ89 f sign (fun r0 => c_ (.flt r0) []) := by kernel_rfl
theorem goodZ95 (N : Nat) (SZ106 : TSZ106) (SZ89 : TSZ89) (hZ106 : GoodF Pg 95 (FZ106 SZ106)) (hZ89 : GoodF Pg 82 (FZ89 SZ89)) : GoodF Pg 113 (FZ95 (GZ95 N SZ106 SZ89)) := by
 refine good_fs (cx := ⟨Pg, ofList [(95, (FZ106 SZ106)), (82, (FZ89 SZ89))], isref, N⟩) (ofList_cons hZ106 (ofList_cons hZ89 (ofList_nil _))) shFZ95 (spZ95 (GZ95 N SZ106 SZ89)) (anZ95 N SZ106 SZ89) 0 0 (by kernel_rfl) (fun i_ hi_ => by omega) ?_
 intro a k h
 unfold spZ95 at h
 split at h
 ·exact ⟨[], rfl, rfl, (eqZ95 _ _ _ _ _ _).trans h⟩
 ·cases h
def an_m_Inf (N : Nat) (SZ89 : TSZ89) : Nat -> Option Ann := fun b_ => none
def ls_m_Inf_0 (d_ : List V) (u_ : List (Option Blk)) (sign v : Int) : St := ⟨(dqs d_ 0 3 (.int .u64 v :: (dqs d_ 3 4 []))), []⟩
theorem jn_m_Inf_0 (N : Nat) (SZ89 : TSZ89) (d_ : List V) (u_ : List (Option Blk)) (sign v : Int) (c_ : V -> List Blk -> Bool) : codesV ⟨Pg, ofList [(82, (FZ89 SZ89))], isref, N⟩ 0 (an_m_Inf N SZ89) ((cds Pg 114).drop 4) 0 (ls_m_Inf_0 d_ u_ sign v) (finV Pg 114 0 c_) = J_m_Inf_0 N SZ89 sign v (fun r0 => c_ (.flt r0) []) := by kernel_rfl
theorem hd_m_Inf_w (N : Nat) (SZ89 : TSZ89) (sign : Int) (c_ : V -> List Blk -> Bool) (κn_ : St -> Bool) : codesV ⟨Pg, ofList [(82, (FZ89 SZ89))], isref, N⟩ 0 (an_m_Inf N SZ89) (sg Pg 114 0 4) 0 (st0 Pg 114 (shF_m_Inf.args [.int sign]) []) { (finV Pg 114 0 c_) with nrm := κn_ } = (cond (decide (sign >= 0)) (κn_ (ls_m_Inf_0 [.int .i64 sign, .any, .flt (some 0), .int .i64 sign, .bool true, .any, .any] [] sign 9218868437227405312)) (κn_ (ls_m_Inf_0 [.int .i64 sign, .any, .flt (some 0), .int .i64 sign, .bool false, .any, .any] [] sign 18442240474082181120))) := by kernel_rfl
theorem jn_m_Inf_w (N : Nat) (SZ89 : TSZ89) (sign : Int) (c_ : V -> List Blk -> Bool) : codesV ⟨Pg, ofList [(82, (FZ89 SZ89))], isref, N⟩ 0 (an_m_Inf N SZ89) ((cds Pg 114).drop 0) 0 (st0 Pg 114 (shF_m_Inf.args [.int sign]) []) (finV Pg 114 0 c_) = G_m_Inf N SZ89 sign (fun r0 => c_ (.flt r0) []) := by
 rw [codesV_cut 0 4 4 rfl]
 refine (hd_m_Inf_w N SZ89 sign c_ _).trans ?_
 simp only [jn_m_Inf_0]
 kernel_rfl
theorem eq_m_Inf (N : Nat) (SZ89 : TSZ89) (sign : Int) (c_ : V -> List Blk -> Bool) : bodyV ⟨Pg, ofList [(82, (FZ89 SZ89))], isref, N⟩ (an_m_Inf N SZ89) 114 (shF_m_Inf.args [.int sign]) [] c_ = G_m_Inf N SZ89 sign (fun r0 => c_ (.flt r0) []) :=
 (bodyV_codes (by kernel_rfl)).trans (jn_m_Inf_w N SZ89 sign c_)
theorem good_m_Inf (N : Nat) (SZ89 : TSZ89) (hZ89 : GoodF Pg 82 (FZ89 SZ89)) : GoodF Pg 114 (F_m_Inf (G_m_Inf N SZ89)) := by
 refine good_fs (cx := ⟨Pg, ofList [(82, (FZ89 SZ89))], isref, N⟩) (ofList_cons hZ89 (ofList_nil _)) shF_m_Inf (sp_m_Inf (G_m_Inf N SZ89)) (an_m_Inf N SZ89) 0 0 (by kernel_rfl) (fun i_ hi_ => by omega) ?_
 intro a k h
 unfold sp_m_Inf at h
 split at h
 ·exact ⟨[], rfl, rfl, (eq_m_Inf _ _ _ _).trans h⟩
 ·cases h
def anZ147 (N : Nat) (SZ112 : TSZ112) (SZ116 : TSZ116) (SZ61 : TSZ61) (SZ106 : TSZ106) (SZ95 : TSZ95) (S_m_Inf : TS_m_Inf) (SZ89 : TSZ89) : Nat -> Option Ann := fun b_ => none
def lsZ176 (d_ : List V) (u_ : List (Option Blk)) (frac : Fl) (exp exp_1 x : Int) (m : Fl) : St := ⟨((dq d_ 0) :: (.int .i64 exp_1 :: (dqs d_ 1 4 (.int .u64 x :: (.flt m :: (dqs d_ 5 55 [])))))), []⟩
theorem jnZ176 (N : Nat) (SZ112 : TSZ112) (SZ116 : TSZ116) (SZ61 : TSZ61) (SZ106 : TSZ106) (SZ95 : TSZ95) (S_m_Inf : TS_m_Inf) (SZ89 : TSZ89) (d_ : List V) (u_ : List (Option Blk)) (frac : Fl) (exp exp_1 x : Int) (m : Fl) (c_ : V -> List Blk -> Bool) : codesV ⟨Pg, ofList [(110, (FZ112 SZ112)), (111, (FZ116 SZ116)), (112, (FZ61 SZ61)), (95, (FZ106 SZ106)), (113, (FZ95 SZ95)), (114, (F_m_Inf S_m_Inf)), (82, (FZ89 SZ89))], isref, N⟩ 0 (anZ147 N SZ112 SZ116 SZ61 SZ106 SZ95 S_m_Inf SZ89) ((cds Pg 64).drop 13) 0 (lsZ176 d_ u_ frac exp exp_1 x m) (finV Pg 64 0 c_) = JZ176 N SZ112 SZ116 SZ61 SZ106 SZ95 S_m_Inf SZ89 frac exp exp_1 x m (fun r0 => c_ (.flt r0) []) := by kernel_rfl
theorem hd_m_ldexp_w (N : Nat) (SZ112 : TSZ112) (SZ116 : TSZ116) (SZ61 : TSZ61) (SZ106 : TSZ106) (SZ95 : TSZ95) (S_m_Inf : TS_m_Inf) (SZ89 : TSZ89) (frac : Fl) (exp : Int) (c_ : V -> List Blk -> Bool) (κn_ : St -> Bool) : codesV ⟨Pg, ofList [(110, (FZ112 SZ112)), (111, (FZ116 SZ116)), (112, (FZ61 SZ61)), (95, (FZ106 SZ106)), (113, (FZ95 SZ95)), (114, (F_m_Inf S_m_Inf)), (82, (FZ89 SZ89))], isref, N⟩ 0 (anZ147 N SZ112 SZ116 SZ61 SZ106 SZ95 S_m_Inf SZ89) (sg Pg 64 0 13) 0 (st0 Pg 64 (shFZ147.args [.fl frac, .int exp]) []) { (finV Pg 64 0 c_) with nrm := κn_ } = (cond (feq frac (some 0)) (c_ (.flt frac) []) (SZ112 frac 0 (fun cr => (cond (cr == false) (SZ116 frac (fun cr_1 => (cond cr_1 (c_ (.flt frac) []) (SZ61 frac (fun xr nr => ((fits .i64 (exp + nr)) && (SZ106 xr (fun nr_1 => ((fits .i64 (Int.fdiv nr_1 (2 ^ 52))) && ((fits .i64 ((bitsN .and .i64 (Int.fdiv nr_1 (2 ^ 52)) 2047) - 1023)) && ((fits .i64 ((exp + nr) + ((bitsN .and .i64 (Int.fdiv nr_1 (2 ^ 52)) 2047) - 1023))) && (cond (decide (((exp + nr) + ((bitsN .and .i64 (Int.fdiv nr_1 (2 ^ 52)) 2047) - 1023)) < (-1075))) (SZ95 (some 0) xr (fun xr_1 => (c_ (.flt xr_1) []))) (cond (decide (((exp + nr) + ((bitsN .and .i64 (Int.fdiv nr_1 (2 ^ 52)) 2047) - 1023)) > 1023)) (cond (flt xr (some 0)) (S_m_Inf (-1) (fun xr_2 => (c_ (.flt xr_2) []))) (S_m_Inf 1 (fun xr_3 => (c_ (.flt xr_3) [])))) (cond (decide (((exp + nr) + ((bitsN .and .i64 (Int.fdiv nr_1 (2 ^ 52)) 2047) - 1023)) < (-1022))) ((fits .i64 (((exp + nr) + ((bitsN .and .i64 (Int.fdiv nr_1 (2 ^ 52)) 2047) - 1023)) + 53)) && (κn_ (lsZ176 [.flt xr, .any, .any, .flt (some 0), .int .i64 nr, .bool false, .flt frac, .bool (feq frac (some 0)), .any, .bool false, .flt frac, .bool cr, .bool false, .flt frac, .bool cr_1, .bool cr_1, .any, .tup [.flt xr, .int .i64 nr], .flt frac, .tup [.flt xr, .int .i64 nr], .flt xr, .int .i64 nr, .int .i64 exp, .int .i64 nr, .int .i64 (exp + nr), .flt xr, .int .u64 nr_1, .int .i64 (exp + nr), .int .u64 nr_1, .int .u64 (Int.fdiv nr_1 (2 ^ 52)), .int .i64 (Int.fdiv nr_1 (2 ^ 52)), .int .i64 (bitsN .and .i64 (Int.fdiv nr_1 (2 ^ 52)) 2047), .int .i64 ((bitsN .and .i64 (Int.fdiv nr_1 (2 ^ 52)) 2047) - 1023), .int .i64 ((exp + nr) + ((bitsN .and .i64 (Int.fdiv nr_1 (2 ^ 52)) 2047) - 1023)), .int .i64 ((exp + nr) + ((bitsN .and .i64 (Int.fdiv nr_1 (2 ^ 52)) 2047) - 1023)), .bool false, .any, .any, .int .i64 ((exp + nr) + ((bitsN .and .i64 (Int.fdiv nr_1 (2 ^ 52)) 2047) - 1023)), .bool false, .any, .any, .any, .any, .int .i64 ((exp + nr) + ((bitsN .and .i64 (Int.fdiv nr_1 (2 ^ 52)) 2047) - 1023)), .bool true, .int .i64 ((exp + nr) + ((bitsN .and .i64 (Int.fdiv nr_1 (2 ^ 52)) 2047) - 1023)), .int .i64 (((exp + nr) + ((bitsN .and .i64 (Int.fdiv nr_1 (2 ^ 52)) 2047) - 1023)) + 53), .any, .any, .any, .any, .any, .any, .any, .any, .any, .any, .any, .any] [] frac exp (((exp + nr) + ((bitsN .and .i64 (Int.fdiv nr_1 (2 ^ 52)) 2047) - 1023)) + 53) nr_1 (some 4368491638549381120)))) (κn_ (lsZ176 [.flt xr, .any, .any, .flt (some 0), .int .i64 nr, .bool false, .flt frac, .bool (feq frac (some 0)), .any, .bool false, .flt frac, .bool cr, .bool false, .flt frac, .bool cr_1, .bool cr_1, .any, .tup [.flt xr, .int .i64 nr], .flt frac, .tup [.flt xr, .int .i64 nr], .flt xr, .int .i64 nr, .int .i64 exp, .int .i64 nr, .int .i64 (exp + nr), .flt xr, .int .u64 nr_1, .int .i64 (exp + nr), .int .u64 nr_1, .int .u64 (Int.fdiv nr_1 (2 ^ 52)), .int .i64 (Int.fdiv nr_1 (2 ^ 52)), .int .i64 (bitsN .and .i64 (Int.fdiv nr_1 (2 ^ 52)) 2047), .int .i64 ((bitsN .and .i64 (Int.fdiv nr_1 (2 ^ 52)) 2047) - 1023), .int .i64 ((exp + nr) + ((bitsN .and .i64 (Int.fdiv nr_1 (2 ^ 52)) 2047) - 1023)), .int .i64 ((exp + nr) + ((bitsN .and .i64 (Int.fdiv nr_1 (2 ^ 52)) 2047) - 1023)), .bool false, .any, .any, .int .i64 ((exp + nr) + ((bitsN .and .i64 (Int.fdiv nr_1 (2 ^ 52)) 2047) - 1023)), .bool false, .any, .any, .any, .any, .int .i64 ((exp + nr) + ((bitsN .and .i64 (Int.fdiv nr_1 (2 ^ 52)) 2047) - 1023)), .bool false, .any, .any, .any, .any, .any, .any, .any, .any, .any, .any, .any, .any, .any, .any] [] frac exp ((exp + nr) + ((bitsN .and .i64 (Int.fdiv nr_1 (2 ^ 52)) 2047) - 1023)) nr_1 (some 4607182418800017408))))))))))))))))) (c_ (.flt frac) []))))) := by kernel_rfl
theorem jn_m_ldexp_w (N : Nat) (SZ112 : TSZ112) (SZ116 : TSZ116) (SZ61 : TSZ61) (SZ106 : TSZ106) (SZ95 : TSZ95) (S_m_Inf : TS_m_Inf) (SZ89 : TSZ89) (frac : Fl) (exp : Int) (c_ : V -> List Blk -> Bool) : codesV ⟨Pg, ofList [(110, (FZ112 SZ112)), (111, (FZ116 SZ116)), (112, (FZ61 SZ61)), (95, (FZ106 SZ106)), (113, (FZ95 SZ95)), (114, (F_m_Inf S_m_Inf)), (82, (FZ89 SZ89))], isref, N⟩ 0 (anZ147 N SZ112 SZ116 SZ61 SZ106 SZ95 S_m_Inf SZ89) ((cds Pg 64).drop 0) 0 (st0 Pg 64 (shFZ147.args [.fl frac, .int exp]) []) (finV Pg 64 0 c_) = GZ147 N SZ112 SZ116 SZ61 SZ106 SZ95 S_m_Inf SZ89 frac exp (fun r0 => c_ (.flt r0) []) := by
 rw [codesV_cut 0 13 13 rfl]
 refine (hd_m_ldexp_w N SZ112 SZ116 SZ61 SZ106 SZ95 S_m_Inf SZ89 frac exp c_ _).trans ?_
 simp only [jnZ176]
 kernel_rfl
theorem eqZ147 (N : Nat) (SZ112 : TSZ112) (SZ116 : TSZ116) (SZ61 : TSZ61) (SZ106 : TSZ106) (SZ95 : TSZ95) (S_m_Inf : TS_m_Inf) (SZ89 : TSZ89) (frac : Fl) (exp : Int) (c_ : V -> List Blk -> Bool) : bodyV ⟨Pg, ofList [(110, (FZ112 SZ112)), (111, (FZ116 SZ116)), (112, (FZ61 SZ61)), (95, (FZ106 SZ106)), (113, (FZ95 SZ95)), (114, (F_m_Inf S_m_Inf)), (82, (FZ89 SZ89))], isref, N⟩ (anZ147 N SZ112 SZ116 SZ61 SZ106 SZ95 S_m_Inf SZ89) 64 (shFZ147.args [.fl frac, .int exp]) [] c_ = GZ147 N SZ112 SZ116 SZ61 SZ106 SZ95 S_m_Inf SZ89 frac exp (fun r0 => c_ (.flt r0) []) :=
 (bodyV_codes (by kernel_rfl)).trans (jn_m_ldexp_w N SZ112 SZ116 SZ61 SZ106 SZ95 S_m_Inf SZ89 frac exp c_)
theorem goodZ147 (N : Nat) (SZ112 : TSZ112) (SZ116 : TSZ116) (SZ61 : TSZ61) (SZ106 : TSZ106) (SZ95 : TSZ95) (S_m_Inf : TS_m_Inf) (SZ89 : TSZ89) (hZ112 : GoodF Pg 110 (FZ112 SZ112)) (hZ116 : GoodF Pg 111 (FZ116 SZ116)) (hZ61 : GoodF Pg 112 (FZ61 SZ61)) (hZ106 : GoodF Pg 95 (FZ106 SZ106)) (hZ95 : GoodF Pg 113 (FZ95 SZ95)) (h_m_Inf : GoodF Pg 114 (F_m_Inf S_m_Inf)) (hZ89 : GoodF Pg 82 (FZ89 SZ89)) : GoodF Pg 64 (FZ147 (GZ147 N SZ112 SZ116 SZ61 SZ106 SZ95 S_m_Inf SZ89)) := by
 refine good_fs (cx := ⟨Pg, ofList [(110, (FZ112 SZ112)), (111, (FZ116 SZ116)), (112, (FZ61 SZ61)), (95, (FZ106 SZ106)), (113, (FZ95 SZ95)), (114, (F_m_Inf S_m_Inf)), (82, (FZ89 SZ89))], isref, N⟩) (ofList_cons hZ112 (ofList_cons hZ116 (ofList_cons hZ61 (ofList_cons hZ106 (ofList_cons hZ95 (ofList_cons h_m_Inf (ofList_cons hZ89 (ofList_nil _)))))))) shFZ147 (spZ147 (GZ147 N SZ112 SZ116 SZ61 SZ106 SZ95 S_m_Inf SZ89)) (anZ147 N SZ112 SZ116 SZ61 SZ106 SZ95 S_m_Inf SZ89) 0 0 (by kernel_rfl) (fun i_ hi_ => by omega) ?_
 intro a k h
 unfold spZ147 at h
 split at h
 ·exact ⟨[], rfl, rfl, (eqZ147 _ _ _ _ _ _ _ _ _ _ _).trans h⟩
 ·cases h
def anZ48 (N : Nat) (SZ147 : TSZ147) : Nat -> Option Ann := fun b_ => none
theorem eqZ48 (N : Nat) (SZ147 : TSZ147) (frac : Fl) (exp : Int) (c_ : V -> List Blk -> Bool) : bodyV ⟨Pg, ofList [(64, (FZ147 SZ147))], isref, N⟩ (anZ48 N SZ147) 26 (shFZ48.args [.fl frac, .int exp]) [] c_ = GZ48 N SZ147 frac exp (fun r0 => c_ (.flt r0) []) := by kernel_rfl
theorem goodZ48 (N : Nat) (SZ147 : TSZ147) (hZ147 : GoodF Pg 64 (FZ147 SZ147)) : GoodF Pg 26 (FZ48 (GZ48 N SZ147)) := by
 refine good_fs (cx := ⟨Pg, ofList [(64, (FZ147 SZ147))], isref, N⟩) (ofList_cons hZ147 (ofList_nil _)) shFZ48 (spZ48 (GZ48 N SZ147)) (anZ48 N SZ147) 0 0 (by kernel_rfl) (fun i_ hi_ => by omega) ?_
 intro a k h
 unfold spZ48 at h
 split at h
 ·exact ⟨[], rfl, rfl, (eqZ48 _ _ _ _ _).trans h⟩
 ·cases h
def anZ138 (N : Nat) (SZ165 : TSZ165) : Nat -> Option Ann := fun b_ => none
theorem eqZ138 (N : Nat) (SZ165 : TSZ165) (x : Fl) (c_ : V -> List Blk -> Bool) : bodyV ⟨Pg, ofList [(124, (FZ165 SZ165))], isref, N⟩ (anZ138 N SZ165) 76 (shFZ138.args [.fl x]) [] c_ = GZ138 N SZ165 x (fun r0 => c_ (.flt r0) []) := by kernel_rfl
theorem goodZ138 (N : Nat) (SZ165 : TSZ165) (hZ165 : GoodF Pg 124 (FZ165 SZ165)) : GoodF Pg 76 (FZ138 (GZ138 N SZ165)) := by
 refine good_fs (cx := ⟨Pg, ofList [(124, (FZ165 SZ165))], isref, N⟩) (ofList_cons hZ165 (ofList_nil _)) shFZ138 (spZ138 (GZ138 N SZ165)) (anZ138 N SZ165) 0 0 (by kernel_rfl) (fun i_ hi_ => by omega) ?_
 intro a k h
 unfold spZ138 at h
 split at h
 ·exact ⟨[], rfl, rfl, (eqZ138 _ _ _ _).trans h⟩
 ·cases h
def anZ133 (N : Nat) : Nat -> Option Ann := fun b_ => none
theorem eqZ133 (N : Nat) (l_0 l_1 l_2 l_3 : Fl) (c_ : V -> List Blk -> Bool) : bodyV ⟨Pg, ofList [], isref, N⟩ (anZ133 N) 77 (shFZ133.args [.fl l_0, .fl l_1, .fl l_2, .fl l_3]) [] c_ = GZ133 N l_0 l_1 l_2 l_3 (c_ (.agg [.flt l_0, .flt l_1, .flt l_2, .flt l_3]) []) := by kernel_rfl
theorem goodZ133 (N : Nat) : GoodF Pg 77 (FZ133 (GZ133 N)) := by
 refine good_fs (cx := ⟨Pg, ofList [], isref, N⟩) (ofList_nil _) shFZ133 (spZ133 (GZ133 N)) (anZ133 N) 0 0 (by kernel_rfl) (fun i_ hi_ => by omega) ?_
 intro a k h
 unfold spZ133 at h
 split at h
 ·exact ⟨[], rfl, rfl, (eqZ133 _ _ _ _ _ _).trans h⟩
 ·cases h
def anZ62 (N : Nat) (SZ10 : TSZ10) (SZ51 : TSZ51) (S_m_Abs : TS_m_Abs) (SZ108 : TSZ108) (SZ48 : TSZ48) (SZ138 : TSZ138) (SZ133 : TSZ133) : Nat -> Option Ann := fun b_ => none
theorem eqZ62 (N : Nat) (SZ10 : TSZ10) (SZ51 : TSZ51) (S_m_Abs : TS_m_Abs) (SZ108 : TSZ108) (SZ48 : TSZ48) (SZ138 : TSZ138) (SZ133 : TSZ133) (q_0 q_1 q_2 q_3 : Fl) (c_ : V -> List Blk -> Bool) : bodyV ⟨Pg, ofList [(42, (FZ10 SZ10)), (43, (FZ51 SZ51)), (47, (F_m_Abs S_m_Abs)), (75, (FZ108 SZ108)), (26, (FZ48 SZ48)), (76, (FZ138 SZ138)), (77, (FZ133 SZ133))], isref, (N + 24)⟩ (anZ62 (N + 24) SZ10 SZ51 S_m_Abs SZ108 SZ48 SZ138 SZ133) 35 (shFZ62.args [.fl q_0, .fl q_1, .fl q_2, .fl q_3]) [] c_ = GZ62 (N + 24) SZ10 SZ51 S_m_Abs SZ108 SZ48 SZ138 SZ133 q_0 q_1 q_2 q_3 (fun r0 r1 r2 r3 r4 => c_ (.tup [.agg [.flt r0, .flt r1, .flt r2, .flt r3], .int .i64 r4]) []) := by kernel_rfl
theorem goodZ62 (N : Nat) (SZ10 : TSZ10) (SZ51 : TSZ51) (S_m_Abs : TS_m_Abs) (SZ108 : TSZ108) (SZ48 : TSZ48) (SZ138 : TSZ138) (SZ133 : TSZ133) (hZ10 : GoodF Pg 42 (FZ10 SZ10)) (hZ51 : GoodF Pg 43 (FZ51 SZ51)) (h_m_Abs : GoodF Pg 47 (F_m_Abs S_m_Abs)) (hZ108 : GoodF Pg 75 (FZ108 SZ108)) (hZ48 : GoodF Pg 26 (FZ48 SZ48)) (hZ138 : GoodF Pg 76 (FZ138 SZ138)) (hZ133 : GoodF Pg 77 (FZ133 SZ133)) : GoodF Pg 35 (FZ62 (GZ62 (N + 24) SZ10 SZ51 S_m_Abs SZ108 SZ48 SZ138 SZ133)) := by
 refine good_fs (cx := ⟨Pg, ofList [(42, (FZ10 SZ10)), (43, (FZ51 SZ51)), (47, (F_m_Abs S_m_Abs)), (75, (FZ108 SZ108)), (26, (FZ48 SZ48)), (76, (FZ138 SZ138)), (77, (FZ133 SZ133))], isref, (N + 24)⟩) (ofList_cons hZ10 (ofList_cons hZ51 (ofList_cons h_m_Abs (ofList_cons hZ108 (ofList_cons hZ48 (ofList_cons hZ138 (ofList_cons hZ133 (ofList_nil _)))))))) shFZ62 (spZ62 (GZ62 (N + 24) SZ10 SZ51 S_m_Abs SZ108 SZ48 SZ138 SZ133)) (anZ62 (N + 24) SZ10 SZ51 S_m_Abs SZ108 SZ48 SZ138 SZ133) 3 0 (by kernel_rfl) (fun i_ hi_ => by
  match i_, hi_ with
  | 0, _ => exact (fun hk e => by rw [show hookOf ((anZ62 (N + 24) SZ10 SZ51 S_m_Abs SZ108 SZ48 SZ138 SZ133) (lp Pg 35 0).1) = none from by kernel_rfl] at e; cases e)
  | 1, _ => exact (fun hk e => by rw [show hookOf ((anZ62 (N + 24) SZ10 SZ51 S_m_Abs SZ108 SZ48 SZ138 SZ133) (lp Pg 35 1).1) = none from by kernel_rfl] at e; cases e)
  | 2, _ => exact (fun hk e => by rw [show hookOf ((anZ62 (N + 24) SZ10 SZ51 S_m_Abs SZ108 SZ48 SZ138 SZ133) (lp Pg 35 2).1) = none from by kernel_rfl] at e; cases e)
  | (q + 3), h => omega) ?_
 intro a k h
 unfold spZ62 at h
 split at h
 ·exact ⟨[], rfl, rfl, (eqZ62 _ _ _ _ _ _ _ _ _ _ _ _ _).trans h⟩
 ·cases h
def anZ114 (N : Nat) : Nat -> Option Ann := fun b_ => none
theorem eqZ114 (N : Nat) (a_0 a_1 a_2 b_0 b_1 b_2 : Fl) (c_ : V -> List Blk -> Bool) : bodyV ⟨Pg, ofList [], isref, N⟩ (anZ114 N) 49 (shFZ114.args [.fl a_0, .fl a_1, .fl a_2, .fl b_0, .fl b_1, .fl b_2]) [] c_ = GZ114 N a_0 a_1 a_2 b_0 b_1 b_2 (fun r0 r1 r2 => c_ (.agg [.flt r0, .flt r1, .flt r2]) []) := by kernel_rfl
theorem goodZ114 (N : Nat) : GoodF Pg 49 (FZ114 (GZ114 N)) := by
 refine good_fs (cx := ⟨Pg, ofList [], isref, N⟩) (ofList_nil _) shFZ114 (spZ114 (GZ114 N)) (anZ114 N) 0 0 (by kernel_rfl) (fun i_ hi_ => by omega) ?_
 intro a k h
 unfold spZ114 at h
 split at h
 ·exact ⟨[], rfl, rfl, (eqZ114 _ _ _ _ _ _ _ _).trans h⟩
 ·cases h
def anZ110 (N : Nat) (SZ14 : TSZ14) : Nat -> Option Ann := fun b_ => none
theorem eqZ110 (N : Nat) (SZ14 : TSZ14) (v_0 v_1 v_2 : Fl) (c_ : V -> List Blk -> Bool) : bodyV ⟨Pg, ofList [(48, (FZ14 SZ14))], isref, N⟩ (anZ110 N SZ14) 50 (shFZ110.args [.fl v_0, .fl v_1, .fl v_2]) [] c_ = GZ110 N SZ14 v_0 v_1 v_2 (fun r0 r1 r2 r3 => c_ (.tup [.agg [.flt r0, .flt r1, .flt r2], .int .i64 r3]) []) := by kernel_rfl
theorem goodZ110 (N : Nat) (SZ14 : TSZ14) (hZ14 : GoodF Pg 48 (FZ14 SZ14)) : GoodF Pg 50 (FZ110 (GZ110 N SZ14)) := by
 refine good_fs (cx := ⟨Pg, ofList [(48, (FZ14 SZ14))], isref, N⟩) (ofList_cons hZ14 (ofList_nil _)) shFZ110 (spZ110 (GZ110 N SZ14)) (anZ110 N SZ14) 0 0 (by kernel_rfl) (fun i_ hi_ => by omega) ?_
 intro a k h
 unfold spZ110 at h
 split at h
 ·exact ⟨[], rfl, rfl, (eqZ110 _ _ _ _ _ _).trans h⟩
 ·cases h
def anZ127 (N : Nat) (SZ10 : TSZ10) (SZ14 : TSZ14) (SZ114 : TSZ114) (SZ110 : TSZ110) : Nat -> Option Ann := fun b_ => none
theorem eqZ127 (N : Nat) (SZ10 : TSZ10) (SZ14 : TSZ14) (SZ114 : TSZ114) (SZ110 : TSZ110) (q_0 q_1 q_2 q_3 v_0 v_1 v_2 : Fl) (c_ : V -> List Blk -> Bool) : bodyV ⟨Pg, ofList [(42, (FZ10 SZ10)), (48, (FZ14 SZ14)), (49, (FZ114 SZ114)), (50, (FZ110 SZ110))], isref, (N + 24)⟩ (anZ127 (N + 24) SZ10 SZ14 SZ114 SZ110) 13 (shFZ127.args [.fl q_0, .fl q_1, .fl q_2, .fl q_3, .fl v_0, .fl v_1, .fl v_2]) [] c_ = GZ127 (N + 24) SZ10 SZ14 SZ114 SZ110 q_0 q_1 q_2 q_3 v_0 v_1 v_2 (fun r0 r1 r2 r3 => c_ (.tup [.agg [.flt r0, .flt r1, .flt r2], .int .i64 r3]) []) := by kernel_rfl
theorem goodZ127 (N : Nat) (SZ10 : TSZ10) (SZ14 : TSZ14) (SZ114 : TSZ114) (SZ110 : TSZ110) (hZ10 : GoodF Pg 42 (FZ10 SZ10)) (hZ14 : GoodF Pg 48 (FZ14 SZ14)) (hZ114 : GoodF Pg 49 (FZ114 SZ114)) (hZ110 : GoodF Pg 50 (FZ110 SZ110)) : GoodF Pg 13 (FZ127 (GZ127 (N + 24) SZ10 SZ14 SZ114 SZ110)) := by
 refine good_fs (cx := ⟨Pg, ofList [(42, (FZ10 SZ10)), (48, (FZ14 SZ14)), (49, (FZ114 SZ114)), (50, (FZ110 SZ110))], isref, (N + 24)⟩) (ofList_cons hZ10 (ofList_cons hZ14 (ofList_cons hZ114 (ofList_cons hZ110 (ofList_nil _))))) shFZ127 (spZ127 (GZ127 (N + 24) SZ10 SZ14 SZ114 SZ110)) (anZ127 (N + 24) SZ10 SZ14 SZ114 SZ110) 2 0 (by kernel_rfl) (fun i_ hi_ => by
  match i_, hi_ with
  | 0, _ => exact (fun hk e => by rw [show hookOf ((anZ127 (N + 24) SZ10 SZ14 SZ114 SZ110) (lp Pg 13 0).1) = none from by kernel_rfl] at e; cases e)
  | 1, _ => exact (fun hk e => by rw [show hookOf ((anZ127 (N + 24) SZ10 SZ14 SZ114 SZ110) (lp Pg 13 1).1) = none from by kernel_rfl] at e; cases e)
  | (q + 2), h => omega) ?_
 intro a k h
 unfold spZ127 at h
 split at h
 ·exact ⟨[], rfl, rfl, (eqZ127 _ _ _ _ _ _ _ _ _ _ _ _ _).trans h⟩
 ·cases h
def anZ79 (N : Nat) (SZ14 : TSZ14) : Nat -> Option Ann := fun b_ => none
theorem eqZ79 (N : Nat) (SZ14 : TSZ14) (qs_0 qs_1 qs_2 qs_3 qs_4 qs_5 qs_6 qs_7 : Fl) (c_ : V -> List Blk -> Bool) : bodyV ⟨Pg, ofList [(48, (FZ14 SZ14))], isref, (N + 24)⟩ (anZ79 (N + 24) SZ14) 42 (shFZ79.args [.fl qs_0, .fl qs_1, .fl qs_2, .fl qs_3, .fl qs_4, .fl qs_5, .fl qs_6, .fl qs_7]) [] c_ = GZ79 (N + 24) SZ14 qs_0 qs_1 qs_2 qs_3 qs_4 qs_5 qs_6 qs_7 (fun r0 => c_ (.bool r0) []) := by kernel_rfl
theorem goodZ79 (N : Nat) (SZ14 : TSZ14) (hZ14 : GoodF Pg 48 (FZ14 SZ14)) : GoodF Pg 42 (FZ79 (GZ79 (N + 24) SZ14)) := by
 refine good_fs (cx := ⟨Pg, ofList [(48, (FZ14 SZ14))], isref, (N + 24)⟩) (ofList_cons hZ14 (ofList_nil _)) shFZ79 (spZ79 (GZ79 (N + 24) SZ14)) (anZ79 (N + 24) SZ14) 1 0 (by kernel_rfl) (fun i_ hi_ => by
  match i_, hi_ with
  | 0, _ => exact (fun hk e => by rw [show hookOf ((anZ79 (N + 24) SZ14) (lp Pg 42 0).1) = none from by kernel_rfl] at e; cases e)
  | (q + 1), h => omega) ?_
 intro a k h
 unfold spZ79 at h
 split at h
 ·exact ⟨[], rfl, rfl, (eqZ79 _ _ _ _ _ _ _ _ _ _ _).trans h⟩
 ·cases h
def anZ146 (N : Nat) : Nat -> Option Ann := fun b_ => none
theorem eqZ146 (N : Nat) (a_0 a_1 a_2 a_3 b_0 b_1 b_2 b_3 : Fl) (c_ : V -> List Blk -> Bool) : bodyV ⟨Pg, ofList [], isref, N⟩ (anZ146 N) 83 (shFZ146.args [.fl a_0, .fl a_1, .fl a_2, .fl a_3, .fl b_0, .fl b_1, .fl b_2, .fl b_3]) [] c_ = GZ146 N a_0 a_1 a_2 a_3 b_0 b_1 b_2 b_3 (fun r0 r1 r2 r3 => c_ (.agg [.flt r0, .flt r1, .flt r2, .flt r3]) []) := by kernel_rfl
theorem goodZ146 (N : Nat) : GoodF Pg 83 (FZ146 (GZ146 N)) := by
 refine good_fs (cx := ⟨Pg, ofList [], isref, N⟩) (ofList_nil _) shFZ146 (spZ146 (GZ146 N)) (anZ146 N) 0 0 (by kernel_rfl) (fun i_ hi_ => by omega) ?_
 intro a k h
 unfold spZ146 at h
 split at h
 ·exact ⟨[], rfl, rfl, (eqZ146 _ _ _ _ _ _ _ _ _ _).trans h⟩
 ·cases h
def anZ87 (N : Nat) (SZ10 : TSZ10) : Nat -> Option Ann := fun b_ => none
theorem eqZ87 (N : Nat) (SZ10 : TSZ10) (q_0 q_1 q_2 q_3 : Fl) (c_ : V -> List Blk -> Bool) : bodyV ⟨Pg, ofList [(42, (FZ10 SZ10))], isref, N⟩ (anZ87 N SZ10) 72 (shFZ87.args [.fl q_0, .fl q_1, .fl q_2, .fl q_3]) [] c_ = GZ87 N SZ10 q_0 q_1 q_2 q_3 (fun r0 r1 r2 r3 r4 => c_ (.tup [.agg [.flt r0, .flt r1, .flt r2, .flt r3], .int .i64 r4]) []) := by kernel_rfl
theorem goodZ87 (N : Nat) (SZ10 : TSZ10) (hZ10 : GoodF Pg 42 (FZ10 SZ10)) : GoodF Pg 72 (FZ87 (GZ87 N SZ10)) := by
 refine good_fs (cx := ⟨Pg, ofList [(42, (FZ10 SZ10))], isref, N⟩) (ofList_cons hZ10 (ofList_nil _)) shFZ87 (spZ87 (GZ87 N SZ10)) (anZ87 N SZ10) 0 0 (by kernel_rfl) (fun i_ hi_ => by omega) ?_
 intro a k h
 unfold spZ87 at h
 split at h
 ·exact ⟨[], rfl, rfl, (eqZ87 _ _ _ _ _ _ _).trans h⟩
 ·cases h
def anZ118 (N : Nat) (SZ79 : TSZ79) (SZ146 : TSZ146) (SZ87 : TSZ87) : Nat -> Option Ann := fun b_ => none
theorem eqZ118 (N : Nat) (SZ79 : TSZ79) (SZ146 : TSZ146) (SZ87 : TSZ87) (a_0 a_1 a_2 a_3 b_0 b_1 b_2 b_3 : Fl) (c_ : V -> List Blk -> Bool) : bodyV ⟨Pg, ofList [(42, (FZ79 SZ79)), (83, (FZ146 SZ146)), (72, (FZ87 SZ87))], isref, N⟩ (anZ118 N SZ79 SZ146 SZ87) 40 (shFZ118.args [.fl a_0, .fl a_1, .fl a_2, .fl a_3, .fl b_0, .fl b_1, .fl b_2, .fl b_3]) [] c_ = GZ118 N SZ79 SZ146 SZ87 a_0 a_1 a_2 a_3 b_0 b_1 b_2 b_3 (fun r0 r1 r2 r3 r4 => c_ (.tup [.agg [.flt r0, .flt r1, .flt r2, .flt r3], .int .i64 r4]) []) := by kernel_rfl
theorem goodZ118 (N : Nat) (SZ79 : TSZ79) (SZ146 : TSZ146) (SZ87 : TSZ87) (hZ79 : GoodF Pg 42 (FZ79 SZ79)) (hZ146 : GoodF Pg 83 (FZ146 SZ146)) (hZ87 : GoodF Pg 72 (FZ87 SZ87)) : GoodF Pg 40 (FZ118 (GZ118 N SZ79 SZ146 SZ87)) := by
 refine good_fs (cx := ⟨Pg, ofList [(42, (FZ79 SZ79)), (83, (FZ146 SZ146)), (72, (FZ87 SZ87))], isref, N⟩) (ofList_cons hZ79 (ofList_cons hZ146 (ofList_cons hZ87 (ofList_nil _)))) shFZ118 (spZ118 (GZ118 N SZ79 SZ146 SZ87)) (anZ118 N SZ79 SZ146 SZ87) 0 0 (by kernel_rfl) (fun i_ hi_ => by omega) ?_
 intro a k h
 unfold spZ118 at h
 split at h
 ·exact ⟨[], rfl, rfl, (eqZ118 _ _ _ _ _ _ _ _ _ _ _ _ _).trans h⟩
 ·cases h
def sh_st_anatomy_Finite_0 : StSh := ⟨(sqs 6 (.rof :: (.int .i64 :: (.int .i64 :: (sqs 12 []))))), []⟩
def sx0_st_anatomy_Finite_0 : StSh := ⟨(.any :: (.any :: (.bool :: (sqs 18 [])))), []⟩
def sx1_st_anatomy_Finite_0 : StSh := ⟨(sqs 21 []), []⟩
def hk_st_anatomy_Finite_0 (N : Nat) (SZ129 : TSZ129) : List Atom -> K -> Bool := fun a_ κ => match a_ with
 | [.fls t6, .int t7, .int t8] => iterG N (st_an_Finite_0 N SZ129 t6 t7 (fun r0 => κ.ret (sx0_st_anatomy_Finite_0.build [.bool r0])) (κ.ext 0 (sx1_st_anatomy_Finite_0.build []))) t8
 | _ => false
def anZ66 (N : Nat) (SZ129 : TSZ129) : Nat -> Option Ann := fun b_ => cond (b_ == 0) (some ⟨⟨[6, 7, 8], [], []⟩, [(0, ⟨[], [], []⟩)], some ⟨[2], [], []⟩, some (mkHooks [(sh_st_anatomy_Finite_0, hk_st_anatomy_Finite_0 N SZ129)])⟩) (none)
theorem eq_st_anatomy_Finite_0 (N : Nat) (SZ129 : TSZ129) (κ : K) (t6 : List Fl) (t7 t8 : Int) : iter N (fun s k => codeV ⟨Pg, ofList [(126, (FZ129 SZ129))], isref, N⟩ 0 (anZ66 N SZ129) (lp Pg 84 0).2 (lp Pg 84 0).1 s (roundK Pg 0 ((anZ66 N SZ129) (lp Pg 84 0).1) κ k)) (sh_st_anatomy_Finite_0.build [.fls t6, .int t7, .int t8]) = iterG N (st_an_Finite_0 N SZ129 t6 t7 (fun r0 => κ.ret (sx0_st_anatomy_Finite_0.build [.bool r0])) (κ.ext 0 (sx1_st_anatomy_Finite_0.build []))) t8 :=
 iter_tr (fun v_ => sh_st_anatomy_Finite_0.build [.fls t6, .int t7, .int v_]) (fun v_ K_ => by kernel_rfl) N t8
theorem hk1_st_anatomy_Finite_0 (N : Nat) (SZ129 : TSZ129) : HookFor ⟨Pg, ofList [(126, (FZ129 SZ129))], isref, N⟩ 0 (anZ66 N SZ129) (lp Pg 84 0) (sh_st_anatomy_Finite_0, hk_st_anatomy_Finite_0 N SZ129) := by
 intro a κ h
 simp only at h
 unfold hk_st_anatomy_Finite_0 at h
 split at h
 ·exact (eq_st_anatomy_Finite_0 _ _ _ _ _ _).trans h
 ·cases h
theorem ho_anatomy_Finite_0 (N : Nat) (SZ129 : TSZ129) : HookOk ⟨Pg, ofList [(126, (FZ129 SZ129))], isref, N⟩ 0 (anZ66 N SZ129) (lp Pg 84 0) :=
 hooks_ok [(sh_st_anatomy_Finite_0, hk_st_anatomy_Finite_0 N SZ129)] (by kernel_rfl) ⟨hk1_st_anatomy_Finite_0 _ _, trivial⟩
theorem eqZ66 (N : Nat) (SZ129 : TSZ129) (l : List Fl) (c_ : V -> List Blk -> Bool) : bodyV ⟨Pg, ofList [(126, (FZ129 SZ129))], isref, N⟩ (anZ66 N SZ129) 84 (shFZ66.args [.fls l]) [] c_ = GZ66 N SZ129 l (fun r0 => c_ (.bool r0) []) := by kernel_rfl
theorem goodZ66 (N : Nat) (SZ129 : TSZ129) (hZ129 : GoodF Pg 126 (FZ129 SZ129)) : GoodF Pg 84 (FZ66 (GZ66 N SZ129)) := by
 refine good_fs (cx := ⟨Pg, ofList [(126, (FZ129 SZ129))], isref, N⟩) (ofList_cons hZ129 (ofList_nil _)) shFZ66 (spZ66 (GZ66 N SZ129)) (anZ66 N SZ129) 1 0 (by kernel_rfl) (fun i_ hi_ => by
  match i_, hi_ with
  | 0, _ => exact ho_anatomy_Finite_0 _ _
  | (q + 1), h => omega) ?_
 intro a k h
 unfold spZ66 at h
 split at h
 ·exact ⟨[], rfl, rfl, (eqZ66 _ _ _ _).trans h⟩
 ·cases h
def anZ9 (N : Nat) : Nat -> Option Ann := fun b_ => none
theorem eqZ9 (N : Nat) (x : Int) (c_ : V -> List Blk -> Bool) : bodyV ⟨Pg, ofList [], isref, N⟩ (anZ9 N) 180 (shFZ9.args [.int x]) [] c_ = GZ9 N x (fun r0 => c_ (.int .i64 r0) []) := by
 have key : ∀ L_ : Int, codesV ⟨Pg, ofList [], isref, N⟩ 0 (anZ9 N) (((cds Pg 180).drop 0).map (subC 285870213051353865 L_)) 0 (st0 Pg 180 (shFZ9.args [.int x]) []) (finV Pg 180 0 c_) = (fun (k0 : Int -> Bool) => (cond (x == 0) (k0 64) ((inR (Int.fdiv (IntKind.wrap .u64 ((bitsN .and .u64 x (IntKind.wrap .u64 (0 - x))) * L_)) (2 ^ 58)) 64) && ((fits .i64 (List.getD tab64 (Int.toNat (Int.fdiv (IntKind.wrap .u64 ((bitsN .and .u64 x (IntKind.wrap .u64 (0 - x))) * L_)) (2 ^ 58))) 0)) && (k0 (List.getD tab64 (Int.toNat (Int.fdiv (IntKind.wrap .u64 ((bitsN .and .u64 x (IntKind.wrap .u64 (0 - x))) * L_)) (2 ^ 58))) 0)))))) (fun r0 => c_ (.int .i64 r0) []) := fun L_ => by kernel_rfl
 have hc : (cds Pg 180).drop 0 = ((cds Pg 180).drop 0).map (subC 285870213051353865 285870213051353865) := by kernel_rfl
 refine (bodyV_codes (by kernel_rfl)).trans ?_
 rw [hc]
 exact key 285870213051353865
theorem goodZ9 (N : Nat) : GoodF Pg 180 (FZ9 (GZ9 N)) := by
 refine good_fs (cx := ⟨Pg, ofList [], isref, N⟩) (ofList_nil _) shFZ9 (spZ9 (GZ9 N)) (anZ9 N) 0 0 (by kernel_rfl) (fun i_ hi_ => by omega) ?_
 intro a k h
 unfold spZ9 at h
 split at h
 ·exact ⟨[], rfl, rfl, (eqZ9 _ _ _).trans h⟩
 ·cases h
def anZ63 (N : Nat) (SZ29 : TSZ29) (SZ28 : TSZ28) (SZ70 : TSZ70) (SZ9 : TSZ9) : Nat -> Option Ann := fun b_ => none
def lsZ153 (d_ : List V) (u_ : List (Option Blk)) (b f_0 f_1 f_2 : Int) (p : Bool) (p_1 p_2 : Int) : St := ⟨(dqs d_ 0 4 (.ptr 1 0 :: (dqs d_ 4 4 (.ptr 2 0 :: (dqs d_ 8 52 []))))), [(u_.getD 0 none), some ⟨108, 1, .cells [.bool false, .int .u64 0, .int .i64 0]⟩, some ⟨108, 1, .cells [.bool p, .int .u64 p_1, .int .i64 p_2]⟩]⟩
theorem jnZ153 (N : Nat) (SZ29 : TSZ29) (SZ28 : TSZ28) (SZ70 : TSZ70) (SZ9 : TSZ9) (d_ : List V) (u_ : List (Option Blk)) (b f_0 f_1 f_2 : Int) (p : Bool) (p_1 p_2 : Int) (c_ : V -> List Blk -> Bool) : codesV ⟨Pg, ofList [(176, (FZ29 SZ29)), (154, (FZ28 SZ28)), (179, (FZ70 SZ70)), (180, (FZ9 SZ9))], isref, N⟩ 0 (anZ63 N SZ29 SZ28 SZ70 SZ9) ((cds Pg 157).drop 5) 0 (lsZ153 d_ u_ b f_0 f_1 f_2 p p_1 p_2) (finV Pg 157 0 c_) = JZ153 N SZ29 SZ28 SZ70 SZ9 b f_0 f_1 f_2 p p_1 p_2 (fun r0 r1 r2 r3 => c_ (.tup [.agg [.bool r0, .int .u64 r1, .int .i64 r2], .int .i64 r3]) []) := by kernel_rfl
theorem hd_an_parts_uint64__w (N : Nat) (SZ29 : TSZ29) (SZ28 : TSZ28) (SZ70 : TSZ70) (SZ9 : TSZ9) (b f_0 f_1 f_2 : Int) (c_ : V -> List Blk -> Bool) (κn_ : St -> Bool) : codesV ⟨Pg, ofList [(176, (FZ29 SZ29)), (154, (FZ28 SZ28)), (179, (FZ70 SZ70)), (180, (FZ9 SZ9))], isref, N⟩ 0 (anZ63 N SZ29 SZ28 SZ70 SZ9) (sg Pg 157 0 5) 0 (st0 Pg 157 (shFZ63.args [.int b, .int f_0, .int f_1, .int f_2]) []) { (finV Pg 157 0 c_) with nrm := κn_ } = (SZ29 b f_0 f_1 f_2 (fun cr nr nr_1 => ((fits .i64 (nr - f_2)) && (SZ28 b f_0 f_1 f_2 (fun nr_2 => (cond (nr_2 == 1) (c_ (.tup [.agg [.bool false, .int .u64 0, .int .i64 0], .int .i64 4]) []) (cond (nr_2 == 2) (c_ (.tup [.agg [.bool false, .int .u64 0, .int .i64 0], .int .i64 4]) []) (cond (nr_2 == 3) (c_ (.tup [.agg [.bool cr, .int .u64 0, .int .i64 0], .int .i64 0]) []) (cond (nr_2 == 4) ((fits .i64 ((nr - f_2) + 1)) && (κn_ (lsZ153 [.int .u64 b, .agg [.int .u64 f_0, .int .i64 f_1, .int .i64 f_2], .any, .ptr 0 0, .int .i64 0, .bool cr, .int .i64 nr, .int .u64 nr_1, .any, .tup [.bool cr, .int .i64 nr, .int .u64 nr_1], .int .u64 b, .agg [.int .u64 f_0, .int .i64 f_1, .int .i64 f_2], .tup [.bool cr, .int .i64 nr, .int .u64 nr_1], .bool cr, .int .i64 nr, .int .u64 nr_1, .bool cr, .int .u64 nr_1, .int .i64 nr, .ptr 0 2, .int .i64 f_2, .int .i64 (nr - f_2), .agg [.bool cr, .int .u64 nr_1, .int .i64 (nr - f_2)], .int .u64 b, .agg [.int .u64 f_0, .int .i64 f_1, .int .i64 f_2], .int .i64 nr_2, .any, .any, .any, .any, .any, .any, .bool false, .bool (nr_2 == 1), .bool (nr_2 == 2), .any, .bool false, .bool (nr_2 == 3), .any, .any, .bool true, .bool (nr_2 == 4), .ptr 2 2, .int .i64 (nr - f_2), .int .i64 ((nr - f_2) + 1), .ptr 2 2, .any, .any, .any, .any, .any, .any, .any, .any, .any, .any, .any, .any, .any, .any] [some ⟨185, 1, .cells [.int .u64 f_0, .int .i64 f_1, .int .i64 f_2]⟩] b f_0 f_1 f_2 cr nr_1 ((nr - f_2) + 1)))) (SZ70 f_0 f_1 f_2 (fun nr_3 => (κn_ (lsZ153 [.int .u64 b, .agg [.int .u64 f_0, .int .i64 f_1, .int .i64 f_2], .any, .ptr 0 0, .int .i64 0, .bool cr, .int .i64 nr, .int .u64 nr_1, .any, .tup [.bool cr, .int .i64 nr, .int .u64 nr_1], .int .u64 b, .agg [.int .u64 f_0, .int .i64 f_1, .int .i64 f_2], .tup [.bool cr, .int .i64 nr, .int .u64 nr_1], .bool cr, .int .i64 nr, .int .u64 nr_1, .bool cr, .int .u64 nr_1, .int .i64 nr, .ptr 0 2, .int .i64 f_2, .int .i64 (nr - f_2), .agg [.bool cr, .int .u64 nr_1, .int .i64 (nr - f_2)], .int .u64 b, .agg [.int .u64 f_0, .int .i64 f_1, .int .i64 f_2], .int .i64 nr_2, .ptr 2 1, .int .u64 nr_1, .agg [.int .u64 f_0, .int .i64 f_1, .int .i64 f_2], .int .u64 nr_3, .int .u64 (bitsN .or .u64 nr_1 nr_3), .ptr 2 1, .bool false, .bool (nr_2 == 1), .bool (nr_2 == 2), .any, .bool false, .bool (nr_2 == 3), .any, .any, .bool false, .bool (nr_2 == 4), .any, .any, .any, .any, .any, .any, .any, .any, .any, .any, .any, .any, .any, .any, .any, .any, .any, .any] [some ⟨185, 1, .cells [.int .u64 f_0, .int .i64 f_1, .int .i64 f_2]⟩] b f_0 f_1 f_2 cr (bitsN .or .u64 nr_1 nr_3) (nr - f_2)))))))))))))) := by kernel_rfl
theorem jn_an_parts_uint64__w (N : Nat) (SZ29 : TSZ29) (SZ28 : TSZ28) (SZ70 : TSZ70) (SZ9 : TSZ9) (b f_0 f_1 f_2 : Int) (c_ : V -> List Blk -> Bool) : codesV ⟨Pg, ofList [(176, (FZ29 SZ29)), (154, (FZ28 SZ28)), (179, (FZ70 SZ70)), (180, (FZ9 SZ9))], isref, N⟩ 0 (anZ63 N SZ29 SZ28 SZ70 SZ9) ((cds Pg 157).drop 0) 0 (st0 Pg 157 (shFZ63.args [.int b, .int f_0, .int f_1, .int f_2]) []) (finV Pg 157 0 c_) = GZ63 N SZ29 SZ28 SZ70 SZ9 b f_0 f_1 f_2 (fun r0 r1 r2 r3 => c_ (.tup [.agg [.bool r0, .int .u64 r1, .int .i64 r2], .int .i64 r3]) []) := by
 rw [codesV_cut 0 5 5 rfl]
 refine (hd_an_parts_uint64__w N SZ29 SZ28 SZ70 SZ9 b f_0 f_1 f_2 c_ _).trans ?_
 simp only [jnZ153]
 kernel_rfl
theorem eqZ63 (N : Nat) (SZ29 : TSZ29) (SZ28 : TSZ28) (SZ70 : TSZ70) (SZ9 : TSZ9) (b f_0 f_1 f_2 : Int) (c_ : V -> List Blk -> Bool) : bodyV ⟨Pg, ofList [(176, (FZ29 SZ29)), (154, (FZ28 SZ28)), (179, (FZ70 SZ70)), (180, (FZ9 SZ9))], isref, N⟩ (anZ63 N SZ29 SZ28 SZ70 SZ9) 157 (shFZ63.args [.int b, .int f_0, .int f_1, .int f_2]) [] c_ = GZ63 N SZ29 SZ28 SZ70 SZ9 b f_0 f_1 f_2 (fun r0 r1 r2 r3 => c_ (.tup [.agg [.bool r0, .int .u64 r1, .int .i64 r2], .int .i64 r3]) []) :=
 (bodyV_codes (by kernel_rfl)).trans (jn_an_parts_uint64__w N SZ29 SZ28 SZ70 SZ9 b f_0 f_1 f_2 c_)
theorem goodZ63 (N : Nat) (SZ29 : TSZ29) (SZ28 : TSZ28) (SZ70 : TSZ70) (SZ9 : TSZ9) (hZ29 : GoodF Pg 176 (FZ29 SZ29)) (hZ28 : GoodF Pg 154 (FZ28 SZ28)) (hZ70 : GoodF Pg 179 (FZ70 SZ70)) (hZ9 : GoodF Pg 180 (FZ9 SZ9)) : GoodF Pg 157 (FZ63 (GZ63 N SZ29 SZ28 SZ70 SZ9)) := by
 refine good_fs (cx := ⟨Pg, ofList [(176, (FZ29 SZ29)), (154, (FZ28 SZ28)), (179, (FZ70 SZ70)), (180, (FZ9 SZ9))], isref, N⟩) (ofList_cons hZ29 (ofList_cons hZ28 (ofList_cons hZ70 (ofList_cons hZ9 (ofList_nil _))))) shFZ63 (spZ63 (GZ63 N SZ29 SZ28 SZ70 SZ9)) (anZ63 N SZ29 SZ28 SZ70 SZ9) 0 0 (by kernel_rfl) (fun i_ hi_ => by omega) ?_
 intro a k h
 unfold spZ63 at h
 split at h
 ·exact ⟨[], rfl, rfl, (eqZ63 _ _ _ _ _ _ _ _ _ _).trans h⟩
 ·cases h
def anZ143 (N : Nat) (SZ106 : TSZ106) (S_an_of : TS_an_of) (SZ63 : TSZ63) : Nat -> Option Ann := fun b_ => none
theorem eqZ143 (N : Nat) (SZ106 : TSZ106) (S_an_of : TS_an_of) (SZ63 : TSZ63) (x : Fl) (c_ : V -> List Blk -> Bool) : bodyV ⟨Pg, ofList [(95, (FZ106 SZ106)), (155, (F_an_of S_an_of)), (157, (FZ63 SZ63))], isref, N⟩ (anZ143 N SZ106 S_an_of SZ63) 129 (shFZ143.args [.fl x]) [] c_ = GZ143 N SZ106 S_an_of SZ63 x (fun r0 r1 r2 r3 => c_ (.tup [.agg [.bool r0, .int .u64 r1, .int .i64 r2], .int .i64 r3]) []) := by kernel_rfl
theorem goodZ143 (N : Nat) (SZ106 : TSZ106) (S_an_of : TS_an_of) (SZ63 : TSZ63) (hZ106 : GoodF Pg 95 (FZ106 SZ106)) (h_an_of : GoodF Pg 155 (F_an_of S_an_of)) (hZ63 : GoodF Pg 157 (FZ63 SZ63)) : GoodF Pg 129 (FZ143 (GZ143 N SZ106 S_an_of SZ63)) := by
 refine good_fs (cx := ⟨Pg, ofList [(95, (FZ106 SZ106)), (155, (F_an_of S_an_of)), (157, (FZ63 SZ63))], isref, N⟩) (ofList_cons hZ106 (ofList_cons h_an_of (ofList_cons hZ63 (ofList_nil _)))) shFZ143 (spZ143 (GZ143 N SZ106 S_an_of SZ63)) (anZ143 N SZ106 S_an_of SZ63) 0 0 (by kernel_rfl) (fun i_ hi_ => by omega) ?_
 intro a k h
 unfold spZ143 at h
 split at h
 ·exact ⟨[], rfl, rfl, (eqZ143 _ _ _ _ _ _).trans h⟩
 ·cases h
def sh_st_big_norm_w_0 : StSh := ⟨(.slw 0 :: (.any :: (.any :: (.int .i64 :: (sqs 17 []))))), [some (22, 1, .ints .u64)]⟩
def sx0_st_big_norm_w_0 : StSh := ⟨(.slw 0 :: (.any :: (.any :: (.int .i64 :: (sqs 17 []))))), [some (22, 1, .ints .u64)]⟩
def hk_st_big_norm_w_0 (N : Nat) : List Atom -> K -> Bool := fun a_ κ => match a_ with
 | [.int n, .ints x] => iterG N (stZ175 N x (fun r0 => κ.ext 0 (sx0_st_big_norm_w_0.build [.int r0, .ints x]))) n
 | _ => false
def anZ5 (N : Nat) : Nat -> Option Ann := fun b_ => cond (b_ == 0) (some ⟨⟨[0, 3], [], []⟩, [(0, ⟨[0, 3], [], []⟩)], some ⟨[2], [], []⟩, some (mkHooks [(sh_st_big_norm_w_0, hk_st_big_norm_w_0 N)])⟩) (none)
theorem eq_st_big_norm_w_0 (N : Nat) (κ : K) (n : Int) (x : List Int) : iter N (fun s k => codeV ⟨Pg, ofList [], isref, N⟩ 1 (anZ5 N) (lp Pg 167 0).2 (lp Pg 167 0).1 s (roundK Pg 1 ((anZ5 N) (lp Pg 167 0).1) κ k)) (sh_st_big_norm_w_0.build [.int n, .ints x]) = iterG N (stZ175 N x (fun r0 => κ.ext 0 (sx0_st_big_norm_w_0.build [.int r0, .ints x]))) n :=
 iter_tr (fun v_ => sh_st_big_norm_w_0.build [.int v_, .ints x]) (fun v_ K_ => by kernel_rfl) N n
theorem hk1_st_big_norm_w_0 (N : Nat) : HookFor ⟨Pg, ofList [], isref, N⟩ 1 (anZ5 N) (lp Pg 167 0) (sh_st_big_norm_w_0, hk_st_big_norm_w_0 N) := by
 intro a κ h
 simp only at h
 unfold hk_st_big_norm_w_0 at h
 split at h
 ·exact (eq_st_big_norm_w_0 _ _ _ _).trans h
 ·cases h
theorem ho_big_norm_w_0 (N : Nat) : HookOk ⟨Pg, ofList [], isref, N⟩ 1 (anZ5 N) (lp Pg 167 0) :=
 hooks_ok [(sh_st_big_norm_w_0, hk_st_big_norm_w_0 N)] (by kernel_rfl) ⟨hk1_st_big_norm_w_0 _, trivial⟩
theorem eqZ5 (N : Nat) (b : List Int) (c_ : V -> List Blk -> Bool) : bodyZ ⟨Pg, ofList [], isref, N⟩ (anZ5 N) 167 (shFZ5.args [.ints b]) [⟨22, 1, .ints .u64 b⟩] c_ = GZ5 N b (fun r0 r1 => c_ (.sl 0 r0 r1) [⟨22, 1, .ints .u64 b⟩]) := by kernel_rfl
theorem goodZ5 (N : Nat) : GoodF Pg 167 (FZ5 (GZ5 N)) := by
 refine good_fsZ (cx := ⟨Pg, ofList [], isref, N⟩) (ofList_nil _) shFZ5 (spZ5 (GZ5 N)) (anZ5 N) 1 1 (by kernel_rfl) (fun i_ hi_ => by
  match i_, hi_ with
  | 0, _ => exact ho_big_norm_w_0 _
  | (q + 1), h => omega) ?_
 intro a k h
 unfold spZ5 at h
 split at h
 ·exact ⟨[_], rfl, rfl, (eqZ5 _ _ _).trans h⟩
 ·cases h
def anZ115 (N : Nat) (SZ5 : TSZ5) : Nat -> Option Ann := fun b_ => none
theorem eqZ115 (N : Nat) (SZ5 : TSZ5) (n : Int) (c_ : V -> List Blk -> Bool) : bodyZ ⟨Pg, ofList [(167, (FZ5 SZ5))], isref, N⟩ (anZ115 N SZ5) 158 (shFZ115.args [.int n]) [] c_ = GZ115 N SZ5 n (fun r0 => c_ (.roi .u64 r0) []) := by kernel_rfl
theorem goodZ115 (N : Nat) (SZ5 : TSZ5) (hZ5 : GoodF Pg 167 (FZ5 SZ5)) : GoodF Pg 158 (FZ115 (GZ115 N SZ5)) := by
 refine good_fsZ (cx := ⟨Pg, ofList [(167, (FZ5 SZ5))], isref, N⟩) (ofList_cons hZ5 (ofList_nil _)) shFZ115 (spZ115 (GZ115 N SZ5)) (anZ115 N SZ5) 0 0 (by kernel_rfl) (fun i_ hi_ => by omega) ?_
 intro a k h
 unfold spZ115 at h
 split at h
 ·exact ⟨[], rfl, rfl, (eqZ115 _ _ _ _).trans h⟩
 ·cases h
def anZ4 (N : Nat) : Nat -> Option Ann := fun b_ => none
theorem eqZ4 (N : Nat) (neg : Bool) (abs : List Int) (b : Bool) (c_ : V -> List Blk -> Bool) : bodyZ ⟨Pg, ofList [], isref, N⟩ (anZ4 N) 139 (shFZ4.args [.bool neg, .ints abs, .bool b]) [⟨126, 1, .cells [.bool b, .nil]⟩] c_ = GZ4 N neg abs b (fun r0 => c_ (.ptr 0 0) [⟨126, 1, .cells [.bool r0, .roi .u64 abs]⟩]) := by kernel_rfl
theorem goodZ4 (N : Nat) : GoodF Pg 139 (FZ4 (GZ4 N)) := by
 refine good_fsZ (cx := ⟨Pg, ofList [], isref, N⟩) (ofList_nil _) shFZ4 (spZ4 (GZ4 N)) (anZ4 N) 0 1 (by kernel_rfl) (fun i_ hi_ => by omega) ?_
 intro a k h
 unfold spZ4 at h
 split at h
 ·exact ⟨[_], rfl, rfl, (eqZ4 _ _ _ _ _).trans h⟩
 ·cases h
def anZ45 (N : Nat) (SZ115 : TSZ115) (SZ4 : TSZ4) : Nat -> Option Ann := fun b_ => none
theorem eqZ45 (N : Nat) (SZ115 : TSZ115) (SZ4 : TSZ4) (n : Int) (b : Bool) (c_ : V -> List Blk -> Bool) : bodyZ ⟨Pg, ofList [(158, (FZ115 SZ115)), (139, (FZ4 SZ4))], isref, N⟩ (anZ45 N SZ115 SZ4) 130 (shFZ45.args [.int n, .bool b]) [⟨126, 1, .cells [.bool b, .nil]⟩] c_ = GZ45 N SZ115 SZ4 n b (fun r0 r1 => c_ (.ptr 0 0) [⟨126, 1, .cells [.bool r0, .roi .u64 r1]⟩]) := by kernel_rfl
theorem goodZ45 (N : Nat) (SZ115 : TSZ115) (SZ4 : TSZ4) (hZ115 : GoodF Pg 158 (FZ115 SZ115)) (hZ4 : GoodF Pg 139 (FZ4 SZ4)) : GoodF Pg 130 (FZ45 (GZ45 N SZ115 SZ4)) := by
 refine good_fsZ (cx := ⟨Pg, ofList [(158, (FZ115 SZ115)), (139, (FZ4 SZ4))], isref, N⟩) (ofList_cons hZ115 (ofList_cons hZ4 (ofList_nil _))) shFZ45 (spZ45 (GZ45 N SZ115 SZ4)) (anZ45 N SZ115 SZ4) 0 1 (by kernel_rfl) (fun i_ hi_ => by omega) ?_
 intro a k h
 unfold spZ45 at h
 split at h
 ·exact ⟨[_], rfl, rfl, (eqZ45 _ _ _ _ _ _).trans h⟩
 ·cases h
def anZ73 (N : Nat) : Nat -> Option Ann := fun b_ => none
theorem eqZ73 (N : Nat) (x : List Int) (c_ : V -> List Blk -> Bool) : bodyZ ⟨Pg, ofList [], isref, N⟩ (anZ73 N) 140 (shFZ73.args [.ints x]) [] c_ = GZ73 N x (fun r0 => c_ (.roi .u64 r0) []) := by kernel_rfl
theorem goodZ73 (N : Nat) : GoodF Pg 140 (FZ73 (GZ73 N)) := by
 refine good_fsZ (cx := ⟨Pg, ofList [], isref, N⟩) (ofList_nil _) shFZ73 (spZ73 (GZ73 N)) (anZ73 N) 0 0 (by kernel_rfl) (fun i_ hi_ => by omega) ?_
 intro a k h
 unfold spZ73 at h
 split at h
 ·exact ⟨[], rfl, rfl, (eqZ73 _ _ _).trans h⟩
 ·cases h
def anZ31 (N : Nat) : Nat -> Option Ann := fun b_ => none
theorem eqZ31 (N : Nat) (neg : Bool) (abs : List Int) (b : Bool) (b_1 : List Int) (c_ : V -> List Blk -> Bool) : bodyZ ⟨Pg, ofList [], isref, N⟩ (anZ31 N) 139 (shFZ31.args [.bool neg, .ints abs, .bool b, .ints b_1]) [⟨126, 1, .cells [.bool b, .roi .u64 b_1]⟩] c_ = GZ31 N neg abs b b_1 (fun r0 => c_ (.ptr 0 0) [⟨126, 1, .cells [.bool r0, .roi .u64 abs]⟩]) := by kernel_rfl
theorem goodZ31 (N : Nat) : GoodF Pg 139 (FZ31 (GZ31 N)) := by
 refine good_fsZ (cx := ⟨Pg, ofList [], isref, N⟩) (ofList_nil _) shFZ31 (spZ31 (GZ31 N)) (anZ31 N) 0 1 (by kernel_rfl) (fun i_ hi_ => by omega) ?_
 intro a k h
 unfold spZ31 at h
 split at h
 ·exact ⟨[_], rfl, rfl, (eqZ31 _ _ _ _ _ _).trans h⟩
 ·cases h
def anZ25 (N : Nat) (SZ73 : TSZ73) (SZ31 : TSZ31) : Nat -> Option Ann := fun b_ => none
theorem eqZ25 (N : Nat) (SZ73 : TSZ73) (SZ31 : TSZ31) (b : Bool) (b_1 : List Int) (c_ : V -> List Blk -> Bool) : bodyZ ⟨Pg, ofList [(140, (FZ73 SZ73)), (139, (FZ31 SZ31))], isref, N⟩ (anZ25 N SZ73 SZ31) 91 (shFZ25.args [.bool b, .ints b_1]) [⟨126, 1, .cells [.bool b, .roi .u64 b_1]⟩] c_ = GZ25 N SZ73 SZ31 b b_1 (fun r0 r1 => c_ (.ptr 0 0) [⟨126, 1, .cells [.bool r0, .roi .u64 r1]⟩]) := by kernel_rfl
theorem goodZ25 (N : Nat) (SZ73 : TSZ73) (SZ31 : TSZ31) (hZ73 : GoodF Pg 140 (FZ73 SZ73)) (hZ31 : GoodF Pg 139 (FZ31 SZ31)) : GoodF Pg 91 (FZ25 (GZ25 N SZ73 SZ31)) := by
 refine good_fsZ (cx := ⟨Pg, ofList [(140, (FZ73 SZ73)), (139, (FZ31 SZ31))], isref, N⟩) (ofList_cons hZ73 (ofList_cons hZ31 (ofList_nil _))) shFZ25 (spZ25 (GZ25 N SZ73 SZ31)) (anZ25 N SZ73 SZ31) 0 1 (by kernel_rfl) (fun i_ hi_ => by omega) ?_
 intro a k h
 unfold spZ25 at h
 split at h
 ·exact ⟨[_], rfl, rfl, (eqZ25 _ _ _ _ _ _).trans h⟩
 ·cases h
def anZ135 (N : Nat) (SZ143 : TSZ143) (SZ45 : TSZ45) (SZ25 : TSZ25) : Nat -> Option Ann := fun b_ => none
theorem eqZ135 (N : Nat) (SZ143 : TSZ143) (SZ45 : TSZ45) (SZ25 : TSZ25) (x : Fl) (c_ : V -> List Blk -> Bool) : bodyV ⟨Pg, ofList [(129, (FZ143 SZ143)), (130, (FZ45 SZ45)), (91, (FZ25 SZ25))], isref, N⟩ (anZ135 N SZ143 SZ45 SZ25) 86 (shFZ135.args [.fl x]) [] c_ = GZ135 N SZ143 SZ45 SZ25 x (fun r0 r1 r2 => c_ (.agg [.ptr 0 0, .int .i64 r0]) [⟨126, 1, .cells [.bool r1, .roi .u64 r2]⟩]) := by kernel_rfl
theorem goodZ135 (N : Nat) (SZ143 : TSZ143) (SZ45 : TSZ45) (SZ25 : TSZ25) (hZ143 : GoodF Pg 129 (FZ143 SZ143)) (hZ45 : GoodF Pg 130 (FZ45 SZ45)) (hZ25 : GoodF Pg 91 (FZ25 SZ25)) : GoodF Pg 86 (FZ135 (GZ135 N SZ143 SZ45 SZ25)) := by
 refine good_fs (cx := ⟨Pg, ofList [(129, (FZ143 SZ143)), (130, (FZ45 SZ45)), (91, (FZ25 SZ25))], isref, N⟩) (ofList_cons hZ143 (ofList_cons hZ45 (ofList_cons hZ25 (ofList_nil _)))) shFZ135 (spZ135 (GZ135 N SZ143 SZ45 SZ25)) (anZ135 N SZ143 SZ45 SZ25) 0 0 (by kernel_rfl) (fun i_ hi_ => by omega) ?_
 intro a k h
 unfold spZ135 at h
 split at h
 ·exact ⟨[], rfl, rfl, (eqZ135 _ _ _ _ _ _).trans h⟩
 ·cases h
def anZ98 (N : Nat) : Nat -> Option Ann := fun b_ => none
theorem eqZ98 (N : Nat) (x y : Int) (c_ : V -> List Blk -> Bool) : bodyV ⟨Pg, ofList [], isref, N⟩ (anZ98 N) 192 (shFZ98.args [.int x, .int y]) [] c_ = GZ98 N x y (fun r0 r1 => c_ (.tup [.int .u64 r0, .int .u64 r1]) []) := by kernel_rfl
theorem goodZ98 (N : Nat) : GoodF Pg 192 (FZ98 (GZ98 N)) := by
 refine good_fs (cx := ⟨Pg, ofList [], isref, N⟩) (ofList_nil _) shFZ98 (spZ98 (GZ98 N)) (anZ98 N) 0 0 (by kernel_rfl) (fun i_ hi_ => by omega) ?_
 intro a k h
 unfold spZ98 at h
 split at h
 ·exact ⟨[], rfl, rfl, (eqZ98 _ _ _ _).trans h⟩
 ·cases h
def anZ96 (N : Nat) (SZ98 : TSZ98) (SZ65 : TSZ65) : Nat -> Option Ann := fun b_ => none
theorem eqZ96 (N : Nat) (SZ98 : TSZ98) (SZ65 : TSZ65) (a b c d : Int) (c_ : V -> List Blk -> Bool) : bodyZ ⟨Pg, ofList [(192, (FZ98 SZ98)), (183, (FZ65 SZ65))], isref, N⟩ (anZ96 N SZ98 SZ65) 181 (shFZ96.args [.int a, .int b, .int c, .int d]) [] c_ = GZ96 N SZ98 SZ65 a b c d (fun r0 r1 => c_ (.tup [.int .u64 r0, .int .u64 r1]) []) := by kernel_rfl
theorem goodZ96 (N : Nat) (SZ98 : TSZ98) (SZ65 : TSZ65) (hZ98 : GoodF Pg 192 (FZ98 SZ98)) (hZ65 : GoodF Pg 183 (FZ65 SZ65)) : GoodF Pg 181 (FZ96 (GZ96 N SZ98 SZ65)) := by
 refine good_fsZ (cx := ⟨Pg, ofList [(192, (FZ98 SZ98)), (183, (FZ65 SZ65))], isref, N⟩) (ofList_cons hZ98 (ofList_cons hZ65 (ofList_nil _))) shFZ96 (spZ96 (GZ96 N SZ98 SZ65)) (anZ96 N SZ98 SZ65) 0 0 (by kernel_rfl) (fun i_ hi_ => by omega) ?_
 intro a k h
 unfold spZ96 at h
 split at h
 ·exact ⟨[], rfl, rfl, (eqZ96 _ _ _ _ _ _ _ _).trans h⟩
 ·cases h
end Go.Proofs.YtnfgnjciliapaaaGreatDoor
