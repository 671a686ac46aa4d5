/-
  THE TIES: each printed meaning is what the program does (written by program).
  Conditions: none.
-/
import Derived.Test.YtnfgnjciliapaaaGreatDoorGs
namespace Go.Proofs.YtnfgnjciliapaaaGreatDoor
open Go Go.Mach Go.Proofs
set_option linter.unusedVariables false
set_option maxRecDepth 50000

def anQ57 (N : Nat) (SQ96 : TSQ96) : Nat -> Option Ann := fun b_ => none
theorem eqQ57 (N : Nat) (SQ96 : TSQ96) (x : Int) (b : Bool) (b_1 : List Int) (c_ : V -> List Blk -> Bool) : bodyV ⟨Pg, ofList [(74, (FQ96 SQ96))], isref, N⟩ (anQ57 N SQ96) 34 (shFQ57.args [.int x, .bool b, .ints b_1]) [⟨98, 1, .cells [.bool b, .roi .u32 b_1]⟩] c_ = GQ57 N SQ96 x b b_1 (fun r3 r4 => c_ (.agg [.ptr 1 0, .int .i64 x]) [⟨98, 1, .cells [.bool b, .roi .u32 b_1]⟩, ⟨98, 1, .cells [.bool r3, .roi .u32 r4]⟩]) := by kernel_rfl
theorem goodQ57 (N : Nat) (SQ96 : TSQ96) (hQ96 : GoodF Pg 74 (FQ96 SQ96)) : GoodF Pg 34 (FQ57 (GQ57 N SQ96)) := by
  refine good_fs (cx := ⟨Pg, ofList [(74, (FQ96 SQ96))], isref, N⟩) (ofList_cons hQ96 (ofList_nil _)) shFQ57 (spQ57 (GQ57 N SQ96)) (anQ57 N SQ96) 0 1 (by kernel_rfl) (fun i_ hi_ => by omega) ?_
  intro a k h
  unfold spQ57 at h
  split at h
  · exact ⟨[_], rfl, rfl, (eqQ57 _ _ _ _ _ _).trans h⟩
  · cases h

def anQ118 (N : Nat) (SQ128 : TSQ128) (SQ168 : TSQ168) (SQ144 : TSQ144) (SQ8 : TSQ8) (SQ57 : TSQ57) : Nat -> Option Ann := fun b_ => none
theorem eqQ118 (N : Nat) (SQ128 : TSQ128) (SQ168 : TSQ168) (SQ144 : TSQ144) (SQ8 : TSQ8) (SQ57 : TSQ57) (q_0 q_1 q_2 q_3 : Fl) (c_ : V -> List Blk -> Bool) : bodyV ⟨Pg, ofList [(108, (FQ128 SQ128)), (56, (FQ168 SQ168)), (14, (FQ144 SQ144)), (15, (FQ8 SQ8)), (34, (FQ57 SQ57))], isref, N⟩ (anQ118 N SQ128 SQ168 SQ144 SQ8 SQ57) 79 (shFQ118.args [.fl q_0, .fl q_1, .fl q_2, .fl q_3]) [] c_ = GQ118 N SQ128 SQ168 SQ144 SQ8 SQ57 q_0 q_1 q_2 q_3 (fun r0 r1 r2 => c_ (.agg [.ptr 0 0, .int .i64 r0]) [⟨98, 1, .cells [.bool r1, .roi .u32 r2]⟩]) := by kernel_rfl
theorem goodQ118 (N : Nat) (SQ128 : TSQ128) (SQ168 : TSQ168) (SQ144 : TSQ144) (SQ8 : TSQ8) (SQ57 : TSQ57) (hQ128 : GoodF Pg 108 (FQ128 SQ128)) (hQ168 : GoodF Pg 56 (FQ168 SQ168)) (hQ144 : GoodF Pg 14 (FQ144 SQ144)) (hQ8 : GoodF Pg 15 (FQ8 SQ8)) (hQ57 : GoodF Pg 34 (FQ57 SQ57)) : GoodF Pg 79 (FQ118 (GQ118 N SQ128 SQ168 SQ144 SQ8 SQ57)) := by
  refine good_fs (cx := ⟨Pg, ofList [(108, (FQ128 SQ128)), (56, (FQ168 SQ168)), (14, (FQ144 SQ144)), (15, (FQ8 SQ8)), (34, (FQ57 SQ57))], isref, N⟩) (ofList_cons hQ128 (ofList_cons hQ168 (ofList_cons hQ144 (ofList_cons hQ8 (ofList_cons hQ57 (ofList_nil _)))))) shFQ118 (spQ118 (GQ118 N SQ128 SQ168 SQ144 SQ8 SQ57)) (anQ118 N SQ128 SQ168 SQ144 SQ8 SQ57) 0 0 (by kernel_rfl) (fun i_ hi_ => by omega) ?_
  intro a k h
  unfold spQ118 at h
  split at h
  · exact ⟨[], rfl, rfl, (eqQ118 _ _ _ _ _ _ _ _ _ _ _).trans h⟩
  · cases h

def anQ143 (N : Nat) (SQ93 : TSQ93) : Nat -> Option Ann := fun b_ => none
theorem eqQ143 (N : Nat) (SQ93 : TSQ93) (e : Int) (c_ : V -> List Blk -> Bool) : bodyV ⟨Pg, ofList [(51, (FQ93 SQ93))], isref, N⟩ (anQ143 N SQ93) 16 (shFQ143.args [.int e]) [] c_ = GQ143 N SQ93 e (fun r1 r2 => c_ (.agg [.ptr 0 0, .int .i64 e]) [⟨98, 1, .cells [.bool r1, .roi .u32 r2]⟩]) := by kernel_rfl
theorem goodQ143 (N : Nat) (SQ93 : TSQ93) (hQ93 : GoodF Pg 51 (FQ93 SQ93)) : GoodF Pg 16 (FQ143 (GQ143 N SQ93)) := by
  refine good_fs (cx := ⟨Pg, ofList [(51, (FQ93 SQ93))], isref, N⟩) (ofList_cons hQ93 (ofList_nil _)) shFQ143 (spQ143 (GQ143 N SQ93)) (anQ143 N SQ93) 0 0 (by kernel_rfl) (fun i_ hi_ => by omega) ?_
  intro a k h
  unfold spQ143 at h
  split at h
  · exact ⟨[], rfl, rfl, (eqQ143 _ _ _ _).trans h⟩
  · cases h

def anQ98 (N : Nat) (SQ83 : TSQ83) : Nat -> Option Ann := fun b_ => none
theorem eqQ98 (N : Nat) (SQ83 : TSQ83) (b b_1 : Bool) (b_2 : List Int) (c_ : V -> List Blk -> Bool) : bodyZ ⟨Pg, ofList [(99, (FQ83 SQ83))], isref, N⟩ (anQ98 N SQ83) 55 (shFQ98.args [.bool b, .bool b_1, .ints b_2]) [⟨98, 1, .cells [.bool b, .nil]⟩, ⟨98, 1, .cells [.bool b_1, .roi .u32 b_2]⟩] c_ = GQ98 N SQ83 b b_1 b_2 (fun r0 r1 => c_ (.ptr 0 0) [⟨98, 1, .cells [.bool r0, .roi .u32 r1]⟩, ⟨98, 1, .cells [.bool b_1, .roi .u32 b_2]⟩]) := by kernel_rfl
theorem goodQ98 (N : Nat) (SQ83 : TSQ83) (hQ83 : GoodF Pg 99 (FQ83 SQ83)) : GoodF Pg 55 (FQ98 (GQ98 N SQ83)) := by
  refine good_fsZ (cx := ⟨Pg, ofList [(99, (FQ83 SQ83))], isref, N⟩) (ofList_cons hQ83 (ofList_nil _)) shFQ98 (spQ98 (GQ98 N SQ83)) (anQ98 N SQ83) 0 2 (by kernel_rfl) (fun i_ hi_ => by omega) ?_
  intro a k h
  unfold spQ98 at h
  split at h
  · exact ⟨[_, _], rfl, rfl, (eqQ98 _ _ _ _ _ _).trans h⟩
  · cases h

def anQ63 (N : Nat) (SQ98 : TSQ98) : Nat -> Option Ann := fun b_ => none
theorem eqQ63 (N : Nat) (SQ98 : TSQ98) (x : Int) (b : Bool) (b_1 : List Int) (c_ : V -> List Blk -> Bool) : bodyV ⟨Pg, ofList [(55, (FQ98 SQ98))], isref, N⟩ (anQ63 N SQ98) 17 (shFQ63.args [.int x, .bool b, .ints b_1]) [⟨98, 1, .cells [.bool b, .roi .u32 b_1]⟩] c_ = GQ63 N SQ98 x b b_1 (fun r3 r4 => c_ (.agg [.ptr 1 0, .int .i64 x]) [⟨98, 1, .cells [.bool b, .roi .u32 b_1]⟩, ⟨98, 1, .cells [.bool r3, .roi .u32 r4]⟩]) := by kernel_rfl
theorem goodQ63 (N : Nat) (SQ98 : TSQ98) (hQ98 : GoodF Pg 55 (FQ98 SQ98)) : GoodF Pg 17 (FQ63 (GQ63 N SQ98)) := by
  refine good_fs (cx := ⟨Pg, ofList [(55, (FQ98 SQ98))], isref, N⟩) (ofList_cons hQ98 (ofList_nil _)) shFQ63 (spQ63 (GQ63 N SQ98)) (anQ63 N SQ98) 0 1 (by kernel_rfl) (fun i_ hi_ => by omega) ?_
  intro a k h
  unfold spQ63 at h
  split at h
  · exact ⟨[_], rfl, rfl, (eqQ63 _ _ _ _ _ _).trans h⟩
  · cases h

def anQ50 (N : Nat) (SQ63 : TSQ63) (SQ8 : TSQ8) (SQ64 : TSQ64) : Nat -> Option Ann := fun b_ => none
theorem eqQ50 (N : Nat) (SQ63 : TSQ63) (SQ8 : TSQ8) (SQ64 : TSQ64) (x y : Int) (b : Bool) (b_1 : List Int) (b_2 : Bool) (b_3 : List Int) (c_ : V -> List Blk -> Bool) : bodyV ⟨Pg, ofList [(17, (FQ63 SQ63)), (15, (FQ8 SQ8)), (52, (FQ64 SQ64))], isref, N⟩ (anQ50 N SQ63 SQ8 SQ64) 20 (shFQ50.args [.int x, .int y, .bool b, .ints b_1, .bool b_2, .ints b_3]) [⟨98, 1, .cells [.bool b, .roi .u32 b_1]⟩, ⟨98, 1, .cells [.bool b_2, .roi .u32 b_3]⟩] c_ = GQ50 N SQ63 SQ8 SQ64 x y b b_1 b_2 b_3 (fun r0 => c_ (.int .i64 r0) [⟨98, 1, .cells [.bool b, .roi .u32 b_1]⟩, ⟨98, 1, .cells [.bool b_2, .roi .u32 b_3]⟩]) := by kernel_rfl
theorem goodQ50 (N : Nat) (SQ63 : TSQ63) (SQ8 : TSQ8) (SQ64 : TSQ64) (hQ63 : GoodF Pg 17 (FQ63 SQ63)) (hQ8 : GoodF Pg 15 (FQ8 SQ8)) (hQ64 : GoodF Pg 52 (FQ64 SQ64)) : GoodF Pg 20 (FQ50 (GQ50 N SQ63 SQ8 SQ64)) := by
  refine good_fs (cx := ⟨Pg, ofList [(17, (FQ63 SQ63)), (15, (FQ8 SQ8)), (52, (FQ64 SQ64))], isref, N⟩) (ofList_cons hQ63 (ofList_cons hQ8 (ofList_cons hQ64 (ofList_nil _)))) shFQ50 (spQ50 (GQ50 N SQ63 SQ8 SQ64)) (anQ50 N SQ63 SQ8 SQ64) 0 2 (by kernel_rfl) (fun i_ hi_ => by omega) ?_
  intro a k h
  unfold spQ50 at h
  split at h
  · exact ⟨[_, _], rfl, rfl, (eqQ50 _ _ _ _ _ _ _ _ _ _ _).trans h⟩
  · cases h

def anQ4 (N : Nat) (SQ92 : TSQ92) (SQ132 : TSQ132) (SQ118 : TSQ118) (SQ143 : TSQ143) (SQ50 : TSQ50) : Nat -> Option Ann := fun b_ => none
theorem eqQ4 (N : Nat) (SQ92 : TSQ92) (SQ132 : TSQ132) (SQ118 : TSQ118) (SQ143 : TSQ143) (SQ50 : TSQ50) (q_0 q_1 q_2 q_3 : Fl) (c_ : V -> List Blk -> Bool) : bodyV ⟨Pg, ofList [(11, (FQ92 SQ92)), (78, (FQ132 SQ132)), (79, (FQ118 SQ118)), (16, (FQ143 SQ143)), (20, (FQ50 SQ50))], isref, N⟩ (anQ4 N SQ92 SQ132 SQ118 SQ143 SQ50) 36 (shFQ4.args [.fl q_0, .fl q_1, .fl q_2, .fl q_3]) [] c_ = GQ4 N SQ92 SQ132 SQ118 SQ143 SQ50 q_0 q_1 q_2 q_3 (fun r0 => c_ (.bool r0) []) := by kernel_rfl
theorem goodQ4 (N : Nat) (SQ92 : TSQ92) (SQ132 : TSQ132) (SQ118 : TSQ118) (SQ143 : TSQ143) (SQ50 : TSQ50) (hQ92 : GoodF Pg 11 (FQ92 SQ92)) (hQ132 : GoodF Pg 78 (FQ132 SQ132)) (hQ118 : GoodF Pg 79 (FQ118 SQ118)) (hQ143 : GoodF Pg 16 (FQ143 SQ143)) (hQ50 : GoodF Pg 20 (FQ50 SQ50)) : GoodF Pg 36 (FQ4 (GQ4 N SQ92 SQ132 SQ118 SQ143 SQ50)) := by
  refine good_fs (cx := ⟨Pg, ofList [(11, (FQ92 SQ92)), (78, (FQ132 SQ132)), (79, (FQ118 SQ118)), (16, (FQ143 SQ143)), (20, (FQ50 SQ50))], isref, N⟩) (ofList_cons hQ92 (ofList_cons hQ132 (ofList_cons hQ118 (ofList_cons hQ143 (ofList_cons hQ50 (ofList_nil _)))))) shFQ4 (spQ4 (GQ4 N SQ92 SQ132 SQ118 SQ143 SQ50)) (anQ4 N SQ92 SQ132 SQ118 SQ143 SQ50) 0 0 (by kernel_rfl) (fun i_ hi_ => by omega) ?_
  intro a k h
  unfold spQ4 at h
  split at h
  · exact ⟨[], rfl, rfl, (eqQ4 _ _ _ _ _ _ _ _ _ _ _).trans h⟩
  · cases h

def anQ54 (N : Nat) (SQ123 : TSQ123) (SQ13 : TSQ13) : Nat -> Option Ann := fun b_ => none
theorem eqQ54 (N : Nat) (SQ123 : TSQ123) (SQ13 : TSQ13) (a_0 a_1 a_2 a_3 b_0 b_1 b_2 b_3 : Fl) (c_ : V -> List Blk -> Bool) : bodyV ⟨Pg, ofList [(40, (FQ123 SQ123)), (35, (FQ13 SQ13))], isref, N⟩ (anQ54 N SQ123 SQ13) 21 (shFQ54.args [.fl a_0, .fl a_1, .fl a_2, .fl a_3, .fl b_0, .fl b_1, .fl b_2, .fl b_3]) [] c_ = GQ54 N SQ123 SQ13 a_0 a_1 a_2 a_3 b_0 b_1 b_2 b_3 (fun r0 r1 r2 r3 r4 => c_ (.tup [.agg [.flt r0, .flt r1, .flt r2, .flt r3], .int .i64 r4]) []) := by kernel_rfl
theorem goodQ54 (N : Nat) (SQ123 : TSQ123) (SQ13 : TSQ13) (hQ123 : GoodF Pg 40 (FQ123 SQ123)) (hQ13 : GoodF Pg 35 (FQ13 SQ13)) : GoodF Pg 21 (FQ54 (GQ54 N SQ123 SQ13)) := by
  refine good_fs (cx := ⟨Pg, ofList [(40, (FQ123 SQ123)), (35, (FQ13 SQ13))], isref, N⟩) (ofList_cons hQ123 (ofList_cons hQ13 (ofList_nil _))) shFQ54 (spQ54 (GQ54 N SQ123 SQ13)) (anQ54 N SQ123 SQ13) 0 0 (by kernel_rfl) (fun i_ hi_ => by omega) ?_
  intro a k h
  unfold spQ54 at h
  split at h
  · exact ⟨[], rfl, rfl, (eqQ54 _ _ _ _ _ _ _ _ _ _ _ _).trans h⟩
  · cases h

def sh_st_binnacleref01_Of64_0 : StSh := ⟨(.any :: (.any :: (.any :: (.slw 0 :: (.any :: (.any :: (.roi .u64 :: (.int .i64 :: (.int .i64 :: (sqs 10 [])))))))))), [some (28, 1, .flts)]⟩
def sx0_st_binnacleref01_Of64_0 : StSh := ⟨(.any :: (.any :: (.any :: (.slw 0 :: (sqs 15 []))))), [some (28, 1, .flts)]⟩
def hk_st_binnacleref01_Of64_0 (N : Nat) (SQ82 : TSQ82) : List Atom -> K -> Bool := fun a_ κ => match a_ with
  | [.ints t6_1, .int t7_1, .int t8_1, .fls x] => iterG N (st_z01_Of64_0 N SQ82 t6_1 t7_1 (fun r0 => κ.ext 0 (sx0_st_binnacleref01_Of64_0.build [.fls r0]))) (t8_1, x)
  | _ => false
def anQ154 (N : Nat) (SQ82 : TSQ82) : Nat -> Option Ann := fun b_ => cond (b_ == 0) (some ⟨⟨[3, 6, 7, 8], [(3, none, 28)], []⟩, [(0, ⟨[3], [], []⟩)], some ⟨[2], [], []⟩, some (mkHooks [(sh_st_binnacleref01_Of64_0, hk_st_binnacleref01_Of64_0 N SQ82)])⟩) (none)
theorem eq_st_binnacleref01_Of64_0 (N : Nat) (SQ82 : TSQ82) (κ : K) (t6_1 : List Int) (t7_1 t8_1 : Int) (x : List Fl) : iter N (fun s k => codeV ⟨Pg, ofList [(82, (FQ82 SQ82))], isref, N⟩ 0 (anQ154 N SQ82) (lp Pg 80 0).2 (lp Pg 80 0).1 s (roundK Pg 0 ((anQ154 N SQ82) (lp Pg 80 0).1) κ k)) (sh_st_binnacleref01_Of64_0.build [.ints t6_1, .int t7_1, .int t8_1, .fls x]) = iterG N (st_z01_Of64_0 N SQ82 t6_1 t7_1 (fun r0 => κ.ext 0 (sx0_st_binnacleref01_Of64_0.build [.fls r0]))) (t8_1, x) :=
  iter_tr (fun (v_ : Int × List Fl) => sh_st_binnacleref01_Of64_0.build [.ints t6_1, .int t7_1, .int v_.1, .fls v_.2]) (fun v_ K_ => by obtain ⟨t8_1, x⟩ := v_; kernel_rfl) N (t8_1, x)
theorem hk1_st_binnacleref01_Of64_0 (N : Nat) (SQ82 : TSQ82) : HookFor ⟨Pg, ofList [(82, (FQ82 SQ82))], isref, N⟩ 0 (anQ154 N SQ82) (lp Pg 80 0) (sh_st_binnacleref01_Of64_0, hk_st_binnacleref01_Of64_0 N SQ82) := by
  intro a κ h
  simp only at h
  unfold hk_st_binnacleref01_Of64_0 at h
  split at h
  · exact (eq_st_binnacleref01_Of64_0 _ _ _ _ _ _ _).trans h
  · cases h
theorem ho_binnacleref01_Of64_0 (N : Nat) (SQ82 : TSQ82) : HookOk ⟨Pg, ofList [(82, (FQ82 SQ82))], isref, N⟩ 0 (anQ154 N SQ82) (lp Pg 80 0) :=
  hooks_ok [(sh_st_binnacleref01_Of64_0, hk_st_binnacleref01_Of64_0 N SQ82)] (by kernel_rfl) ⟨hk1_st_binnacleref01_Of64_0 _ _, trivial⟩
theorem eqQ154 (N : Nat) (SQ82 : TSQ82) (l : List Int) (c_ : V -> List Blk -> Bool) : bodyV ⟨Pg, ofList [(82, (FQ82 SQ82))], isref, N⟩ (anQ154 N SQ82) 80 (shFQ154.args [.ints l]) [] c_ = GQ154 N SQ82 l (fun r0 => c_ (.slw 0) [⟨28, 1, .flts r0⟩]) := by kernel_rfl
theorem goodQ154 (N : Nat) (SQ82 : TSQ82) (hQ82 : GoodF Pg 82 (FQ82 SQ82)) : GoodF Pg 80 (FQ154 (GQ154 N SQ82)) := by
  refine good_fs (cx := ⟨Pg, ofList [(82, (FQ82 SQ82))], isref, N⟩) (ofList_cons hQ82 (ofList_nil _)) shFQ154 (spQ154 (GQ154 N SQ82)) (anQ154 N SQ82) 1 0 (by kernel_rfl) (fun i_ hi_ => by
    match i_, hi_ with
    | 0, _ => exact ho_binnacleref01_Of64_0 _ _
    | (q + 1), h => omega) ?_
  intro a k h
  unfold spQ154 at h
  split at h
  · exact ⟨[], rfl, rfl, (eqQ154 _ _ _ _).trans h⟩
  · cases h

def anQ10 (N : Nat) (SQ154 : TSQ154) : Nat -> Option Ann := fun b_ => none
theorem eqQ10 (N : Nat) (SQ154 : TSQ154) (m_0 m_1 : Int) (m_2 : List Int) (c_ : V -> List Blk -> Bool) : bodyV ⟨Pg, ofList [(80, (FQ154 SQ154))], isref, N⟩ (anQ10 N SQ154) 37 (shFQ10.args [.int m_0, .int m_1, .ints m_2]) [] c_ = GQ10 N SQ154 m_0 m_1 m_2 (fun r2 => c_ (.agg [.int .i64 m_0, .int .i64 m_1, .slw 0]) [⟨28, 1, .flts r2⟩]) := by kernel_rfl
theorem goodQ10 (N : Nat) (SQ154 : TSQ154) (hQ154 : GoodF Pg 80 (FQ154 SQ154)) : GoodF Pg 37 (FQ10 (GQ10 N SQ154)) := by
  refine good_fs (cx := ⟨Pg, ofList [(80, (FQ154 SQ154))], isref, N⟩) (ofList_cons hQ154 (ofList_nil _)) shFQ10 (spQ10 (GQ10 N SQ154)) (anQ10 N SQ154) 0 0 (by kernel_rfl) (fun i_ hi_ => by omega) ?_
  intro a k h
  unfold spQ10 at h
  split at h
  · exact ⟨[], rfl, rfl, (eqQ10 _ _ _ _ _ _).trans h⟩
  · cases h

def anQ115 (N : Nat) : Nat -> Option Ann := fun b_ => none
theorem eqQ115 (N : Nat) (n : Int) (c_ : V -> List Blk -> Bool) : bodyV ⟨Pg, ofList [], isref, N⟩ (anQ115 N) 118 (shFQ115.args [.int n]) [] c_ = GQ115 N n (fun r0 => c_ (.bool r0) []) := by kernel_rfl
theorem goodQ115 (N : Nat) : GoodF Pg 118 (FQ115 (GQ115 N)) := by
  refine good_fs (cx := ⟨Pg, ofList [], isref, N⟩) (ofList_nil _) shFQ115 (spQ115 (GQ115 N)) (anQ115 N) 0 0 (by kernel_rfl) (fun i_ hi_ => by omega) ?_
  intro a k h
  unfold spQ115 at h
  split at h
  · exact ⟨[], rfl, rfl, (eqQ115 _ _ _).trans h⟩
  · cases h

def anQ76 (N : Nat) (SQ115 : TSQ115) (SQ69 : TSQ69) : Nat -> Option Ann := fun b_ => none
theorem eqQ76 (N : Nat) (SQ115 : TSQ115) (SQ69 : TSQ69) (m_0 m_1 : Int) (m_2 : List Fl) (c_ : V -> List Blk -> Bool) : bodyV ⟨Pg, ofList [(118, (FQ115 SQ115)), (84, (FQ69 SQ69))], isref, N⟩ (anQ76 N SQ115 SQ69) 70 (shFQ76.args [.int m_0, .int m_1, .fls m_2]) [] c_ = GQ76 N SQ115 SQ69 m_0 m_1 m_2 (fun r0 => c_ (.int .i64 r0) []) := by kernel_rfl
theorem goodQ76 (N : Nat) (SQ115 : TSQ115) (SQ69 : TSQ69) (hQ115 : GoodF Pg 118 (FQ115 SQ115)) (hQ69 : GoodF Pg 84 (FQ69 SQ69)) : GoodF Pg 70 (FQ76 (GQ76 N SQ115 SQ69)) := by
  refine good_fs (cx := ⟨Pg, ofList [(118, (FQ115 SQ115)), (84, (FQ69 SQ69))], isref, N⟩) (ofList_cons hQ115 (ofList_cons hQ69 (ofList_nil _))) shFQ76 (spQ76 (GQ76 N SQ115 SQ69)) (anQ76 N SQ115 SQ69) 0 0 (by kernel_rfl) (fun i_ hi_ => by omega) ?_
  intro a k h
  unfold spQ76 at h
  split at h
  · exact ⟨[], rfl, rfl, (eqQ76 _ _ _ _ _ _ _).trans h⟩
  · cases h

def anQ30 (N : Nat) : Nat -> Option Ann := fun b_ => none
theorem eqQ30 (N : Nat) (i j b b_1 : Int) (b_2 : List Fl) (c_ : V -> List Blk -> Bool) : bodyV ⟨Pg, ofList [], isref, N⟩ (anQ30 N) 71 (shFQ30.args [.int i, .int j, .int b, .int b_1, .fls b_2]) [⟨55, 1, .cells [.int .i64 b, .int .i64 b_1, .rof b_2]⟩] c_ = GQ30 N i j b b_1 b_2 (fun r0 => c_ (.flt r0) [⟨55, 1, .cells [.int .i64 b, .int .i64 b_1, .rof b_2]⟩]) := by kernel_rfl
theorem goodQ30 (N : Nat) : GoodF Pg 71 (FQ30 (GQ30 N)) := by
  refine good_fs (cx := ⟨Pg, ofList [], isref, N⟩) (ofList_nil _) shFQ30 (spQ30 (GQ30 N)) (anQ30 N) 0 1 (by kernel_rfl) (fun i_ hi_ => by omega) ?_
  intro a k h
  unfold spQ30 at h
  split at h
  · exact ⟨[_], rfl, rfl, (eqQ30 _ _ _ _ _ _ _).trans h⟩
  · cases h

def anQ56 (N : Nat) (SQ76 : TSQ76) (SQ30 : TSQ30) (SQ12 : TSQ12) (SQ72 : TSQ72) (SQ13 : TSQ13) : Nat -> Option Ann := fun b_ => none
def lsQ183 (d_ : List V) (u_ : List (Option Blk)) (m_0 m_1 : Int) (m_2 : List Fl) (k_ k__1 k__2 k__3 : Fl) : St := ⟨((dq d_ 0) :: ((dq d_ 1) :: (.ptr 1 0 :: (dqs d_ 2 13 (.ptr 3 0 :: (dqs d_ 15 129 [])))))), [(u_.getD 0 none), some ⟨30, 1, .cells [.flt (some 0), .flt (some 0), .flt (some 0), .flt (some 0)]⟩, (u_.getD 1 none), some ⟨30, 1, .cells [.flt k_, .flt k__1, .flt k__2, .flt k__3]⟩]⟩
theorem jnQ183 (N : Nat) (SQ76 : TSQ76) (SQ30 : TSQ30) (SQ12 : TSQ12) (SQ72 : TSQ72) (SQ13 : TSQ13) (d_ : List V) (u_ : List (Option Blk)) (m_0 m_1 : Int) (m_2 : List Fl) (k_ k__1 k__2 k__3 : Fl) (c_ : V -> List Blk -> Bool) : codesV ⟨Pg, ofList [(70, (FQ76 SQ76)), (71, (FQ30 SQ30)), (48, (FQ12 SQ12)), (72, (FQ72 SQ72)), (35, (FQ13 SQ13))], isref, N⟩ 0 (anQ56 N SQ76 SQ30 SQ12 SQ72 SQ13) ((cds Pg 30).drop 17) 0 (lsQ183 d_ u_ m_0 m_1 m_2 k_ k__1 k__2 k__3) (finV Pg 30 0 c_) = JQ183 N SQ76 SQ30 SQ12 SQ72 SQ13 m_0 m_1 m_2 k_ k__1 k__2 k__3 (fun r0 r1 r2 r3 r4 => c_ (.tup [.agg [.flt r0, .flt r1, .flt r2, .flt r3], .int .i64 r4]) []) := by kernel_rfl
theorem hd_quat_From_w (N : Nat) (SQ76 : TSQ76) (SQ30 : TSQ30) (SQ12 : TSQ12) (SQ72 : TSQ72) (SQ13 : TSQ13) (m_0 m_1 : Int) (m_2 : List Fl) (c_ : V -> List Blk -> Bool) (κn_ : St -> Bool) : codesV ⟨Pg, ofList [(70, (FQ76 SQ76)), (71, (FQ30 SQ30)), (48, (FQ12 SQ12)), (72, (FQ72 SQ72)), (35, (FQ13 SQ13))], isref, N⟩ 0 (anQ56 N SQ76 SQ30 SQ12 SQ72 SQ13) (sg Pg 30 0 17) 0 (st0 Pg 30 (shFQ56.args [.int m_0, .int m_1, .fls m_2]) []) { (finV Pg 30 0 c_) with nrm := κn_ } = (SQ76 m_0 m_1 m_2 (fun nr => (cond (nr != 0) (c_ (.tup [.agg [.flt (some 0), .flt (some 0), .flt (some 0), .flt (some 0)], .int .i64 nr]) []) (cond ((m_0 != 3) == false) (cond (m_1 != 3) (c_ (.tup [.agg [.flt (some 0), .flt (some 0), .flt (some 0), .flt (some 0)], .int .i64 3]) []) (SQ30 0 0 m_0 m_1 m_2 (fun xr => (SQ30 1 1 m_0 m_1 m_2 (fun xr_1 => (SQ30 2 2 m_0 m_1 m_2 (fun xr_2 => (SQ12 [(fadd (fadd xr xr_1) xr_2)] (fun cr => (cond (!cr) (c_ (.tup [.agg [.flt (some 0), .flt (some 0), .flt (some 0), .flt (some 0)], .int .i64 5]) []) (SQ30 2 1 m_0 m_1 m_2 (fun xr_3 => (SQ30 1 2 m_0 m_1 m_2 (fun xr_4 => (SQ30 0 2 m_0 m_1 m_2 (fun xr_5 => (SQ30 2 0 m_0 m_1 m_2 (fun xr_6 => (SQ30 1 0 m_0 m_1 m_2 (fun xr_7 => (SQ30 0 1 m_0 m_1 m_2 (fun xr_8 => (SQ30 0 1 m_0 m_1 m_2 (fun xr_9 => (SQ30 1 0 m_0 m_1 m_2 (fun xr_10 => (SQ30 0 2 m_0 m_1 m_2 (fun xr_11 => (SQ30 2 0 m_0 m_1 m_2 (fun xr_12 => (SQ30 1 2 m_0 m_1 m_2 (fun xr_13 => (SQ30 2 1 m_0 m_1 m_2 (fun xr_14 => (cond (feq (fmm true (fmm true (fmm true (fadd (fadd xr xr_1) xr_2) xr) xr_1) xr_2) (fadd (fadd xr xr_1) xr_2)) (κn_ (lsQ183 [.agg [.int .i64 m_0, .int .i64 m_1, .rof m_2], .ptr 0 0, .int .i64 0, .int .i64 nr, .fn 71 [.ptr 0 0], .flt xr, .flt xr_1, .flt xr_2, .flt (fadd (fadd xr xr_1) xr_2), .flt (fsub xr_3 xr_4), .flt (fsub xr_5 xr_6), .flt (fsub xr_7 xr_8), .flt (fadd xr_9 xr_10), .flt (fadd xr_11 xr_12), .flt (fadd xr_13 xr_14), .flt (fmm true (fmm true (fmm true (fadd (fadd xr xr_1) xr_2) xr) xr_1) xr_2), .any, .any, .agg [.int .i64 m_0, .int .i64 m_1, .rof m_2], .int .i64 nr, .int .i64 nr, .bool false, .any, .any, .ptr 0 0, .int .i64 m_0, .bool (m_0 != 3), .bool false, .ptr 0 1, .int .i64 m_1, .bool (m_1 != 3), .bool false, .any, .fn 71 [.ptr 0 0], .fn 71 [.ptr 0 0], .flt xr, .fn 71 [.ptr 0 0], .flt xr_1, .fn 71 [.ptr 0 0], .flt xr_2, .flt xr, .flt xr_1, .flt (fadd xr xr_1), .flt xr_2, .flt (fadd (fadd xr xr_1) xr_2), .flt (fadd (fadd xr xr_1) xr_2), .slw 2, .bool cr, .bool false, .any, .fn 71 [.ptr 0 0], .flt xr_3, .fn 71 [.ptr 0 0], .flt xr_4, .flt (fsub xr_3 xr_4), .fn 71 [.ptr 0 0], .flt xr_5, .fn 71 [.ptr 0 0], .flt xr_6, .flt (fsub xr_5 xr_6), .fn 71 [.ptr 0 0], .flt xr_7, .fn 71 [.ptr 0 0], .flt xr_8, .flt (fsub xr_7 xr_8), .fn 71 [.ptr 0 0], .flt xr_9, .fn 71 [.ptr 0 0], .flt xr_10, .flt (fadd xr_9 xr_10), .fn 71 [.ptr 0 0], .flt xr_11, .fn 71 [.ptr 0 0], .flt xr_12, .flt (fadd xr_11 xr_12), .fn 71 [.ptr 0 0], .flt xr_13, .fn 71 [.ptr 0 0], .flt xr_14, .flt (fadd xr_13 xr_14), .flt (fadd (fadd xr xr_1) xr_2), .flt xr, .flt xr_1, .flt xr_2, .flt (fmm true (fmm true (fmm true (fadd (fadd xr xr_1) xr_2) xr) xr_1) xr_2), .flt (fmm true (fmm true (fmm true (fadd (fadd xr xr_1) xr_2) xr) xr_1) xr_2), .any, .any, .any, .any, .any, .any, .any, .any, .any, .any, .bool true, .flt (fadd (fadd xr xr_1) xr_2), .bool (feq (fmm true (fmm true (fmm true (fadd (fadd xr xr_1) xr_2) xr) xr_1) xr_2) (fadd (fadd xr xr_1) xr_2)), .flt (fadd (fadd xr xr_1) xr_2), .flt (fadd (some 4607182418800017408) (fadd (fadd xr xr_1) xr_2)), .flt (fsub xr_3 xr_4), .flt (fsub xr_5 xr_6), .flt (fsub xr_7 xr_8), .agg [.flt (fadd (some 4607182418800017408) (fadd (fadd xr xr_1) xr_2)), .flt (fsub xr_3 xr_4), .flt (fsub xr_5 xr_6), .flt (fsub xr_7 xr_8)], .any, .any, .any, .any, .any, .any, .any, .any, .any, .any, .any, .any, .any, .any, .any, .any, .any, .any, .any, .any, .any, .any, .any, .any, .any, .any, .any, .any, .any, .any, .any, .any, .any, .any, .any, .any, .any, .any, .any] [some ⟨55, 1, .cells [.int .i64 m_0, .int .i64 m_1, .rof m_2]⟩, some ⟨28, 1, .flts [(fadd (fadd xr xr_1) xr_2)]⟩] m_0 m_1 m_2 (fadd (some 4607182418800017408) (fadd (fadd xr xr_1) xr_2)) (fsub xr_3 xr_4) (fsub xr_5 xr_6) (fsub xr_7 xr_8))) (cond (feq (fmm true (fmm true (fmm true (fadd (fadd xr xr_1) xr_2) xr) xr_1) xr_2) xr) (κn_ (lsQ183 [.agg [.int .i64 m_0, .int .i64 m_1, .rof m_2], .ptr 0 0, .int .i64 0, .int .i64 nr, .fn 71 [.ptr 0 0], .flt xr, .flt xr_1, .flt xr_2, .flt (fadd (fadd xr xr_1) xr_2), .flt (fsub xr_3 xr_4), .flt (fsub xr_5 xr_6), .flt (fsub xr_7 xr_8), .flt (fadd xr_9 xr_10), .flt (fadd xr_11 xr_12), .flt (fadd xr_13 xr_14), .flt (fmm true (fmm true (fmm true (fadd (fadd xr xr_1) xr_2) xr) xr_1) xr_2), .any, .any, .agg [.int .i64 m_0, .int .i64 m_1, .rof m_2], .int .i64 nr, .int .i64 nr, .bool false, .any, .any, .ptr 0 0, .int .i64 m_0, .bool (m_0 != 3), .bool false, .ptr 0 1, .int .i64 m_1, .bool (m_1 != 3), .bool false, .any, .fn 71 [.ptr 0 0], .fn 71 [.ptr 0 0], .flt xr, .fn 71 [.ptr 0 0], .flt xr_1, .fn 71 [.ptr 0 0], .flt xr_2, .flt xr, .flt xr_1, .flt (fadd xr xr_1), .flt xr_2, .flt (fadd (fadd xr xr_1) xr_2), .flt (fadd (fadd xr xr_1) xr_2), .slw 2, .bool cr, .bool false, .any, .fn 71 [.ptr 0 0], .flt xr_3, .fn 71 [.ptr 0 0], .flt xr_4, .flt (fsub xr_3 xr_4), .fn 71 [.ptr 0 0], .flt xr_5, .fn 71 [.ptr 0 0], .flt xr_6, .flt (fsub xr_5 xr_6), .fn 71 [.ptr 0 0], .flt xr_7, .fn 71 [.ptr 0 0], .flt xr_8, .flt (fsub xr_7 xr_8), .fn 71 [.ptr 0 0], .flt xr_9, .fn 71 [.ptr 0 0], .flt xr_10, .flt (fadd xr_9 xr_10), .fn 71 [.ptr 0 0], .flt xr_11, .fn 71 [.ptr 0 0], .flt xr_12, .flt (fadd xr_11 xr_12), .fn 71 [.ptr 0 0], .flt xr_13, .fn 71 [.ptr 0 0], .flt xr_14, .flt (fadd xr_13 xr_14), .flt (fadd (fadd xr xr_1) xr_2), .flt xr, .flt xr_1, .flt xr_2, .flt (fmm true (fmm true (fmm true (fadd (fadd xr xr_1) xr_2) xr) xr_1) xr_2), .flt (fmm true (fmm true (fmm true (fadd (fadd xr xr_1) xr_2) xr) xr_1) xr_2), .any, .any, .any, .any, .any, .any, .any, .any, .any, .any, .bool false, .flt (fadd (fadd xr xr_1) xr_2), .bool (feq (fmm true (fmm true (fmm true (fadd (fadd xr xr_1) xr_2) xr) xr_1) xr_2) (fadd (fadd xr xr_1) xr_2)), .any, .any, .any, .any, .any, .any, .bool true, .flt xr, .bool (feq (fmm true (fmm true (fmm true (fadd (fadd xr xr_1) xr_2) xr) xr_1) xr_2) xr), .flt (fsub xr_3 xr_4), .flt xr, .flt (fadd (some 4607182418800017408) xr), .flt xr_1, .flt (fsub (fadd (some 4607182418800017408) xr) xr_1), .flt xr_2, .flt (fsub (fsub (fadd (some 4607182418800017408) xr) xr_1) xr_2), .flt (fadd xr_9 xr_10), .flt (fadd xr_11 xr_12), .agg [.flt (fsub xr_3 xr_4), .flt (fsub (fsub (fadd (some 4607182418800017408) xr) xr_1) xr_2), .flt (fadd xr_9 xr_10), .flt (fadd xr_11 xr_12)], .any, .any, .any, .any, .any, .any, .any, .any, .any, .any, .any, .any, .any, .any, .any, .any, .any, .any, .any, .any, .any, .any, .any, .any, .any, .any] [some ⟨55, 1, .cells [.int .i64 m_0, .int .i64 m_1, .rof m_2]⟩, some ⟨28, 1, .flts [(fadd (fadd xr xr_1) xr_2)]⟩] m_0 m_1 m_2 (fsub xr_3 xr_4) (fsub (fsub (fadd (some 4607182418800017408) xr) xr_1) xr_2) (fadd xr_9 xr_10) (fadd xr_11 xr_12))) (cond (feq (fmm true (fmm true (fmm true (fadd (fadd xr xr_1) xr_2) xr) xr_1) xr_2) xr_1) (κn_ (lsQ183 [.agg [.int .i64 m_0, .int .i64 m_1, .rof m_2], .ptr 0 0, .int .i64 0, .int .i64 nr, .fn 71 [.ptr 0 0], .flt xr, .flt xr_1, .flt xr_2, .flt (fadd (fadd xr xr_1) xr_2), .flt (fsub xr_3 xr_4), .flt (fsub xr_5 xr_6), .flt (fsub xr_7 xr_8), .flt (fadd xr_9 xr_10), .flt (fadd xr_11 xr_12), .flt (fadd xr_13 xr_14), .flt (fmm true (fmm true (fmm true (fadd (fadd xr xr_1) xr_2) xr) xr_1) xr_2), .any, .any, .agg [.int .i64 m_0, .int .i64 m_1, .rof m_2], .int .i64 nr, .int .i64 nr, .bool false, .any, .any, .ptr 0 0, .int .i64 m_0, .bool (m_0 != 3), .bool false, .ptr 0 1, .int .i64 m_1, .bool (m_1 != 3), .bool false, .any, .fn 71 [.ptr 0 0], .fn 71 [.ptr 0 0], .flt xr, .fn 71 [.ptr 0 0], .flt xr_1, .fn 71 [.ptr 0 0], .flt xr_2, .flt xr, .flt xr_1, .flt (fadd xr xr_1), .flt xr_2, .flt (fadd (fadd xr xr_1) xr_2), .flt (fadd (fadd xr xr_1) xr_2), .slw 2, .bool cr, .bool false, .any, .fn 71 [.ptr 0 0], .flt xr_3, .fn 71 [.ptr 0 0], .flt xr_4, .flt (fsub xr_3 xr_4), .fn 71 [.ptr 0 0], .flt xr_5, .fn 71 [.ptr 0 0], .flt xr_6, .flt (fsub xr_5 xr_6), .fn 71 [.ptr 0 0], .flt xr_7, .fn 71 [.ptr 0 0], .flt xr_8, .flt (fsub xr_7 xr_8), .fn 71 [.ptr 0 0], .flt xr_9, .fn 71 [.ptr 0 0], .flt xr_10, .flt (fadd xr_9 xr_10), .fn 71 [.ptr 0 0], .flt xr_11, .fn 71 [.ptr 0 0], .flt xr_12, .flt (fadd xr_11 xr_12), .fn 71 [.ptr 0 0], .flt xr_13, .fn 71 [.ptr 0 0], .flt xr_14, .flt (fadd xr_13 xr_14), .flt (fadd (fadd xr xr_1) xr_2), .flt xr, .flt xr_1, .flt xr_2, .flt (fmm true (fmm true (fmm true (fadd (fadd xr xr_1) xr_2) xr) xr_1) xr_2), .flt (fmm true (fmm true (fmm true (fadd (fadd xr xr_1) xr_2) xr) xr_1) xr_2), .any, .any, .any, .any, .any, .any, .any, .any, .any, .any, .bool false, .flt (fadd (fadd xr xr_1) xr_2), .bool (feq (fmm true (fmm true (fmm true (fadd (fadd xr xr_1) xr_2) xr) xr_1) xr_2) (fadd (fadd xr xr_1) xr_2)), .any, .any, .any, .any, .any, .any, .bool false, .flt xr, .bool (feq (fmm true (fmm true (fmm true (fadd (fadd xr xr_1) xr_2) xr) xr_1) xr_2) xr), .any, .any, .any, .any, .any, .any, .any, .any, .any, .any, .bool true, .flt xr_1, .bool (feq (fmm true (fmm true (fmm true (fadd (fadd xr xr_1) xr_2) xr) xr_1) xr_2) xr_1), .flt (fsub xr_5 xr_6), .flt (fadd xr_9 xr_10), .flt xr, .flt (fsub (some 4607182418800017408) xr), .flt xr_1, .flt (fadd (fsub (some 4607182418800017408) xr) xr_1), .flt xr_2, .flt (fsub (fadd (fsub (some 4607182418800017408) xr) xr_1) xr_2), .flt (fadd xr_13 xr_14), .agg [.flt (fsub xr_5 xr_6), .flt (fadd xr_9 xr_10), .flt (fsub (fadd (fsub (some 4607182418800017408) xr) xr_1) xr_2), .flt (fadd xr_13 xr_14)], .any, .any, .any, .any, .any, .any, .any, .any, .any, .any, .any, .any, .any] [some ⟨55, 1, .cells [.int .i64 m_0, .int .i64 m_1, .rof m_2]⟩, some ⟨28, 1, .flts [(fadd (fadd xr xr_1) xr_2)]⟩] m_0 m_1 m_2 (fsub xr_5 xr_6) (fadd xr_9 xr_10) (fsub (fadd (fsub (some 4607182418800017408) xr) xr_1) xr_2) (fadd xr_13 xr_14))) (κn_ (lsQ183 [.agg [.int .i64 m_0, .int .i64 m_1, .rof m_2], .ptr 0 0, .int .i64 0, .int .i64 nr, .fn 71 [.ptr 0 0], .flt xr, .flt xr_1, .flt xr_2, .flt (fadd (fadd xr xr_1) xr_2), .flt (fsub xr_3 xr_4), .flt (fsub xr_5 xr_6), .flt (fsub xr_7 xr_8), .flt (fadd xr_9 xr_10), .flt (fadd xr_11 xr_12), .flt (fadd xr_13 xr_14), .flt (fmm true (fmm true (fmm true (fadd (fadd xr xr_1) xr_2) xr) xr_1) xr_2), .any, .any, .agg [.int .i64 m_0, .int .i64 m_1, .rof m_2], .int .i64 nr, .int .i64 nr, .bool false, .any, .any, .ptr 0 0, .int .i64 m_0, .bool (m_0 != 3), .bool false, .ptr 0 1, .int .i64 m_1, .bool (m_1 != 3), .bool false, .any, .fn 71 [.ptr 0 0], .fn 71 [.ptr 0 0], .flt xr, .fn 71 [.ptr 0 0], .flt xr_1, .fn 71 [.ptr 0 0], .flt xr_2, .flt xr, .flt xr_1, .flt (fadd xr xr_1), .flt xr_2, .flt (fadd (fadd xr xr_1) xr_2), .flt (fadd (fadd xr xr_1) xr_2), .slw 2, .bool cr, .bool false, .any, .fn 71 [.ptr 0 0], .flt xr_3, .fn 71 [.ptr 0 0], .flt xr_4, .flt (fsub xr_3 xr_4), .fn 71 [.ptr 0 0], .flt xr_5, .fn 71 [.ptr 0 0], .flt xr_6, .flt (fsub xr_5 xr_6), .fn 71 [.ptr 0 0], .flt xr_7, .fn 71 [.ptr 0 0], .flt xr_8, .flt (fsub xr_7 xr_8), .fn 71 [.ptr 0 0], .flt xr_9, .fn 71 [.ptr 0 0], .flt xr_10, .flt (fadd xr_9 xr_10), .fn 71 [.ptr 0 0], .flt xr_11, .fn 71 [.ptr 0 0], .flt xr_12, .flt (fadd xr_11 xr_12), .fn 71 [.ptr 0 0], .flt xr_13, .fn 71 [.ptr 0 0], .flt xr_14, .flt (fadd xr_13 xr_14), .flt (fadd (fadd xr xr_1) xr_2), .flt xr, .flt xr_1, .flt xr_2, .flt (fmm true (fmm true (fmm true (fadd (fadd xr xr_1) xr_2) xr) xr_1) xr_2), .flt (fmm true (fmm true (fmm true (fadd (fadd xr xr_1) xr_2) xr) xr_1) xr_2), .flt (fsub xr_7 xr_8), .flt (fadd xr_11 xr_12), .flt (fadd xr_13 xr_14), .flt xr, .flt (fsub (some 4607182418800017408) xr), .flt xr_1, .flt (fsub (fsub (some 4607182418800017408) xr) xr_1), .flt xr_2, .flt (fadd (fsub (fsub (some 4607182418800017408) xr) xr_1) xr_2), .agg [.flt (fsub xr_7 xr_8), .flt (fadd xr_11 xr_12), .flt (fadd xr_13 xr_14), .flt (fadd (fsub (fsub (some 4607182418800017408) xr) xr_1) xr_2)], .bool false, .flt (fadd (fadd xr xr_1) xr_2), .bool (feq (fmm true (fmm true (fmm true (fadd (fadd xr xr_1) xr_2) xr) xr_1) xr_2) (fadd (fadd xr xr_1) xr_2)), .any, .any, .any, .any, .any, .any, .bool false, .flt xr, .bool (feq (fmm true (fmm true (fmm true (fadd (fadd xr xr_1) xr_2) xr) xr_1) xr_2) xr), .any, .any, .any, .any, .any, .any, .any, .any, .any, .any, .bool false, .flt xr_1, .bool (feq (fmm true (fmm true (fmm true (fadd (fadd xr xr_1) xr_2) xr) xr_1) xr_2) xr_1), .any, .any, .any, .any, .any, .any, .any, .any, .any, .any, .any, .any, .any, .any, .any, .any, .any, .any, .any, .any, .any, .any, .any] [some ⟨55, 1, .cells [.int .i64 m_0, .int .i64 m_1, .rof m_2]⟩, some ⟨28, 1, .flts [(fadd (fadd xr xr_1) xr_2)]⟩] m_0 m_1 m_2 (fsub xr_7 xr_8) (fadd xr_11 xr_12) (fadd xr_13 xr_14) (fadd (fsub (fsub (some 4607182418800017408) xr) xr_1) xr_2)))))))))))))))))))))))))))))))))))))))) (c_ (.tup [.agg [.flt (some 0), .flt (some 0), .flt (some 0), .flt (some 0)], .int .i64 3]) []))))) := by kernel_rfl
theorem jn_quat_From_w (N : Nat) (SQ76 : TSQ76) (SQ30 : TSQ30) (SQ12 : TSQ12) (SQ72 : TSQ72) (SQ13 : TSQ13) (m_0 m_1 : Int) (m_2 : List Fl) (c_ : V -> List Blk -> Bool) : codesV ⟨Pg, ofList [(70, (FQ76 SQ76)), (71, (FQ30 SQ30)), (48, (FQ12 SQ12)), (72, (FQ72 SQ72)), (35, (FQ13 SQ13))], isref, N⟩ 0 (anQ56 N SQ76 SQ30 SQ12 SQ72 SQ13) ((cds Pg 30).drop 0) 0 (st0 Pg 30 (shFQ56.args [.int m_0, .int m_1, .fls m_2]) []) (finV Pg 30 0 c_) = GQ56 N SQ76 SQ30 SQ12 SQ72 SQ13 m_0 m_1 m_2 (fun r0 r1 r2 r3 r4 => c_ (.tup [.agg [.flt r0, .flt r1, .flt r2, .flt r3], .int .i64 r4]) []) := by
  rw [codesV_cut 0 17 17 rfl]
  refine (hd_quat_From_w N SQ76 SQ30 SQ12 SQ72 SQ13 m_0 m_1 m_2 c_ _).trans ?_
  simp only [jnQ183]
  kernel_rfl
theorem eqQ56 (N : Nat) (SQ76 : TSQ76) (SQ30 : TSQ30) (SQ12 : TSQ12) (SQ72 : TSQ72) (SQ13 : TSQ13) (m_0 m_1 : Int) (m_2 : List Fl) (c_ : V -> List Blk -> Bool) : bodyV ⟨Pg, ofList [(70, (FQ76 SQ76)), (71, (FQ30 SQ30)), (48, (FQ12 SQ12)), (72, (FQ72 SQ72)), (35, (FQ13 SQ13))], isref, N⟩ (anQ56 N SQ76 SQ30 SQ12 SQ72 SQ13) 30 (shFQ56.args [.int m_0, .int m_1, .fls m_2]) [] c_ = GQ56 N SQ76 SQ30 SQ12 SQ72 SQ13 m_0 m_1 m_2 (fun r0 r1 r2 r3 r4 => c_ (.tup [.agg [.flt r0, .flt r1, .flt r2, .flt r3], .int .i64 r4]) []) :=
  (bodyV_codes (by kernel_rfl)).trans (jn_quat_From_w N SQ76 SQ30 SQ12 SQ72 SQ13 m_0 m_1 m_2 c_)
theorem goodQ56 (N : Nat) (SQ76 : TSQ76) (SQ30 : TSQ30) (SQ12 : TSQ12) (SQ72 : TSQ72) (SQ13 : TSQ13) (hQ76 : GoodF Pg 70 (FQ76 SQ76)) (hQ30 : GoodF Pg 71 (FQ30 SQ30)) (hQ12 : GoodF Pg 48 (FQ12 SQ12)) (hQ72 : GoodF Pg 72 (FQ72 SQ72)) (hQ13 : GoodF Pg 35 (FQ13 SQ13)) : GoodF Pg 30 (FQ56 (GQ56 N SQ76 SQ30 SQ12 SQ72 SQ13)) := by
  refine good_fs (cx := ⟨Pg, ofList [(70, (FQ76 SQ76)), (71, (FQ30 SQ30)), (48, (FQ12 SQ12)), (72, (FQ72 SQ72)), (35, (FQ13 SQ13))], isref, N⟩) (ofList_cons hQ76 (ofList_cons hQ30 (ofList_cons hQ12 (ofList_cons hQ72 (ofList_cons hQ13 (ofList_nil _)))))) shFQ56 (spQ56 (GQ56 N SQ76 SQ30 SQ12 SQ72 SQ13)) (anQ56 N SQ76 SQ30 SQ12 SQ72 SQ13) 0 0 (by kernel_rfl) (fun i_ hi_ => by omega) ?_
  intro a k h
  unfold spQ56 at h
  split at h
  · exact ⟨[], rfl, rfl, (eqQ56 _ _ _ _ _ _ _ _ _ _).trans h⟩
  · cases h

def anQ7 (N : Nat) (SQ11 : TSQ11) : Nat -> Option Ann := fun b_ => none
theorem eqQ7 (N : Nat) (SQ11 : TSQ11) (v_0 v_1 v_2 : Int) (c_ : V -> List Blk -> Bool) : bodyV ⟨Pg, ofList [(39, (FQ11 SQ11))], isref, N⟩ (anQ7 N SQ11) 10 (shFQ7.args [.int v_0, .int v_1, .int v_2]) [] c_ = GQ7 N SQ11 v_0 v_1 v_2 (fun r0 r1 r2 => c_ (.agg [.flt r0, .flt r1, .flt r2]) []) := by kernel_rfl
theorem goodQ7 (N : Nat) (SQ11 : TSQ11) (hQ11 : GoodF Pg 39 (FQ11 SQ11)) : GoodF Pg 10 (FQ7 (GQ7 N SQ11)) := by
  refine good_fs (cx := ⟨Pg, ofList [(39, (FQ11 SQ11))], isref, N⟩) (ofList_cons hQ11 (ofList_nil _)) shFQ7 (spQ7 (GQ7 N SQ11)) (anQ7 N SQ11) 0 0 (by kernel_rfl) (fun i_ hi_ => by omega) ?_
  intro a k h
  unfold spQ7 at h
  split at h
  · exact ⟨[], rfl, rfl, (eqQ7 _ _ _ _ _ _).trans h⟩
  · cases h

def anQ42 (N : Nat) (SQ13 : TSQ13) : Nat -> Option Ann := fun b_ => none
theorem eqQ42 (N : Nat) (SQ13 : TSQ13) (v_0 v_1 v_2 : Fl) (c_ : V -> List Blk -> Bool) : bodyV ⟨Pg, ofList [(35, (FQ13 SQ13))], isref, N⟩ (anQ42 N SQ13) 32 (shFQ42.args [.fl v_0, .fl v_1, .fl v_2]) [] c_ = GQ42 N SQ13 v_0 v_1 v_2 (fun r0 r1 r2 r3 r4 => c_ (.tup [.agg [.flt r0, .flt r1, .flt r2, .flt r3], .int .i64 r4]) []) := by kernel_rfl
theorem goodQ42 (N : Nat) (SQ13 : TSQ13) (hQ13 : GoodF Pg 35 (FQ13 SQ13)) : GoodF Pg 32 (FQ42 (GQ42 N SQ13)) := by
  refine good_fs (cx := ⟨Pg, ofList [(35, (FQ13 SQ13))], isref, N⟩) (ofList_cons hQ13 (ofList_nil _)) shFQ42 (spQ42 (GQ42 N SQ13)) (anQ42 N SQ13) 0 0 (by kernel_rfl) (fun i_ hi_ => by omega) ?_
  intro a k h
  unfold spQ42 at h
  split at h
  · exact ⟨[], rfl, rfl, (eqQ42 _ _ _ _ _ _).trans h⟩
  · cases h

def anQ170 (N : Nat) (SQ69 : TSQ69) : Nat -> Option Ann := fun b_ => none
theorem eqQ170 (N : Nat) (SQ69 : TSQ69) (x : List Fl) (c_ : V -> List Blk -> Bool) : bodyV ⟨Pg, ofList [(84, (FQ69 SQ69))], isref, N⟩ (anQ170 N SQ69) 119 (shFQ170.args [.fls x]) [] c_ = GQ170 N SQ69 x (fun r0 => c_ (.int .i64 r0) []) := by kernel_rfl
theorem goodQ170 (N : Nat) (SQ69 : TSQ69) (hQ69 : GoodF Pg 84 (FQ69 SQ69)) : GoodF Pg 119 (FQ170 (GQ170 N SQ69)) := by
  refine good_fs (cx := ⟨Pg, ofList [(84, (FQ69 SQ69))], isref, N⟩) (ofList_cons hQ69 (ofList_nil _)) shFQ170 (spQ170 (GQ170 N SQ69)) (anQ170 N SQ69) 0 0 (by kernel_rfl) (fun i_ hi_ => by omega) ?_
  intro a k h
  unfold spQ170 at h
  split at h
  · exact ⟨[], rfl, rfl, (eqQ170 _ _ _ _).trans h⟩
  · cases h

def sh_st_qr_power_0 : StSh := ⟨(.rof :: (.any :: (.any :: (.any :: (.flt :: (sqs 4 (.int .i64 :: (.int .i64 :: (sqs 19 []))))))))), []⟩
def sx0_st_qr_power_0 : StSh := ⟨(sqs 4 (.flt :: (sqs 25 []))), []⟩
def hk_st_qr_power_0 (N : Nat) (S_m_Abs : TS_m_Abs) (SQ120 : TSQ120) : List Atom -> K -> Bool := fun a_ κ => match a_ with
  | [.fls x_1, .fl most, .int t9, .int t10] => iterG N (st_qr_power_0 N S_m_Abs SQ120 x_1 t9 (fun r0 => κ.ext 0 (sx0_st_qr_power_0.build [.fl r0]))) (most, t10)
  | _ => false
def anQ148 (N : Nat) (S_m_Abs : TS_m_Abs) (SQ120 : TSQ120) : Nat -> Option Ann := fun b_ => cond (b_ == 0) (some ⟨⟨[0, 4, 9, 10], [], []⟩, [(0, ⟨[4], [], []⟩)], some ⟨[2, 3], [], []⟩, some (mkHooks [(sh_st_qr_power_0, hk_st_qr_power_0 N S_m_Abs SQ120)])⟩) (none)
theorem eq_st_qr_power_0 (N : Nat) (S_m_Abs : TS_m_Abs) (SQ120 : TSQ120) (κ : K) (x_1 : List Fl) (most : Fl) (t9 t10 : Int) : iter N (fun s k => codeV ⟨Pg, ofList [(47, (F_m_Abs S_m_Abs)), (75, (FQ120 SQ120))], isref, N⟩ 0 (anQ148 N S_m_Abs SQ120) (lp Pg 152 0).2 (lp Pg 152 0).1 s (roundK Pg 0 ((anQ148 N S_m_Abs SQ120) (lp Pg 152 0).1) κ k)) (sh_st_qr_power_0.build [.fls x_1, .fl most, .int t9, .int t10]) = iterG N (st_qr_power_0 N S_m_Abs SQ120 x_1 t9 (fun r0 => κ.ext 0 (sx0_st_qr_power_0.build [.fl r0]))) (most, t10) :=
  iter_tr (fun (v_ : Fl × Int) => sh_st_qr_power_0.build [.fls x_1, .fl v_.1, .int t9, .int v_.2]) (fun v_ K_ => by obtain ⟨most, t10⟩ := v_; kernel_rfl) N (most, t10)
theorem hk1_st_qr_power_0 (N : Nat) (S_m_Abs : TS_m_Abs) (SQ120 : TSQ120) : HookFor ⟨Pg, ofList [(47, (F_m_Abs S_m_Abs)), (75, (FQ120 SQ120))], isref, N⟩ 0 (anQ148 N S_m_Abs SQ120) (lp Pg 152 0) (sh_st_qr_power_0, hk_st_qr_power_0 N S_m_Abs SQ120) := by
  intro a κ h
  simp only at h
  unfold hk_st_qr_power_0 at h
  split at h
  · exact (eq_st_qr_power_0 _ _ _ _ _ _ _ _).trans h
  · cases h
theorem ho_qr_power_0 (N : Nat) (S_m_Abs : TS_m_Abs) (SQ120 : TSQ120) : HookOk ⟨Pg, ofList [(47, (F_m_Abs S_m_Abs)), (75, (FQ120 SQ120))], isref, N⟩ 0 (anQ148 N S_m_Abs SQ120) (lp Pg 152 0) :=
  hooks_ok [(sh_st_qr_power_0, hk_st_qr_power_0 N S_m_Abs SQ120)] (by kernel_rfl) ⟨hk1_st_qr_power_0 _ _ _, trivial⟩
theorem eqQ148 (N : Nat) (S_m_Abs : TS_m_Abs) (SQ120 : TSQ120) (x : List Fl) (c_ : V -> List Blk -> Bool) : bodyV ⟨Pg, ofList [(47, (F_m_Abs S_m_Abs)), (75, (FQ120 SQ120))], isref, N⟩ (anQ148 N S_m_Abs SQ120) 152 (shFQ148.args [.fls x]) [] c_ = GQ148 N S_m_Abs SQ120 x (fun r0 r1 => c_ (.tup [.int .i64 r0, .bool r1]) []) := by kernel_rfl
theorem goodQ148 (N : Nat) (S_m_Abs : TS_m_Abs) (SQ120 : TSQ120) (h_m_Abs : GoodF Pg 47 (F_m_Abs S_m_Abs)) (hQ120 : GoodF Pg 75 (FQ120 SQ120)) : GoodF Pg 152 (FQ148 (GQ148 N S_m_Abs SQ120)) := by
  refine good_fs (cx := ⟨Pg, ofList [(47, (F_m_Abs S_m_Abs)), (75, (FQ120 SQ120))], isref, N⟩) (ofList_cons h_m_Abs (ofList_cons hQ120 (ofList_nil _))) shFQ148 (spQ148 (GQ148 N S_m_Abs SQ120)) (anQ148 N S_m_Abs SQ120) 1 0 (by kernel_rfl) (fun i_ hi_ => by
    match i_, hi_ with
    | 0, _ => exact ho_qr_power_0 _ _ _
    | (q + 1), h => omega) ?_
  intro a k h
  unfold spQ148 at h
  split at h
  · exact ⟨[], rfl, rfl, (eqQ148 _ _ _ _ _).trans h⟩
  · cases h

def sh_st_qr_scaled_0 : StSh := ⟨(.rof :: (.int .i64 :: (sqs 4 (.slw 0 :: (.flt :: (sqs 5 (.int .i64 :: (.int .i64 :: (sqs 27 []))))))))), [some (28, 1, .flts)]⟩
def sx0_st_qr_scaled_0 : StSh := ⟨(sqs 6 (.slw 0 :: (.flt :: (sqs 34 [])))), [some (28, 1, .flts)]⟩
def hk_st_qr_scaled_0 (N : Nat) (SQ101 : TSQ101) (SQ149 : TSQ149) : List Atom -> K -> Bool := fun a_ κ => match a_ with
  | [.fls x_1, .int k__1, .fl s, .int t13, .int t14, .fls y] => iterG N (st_qr_scaled_0 N SQ101 SQ149 x_1 k__1 t13 (fun r0 r1 => κ.ext 0 (sx0_st_qr_scaled_0.build [.fl r0, .fls r1]))) (s, t14, y)
  | _ => false
def anQ133 (N : Nat) (SQ101 : TSQ101) (SQ149 : TSQ149) : Nat -> Option Ann := fun b_ => cond (b_ == 0) (some ⟨⟨[0, 1, 6, 7, 13, 14], [], []⟩, [(0, ⟨[6, 7], [], []⟩)], some ⟨[4, 5], [], []⟩, some (mkHooks [(sh_st_qr_scaled_0, hk_st_qr_scaled_0 N SQ101 SQ149)])⟩) (none)
theorem eq_st_qr_scaled_0 (N : Nat) (SQ101 : TSQ101) (SQ149 : TSQ149) (κ : K) (x_1 : List Fl) (k__1 : Int) (s : Fl) (t13 t14 : Int) (y : List Fl) : iter N (fun s k => codeV ⟨Pg, ofList [(26, (FQ101 SQ101)), (76, (FQ149 SQ149))], isref, N⟩ 0 (anQ133 N SQ101 SQ149) (lp Pg 153 0).2 (lp Pg 153 0).1 s (roundK Pg 0 ((anQ133 N SQ101 SQ149) (lp Pg 153 0).1) κ k)) (sh_st_qr_scaled_0.build [.fls x_1, .int k__1, .fl s, .int t13, .int t14, .fls y]) = iterG N (st_qr_scaled_0 N SQ101 SQ149 x_1 k__1 t13 (fun r0 r1 => κ.ext 0 (sx0_st_qr_scaled_0.build [.fl r0, .fls r1]))) (s, t14, y) :=
  iter_tr (fun (v_ : Fl × Int × List Fl) => sh_st_qr_scaled_0.build [.fls x_1, .int k__1, .fl v_.1, .int t13, .int v_.2.1, .fls v_.2.2]) (fun v_ K_ => by obtain ⟨s, t14, y⟩ := v_; kernel_rfl) N (s, t14, y)
theorem hk1_st_qr_scaled_0 (N : Nat) (SQ101 : TSQ101) (SQ149 : TSQ149) : HookFor ⟨Pg, ofList [(26, (FQ101 SQ101)), (76, (FQ149 SQ149))], isref, N⟩ 0 (anQ133 N SQ101 SQ149) (lp Pg 153 0) (sh_st_qr_scaled_0, hk_st_qr_scaled_0 N SQ101 SQ149) := by
  intro a κ h
  simp only at h
  unfold hk_st_qr_scaled_0 at h
  split at h
  · exact (eq_st_qr_scaled_0 _ _ _ _ _ _ _ _ _ _).trans h
  · cases h
theorem ho_qr_scaled_0 (N : Nat) (SQ101 : TSQ101) (SQ149 : TSQ149) : HookOk ⟨Pg, ofList [(26, (FQ101 SQ101)), (76, (FQ149 SQ149))], isref, N⟩ 0 (anQ133 N SQ101 SQ149) (lp Pg 153 0) :=
  hooks_ok [(sh_st_qr_scaled_0, hk_st_qr_scaled_0 N SQ101 SQ149)] (by kernel_rfl) ⟨hk1_st_qr_scaled_0 _ _ _, trivial⟩
theorem eqQ133 (N : Nat) (SQ101 : TSQ101) (SQ149 : TSQ149) (x : List Fl) (k_ : Int) (c_ : V -> List Blk -> Bool) : bodyV ⟨Pg, ofList [(26, (FQ101 SQ101)), (76, (FQ149 SQ149))], isref, N⟩ (anQ133 N SQ101 SQ149) 153 (shFQ133.args [.fls x, .int k_]) [] c_ = GQ133 N SQ101 SQ149 x k_ (fun r0 r1 => c_ (.tup [.slw 0, .flt r0]) [⟨28, 1, .flts r1⟩]) := by kernel_rfl
theorem goodQ133 (N : Nat) (SQ101 : TSQ101) (SQ149 : TSQ149) (hQ101 : GoodF Pg 26 (FQ101 SQ101)) (hQ149 : GoodF Pg 76 (FQ149 SQ149)) : GoodF Pg 153 (FQ133 (GQ133 N SQ101 SQ149)) := by
  refine good_fs (cx := ⟨Pg, ofList [(26, (FQ101 SQ101)), (76, (FQ149 SQ149))], isref, N⟩) (ofList_cons hQ101 (ofList_cons hQ149 (ofList_nil _))) shFQ133 (spQ133 (GQ133 N SQ101 SQ149)) (anQ133 N SQ101 SQ149) 1 0 (by kernel_rfl) (fun i_ hi_ => by
    match i_, hi_ with
    | 0, _ => exact ho_qr_scaled_0 _ _ _
    | (q + 1), h => omega) ?_
  intro a k h
  unfold spQ133 at h
  split at h
  · exact ⟨[], rfl, rfl, (eqQ133 _ _ _ _ _ _).trans h⟩
  · cases h

def anQ137 (N : Nat) (SQ148 : TSQ148) (SQ133 : TSQ133) (SQ101 : TSQ101) : Nat -> Option Ann := fun b_ => none
theorem eqQ137 (N : Nat) (SQ148 : TSQ148) (SQ133 : TSQ133) (SQ101 : TSQ101) (x : List Fl) (c_ : V -> List Blk -> Bool) : bodyV ⟨Pg, ofList [(152, (FQ148 SQ148)), (153, (FQ133 SQ133)), (26, (FQ101 SQ101))], isref, N⟩ (anQ137 N SQ148 SQ133 SQ101) 120 (shFQ137.args [.fls x]) [] c_ = GQ137 N SQ148 SQ133 SQ101 x (fun r0 => c_ (.flt r0) []) := by kernel_rfl
theorem goodQ137 (N : Nat) (SQ148 : TSQ148) (SQ133 : TSQ133) (SQ101 : TSQ101) (hQ148 : GoodF Pg 152 (FQ148 SQ148)) (hQ133 : GoodF Pg 153 (FQ133 SQ133)) (hQ101 : GoodF Pg 26 (FQ101 SQ101)) : GoodF Pg 120 (FQ137 (GQ137 N SQ148 SQ133 SQ101)) := by
  refine good_fs (cx := ⟨Pg, ofList [(152, (FQ148 SQ148)), (153, (FQ133 SQ133)), (26, (FQ101 SQ101))], isref, N⟩) (ofList_cons hQ148 (ofList_cons hQ133 (ofList_cons hQ101 (ofList_nil _)))) shFQ137 (spQ137 (GQ137 N SQ148 SQ133 SQ101)) (anQ137 N SQ148 SQ133 SQ101) 0 0 (by kernel_rfl) (fun i_ hi_ => by omega) ?_
  intro a k h
  unfold spQ137 at h
  split at h
  · exact ⟨[], rfl, rfl, (eqQ137 _ _ _ _ _ _).trans h⟩
  · cases h

def anQ141 (N : Nat) : Nat -> Option Ann := fun b_ => none
theorem eqQ141 (N : Nat) (x : Fl) (c_ : V -> List Blk -> Bool) : bodyV ⟨Pg, ofList [], isref, N⟩ (anQ141 N) 121 (shFQ141.args [.fl x]) [] c_ = GQ141 N x (fun r0 => c_ (.bool r0) []) := by kernel_rfl
theorem goodQ141 (N : Nat) : GoodF Pg 121 (FQ141 (GQ141 N)) := by
  refine good_fs (cx := ⟨Pg, ofList [], isref, N⟩) (ofList_nil _) shFQ141 (spQ141 (GQ141 N)) (anQ141 N) 0 0 (by kernel_rfl) (fun i_ hi_ => by omega) ?_
  intro a k h
  unfold spQ141 at h
  split at h
  · exact ⟨[], rfl, rfl, (eqQ141 _ _ _).trans h⟩
  · cases h

def anQ136 (N : Nat) (SQ170 : TSQ170) (SQ137 : TSQ137) (SQ141 : TSQ141) : Nat -> Option Ann := fun b_ => none
theorem eqQ136 (N : Nat) (SQ170 : TSQ170) (SQ137 : TSQ137) (SQ141 : TSQ141) (x : List Fl) (c_ : V -> List Blk -> Bool) : bodyV ⟨Pg, ofList [(119, (FQ170 SQ170)), (120, (FQ137 SQ137)), (121, (FQ141 SQ141))], isref, N⟩ (anQ136 N SQ170 SQ137 SQ141) 73 (shFQ136.args [.fls x]) [] c_ = GQ136 N SQ170 SQ137 SQ141 x (fun r0 r1 => c_ (.tup [.flt r0, .int .i64 r1]) []) := by kernel_rfl
theorem goodQ136 (N : Nat) (SQ170 : TSQ170) (SQ137 : TSQ137) (SQ141 : TSQ141) (hQ170 : GoodF Pg 119 (FQ170 SQ170)) (hQ137 : GoodF Pg 120 (FQ137 SQ137)) (hQ141 : GoodF Pg 121 (FQ141 SQ141)) : GoodF Pg 73 (FQ136 (GQ136 N SQ170 SQ137 SQ141)) := by
  refine good_fs (cx := ⟨Pg, ofList [(119, (FQ170 SQ170)), (120, (FQ137 SQ137)), (121, (FQ141 SQ141))], isref, N⟩) (ofList_cons hQ170 (ofList_cons hQ137 (ofList_cons hQ141 (ofList_nil _)))) shFQ136 (spQ136 (GQ136 N SQ170 SQ137 SQ141)) (anQ136 N SQ170 SQ137 SQ141) 0 0 (by kernel_rfl) (fun i_ hi_ => by omega) ?_
  intro a k h
  unfold spQ136 at h
  split at h
  · exact ⟨[], rfl, rfl, (eqQ136 _ _ _ _ _ _).trans h⟩
  · cases h

def anQ73 (N : Nat) (SQ136 : TSQ136) : Nat -> Option Ann := fun b_ => none
theorem eqQ73 (N : Nat) (SQ136 : TSQ136) (v_0 v_1 v_2 : Fl) (c_ : V -> List Blk -> Bool) : bodyV ⟨Pg, ofList [(73, (FQ136 SQ136))], isref, N⟩ (anQ73 N SQ136) 65 (shFQ73.args [.fl v_0, .fl v_1, .fl v_2]) [] c_ = GQ73 N SQ136 v_0 v_1 v_2 (fun r0 r1 r2 r3 => c_ (.tup [.agg [.flt r0, .flt r1, .flt r2], .int .i64 r3]) []) := by kernel_rfl
theorem goodQ73 (N : Nat) (SQ136 : TSQ136) (hQ136 : GoodF Pg 73 (FQ136 SQ136)) : GoodF Pg 65 (FQ73 (GQ73 N SQ136)) := by
  refine good_fs (cx := ⟨Pg, ofList [(73, (FQ136 SQ136))], isref, N⟩) (ofList_cons hQ136 (ofList_nil _)) shFQ73 (spQ73 (GQ73 N SQ136)) (anQ73 N SQ136) 0 0 (by kernel_rfl) (fun i_ hi_ => by omega) ?_
  intro a k h
  unfold spQ73 at h
  split at h
  · exact ⟨[], rfl, rfl, (eqQ73 _ _ _ _ _ _).trans h⟩
  · cases h

end Go.Proofs.YtnfgnjciliapaaaGreatDoor
