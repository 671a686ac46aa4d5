/-
  THE TIES: each printed meaning is what the program does (written by program).
  Conditions: none.
-/
import Derived.Test.YtjpaijnmiaoopaaGreatDoorGp
namespace Go.Proofs.YtjpaijnmiaoopaaGreatDoor
open Go Go.Mach Go.Proofs
set_option linter.unusedVariables false
set_option maxRecDepth 50000
def an_an_of (N : Nat) : Nat -> Option Ann := fun b_ => none
theorem eq_an_of (N : Nat) (c_ : V -> List Blk -> Bool) : bodyV ⟨Pg, ofList [], isref, N⟩ (an_an_of N) 175 (shF_an_of.args []) [] c_ = G_an_of N (fun r0 r1 r2 => c_ (.agg [.int .u64 r0, .int .i64 r1, .int .i64 r2]) []) := by kernel_rfl
theorem good_an_of (N : Nat) : GoodF Pg 175 (F_an_of (G_an_of N)) := by
 refine good_fs (cx := ⟨Pg, ofList [], isref, N⟩) (os_zero (ofList_nil _) (by kernel_rfl)) shF_an_of (sp_an_of (G_an_of N)) (an_an_of N) 0 0 (by kernel_rfl) (fun i_ hi_ => by omega) ?_
 intro a k h
 unfold sp_an_of at h
 split at h
 ·exact ⟨[], rfl, rfl, (eq_an_of _ _).trans h⟩
 ·cases h
def anQ75 (N : Nat) : Nat -> Option Ann := fun b_ => none
theorem eqQ75 (N : Nat) (f_0 f_1 f_2 : Int) (c_ : V -> List Blk -> Bool) : bodyV ⟨Pg, ofList [], isref, N⟩ (anQ75 N) 214 (shFQ75.args [.int f_0, .int f_1, .int f_2]) [] c_ = GQ75 N f_0 f_1 f_2 (fun r0 => c_ (.int .u64 r0) []) := by kernel_rfl
theorem goodQ75 (N : Nat) : GoodF Pg 214 (FQ75 (GQ75 N)) := by
 refine good_fs (cx := ⟨Pg, ofList [], isref, N⟩) (os_zero (ofList_nil _) (by kernel_rfl)) shFQ75 (spQ75 (GQ75 N)) (anQ75 N) 0 0 (by kernel_rfl) (fun i_ hi_ => by omega) ?_
 intro a k h
 unfold spQ75 at h
 split at h
 ·exact ⟨[], rfl, rfl, (eqQ75 _ _ _ _ _).trans h⟩
 ·cases h
def anQ42 (N : Nat) : Nat -> Option Ann := fun b_ => none
theorem eqQ42 (N : Nat) (f_0 f_1 f_2 : Int) (c_ : V -> List Blk -> Bool) : bodyV ⟨Pg, ofList [], isref, N⟩ (anQ42 N) 216 (shFQ42.args [.int f_0, .int f_1, .int f_2]) [] c_ = GQ42 N f_0 f_1 f_2 (fun r0 => c_ (.int .u64 r0) []) := by kernel_rfl
theorem goodQ42 (N : Nat) : GoodF Pg 216 (FQ42 (GQ42 N)) := by
 refine good_fs (cx := ⟨Pg, ofList [], isref, N⟩) (os_zero (ofList_nil _) (by kernel_rfl)) shFQ42 (spQ42 (GQ42 N)) (anQ42 N) 0 0 (by kernel_rfl) (fun i_ hi_ => by omega) ?_
 intro a k h
 unfold spQ42 at h
 split at h
 ·exact ⟨[], rfl, rfl, (eqQ42 _ _ _ _ _).trans h⟩
 ·cases h
def anQ41 (N : Nat) (SQ75 : TSQ75) (SQ42 : TSQ42) : Nat -> Option Ann := fun b_ => none
theorem eqQ41 (N : Nat) (SQ75 : TSQ75) (SQ42 : TSQ42) (b f_0 f_1 f_2 : Int) (c_ : V -> List Blk -> Bool) : bodyV ⟨Pg, ofList [(214, (FQ75 SQ75)), (216, (FQ42 SQ42))], isref, N⟩ (anQ41 N SQ75 SQ42) 199 (shFQ41.args [.int b, .int f_0, .int f_1, .int f_2]) [] c_ = GQ41 N SQ75 SQ42 b f_0 f_1 f_2 (fun r0 => c_ (.bool r0) []) := by kernel_rfl
theorem goodQ41 (N : Nat) (SQ75 : TSQ75) (SQ42 : TSQ42) (hQ75 : GoodF Pg 214 (FQ75 SQ75)) (hQ42 : GoodF Pg 216 (FQ42 SQ42)) : GoodF Pg 199 (FQ41 (GQ41 N SQ75 SQ42)) := by
 refine good_fs (cx := ⟨Pg, ofList [(214, (FQ75 SQ75)), (216, (FQ42 SQ42))], isref, N⟩) (os_zero (ofList_cons hQ75 (ofList_cons hQ42 (ofList_nil _))) (by kernel_rfl)) shFQ41 (spQ41 (GQ41 N SQ75 SQ42)) (anQ41 N SQ75 SQ42) 0 0 (by kernel_rfl) (fun i_ hi_ => by omega) ?_
 intro a k h
 unfold spQ41 at h
 split at h
 ·exact ⟨[], rfl, rfl, (eqQ41 _ _ _ _ _ _ _ _).trans h⟩
 ·cases h
def anQ61 (N : Nat) : Nat -> Option Ann := fun b_ => none
theorem eqQ61 (N : Nat) (f_0 f_1 f_2 : Int) (c_ : V -> List Blk -> Bool) : bodyV ⟨Pg, ofList [], isref, N⟩ (anQ61 N) 215 (shFQ61.args [.int f_0, .int f_1, .int f_2]) [] c_ = GQ61 N f_0 f_1 f_2 (fun r0 => c_ (.int .u64 r0) []) := by kernel_rfl
theorem goodQ61 (N : Nat) : GoodF Pg 215 (FQ61 (GQ61 N)) := by
 refine good_fs (cx := ⟨Pg, ofList [], isref, N⟩) (os_zero (ofList_nil _) (by kernel_rfl)) shFQ61 (spQ61 (GQ61 N)) (anQ61 N) 0 0 (by kernel_rfl) (fun i_ hi_ => by omega) ?_
 intro a k h
 unfold spQ61 at h
 split at h
 ·exact ⟨[], rfl, rfl, (eqQ61 _ _ _ _ _).trans h⟩
 ·cases h
def anQ88 (N : Nat) (SQ42 : TSQ42) (SQ61 : TSQ61) : Nat -> Option Ann := fun b_ => none
theorem eqQ88 (N : Nat) (SQ42 : TSQ42) (SQ61 : TSQ61) (f_0 f_1 f_2 : Int) (c_ : V -> List Blk -> Bool) : bodyV ⟨Pg, ofList [(216, (FQ42 SQ42)), (215, (FQ61 SQ61))], isref, N⟩ (anQ88 N SQ42 SQ61) 200 (shFQ88.args [.int f_0, .int f_1, .int f_2]) [] c_ = GQ88 N SQ42 SQ61 f_0 f_1 f_2 (fun r0 => c_ (.int .u64 r0) []) := by kernel_rfl
theorem goodQ88 (N : Nat) (SQ42 : TSQ42) (SQ61 : TSQ61) (hQ42 : GoodF Pg 216 (FQ42 SQ42)) (hQ61 : GoodF Pg 215 (FQ61 SQ61)) : GoodF Pg 200 (FQ88 (GQ88 N SQ42 SQ61)) := by
 refine good_fs (cx := ⟨Pg, ofList [(216, (FQ42 SQ42)), (215, (FQ61 SQ61))], isref, N⟩) (os_zero (ofList_cons hQ42 (ofList_cons hQ61 (ofList_nil _))) (by kernel_rfl)) shFQ88 (spQ88 (GQ88 N SQ42 SQ61)) (anQ88 N SQ42 SQ61) 0 0 (by kernel_rfl) (fun i_ hi_ => by omega) ?_
 intro a k h
 unfold spQ88 at h
 split at h
 ·exact ⟨[], rfl, rfl, (eqQ88 _ _ _ _ _ _ _).trans h⟩
 ·cases h
def anQ19 (N : Nat) (SQ41 : TSQ41) (SQ88 : TSQ88) : Nat -> Option Ann := fun b_ => none
theorem eqQ19 (N : Nat) (SQ41 : TSQ41) (SQ88 : TSQ88) (b f_0 f_1 f_2 : Int) (c_ : V -> List Blk -> Bool) : bodyV ⟨Pg, ofList [(199, (FQ41 SQ41)), (200, (FQ88 SQ88))], isref, N⟩ (anQ19 N SQ41 SQ88) 181 (shFQ19.args [.int b, .int f_0, .int f_1, .int f_2]) [] c_ = GQ19 N SQ41 SQ88 b f_0 f_1 f_2 (fun r0 => c_ (.int .u64 r0) []) := by kernel_rfl
theorem goodQ19 (N : Nat) (SQ41 : TSQ41) (SQ88 : TSQ88) (hQ41 : GoodF Pg 199 (FQ41 SQ41)) (hQ88 : GoodF Pg 200 (FQ88 SQ88)) : GoodF Pg 181 (FQ19 (GQ19 N SQ41 SQ88)) := by
 refine good_fs (cx := ⟨Pg, ofList [(199, (FQ41 SQ41)), (200, (FQ88 SQ88))], isref, N⟩) (os_zero (ofList_cons hQ41 (ofList_cons hQ88 (ofList_nil _))) (by kernel_rfl)) shFQ19 (spQ19 (GQ19 N SQ41 SQ88)) (anQ19 N SQ41 SQ88) 0 0 (by kernel_rfl) (fun i_ hi_ => by omega) ?_
 intro a k h
 unfold spQ19 at h
 split at h
 ·exact ⟨[], rfl, rfl, (eqQ19 _ _ _ _ _ _ _ _).trans h⟩
 ·cases h
def anQ32 (N : Nat) (SQ19 : TSQ19) (SQ75 : TSQ75) (SQ61 : TSQ61) : Nat -> Option Ann := fun b_ => none
theorem eqQ32 (N : Nat) (SQ19 : TSQ19) (SQ75 : TSQ75) (SQ61 : TSQ61) (b f_0 f_1 f_2 : Int) (c_ : V -> List Blk -> Bool) : bodyV ⟨Pg, ofList [(181, (FQ19 SQ19)), (214, (FQ75 SQ75)), (215, (FQ61 SQ61))], isref, N⟩ (anQ32 N SQ19 SQ75 SQ61) 198 (shFQ32.args [.int b, .int f_0, .int f_1, .int f_2]) [] c_ = GQ32 N SQ19 SQ75 SQ61 b f_0 f_1 f_2 (fun r0 r1 r2 => c_ (.tup [.bool r0, .int .i64 r1, .int .u64 r2]) []) := by kernel_rfl
theorem goodQ32 (N : Nat) (SQ19 : TSQ19) (SQ75 : TSQ75) (SQ61 : TSQ61) (hQ19 : GoodF Pg 181 (FQ19 SQ19)) (hQ75 : GoodF Pg 214 (FQ75 SQ75)) (hQ61 : GoodF Pg 215 (FQ61 SQ61)) : GoodF Pg 198 (FQ32 (GQ32 N SQ19 SQ75 SQ61)) := by
 refine good_fs (cx := ⟨Pg, ofList [(181, (FQ19 SQ19)), (214, (FQ75 SQ75)), (215, (FQ61 SQ61))], isref, N⟩) (os_zero (ofList_cons hQ19 (ofList_cons hQ75 (ofList_cons hQ61 (ofList_nil _)))) (by kernel_rfl)) shFQ32 (spQ32 (GQ32 N SQ19 SQ75 SQ61)) (anQ32 N SQ19 SQ75 SQ61) 0 0 (by kernel_rfl) (fun i_ hi_ => by omega) ?_
 intro a k h
 unfold spQ32 at h
 split at h
 ·exact ⟨[], rfl, rfl, (eqQ32 _ _ _ _ _ _ _ _ _).trans h⟩
 ·cases h
def anQ31 (N : Nat) (SQ32 : TSQ32) : Nat -> Option Ann := fun b_ => none
theorem eqQ31 (N : Nat) (SQ32 : TSQ32) (b f_0 f_1 f_2 : Int) (c_ : V -> List Blk -> Bool) : bodyV ⟨Pg, ofList [(198, (FQ32 SQ32))], isref, N⟩ (anQ31 N SQ32) 174 (shFQ31.args [.int b, .int f_0, .int f_1, .int f_2]) [] c_ = GQ31 N SQ32 b f_0 f_1 f_2 (fun r0 => c_ (.int .i64 r0) []) := by kernel_rfl
theorem goodQ31 (N : Nat) (SQ32 : TSQ32) (hQ32 : GoodF Pg 198 (FQ32 SQ32)) : GoodF Pg 174 (FQ31 (GQ31 N SQ32)) := by
 refine good_fs (cx := ⟨Pg, ofList [(198, (FQ32 SQ32))], isref, N⟩) (os_zero (ofList_cons hQ32 (ofList_nil _)) (by kernel_rfl)) shFQ31 (spQ31 (GQ31 N SQ32)) (anQ31 N SQ32) 0 0 (by kernel_rfl) (fun i_ hi_ => by omega) ?_
 intro a k h
 unfold spQ31 at h
 split at h
 ·exact ⟨[], rfl, rfl, (eqQ31 _ _ _ _ _ _ _).trans h⟩
 ·cases h
def anQ78 (N : Nat) (SQ62 : TSQ62) (S_an_of : TS_an_of) (SQ31 : TSQ31) : Nat -> Option Ann := fun b_ => none
theorem eqQ78 (N : Nat) (SQ62 : TSQ62) (S_an_of : TS_an_of) (SQ31 : TSQ31) (x : Nat) (c_ : V -> List Blk -> Bool) : bodyV ⟨Pg, ofList [(29, (FQ62 SQ62)), (175, (F_an_of S_an_of)), (174, (FQ31 SQ31))], isref, N⟩ (anQ78 N SQ62 S_an_of SQ31) 140 (shFQ78.args [.nat x]) [] c_ = GQ78 N SQ62 S_an_of SQ31 x (fun r0 => c_ (.int .i64 r0) []) := by kernel_rfl
theorem goodQ78 (N : Nat) (SQ62 : TSQ62) (S_an_of : TS_an_of) (SQ31 : TSQ31) (hQ62 : GoodF Pg 29 (FQ62 SQ62)) (h_an_of : GoodF Pg 175 (F_an_of S_an_of)) (hQ31 : GoodF Pg 174 (FQ31 SQ31)) : GoodF Pg 140 (FQ78 (GQ78 N SQ62 S_an_of SQ31)) := by
 refine good_fs (cx := ⟨Pg, ofList [(29, (FQ62 SQ62)), (175, (F_an_of S_an_of)), (174, (FQ31 SQ31))], isref, N⟩) (os_zero (ofList_cons hQ62 (ofList_cons h_an_of (ofList_cons hQ31 (ofList_nil _)))) (by kernel_rfl)) shFQ78 (spQ78 (GQ78 N SQ62 S_an_of SQ31)) (anQ78 N SQ62 S_an_of SQ31) 0 0 (by kernel_rfl) (fun i_ hi_ => by omega) ?_
 intro a k h
 unfold spQ78 at h
 split at h
 ·exact ⟨[], rfl, rfl, (eqQ78 _ _ _ _ _ _).trans h⟩
 ·cases h
def anQ94 (N : Nat) (SQ62 : TSQ62) (SQ37 : TSQ37) : Nat -> Option Ann := fun b_ => none
theorem eqQ94 (N : Nat) (SQ62 : TSQ62) (SQ37 : TSQ37) (x : Nat) (c_ : V -> List Blk -> Bool) : bodyV ⟨Pg, ofList [(29, (FQ62 SQ62)), (43, (FQ37 SQ37))], isref, N⟩ (anQ94 N SQ62 SQ37) 51 (shFQ94.args [.nat x]) [] c_ = GQ94 N SQ62 SQ37 x (fun r0 => c_ (.flt r0) []) := by kernel_rfl
theorem goodQ94 (N : Nat) (SQ62 : TSQ62) (SQ37 : TSQ37) (hQ62 : GoodF Pg 29 (FQ62 SQ62)) (hQ37 : GoodF Pg 43 (FQ37 SQ37)) : GoodF Pg 51 (FQ94 (GQ94 N SQ62 SQ37)) := by
 refine good_fs (cx := ⟨Pg, ofList [(29, (FQ62 SQ62)), (43, (FQ37 SQ37))], isref, N⟩) (os_zero (ofList_cons hQ62 (ofList_cons hQ37 (ofList_nil _))) (by kernel_rfl)) shFQ94 (spQ94 (GQ94 N SQ62 SQ37)) (anQ94 N SQ62 SQ37) 0 0 (by kernel_rfl) (fun i_ hi_ => by omega) ?_
 intro a k h
 unfold spQ94 at h
 split at h
 ·exact ⟨[], rfl, rfl, (eqQ94 _ _ _ _ _).trans h⟩
 ·cases h
def sh_st_binnacleref01_Of64_0 : StSh := ⟨(.any :: (.any :: (.any :: (.slw 0 :: (.any :: (.any :: (.roi .u64 :: (.int .i64 :: (.int .i64 :: (sqs 10 [])))))))))), [some (36, 1, .flts)]⟩
def sx0_st_binnacleref01_Of64_0 : StSh := ⟨(.any :: (.any :: (.any :: (.slw 0 :: (sqs 15 []))))), [some (36, 1, .flts)]⟩
def hk_st_binnacleref01_Of64_0 (N : Nat) (SQ37 : TSQ37) : List Atom -> K -> Bool := fun a_ κ => match a_ with
 | [.ints t6_1, .int t7_1, .int t8_1, .fls x] => iterG N (st_z01_Of64_0 N SQ37 t6_1 t7_1 (fun r0 => κ.ext 0 (sx0_st_binnacleref01_Of64_0.build [.fls r0]))) (t8_1, x)
 | _ => false
def anQ12 (N : Nat) (SQ37 : TSQ37) : Nat -> Option Ann := fun b_ => cond (b_ == 0) (some ⟨⟨[3, 6, 7, 8], [(3, none, 72)], [], []⟩, [(0, ⟨[3], [], [], []⟩)], some ⟨[2], [], [], []⟩, some (mkHooks [(sh_st_binnacleref01_Of64_0, hk_st_binnacleref01_Of64_0 N SQ37)])⟩) (none)
theorem eq_st_binnacleref01_Of64_0 (N : Nat) (SQ37 : TSQ37) (κ : K) (t6_1 : List Int) (t7_1 t8_1 : Int) (x : List Fl) : iter N (fun s k => codeV ⟨Pg, ofList [(43, (FQ37 SQ37))], isref, N⟩ 0 (anQ12 N SQ37) (lp Pg 31 0).2 (lp Pg 31 0).1 s (roundK Pg 0 ((anQ12 N SQ37) (lp Pg 31 0).1) κ k)) (sh_st_binnacleref01_Of64_0.build [.ints t6_1, .int t7_1, .int t8_1, .fls x]) = iterG N (st_z01_Of64_0 N SQ37 t6_1 t7_1 (fun r0 => κ.ext 0 (sx0_st_binnacleref01_Of64_0.build [.fls r0]))) (t8_1, x) :=
 iter_tr (fun (v_ : Int × List Fl) => sh_st_binnacleref01_Of64_0.build [.ints t6_1, .int t7_1, .int v_.1, .fls v_.2]) (fun v_ K_ => by obtain ⟨t8_1, x⟩ := v_; kernel_rfl) N (t8_1, x)
theorem hk1_st_binnacleref01_Of64_0 (N : Nat) (SQ37 : TSQ37) : HookFor ⟨Pg, ofList [(43, (FQ37 SQ37))], isref, N⟩ 0 (anQ12 N SQ37) (lp Pg 31 0) (sh_st_binnacleref01_Of64_0, hk_st_binnacleref01_Of64_0 N SQ37) := by
 intro a κ h
 simp only at h
 unfold hk_st_binnacleref01_Of64_0 at h
 split at h
 ·exact (eq_st_binnacleref01_Of64_0 _ _ _ _ _ _ _).trans h
 ·cases h
theorem ho_binnacleref01_Of64_0 (N : Nat) (SQ37 : TSQ37) : HookOk ⟨Pg, ofList [(43, (FQ37 SQ37))], isref, N⟩ 0 (anQ12 N SQ37) (lp Pg 31 0) :=
 hooks_ok [(sh_st_binnacleref01_Of64_0, hk_st_binnacleref01_Of64_0 N SQ37)] (by kernel_rfl) ⟨hk1_st_binnacleref01_Of64_0 _ _, trivial⟩
theorem eqQ12 (N : Nat) (SQ37 : TSQ37) (l : List Int) (c_ : V -> List Blk -> Bool) : bodyV ⟨Pg, ofList [(43, (FQ37 SQ37))], isref, N⟩ (anQ12 N SQ37) 31 (shFQ12.args [.ints l]) [] c_ = GQ12 N SQ37 l (fun r0 => c_ (.slw 0) [⟨36, 1, .flts r0⟩]) := by kernel_rfl
theorem goodQ12 (N : Nat) (SQ37 : TSQ37) (hQ37 : GoodF Pg 43 (FQ37 SQ37)) : GoodF Pg 31 (FQ12 (GQ12 N SQ37)) := by
 refine good_fs (cx := ⟨Pg, ofList [(43, (FQ37 SQ37))], isref, N⟩) (os_zero (ofList_cons hQ37 (ofList_nil _)) (by kernel_rfl)) shFQ12 (spQ12 (GQ12 N SQ37)) (anQ12 N SQ37) 1 0 (by kernel_rfl) (fun i_ hi_ => by
  match i_, hi_ with
  | 0, _ => exact ho_binnacleref01_Of64_0 _ _
  | (q + 1), h => omega) ?_
 intro a k h
 unfold spQ12 at h
 split at h
 ·exact ⟨[], rfl, rfl, (eqQ12 _ _ _ _).trans h⟩
 ·cases h
def anQ6 (N : Nat) (SQ12 : TSQ12) : Nat -> Option Ann := fun b_ => none
theorem eqQ6 (N : Nat) (SQ12 : TSQ12) (z : List Int) (rows : Int) (r : List Int) (c_ : V -> List Blk -> Bool) : bodyV ⟨Pg, ofList [(31, (FQ12 SQ12))], isref, N⟩ (anQ6 N SQ12) 23 (shFQ6.args [.ints z, .int rows, .ints r]) [] c_ = GQ6 N SQ12 z rows r (fun r2 r3 => c_ (.agg [.int .i64 rows, .int .i64 rows, .slw 0, .slw 1]) [⟨36, 1, .flts r2⟩, ⟨36, 1, .flts r3⟩]) := by kernel_rfl
theorem goodQ6 (N : Nat) (SQ12 : TSQ12) (hQ12 : GoodF Pg 31 (FQ12 SQ12)) : GoodF Pg 23 (FQ6 (GQ6 N SQ12)) := by
 refine good_fs (cx := ⟨Pg, ofList [(31, (FQ12 SQ12))], isref, N⟩) (os_zero (ofList_cons hQ12 (ofList_nil _)) (by kernel_rfl)) shFQ6 (spQ6 (GQ6 N SQ12)) (anQ6 N SQ12) 0 0 (by kernel_rfl) (fun i_ hi_ => by omega) ?_
 intro a k h
 unfold spQ6 at h
 split at h
 ·exact ⟨[], rfl, rfl, (eqQ6 _ _ _ _ _ _).trans h⟩
 ·cases h
def anQ72 (N : Nat) : Nat -> Option Ann := fun b_ => none
theorem eqQ72 (N : Nat) (rows cols n : Int) (c_ : V -> List Blk -> Bool) : bodyV ⟨Pg, ofList [], isref, N⟩ (anQ72 N) 160 (shFQ72.args [.int rows, .int cols, .int n]) [] c_ = GQ72 N rows cols n (fun r0 => c_ (.int .i64 r0) []) := by kernel_rfl
theorem goodQ72 (N : Nat) : GoodF Pg 160 (FQ72 (GQ72 N)) := by
 refine good_fs (cx := ⟨Pg, ofList [], isref, N⟩) (os_zero (ofList_nil _) (by kernel_rfl)) shFQ72 (spQ72 (GQ72 N)) (anQ72 N) 0 0 (by kernel_rfl) (fun i_ hi_ => by omega) ?_
 intro a k h
 unfold spQ72 at h
 split at h
 ·exact ⟨[], rfl, rfl, (eqQ72 _ _ _ _ _).trans h⟩
 ·cases h
def anQ64 (N : Nat) (SQ13 : TSQ13) : Nat -> Option Ann := fun b_ => none
theorem eqQ64 (N : Nat) (SQ13 : TSQ13) (x : Fl) (c_ : V -> List Blk -> Bool) : bodyV ⟨Pg, ofList [(29, (FQ13 SQ13))], isref, N⟩ (anQ64 N SQ13) 162 (shFQ64.args [.fl x]) [] c_ = GQ64 N SQ13 x (fun r0 => c_ (.int .u64 r0) []) := by kernel_rfl
theorem goodQ64 (N : Nat) (SQ13 : TSQ13) (hQ13 : GoodF Pg 29 (FQ13 SQ13)) : GoodF Pg 162 (FQ64 (GQ64 N SQ13)) := by
 refine good_fs (cx := ⟨Pg, ofList [(29, (FQ13 SQ13))], isref, N⟩) (os_zero (ofList_cons hQ13 (ofList_nil _)) (by kernel_rfl)) shFQ64 (spQ64 (GQ64 N SQ13)) (anQ64 N SQ13) 0 0 (by kernel_rfl) (fun i_ hi_ => by omega) ?_
 intro a k h
 unfold spQ64 at h
 split at h
 ·exact ⟨[], rfl, rfl, (eqQ64 _ _ _ _).trans h⟩
 ·cases h
def anQ44 (N : Nat) (SQ64 : TSQ64) : Nat -> Option Ann := fun b_ => none
theorem eqQ44 (N : Nat) (SQ64 : TSQ64) (x : Fl) (c_ : V -> List Blk -> Bool) : bodyV ⟨Pg, ofList [(162, (FQ64 SQ64))], isref, N⟩ (anQ44 N SQ64) 137 (shFQ44.args [.fl x]) [] c_ = GQ44 N SQ64 x (fun r0 r1 r2 => c_ (.tup [.bool r0, .int .i64 r1, .int .u64 r2]) []) := by kernel_rfl
theorem goodQ44 (N : Nat) (SQ64 : TSQ64) (hQ64 : GoodF Pg 162 (FQ64 SQ64)) : GoodF Pg 137 (FQ44 (GQ44 N SQ64)) := by
 refine good_fs (cx := ⟨Pg, ofList [(162, (FQ64 SQ64))], isref, N⟩) (os_zero (ofList_cons hQ64 (ofList_nil _)) (by kernel_rfl)) shFQ44 (spQ44 (GQ44 N SQ64)) (anQ44 N SQ64) 0 0 (by kernel_rfl) (fun i_ hi_ => by omega) ?_
 intro a k h
 unfold spQ44 at h
 split at h
 ·exact ⟨[], rfl, rfl, (eqQ44 _ _ _ _).trans h⟩
 ·cases h
def anQ56 (N : Nat) : Nat -> Option Ann := fun b_ => none
theorem eqQ56 (N : Nat) (exp frac most : Int) (c_ : V -> List Blk -> Bool) : bodyV ⟨Pg, ofList [], isref, N⟩ (anQ56 N) 184 (shFQ56.args [.int exp, .int frac, .int most]) [] c_ = GQ56 N exp frac most (fun r0 => c_ (.int .i64 r0) []) := by kernel_rfl
theorem goodQ56 (N : Nat) : GoodF Pg 184 (FQ56 (GQ56 N)) := by
 refine good_fs (cx := ⟨Pg, ofList [], isref, N⟩) (os_zero (ofList_nil _) (by kernel_rfl)) shFQ56 (spQ56 (GQ56 N)) (anQ56 N) 0 0 (by kernel_rfl) (fun i_ hi_ => by omega) ?_
 intro a k h
 unfold spQ56 at h
 split at h
 ·exact ⟨[], rfl, rfl, (eqQ56 _ _ _ _ _).trans h⟩
 ·cases h
def anQ71 (N : Nat) (SQ44 : TSQ44) (SQ56 : TSQ56) : Nat -> Option Ann := fun b_ => none
theorem eqQ71 (N : Nat) (SQ44 : TSQ44) (SQ56 : TSQ56) (x : Fl) (c_ : V -> List Blk -> Bool) : bodyV ⟨Pg, ofList [(137, (FQ44 SQ44)), (184, (FQ56 SQ56))], isref, N⟩ (anQ71 N SQ44 SQ56) 161 (shFQ71.args [.fl x]) [] c_ = GQ71 N SQ44 SQ56 x (fun r0 => c_ (.int .i64 r0) []) := by kernel_rfl
theorem goodQ71 (N : Nat) (SQ44 : TSQ44) (SQ56 : TSQ56) (hQ44 : GoodF Pg 137 (FQ44 SQ44)) (hQ56 : GoodF Pg 184 (FQ56 SQ56)) : GoodF Pg 161 (FQ71 (GQ71 N SQ44 SQ56)) := by
 refine good_fs (cx := ⟨Pg, ofList [(137, (FQ44 SQ44)), (184, (FQ56 SQ56))], isref, N⟩) (os_zero (ofList_cons hQ44 (ofList_cons hQ56 (ofList_nil _))) (by kernel_rfl)) shFQ71 (spQ71 (GQ71 N SQ44 SQ56)) (anQ71 N SQ44 SQ56) 0 0 (by kernel_rfl) (fun i_ hi_ => by omega) ?_
 intro a k h
 unfold spQ71 at h
 split at h
 ·exact ⟨[], rfl, rfl, (eqQ71 _ _ _ _ _).trans h⟩
 ·cases h
def anQ50 (N : Nat) (SQ71 : TSQ71) : Nat -> Option Ann := fun b_ => none
theorem eqQ50 (N : Nat) (SQ71 : TSQ71) (x : Fl) (c_ : V -> List Blk -> Bool) : bodyV ⟨Pg, ofList [(161, (FQ71 SQ71))], isref, N⟩ (anQ50 N SQ71) 120 (shFQ50.args [.fl x]) [] c_ = GQ50 N SQ71 x (fun r0 => c_ (.bool r0) []) := by kernel_rfl
theorem goodQ50 (N : Nat) (SQ71 : TSQ71) (hQ71 : GoodF Pg 161 (FQ71 SQ71)) : GoodF Pg 120 (FQ50 (GQ50 N SQ71)) := by
 refine good_fs (cx := ⟨Pg, ofList [(161, (FQ71 SQ71))], isref, N⟩) (os_zero (ofList_cons hQ71 (ofList_nil _)) (by kernel_rfl)) shFQ50 (spQ50 (GQ50 N SQ71)) (anQ50 N SQ71) 0 0 (by kernel_rfl) (fun i_ hi_ => by omega) ?_
 intro a k h
 unfold spQ50 at h
 split at h
 ·exact ⟨[], rfl, rfl, (eqQ50 _ _ _ _).trans h⟩
 ·cases h
def sh_st_binnacleref01_AllFinite_0 : StSh := ⟨(sqs 5 (.rof :: (.int .i64 :: (.int .i64 :: (sqs 7 []))))), []⟩
def sx0_st_binnacleref01_AllFinite_0 : StSh := ⟨(.any :: (.any :: (.bool :: (sqs 12 [])))), []⟩
def sx1_st_binnacleref01_AllFinite_0 : StSh := ⟨(sqs 15 []), []⟩
def hk_st_binnacleref01_AllFinite_0 (N : Nat) (SQ50 : TSQ50) : List Atom -> K -> Bool := fun a_ κ => match a_ with
 | [.fls t5, .int t6, .int t7] => iterG N (stQ106 N SQ50 t5 t6 (fun r0 => κ.ret (sx0_st_binnacleref01_AllFinite_0.build [.bool r0])) (κ.ext 0 (sx1_st_binnacleref01_AllFinite_0.build []))) t7
 | _ => false
def anQ26 (N : Nat) (SQ50 : TSQ50) : Nat -> Option Ann := fun b_ => cond (b_ == 0) (some ⟨⟨[5, 6, 7], [], [], []⟩, [(0, ⟨[], [], [], []⟩)], some ⟨[2], [], [], []⟩, some (mkHooks [(sh_st_binnacleref01_AllFinite_0, hk_st_binnacleref01_AllFinite_0 N SQ50)])⟩) (none)
theorem eq_st_binnacleref01_AllFinite_0 (N : Nat) (SQ50 : TSQ50) (κ : K) (t5 : List Fl) (t6 t7 : Int) : iter N (fun s k => codeV ⟨Pg, ofList [(120, (FQ50 SQ50))], isref, N⟩ 0 (anQ26 N SQ50) (lp Pg 71 0).2 (lp Pg 71 0).1 s (roundK Pg 0 ((anQ26 N SQ50) (lp Pg 71 0).1) κ k)) (sh_st_binnacleref01_AllFinite_0.build [.fls t5, .int t6, .int t7]) = iterG N (stQ106 N SQ50 t5 t6 (fun r0 => κ.ret (sx0_st_binnacleref01_AllFinite_0.build [.bool r0])) (κ.ext 0 (sx1_st_binnacleref01_AllFinite_0.build []))) t7 :=
 iter_tr (fun v_ => sh_st_binnacleref01_AllFinite_0.build [.fls t5, .int t6, .int v_]) (fun v_ K_ => by kernel_rfl) N t7
theorem hk1_st_binnacleref01_AllFinite_0 (N : Nat) (SQ50 : TSQ50) : HookFor ⟨Pg, ofList [(120, (FQ50 SQ50))], isref, N⟩ 0 (anQ26 N SQ50) (lp Pg 71 0) (sh_st_binnacleref01_AllFinite_0, hk_st_binnacleref01_AllFinite_0 N SQ50) := by
 intro a κ h
 simp only at h
 unfold hk_st_binnacleref01_AllFinite_0 at h
 split at h
 ·exact (eq_st_binnacleref01_AllFinite_0 _ _ _ _ _ _).trans h
 ·cases h
theorem ho_binnacleref01_AllFinite_0 (N : Nat) (SQ50 : TSQ50) : HookOk ⟨Pg, ofList [(120, (FQ50 SQ50))], isref, N⟩ 0 (anQ26 N SQ50) (lp Pg 71 0) :=
 hooks_ok [(sh_st_binnacleref01_AllFinite_0, hk_st_binnacleref01_AllFinite_0 N SQ50)] (by kernel_rfl) ⟨hk1_st_binnacleref01_AllFinite_0 _ _, trivial⟩
theorem eqQ26 (N : Nat) (SQ50 : TSQ50) (l : List Fl) (c_ : V -> List Blk -> Bool) : bodyV ⟨Pg, ofList [(120, (FQ50 SQ50))], isref, N⟩ (anQ26 N SQ50) 71 (shFQ26.args [.fls l]) [] c_ = GQ26 N SQ50 l (fun r0 => c_ (.bool r0) []) := by kernel_rfl
theorem goodQ26 (N : Nat) (SQ50 : TSQ50) (hQ50 : GoodF Pg 120 (FQ50 SQ50)) : GoodF Pg 71 (FQ26 (GQ26 N SQ50)) := by
 refine good_fs (cx := ⟨Pg, ofList [(120, (FQ50 SQ50))], isref, N⟩) (os_zero (ofList_cons hQ50 (ofList_nil _)) (by kernel_rfl)) shFQ26 (spQ26 (GQ26 N SQ50)) (anQ26 N SQ50) 1 0 (by kernel_rfl) (fun i_ hi_ => by
  match i_, hi_ with
  | 0, _ => exact ho_binnacleref01_AllFinite_0 _ _
  | (q + 1), h => omega) ?_
 intro a k h
 unfold spQ26 at h
 split at h
 ·exact ⟨[], rfl, rfl, (eqQ26 _ _ _ _).trans h⟩
 ·cases h
def anQ39 (N : Nat) (SQ72 : TSQ72) (SQ26 : TSQ26) : Nat -> Option Ann := fun b_ => none
theorem eqQ39 (N : Nat) (SQ72 : TSQ72) (SQ26 : TSQ26) (m_0 m_1 : Int) (m_2 : List Fl) (c_ : V -> List Blk -> Bool) : bodyV ⟨Pg, ofList [(160, (FQ72 SQ72)), (71, (FQ26 SQ26))], isref, N⟩ (anQ39 N SQ72 SQ26) 119 (shFQ39.args [.int m_0, .int m_1, .fls m_2]) [] c_ = GQ39 N SQ72 SQ26 m_0 m_1 m_2 (fun r0 => c_ (.int .i64 r0) []) := by kernel_rfl
theorem goodQ39 (N : Nat) (SQ72 : TSQ72) (SQ26 : TSQ26) (hQ72 : GoodF Pg 160 (FQ72 SQ72)) (hQ26 : GoodF Pg 71 (FQ26 SQ26)) : GoodF Pg 119 (FQ39 (GQ39 N SQ72 SQ26)) := by
 refine good_fs (cx := ⟨Pg, ofList [(160, (FQ72 SQ72)), (71, (FQ26 SQ26))], isref, N⟩) (os_zero (ofList_cons hQ72 (ofList_cons hQ26 (ofList_nil _))) (by kernel_rfl)) shFQ39 (spQ39 (GQ39 N SQ72 SQ26)) (anQ39 N SQ72 SQ26) 0 0 (by kernel_rfl) (fun i_ hi_ => by omega) ?_
 intro a k h
 unfold spQ39 at h
 split at h
 ·exact ⟨[], rfl, rfl, (eqQ39 _ _ _ _ _ _ _).trans h⟩
 ·cases h
def anQ79 (N : Nat) (SQ39 : TSQ39) : Nat -> Option Ann := fun b_ => none
theorem eqQ79 (N : Nat) (SQ39 : TSQ39) (m_0 m_1 : Int) (m_2 : List Fl) (c_ : V -> List Blk -> Bool) : bodyV ⟨Pg, ofList [(119, (FQ39 SQ39))], isref, N⟩ (anQ79 N SQ39) 70 (shFQ79.args [.int m_0, .int m_1, .fls m_2]) [] c_ = GQ79 N SQ39 m_0 m_1 m_2 (fun r0 => c_ (.int .i64 r0) []) := by kernel_rfl
theorem goodQ79 (N : Nat) (SQ39 : TSQ39) (hQ39 : GoodF Pg 119 (FQ39 SQ39)) : GoodF Pg 70 (FQ79 (GQ79 N SQ39)) := by
 refine good_fs (cx := ⟨Pg, ofList [(119, (FQ39 SQ39))], isref, N⟩) (os_zero (ofList_cons hQ39 (ofList_nil _)) (by kernel_rfl)) shFQ79 (spQ79 (GQ79 N SQ39)) (anQ79 N SQ39) 0 0 (by kernel_rfl) (fun i_ hi_ => by omega) ?_
 intro a k h
 unfold spQ79 at h
 split at h
 ·exact ⟨[], rfl, rfl, (eqQ79 _ _ _ _ _ _).trans h⟩
 ·cases h
def anQ54 (N : Nat) : Nat -> Option Ann := fun b_ => none
theorem eqQ54 (N : Nat) (rows cols : Int) (c_ : V -> List Blk -> Bool) : bodyV ⟨Pg, ofList [], isref, N⟩ (anQ54 N) 123 (shFQ54.args [.int rows, .int cols]) [] c_ = GQ54 N rows cols (fun r2 => c_ (.agg [.int .i64 rows, .int .i64 cols, .slw 0]) [⟨36, 1, .flts r2⟩]) := by kernel_rfl
theorem goodQ54 (N : Nat) : GoodF Pg 123 (FQ54 (GQ54 N)) := by
 refine good_fs (cx := ⟨Pg, ofList [], isref, N⟩) (os_zero (ofList_nil _) (by kernel_rfl)) shFQ54 (spQ54 (GQ54 N)) (anQ54 N) 0 0 (by kernel_rfl) (fun i_ hi_ => by omega) ?_
 intro a k h
 unfold spQ54 at h
 split at h
 ·exact ⟨[], rfl, rfl, (eqQ54 _ _ _ _).trans h⟩
 ·cases h
def anQ52 (N : Nat) : Nat -> Option Ann := fun b_ => none
theorem eqQ52 (N : Nat) (m_0 m_1 : Int) (m_2 : List Fl) (i j : Int) (c_ : V -> List Blk -> Bool) : bodyV ⟨Pg, ofList [], isref, N⟩ (anQ52 N) 121 (shFQ52.args [.int m_0, .int m_1, .fls m_2, .int i, .int j]) [] c_ = GQ52 N m_0 m_1 m_2 i j (fun r0 => c_ (.flt r0) []) := by kernel_rfl
theorem goodQ52 (N : Nat) : GoodF Pg 121 (FQ52 (GQ52 N)) := by
 refine good_fs (cx := ⟨Pg, ofList [], isref, N⟩) (os_zero (ofList_nil _) (by kernel_rfl)) shFQ52 (spQ52 (GQ52 N)) (anQ52 N) 0 0 (by kernel_rfl) (fun i_ hi_ => by omega) ?_
 intro a k h
 unfold spQ52 at h
 split at h
 ·exact ⟨[], rfl, rfl, (eqQ52 _ _ _ _ _ _ _).trans h⟩
 ·cases h
def anQ40 (N : Nat) : Nat -> Option Ann := fun b_ => none
theorem eqQ40 (N : Nat) (m_0 m_1 i j : Int) (x : Fl) (b : List Fl) (c_ : V -> List Blk -> Bool) : bodyV ⟨Pg, ofList [], isref, N⟩ (anQ40 N) 124 (shFQ40.args [.int m_0, .int m_1, .int i, .int j, .fl x, .fls b]) [⟨36, 1, .flts b⟩] c_ = GQ40 N m_0 m_1 i j x b (fun r0 => c_ (.tup []) [⟨36, 1, .flts r0⟩]) := by kernel_rfl
theorem goodQ40 (N : Nat) : GoodF Pg 124 (FQ40 (GQ40 N)) := by
 refine good_fs (cx := ⟨Pg, ofList [], isref, N⟩) (os_zero (ofList_nil _) (by kernel_rfl)) shFQ40 (spQ40 (GQ40 N)) (anQ40 N) 0 1 (by kernel_rfl) (fun i_ hi_ => by omega) ?_
 intro a k h
 unfold spQ40 at h
 split at h
 ·exact ⟨[_], rfl, rfl, (eqQ40 _ _ _ _ _ _ _ _).trans h⟩
 ·cases h
def sh_st_binnacleref17_Turn_2 : StSh := ⟨(.any :: (.ptr 0 0 :: (.ptr 1 0 :: (.ptr 2 0 :: (.int .i64 :: (.int .i64 :: (sqs 26 []))))))), [some (31, 1, .cells [.int .i64, .int .i64, .rof]), some (31, 1, .cells [.int .i64, .int .i64, .nil]), some (31, 1, .cells [.int .i64, .int .i64, .slw 3]), some (36, 1, .flts)]⟩
def sx0_st_binnacleref17_Turn_2 : StSh := ⟨(.any :: (.ptr 0 0 :: (.ptr 1 0 :: (.ptr 2 0 :: (.int .i64 :: (sqs 27 [])))))), [some (31, 1, .cells [.int .i64, .int .i64, .rof]), some (31, 1, .cells [.int .i64, .int .i64, .nil]), some (31, 1, .cells [.int .i64, .int .i64, .slw 3]), some (36, 1, .flts)]⟩
def hk_st_binnacleref17_Turn_2 (N : Nat) (SQ54 : TSQ54) (SQ52 : TSQ52) (SQ40 : TSQ40) : List Atom -> K -> Bool := fun a_ κ => match a_ with
 | [.int i_1, .int j, .int m_5, .int m_6, .fls m_7, .int t2_2, .int t2_3, .int t_2, .int t_3, .fls b3_1] => iterG N (st_z17_Turn_2 N SQ54 SQ52 SQ40 i_1 m_5 m_6 m_7 t2_2 t2_3 t_2 t_3 (fun r8 => κ.ext 2 (sx0_st_binnacleref17_Turn_2.build [.int i_1, .int m_5, .int m_6, .fls m_7, .int t2_2, .int t2_3, .int t_2, .int t_3, .fls r8]))) (j, b3_1)
 | _ => false
def sh_st_binnacleref17_Turn_0 : StSh := ⟨(.any :: (.ptr 0 0 :: (.ptr 1 0 :: (.ptr 2 0 :: (.int .i64 :: (sqs 27 [])))))), [some (31, 1, .cells [.int .i64, .int .i64, .rof]), some (31, 1, .cells [.int .i64, .int .i64, .nil]), some (31, 1, .cells [.int .i64, .int .i64, .slw 3]), some (36, 1, .flts)]⟩
def sx0_st_binnacleref17_Turn_0 : StSh := ⟨(.any :: (.any :: (.ptr 0 0 :: (.ptr 1 0 :: (sqs 28 []))))), [some (31, 1, .cells [.int .i64, .int .i64, .nil]), some (31, 1, .cells [.int .i64, .int .i64, .slw 2]), some (36, 1, .flts)]⟩
def hk_st_binnacleref17_Turn_0 (N : Nat) (SQ54 : TSQ54) (SQ52 : TSQ52) (SQ40 : TSQ40) : List Atom -> K -> Bool := fun a_ κ => match a_ with
 | [.int i, .int m, .int m_3, .fls m_4, .int t2, .int t2_1, .int t, .int t_1, .fls b3] => iterG N (st_z17_Turn_0 N SQ54 SQ52 SQ40 m m_3 m_4 t2 t2_1 t t_1 (fun r4 => κ.ext 0 (sx0_st_binnacleref17_Turn_0.build [.int t2, .int t2_1, .int t, .int t_1, .fls r4]))) (i, b3)
 | _ => false
def anQ73 (N : Nat) (SQ54 : TSQ54) (SQ52 : TSQ52) (SQ40 : TSQ40) : Nat -> Option Ann := fun b_ => cond (b_ == 2) (some ⟨⟨[1, 2, 3, 4, 5], [], [], []⟩, [(2, ⟨[1, 2, 3, 4], [], [], []⟩)], some ⟨[2], [], [], []⟩, some (mkHooks [(sh_st_binnacleref17_Turn_2, hk_st_binnacleref17_Turn_2 N SQ54 SQ52 SQ40)])⟩) (cond (b_ == 0) (some ⟨⟨[1, 2, 3, 4], [], [], []⟩, [(0, ⟨[2, 3], [], [], []⟩)], some ⟨[2], [], [], []⟩, some (mkHooks [(sh_st_binnacleref17_Turn_0, hk_st_binnacleref17_Turn_0 N SQ54 SQ52 SQ40)])⟩) (none))
theorem eq_st_binnacleref17_Turn_2 (N : Nat) (SQ54 : TSQ54) (SQ52 : TSQ52) (SQ40 : TSQ40) (κ : K) (i_1 j m_5 m_6 : Int) (m_7 : List Fl) (t2_2 t2_3 t_2 t_3 : Int) (b3_1 : List Fl) : iter N (fun s k => codeV ⟨Pg, ofList [(123, (FQ54 SQ54)), (121, (FQ52 SQ52)), (124, (FQ40 SQ40))], isref, N⟩ 0 (anQ73 N SQ54 SQ52 SQ40) (lp Pg 73 1).2 (lp Pg 73 1).1 s (roundK Pg 0 ((anQ73 N SQ54 SQ52 SQ40) (lp Pg 73 1).1) κ k)) (sh_st_binnacleref17_Turn_2.build [.int i_1, .int j, .int m_5, .int m_6, .fls m_7, .int t2_2, .int t2_3, .int t_2, .int t_3, .fls b3_1]) = iterG N (st_z17_Turn_2 N SQ54 SQ52 SQ40 i_1 m_5 m_6 m_7 t2_2 t2_3 t_2 t_3 (fun r8 => κ.ext 2 (sx0_st_binnacleref17_Turn_2.build [.int i_1, .int m_5, .int m_6, .fls m_7, .int t2_2, .int t2_3, .int t_2, .int t_3, .fls r8]))) (j, b3_1) :=
 iter_tr (fun (v_ : Int × List Fl) => sh_st_binnacleref17_Turn_2.build [.int i_1, .int v_.1, .int m_5, .int m_6, .fls m_7, .int t2_2, .int t2_3, .int t_2, .int t_3, .fls v_.2]) (fun v_ K_ => by obtain ⟨j, b3_1⟩ := v_; kernel_rfl) N (j, b3_1)
theorem hk1_st_binnacleref17_Turn_2 (N : Nat) (SQ54 : TSQ54) (SQ52 : TSQ52) (SQ40 : TSQ40) : HookFor ⟨Pg, ofList [(123, (FQ54 SQ54)), (121, (FQ52 SQ52)), (124, (FQ40 SQ40))], isref, N⟩ 0 (anQ73 N SQ54 SQ52 SQ40) (lp Pg 73 1) (sh_st_binnacleref17_Turn_2, hk_st_binnacleref17_Turn_2 N SQ54 SQ52 SQ40) := by
 intro a κ h
 simp only at h
 unfold hk_st_binnacleref17_Turn_2 at h
 split at h
 ·exact (eq_st_binnacleref17_Turn_2 _ _ _ _ _ _ _ _ _ _ _ _ _ _ _).trans h
 ·cases h
theorem eq_st_binnacleref17_Turn_0 (N : Nat) (SQ54 : TSQ54) (SQ52 : TSQ52) (SQ40 : TSQ40) (κ : K) (i m m_3 : Int) (m_4 : List Fl) (t2 t2_1 t t_1 : Int) (b3 : List Fl) : iter N (fun s k => codeV ⟨Pg, ofList [(123, (FQ54 SQ54)), (121, (FQ52 SQ52)), (124, (FQ40 SQ40))], isref, N⟩ 0 (anQ73 N SQ54 SQ52 SQ40) (lp Pg 73 0).2 (lp Pg 73 0).1 s (roundK Pg 0 ((anQ73 N SQ54 SQ52 SQ40) (lp Pg 73 0).1) κ k)) (sh_st_binnacleref17_Turn_0.build [.int i, .int m, .int m_3, .fls m_4, .int t2, .int t2_1, .int t, .int t_1, .fls b3]) = iterG N (st_z17_Turn_0 N SQ54 SQ52 SQ40 m m_3 m_4 t2 t2_1 t t_1 (fun r4 => κ.ext 0 (sx0_st_binnacleref17_Turn_0.build [.int t2, .int t2_1, .int t, .int t_1, .fls r4]))) (i, b3) :=
 iter_tr (fun (v_ : Int × List Fl) => sh_st_binnacleref17_Turn_0.build [.int v_.1, .int m, .int m_3, .fls m_4, .int t2, .int t2_1, .int t, .int t_1, .fls v_.2]) (fun v_ K_ => by obtain ⟨i, b3⟩ := v_; kernel_rfl) N (i, b3)
theorem hk1_st_binnacleref17_Turn_0 (N : Nat) (SQ54 : TSQ54) (SQ52 : TSQ52) (SQ40 : TSQ40) : HookFor ⟨Pg, ofList [(123, (FQ54 SQ54)), (121, (FQ52 SQ52)), (124, (FQ40 SQ40))], isref, N⟩ 0 (anQ73 N SQ54 SQ52 SQ40) (lp Pg 73 0) (sh_st_binnacleref17_Turn_0, hk_st_binnacleref17_Turn_0 N SQ54 SQ52 SQ40) := by
 intro a κ h
 simp only at h
 unfold hk_st_binnacleref17_Turn_0 at h
 split at h
 ·exact (eq_st_binnacleref17_Turn_0 _ _ _ _ _ _ _ _ _ _ _ _ _ _).trans h
 ·cases h
theorem ho_binnacleref17_Turn_2 (N : Nat) (SQ54 : TSQ54) (SQ52 : TSQ52) (SQ40 : TSQ40) : HookOk ⟨Pg, ofList [(123, (FQ54 SQ54)), (121, (FQ52 SQ52)), (124, (FQ40 SQ40))], isref, N⟩ 0 (anQ73 N SQ54 SQ52 SQ40) (lp Pg 73 1) :=
 hooks_ok [(sh_st_binnacleref17_Turn_2, hk_st_binnacleref17_Turn_2 N SQ54 SQ52 SQ40)] (by kernel_rfl) ⟨hk1_st_binnacleref17_Turn_2 _ _ _ _, trivial⟩
theorem ho_binnacleref17_Turn_0 (N : Nat) (SQ54 : TSQ54) (SQ52 : TSQ52) (SQ40 : TSQ40) : HookOk ⟨Pg, ofList [(123, (FQ54 SQ54)), (121, (FQ52 SQ52)), (124, (FQ40 SQ40))], isref, N⟩ 0 (anQ73 N SQ54 SQ52 SQ40) (lp Pg 73 0) :=
 hooks_ok [(sh_st_binnacleref17_Turn_0, hk_st_binnacleref17_Turn_0 N SQ54 SQ52 SQ40)] (by kernel_rfl) ⟨hk1_st_binnacleref17_Turn_0 _ _ _ _, trivial⟩
theorem eqQ73 (N : Nat) (SQ54 : TSQ54) (SQ52 : TSQ52) (SQ40 : TSQ40) (m_0 m_1 : Int) (m_2 : List Fl) (c_ : V -> List Blk -> Bool) : bodyV ⟨Pg, ofList [(123, (FQ54 SQ54)), (121, (FQ52 SQ52)), (124, (FQ40 SQ40))], isref, N⟩ (anQ73 N SQ54 SQ52 SQ40) 73 (shFQ73.args [.int m_0, .int m_1, .fls m_2]) [] c_ = GQ73 N SQ54 SQ52 SQ40 m_0 m_1 m_2 (fun r2 => c_ (.agg [.int .i64 m_1, .int .i64 m_0, .slw 0]) [⟨36, 1, .flts r2⟩]) := by kernel_rfl
theorem goodQ73 (N : Nat) (SQ54 : TSQ54) (SQ52 : TSQ52) (SQ40 : TSQ40) (hQ54 : GoodF Pg 123 (FQ54 SQ54)) (hQ52 : GoodF Pg 121 (FQ52 SQ52)) (hQ40 : GoodF Pg 124 (FQ40 SQ40)) : GoodF Pg 73 (FQ73 (GQ73 N SQ54 SQ52 SQ40)) := by
 refine good_fs (cx := ⟨Pg, ofList [(123, (FQ54 SQ54)), (121, (FQ52 SQ52)), (124, (FQ40 SQ40))], isref, N⟩) (os_zero (ofList_cons hQ54 (ofList_cons hQ52 (ofList_cons hQ40 (ofList_nil _)))) (by kernel_rfl)) shFQ73 (spQ73 (GQ73 N SQ54 SQ52 SQ40)) (anQ73 N SQ54 SQ52 SQ40) 2 0 (by kernel_rfl) (fun i_ hi_ => by
  match i_, hi_ with
  | 0, _ => exact ho_binnacleref17_Turn_0 _ _ _ _
  | 1, _ => exact ho_binnacleref17_Turn_2 _ _ _ _
  | (q + 2), h => omega) ?_
 intro a k h
 unfold spQ73 at h
 split at h
 ·exact ⟨[], rfl, rfl, (eqQ73 _ _ _ _ _ _ _ _).trans h⟩
 ·cases h
def anQ53 (N : Nat) (SQ64 : TSQ64) : Nat -> Option Ann := fun b_ => none
theorem eqQ53 (N : Nat) (SQ64 : TSQ64) (a b : Fl) (c_ : V -> List Blk -> Bool) : bodyV ⟨Pg, ofList [(162, (FQ64 SQ64))], isref, N⟩ (anQ53 N SQ64) 122 (shFQ53.args [.fl a, .fl b]) [] c_ = GQ53 N SQ64 a b (fun r0 => c_ (.bool r0) []) := by kernel_rfl
theorem goodQ53 (N : Nat) (SQ64 : TSQ64) (hQ64 : GoodF Pg 162 (FQ64 SQ64)) : GoodF Pg 122 (FQ53 (GQ53 N SQ64)) := by
 refine good_fs (cx := ⟨Pg, ofList [(162, (FQ64 SQ64))], isref, N⟩) (os_zero (ofList_cons hQ64 (ofList_nil _)) (by kernel_rfl)) shFQ53 (spQ53 (GQ53 N SQ64)) (anQ53 N SQ64) 0 0 (by kernel_rfl) (fun i_ hi_ => by omega) ?_
 intro a k h
 unfold spQ53 at h
 split at h
 ·exact ⟨[], rfl, rfl, (eqQ53 _ _ _ _ _).trans h⟩
 ·cases h
def sh_st_binnacleref09_Triangle_2 : StSh := ⟨(.any :: (.ptr 0 0 :: (.any :: (.any :: (.int .i64 :: (.int .i64 :: (sqs 36 []))))))), [some (31, 1, .cells [.int .i64, .int .i64, .rof])]⟩
def sx0_st_binnacleref09_Triangle_2 : StSh := ⟨(.any :: (.any :: (.int .i64 :: (sqs 39 [])))), []⟩
def sx1_st_binnacleref09_Triangle_2 : StSh := ⟨(.any :: (.ptr 0 0 :: (.any :: (.any :: (.int .i64 :: (sqs 37 [])))))), [some (31, 1, .cells [.int .i64, .int .i64, .rof])]⟩
def hk_st_binnacleref09_Triangle_2 (N : Nat) (SQ39 : TSQ39) (SQ52 : TSQ52) (SQ53 : TSQ53) : List Atom -> K -> Bool := fun a_ κ => match a_ with
 | [.int i_1, .int j, .int m_5, .int m_6, .fls m_7] => iterG N (stQ103 N SQ39 SQ52 SQ53 i_1 m_5 m_6 m_7 (fun r0 => κ.ret (sx0_st_binnacleref09_Triangle_2.build [.int r0])) (κ.ext 2 (sx1_st_binnacleref09_Triangle_2.build [.int i_1, .int m_5, .int m_6, .fls m_7]))) j
 | _ => false
def sh_st_binnacleref09_Triangle_0 : StSh := ⟨(.any :: (.ptr 0 0 :: (.any :: (.any :: (.int .i64 :: (sqs 37 [])))))), [some (31, 1, .cells [.int .i64, .int .i64, .rof])]⟩
def sx0_st_binnacleref09_Triangle_0 : StSh := ⟨(.any :: (.any :: (.int .i64 :: (sqs 39 [])))), []⟩
def sx1_st_binnacleref09_Triangle_0 : StSh := ⟨(sqs 42 []), []⟩
def hk_st_binnacleref09_Triangle_0 (N : Nat) (SQ39 : TSQ39) (SQ52 : TSQ52) (SQ53 : TSQ53) : List Atom -> K -> Bool := fun a_ κ => match a_ with
 | [.int i, .int m, .int m_3, .fls m_4] => iterG N (stQ107 N SQ39 SQ52 SQ53 m m_3 m_4 (fun r0 => κ.ret (sx0_st_binnacleref09_Triangle_0.build [.int r0])) (κ.ext 0 (sx1_st_binnacleref09_Triangle_0.build []))) i
 | _ => false
def anQ46 (N : Nat) (SQ39 : TSQ39) (SQ52 : TSQ52) (SQ53 : TSQ53) : Nat -> Option Ann := fun b_ => cond (b_ == 2) (some ⟨⟨[1, 4, 5], [], [], []⟩, [(2, ⟨[1, 4], [], [], []⟩)], some ⟨[2], [], [], []⟩, some (mkHooks [(sh_st_binnacleref09_Triangle_2, hk_st_binnacleref09_Triangle_2 N SQ39 SQ52 SQ53)])⟩) (cond (b_ == 0) (some ⟨⟨[1, 4], [], [], []⟩, [(0, ⟨[], [], [], []⟩)], some ⟨[2], [], [], []⟩, some (mkHooks [(sh_st_binnacleref09_Triangle_0, hk_st_binnacleref09_Triangle_0 N SQ39 SQ52 SQ53)])⟩) (none))
theorem eq_st_binnacleref09_Triangle_2 (N : Nat) (SQ39 : TSQ39) (SQ52 : TSQ52) (SQ53 : TSQ53) (κ : K) (i_1 j m_5 m_6 : Int) (m_7 : List Fl) : iter N (fun s k => codeV ⟨Pg, ofList [(119, (FQ39 SQ39)), (121, (FQ52 SQ52)), (122, (FQ53 SQ53))], isref, N⟩ 0 (anQ46 N SQ39 SQ52 SQ53) (lp Pg 72 1).2 (lp Pg 72 1).1 s (roundK Pg 0 ((anQ46 N SQ39 SQ52 SQ53) (lp Pg 72 1).1) κ k)) (sh_st_binnacleref09_Triangle_2.build [.int i_1, .int j, .int m_5, .int m_6, .fls m_7]) = iterG N (stQ103 N SQ39 SQ52 SQ53 i_1 m_5 m_6 m_7 (fun r0 => κ.ret (sx0_st_binnacleref09_Triangle_2.build [.int r0])) (κ.ext 2 (sx1_st_binnacleref09_Triangle_2.build [.int i_1, .int m_5, .int m_6, .fls m_7]))) j :=
 iter_tr (fun v_ => sh_st_binnacleref09_Triangle_2.build [.int i_1, .int v_, .int m_5, .int m_6, .fls m_7]) (fun v_ K_ => by kernel_rfl) N j
theorem hk1_st_binnacleref09_Triangle_2 (N : Nat) (SQ39 : TSQ39) (SQ52 : TSQ52) (SQ53 : TSQ53) : HookFor ⟨Pg, ofList [(119, (FQ39 SQ39)), (121, (FQ52 SQ52)), (122, (FQ53 SQ53))], isref, N⟩ 0 (anQ46 N SQ39 SQ52 SQ53) (lp Pg 72 1) (sh_st_binnacleref09_Triangle_2, hk_st_binnacleref09_Triangle_2 N SQ39 SQ52 SQ53) := by
 intro a κ h
 simp only at h
 unfold hk_st_binnacleref09_Triangle_2 at h
 split at h
 ·exact (eq_st_binnacleref09_Triangle_2 _ _ _ _ _ _ _ _ _ _).trans h
 ·cases h
theorem eq_st_binnacleref09_Triangle_0 (N : Nat) (SQ39 : TSQ39) (SQ52 : TSQ52) (SQ53 : TSQ53) (κ : K) (i m m_3 : Int) (m_4 : List Fl) : iter N (fun s k => codeV ⟨Pg, ofList [(119, (FQ39 SQ39)), (121, (FQ52 SQ52)), (122, (FQ53 SQ53))], isref, N⟩ 0 (anQ46 N SQ39 SQ52 SQ53) (lp Pg 72 0).2 (lp Pg 72 0).1 s (roundK Pg 0 ((anQ46 N SQ39 SQ52 SQ53) (lp Pg 72 0).1) κ k)) (sh_st_binnacleref09_Triangle_0.build [.int i, .int m, .int m_3, .fls m_4]) = iterG N (stQ107 N SQ39 SQ52 SQ53 m m_3 m_4 (fun r0 => κ.ret (sx0_st_binnacleref09_Triangle_0.build [.int r0])) (κ.ext 0 (sx1_st_binnacleref09_Triangle_0.build []))) i :=
 iter_tr (fun v_ => sh_st_binnacleref09_Triangle_0.build [.int v_, .int m, .int m_3, .fls m_4]) (fun v_ K_ => by kernel_rfl) N i
theorem hk1_st_binnacleref09_Triangle_0 (N : Nat) (SQ39 : TSQ39) (SQ52 : TSQ52) (SQ53 : TSQ53) : HookFor ⟨Pg, ofList [(119, (FQ39 SQ39)), (121, (FQ52 SQ52)), (122, (FQ53 SQ53))], isref, N⟩ 0 (anQ46 N SQ39 SQ52 SQ53) (lp Pg 72 0) (sh_st_binnacleref09_Triangle_0, hk_st_binnacleref09_Triangle_0 N SQ39 SQ52 SQ53) := by
 intro a κ h
 simp only at h
 unfold hk_st_binnacleref09_Triangle_0 at h
 split at h
 ·exact (eq_st_binnacleref09_Triangle_0 _ _ _ _ _ _ _ _ _).trans h
 ·cases h
theorem ho_binnacleref09_Triangle_2 (N : Nat) (SQ39 : TSQ39) (SQ52 : TSQ52) (SQ53 : TSQ53) : HookOk ⟨Pg, ofList [(119, (FQ39 SQ39)), (121, (FQ52 SQ52)), (122, (FQ53 SQ53))], isref, N⟩ 0 (anQ46 N SQ39 SQ52 SQ53) (lp Pg 72 1) :=
 hooks_ok [(sh_st_binnacleref09_Triangle_2, hk_st_binnacleref09_Triangle_2 N SQ39 SQ52 SQ53)] (by kernel_rfl) ⟨hk1_st_binnacleref09_Triangle_2 _ _ _ _, trivial⟩
theorem ho_binnacleref09_Triangle_0 (N : Nat) (SQ39 : TSQ39) (SQ52 : TSQ52) (SQ53 : TSQ53) : HookOk ⟨Pg, ofList [(119, (FQ39 SQ39)), (121, (FQ52 SQ52)), (122, (FQ53 SQ53))], isref, N⟩ 0 (anQ46 N SQ39 SQ52 SQ53) (lp Pg 72 0) :=
 hooks_ok [(sh_st_binnacleref09_Triangle_0, hk_st_binnacleref09_Triangle_0 N SQ39 SQ52 SQ53)] (by kernel_rfl) ⟨hk1_st_binnacleref09_Triangle_0 _ _ _ _, trivial⟩
theorem eqQ46 (N : Nat) (SQ39 : TSQ39) (SQ52 : TSQ52) (SQ53 : TSQ53) (m_0 m_1 : Int) (m_2 : List Fl) (c_ : V -> List Blk -> Bool) : bodyV ⟨Pg, ofList [(119, (FQ39 SQ39)), (121, (FQ52 SQ52)), (122, (FQ53 SQ53))], isref, N⟩ (anQ46 N SQ39 SQ52 SQ53) 72 (shFQ46.args [.int m_0, .int m_1, .fls m_2]) [] c_ = GQ46 N SQ39 SQ52 SQ53 m_0 m_1 m_2 (fun r0 => c_ (.int .i64 r0) []) := by kernel_rfl
theorem goodQ46 (N : Nat) (SQ39 : TSQ39) (SQ52 : TSQ52) (SQ53 : TSQ53) (hQ39 : GoodF Pg 119 (FQ39 SQ39)) (hQ52 : GoodF Pg 121 (FQ52 SQ52)) (hQ53 : GoodF Pg 122 (FQ53 SQ53)) : GoodF Pg 72 (FQ46 (GQ46 N SQ39 SQ52 SQ53)) := by
 refine good_fs (cx := ⟨Pg, ofList [(119, (FQ39 SQ39)), (121, (FQ52 SQ52)), (122, (FQ53 SQ53))], isref, N⟩) (os_zero (ofList_cons hQ39 (ofList_cons hQ52 (ofList_cons hQ53 (ofList_nil _)))) (by kernel_rfl)) shFQ46 (spQ46 (GQ46 N SQ39 SQ52 SQ53)) (anQ46 N SQ39 SQ52 SQ53) 2 0 (by kernel_rfl) (fun i_ hi_ => by
  match i_, hi_ with
  | 0, _ => exact ho_binnacleref09_Triangle_0 _ _ _ _
  | 1, _ => exact ho_binnacleref09_Triangle_2 _ _ _ _
  | (q + 2), h => omega) ?_
 intro a k h
 unfold spQ46 at h
 split at h
 ·exact ⟨[], rfl, rfl, (eqQ46 _ _ _ _ _ _ _ _).trans h⟩
 ·cases h
def anQ8 (N : Nat) (SQ79 : TSQ79) (SQ26 : TSQ26) (SQ73 : TSQ73) (SQ46 : TSQ46) : Nat -> Option Ann := fun b_ => none
theorem eqQ8 (N : Nat) (SQ79 : TSQ79) (SQ26 : TSQ26) (SQ73 : TSQ73) (SQ46 : TSQ46) (a_0 a_1 : Int) (a_2 a_3 : List Fl) (c_ : V -> List Blk -> Bool) : bodyV ⟨Pg, ofList [(70, (FQ79 SQ79)), (71, (FQ26 SQ26)), (73, (FQ73 SQ73)), (72, (FQ46 SQ46))], isref, N⟩ (anQ8 N SQ79 SQ26 SQ73 SQ46) 24 (shFQ8.args [.int a_0, .int a_1, .fls a_2, .fls a_3]) [] c_ = GQ8 N SQ79 SQ26 SQ73 SQ46 a_0 a_1 a_2 a_3 (fun r0 => c_ (.int .i64 r0) []) := by kernel_rfl
theorem goodQ8 (N : Nat) (SQ79 : TSQ79) (SQ26 : TSQ26) (SQ73 : TSQ73) (SQ46 : TSQ46) (hQ79 : GoodF Pg 70 (FQ79 SQ79)) (hQ26 : GoodF Pg 71 (FQ26 SQ26)) (hQ73 : GoodF Pg 73 (FQ73 SQ73)) (hQ46 : GoodF Pg 72 (FQ46 SQ46)) : GoodF Pg 24 (FQ8 (GQ8 N SQ79 SQ26 SQ73 SQ46)) := by
 refine good_fs (cx := ⟨Pg, ofList [(70, (FQ79 SQ79)), (71, (FQ26 SQ26)), (73, (FQ73 SQ73)), (72, (FQ46 SQ46))], isref, N⟩) (os_zero (ofList_cons hQ79 (ofList_cons hQ26 (ofList_cons hQ73 (ofList_cons hQ46 (ofList_nil _))))) (by kernel_rfl)) shFQ8 (spQ8 (GQ8 N SQ79 SQ26 SQ73 SQ46)) (anQ8 N SQ79 SQ26 SQ73 SQ46) 0 0 (by kernel_rfl) (fun i_ hi_ => by omega) ?_
 intro a k h
 unfold spQ8 at h
 split at h
 ·exact ⟨[], rfl, rfl, (eqQ8 _ _ _ _ _ _ _ _ _ _).trans h⟩
 ·cases h
def anQ7 (N : Nat) (SQ37 : TSQ37) : Nat -> Option Ann := fun b_ => none
theorem eqQ7 (N : Nat) (SQ37 : TSQ37) (b : Int) (c_ : V -> List Blk -> Bool) : bodyV ⟨Pg, ofList [(43, (FQ37 SQ37))], isref, N⟩ (anQ7 N SQ37) 27 (shFQ7.args [.int b]) [] c_ = GQ7 N SQ37 b (fun r0 => c_ (.flt r0) []) := by kernel_rfl
theorem goodQ7 (N : Nat) (SQ37 : TSQ37) (hQ37 : GoodF Pg 43 (FQ37 SQ37)) : GoodF Pg 27 (FQ7 (GQ7 N SQ37)) := by
 refine good_fs (cx := ⟨Pg, ofList [(43, (FQ37 SQ37))], isref, N⟩) (os_zero (ofList_cons hQ37 (ofList_nil _)) (by kernel_rfl)) shFQ7 (spQ7 (GQ7 N SQ37)) (anQ7 N SQ37) 0 0 (by kernel_rfl) (fun i_ hi_ => by omega) ?_
 intro a k h
 unfold spQ7 at h
 split at h
 ·exact ⟨[], rfl, rfl, (eqQ7 _ _ _ _).trans h⟩
 ·cases h
def anQ59 (N : Nat) : Nat -> Option Ann := fun b_ => none
theorem eqQ59 (N : Nat) (n : Int) (c_ : V -> List Blk -> Bool) : bodyV ⟨Pg, ofList [], isref, N⟩ (anQ59 N) 143 (shFQ59.args [.int n]) [] c_ = GQ59 N n (fun r0 => c_ (.bool r0) []) := by kernel_rfl
theorem goodQ59 (N : Nat) : GoodF Pg 143 (FQ59 (GQ59 N)) := by
 refine good_fs (cx := ⟨Pg, ofList [], isref, N⟩) (os_zero (ofList_nil _) (by kernel_rfl)) shFQ59 (spQ59 (GQ59 N)) (anQ59 N) 0 0 (by kernel_rfl) (fun i_ hi_ => by omega) ?_
 intro a k h
 unfold spQ59 at h
 split at h
 ·exact ⟨[], rfl, rfl, (eqQ59 _ _ _).trans h⟩
 ·cases h
def sh_st_anatomy_Finite_0 : StSh := ⟨(sqs 6 (.rof :: (.int .i64 :: (.int .i64 :: (sqs 12 []))))), []⟩
def sx0_st_anatomy_Finite_0 : StSh := ⟨(.any :: (.any :: (.bool :: (sqs 18 [])))), []⟩
def sx1_st_anatomy_Finite_0 : StSh := ⟨(sqs 21 []), []⟩
def hk_st_anatomy_Finite_0 (N : Nat) (SQ69 : TSQ69) : List Atom -> K -> Bool := fun a_ κ => match a_ with
 | [.fls t6, .int t7, .int t8] => iterG N (st_an_Finite_0 N SQ69 t6 t7 (fun r0 => κ.ret (sx0_st_anatomy_Finite_0.build [.bool r0])) (κ.ext 0 (sx1_st_anatomy_Finite_0.build []))) t8
 | _ => false
def anQ24 (N : Nat) (SQ69 : TSQ69) : Nat -> Option Ann := fun b_ => cond (b_ == 0) (some ⟨⟨[6, 7, 8], [], [], []⟩, [(0, ⟨[], [], [], []⟩)], some ⟨[2], [], [], []⟩, some (mkHooks [(sh_st_anatomy_Finite_0, hk_st_anatomy_Finite_0 N SQ69)])⟩) (none)
theorem eq_st_anatomy_Finite_0 (N : Nat) (SQ69 : TSQ69) (κ : K) (t6 : List Fl) (t7 t8 : Int) : iter N (fun s k => codeV ⟨Pg, ofList [(140, (FQ69 SQ69))], isref, N⟩ 0 (anQ24 N SQ69) (lp Pg 94 0).2 (lp Pg 94 0).1 s (roundK Pg 0 ((anQ24 N SQ69) (lp Pg 94 0).1) κ k)) (sh_st_anatomy_Finite_0.build [.fls t6, .int t7, .int t8]) = iterG N (st_an_Finite_0 N SQ69 t6 t7 (fun r0 => κ.ret (sx0_st_anatomy_Finite_0.build [.bool r0])) (κ.ext 0 (sx1_st_anatomy_Finite_0.build []))) t8 :=
 iter_tr (fun v_ => sh_st_anatomy_Finite_0.build [.fls t6, .int t7, .int v_]) (fun v_ K_ => by kernel_rfl) N t8
theorem hk1_st_anatomy_Finite_0 (N : Nat) (SQ69 : TSQ69) : HookFor ⟨Pg, ofList [(140, (FQ69 SQ69))], isref, N⟩ 0 (anQ24 N SQ69) (lp Pg 94 0) (sh_st_anatomy_Finite_0, hk_st_anatomy_Finite_0 N SQ69) := by
 intro a κ h
 simp only at h
 unfold hk_st_anatomy_Finite_0 at h
 split at h
 ·exact (eq_st_anatomy_Finite_0 _ _ _ _ _ _).trans h
 ·cases h
theorem ho_anatomy_Finite_0 (N : Nat) (SQ69 : TSQ69) : HookOk ⟨Pg, ofList [(140, (FQ69 SQ69))], isref, N⟩ 0 (anQ24 N SQ69) (lp Pg 94 0) :=
 hooks_ok [(sh_st_anatomy_Finite_0, hk_st_anatomy_Finite_0 N SQ69)] (by kernel_rfl) ⟨hk1_st_anatomy_Finite_0 _ _, trivial⟩
theorem eqQ24 (N : Nat) (SQ69 : TSQ69) (l : List Fl) (c_ : V -> List Blk -> Bool) : bodyV ⟨Pg, ofList [(140, (FQ69 SQ69))], isref, N⟩ (anQ24 N SQ69) 94 (shFQ24.args [.fls l]) [] c_ = GQ24 N SQ69 l (fun r0 => c_ (.bool r0) []) := by kernel_rfl
theorem goodQ24 (N : Nat) (SQ69 : TSQ69) (hQ69 : GoodF Pg 140 (FQ69 SQ69)) : GoodF Pg 94 (FQ24 (GQ24 N SQ69)) := by
 refine good_fs (cx := ⟨Pg, ofList [(140, (FQ69 SQ69))], isref, N⟩) (os_zero (ofList_cons hQ69 (ofList_nil _)) (by kernel_rfl)) shFQ24 (spQ24 (GQ24 N SQ69)) (anQ24 N SQ69) 1 0 (by kernel_rfl) (fun i_ hi_ => by
  match i_, hi_ with
  | 0, _ => exact ho_anatomy_Finite_0 _ _
  | (q + 1), h => omega) ?_
 intro a k h
 unfold spQ24 at h
 split at h
 ·exact ⟨[], rfl, rfl, (eqQ24 _ _ _ _).trans h⟩
 ·cases h
def anQ20 (N : Nat) (SQ59 : TSQ59) (SQ24 : TSQ24) : Nat -> Option Ann := fun b_ => none
theorem eqQ20 (N : Nat) (SQ59 : TSQ59) (SQ24 : TSQ24) (m_0 m_1 : Int) (m_2 : List Fl) (c_ : V -> List Blk -> Bool) : bodyV ⟨Pg, ofList [(143, (FQ59 SQ59)), (94, (FQ24 SQ24))], isref, N⟩ (anQ20 N SQ59 SQ24) 97 (shFQ20.args [.int m_0, .int m_1, .fls m_2]) [] c_ = GQ20 N SQ59 SQ24 m_0 m_1 m_2 (fun r0 => c_ (.int .i64 r0) []) := by kernel_rfl
theorem goodQ20 (N : Nat) (SQ59 : TSQ59) (SQ24 : TSQ24) (hQ59 : GoodF Pg 143 (FQ59 SQ59)) (hQ24 : GoodF Pg 94 (FQ24 SQ24)) : GoodF Pg 97 (FQ20 (GQ20 N SQ59 SQ24)) := by
 refine good_fs (cx := ⟨Pg, ofList [(143, (FQ59 SQ59)), (94, (FQ24 SQ24))], isref, N⟩) (os_zero (ofList_cons hQ59 (ofList_cons hQ24 (ofList_nil _))) (by kernel_rfl)) shFQ20 (spQ20 (GQ20 N SQ59 SQ24)) (anQ20 N SQ59 SQ24) 0 0 (by kernel_rfl) (fun i_ hi_ => by omega) ?_
 intro a k h
 unfold spQ20 at h
 split at h
 ·exact ⟨[], rfl, rfl, (eqQ20 _ _ _ _ _ _ _).trans h⟩
 ·cases h
def sh_st_info_CheckRoot_3 : StSh := ⟨(.any :: (.ptr 0 0 :: (.any :: (.any :: (.int .i64 :: (.int .i64 :: (sqs 28 (.int .i64 :: (.int .i64 :: (sqs 14 (.int .i64 :: (.int .i64 :: (sqs 16 []))))))))))))), [some (67, 1, .cells [.int .i64, .int .i64, .rof, .rof])]⟩
def sx0_st_info_CheckRoot_3 : StSh := ⟨(.any :: (.any :: (.int .i64 :: (sqs 65 [])))), []⟩
def sx1_st_info_CheckRoot_3 : StSh := ⟨(.any :: (.ptr 0 0 :: (.any :: (.any :: (.int .i64 :: (sqs 29 (.int .i64 :: (.int .i64 :: (sqs 32 []))))))))), [some (67, 1, .cells [.int .i64, .int .i64, .rof, .rof])]⟩
def hk_st_info_CheckRoot_3 (N : Nat) (SQ20 : TSQ20) (SQ24 : TSQ24) (SQ13 : TSQ13) : List Atom -> K -> Bool := fun a_ κ => match a_ with
 | [.int n_1, .int i, .int t34_1, .int t35_1, .int t50, .int t51, .int a_7, .int a_8, .fls a_9, .fls a_10] => iterG N (st_info_CheckRoot_3 N SQ20 SQ24 SQ13 n_1 i t34_1 t35_1 t50 a_7 a_8 a_9 a_10 (fun r0 => κ.ret (sx0_st_info_CheckRoot_3.build [.int r0])) (κ.ext 3 (sx1_st_info_CheckRoot_3.build [.int n_1, .int t34_1, .int t35_1, .int a_7, .int a_8, .fls a_9, .fls a_10]))) t51
 | _ => false
def sh_st_info_CheckRoot_1 : StSh := ⟨(.any :: (.ptr 0 0 :: (.any :: (.any :: (.int .i64 :: (sqs 29 (.int .i64 :: (.int .i64 :: (sqs 32 []))))))))), [some (67, 1, .cells [.int .i64, .int .i64, .rof, .rof])]⟩
def sx0_st_info_CheckRoot_1 : StSh := ⟨(.any :: (.any :: (.int .i64 :: (sqs 65 [])))), []⟩
def sx1_st_info_CheckRoot_1 : StSh := ⟨(sqs 68 []), []⟩
def hk_st_info_CheckRoot_1 (N : Nat) (SQ20 : TSQ20) (SQ24 : TSQ24) (SQ13 : TSQ13) : List Atom -> K -> Bool := fun a_ κ => match a_ with
 | [.int n, .int t34, .int t35, .int a, .int a_4, .fls a_5, .fls a_6] => iterG N (st_info_CheckRoot_1 N SQ20 SQ24 SQ13 n t34 a a_4 a_5 a_6 (fun r0 => κ.ret (sx0_st_info_CheckRoot_1.build [.int r0])) (κ.ext 1 (sx1_st_info_CheckRoot_1.build []))) t35
 | _ => false
def an_info_CheckRoot (N : Nat) (SQ20 : TSQ20) (SQ24 : TSQ24) (SQ13 : TSQ13) : Nat -> Option Ann := fun b_ => cond (b_ == 3) (some ⟨⟨[1, 4, 5, 34, 35, 50, 51], [], [], []⟩, [(3, ⟨[1, 4, 34, 35], [], [], []⟩)], some ⟨[2], [], [], []⟩, some (mkHooks [(sh_st_info_CheckRoot_3, hk_st_info_CheckRoot_3 N SQ20 SQ24 SQ13)])⟩) (cond (b_ == 1) (some ⟨⟨[1, 4, 34, 35], [], [], []⟩, [(1, ⟨[], [], [], []⟩)], some ⟨[2], [], [], []⟩, some (mkHooks [(sh_st_info_CheckRoot_1, hk_st_info_CheckRoot_1 N SQ20 SQ24 SQ13)])⟩) (none))
theorem eq_st_info_CheckRoot_3 (N : Nat) (SQ20 : TSQ20) (SQ24 : TSQ24) (SQ13 : TSQ13) (κ : K) (n_1 i t34_1 t35_1 t50 t51 a_7 a_8 : Int) (a_9 a_10 : List Fl) : iter N (fun s k => codeV ⟨Pg, ofList [(97, (FQ20 SQ20)), (94, (FQ24 SQ24)), (29, (FQ13 SQ13))], isref, N⟩ 0 (an_info_CheckRoot N SQ20 SQ24 SQ13) (lp Pg 77 1).2 (lp Pg 77 1).1 s (roundK Pg 0 ((an_info_CheckRoot N SQ20 SQ24 SQ13) (lp Pg 77 1).1) κ k)) (sh_st_info_CheckRoot_3.build [.int n_1, .int i, .int t34_1, .int t35_1, .int t50, .int t51, .int a_7, .int a_8, .fls a_9, .fls a_10]) = iterG N (st_info_CheckRoot_3 N SQ20 SQ24 SQ13 n_1 i t34_1 t35_1 t50 a_7 a_8 a_9 a_10 (fun r0 => κ.ret (sx0_st_info_CheckRoot_3.build [.int r0])) (κ.ext 3 (sx1_st_info_CheckRoot_3.build [.int n_1, .int t34_1, .int t35_1, .int a_7, .int a_8, .fls a_9, .fls a_10]))) t51 :=
 iter_tr (fun v_ => sh_st_info_CheckRoot_3.build [.int n_1, .int i, .int t34_1, .int t35_1, .int t50, .int v_, .int a_7, .int a_8, .fls a_9, .fls a_10]) (fun v_ K_ => by kernel_rfl) N t51
theorem hk1_st_info_CheckRoot_3 (N : Nat) (SQ20 : TSQ20) (SQ24 : TSQ24) (SQ13 : TSQ13) : HookFor ⟨Pg, ofList [(97, (FQ20 SQ20)), (94, (FQ24 SQ24)), (29, (FQ13 SQ13))], isref, N⟩ 0 (an_info_CheckRoot N SQ20 SQ24 SQ13) (lp Pg 77 1) (sh_st_info_CheckRoot_3, hk_st_info_CheckRoot_3 N SQ20 SQ24 SQ13) := by
 intro a κ h
 simp only at h
 unfold hk_st_info_CheckRoot_3 at h
 split at h
 ·exact (eq_st_info_CheckRoot_3 _ _ _ _ _ _ _ _ _ _ _ _ _ _ _).trans h
 ·cases h
theorem eq_st_info_CheckRoot_1 (N : Nat) (SQ20 : TSQ20) (SQ24 : TSQ24) (SQ13 : TSQ13) (κ : K) (n t34 t35 a a_4 : Int) (a_5 a_6 : List Fl) : iter N (fun s k => codeV ⟨Pg, ofList [(97, (FQ20 SQ20)), (94, (FQ24 SQ24)), (29, (FQ13 SQ13))], isref, N⟩ 0 (an_info_CheckRoot N SQ20 SQ24 SQ13) (lp Pg 77 0).2 (lp Pg 77 0).1 s (roundK Pg 0 ((an_info_CheckRoot N SQ20 SQ24 SQ13) (lp Pg 77 0).1) κ k)) (sh_st_info_CheckRoot_1.build [.int n, .int t34, .int t35, .int a, .int a_4, .fls a_5, .fls a_6]) = iterG N (st_info_CheckRoot_1 N SQ20 SQ24 SQ13 n t34 a a_4 a_5 a_6 (fun r0 => κ.ret (sx0_st_info_CheckRoot_1.build [.int r0])) (κ.ext 1 (sx1_st_info_CheckRoot_1.build []))) t35 :=
 iter_tr (fun v_ => sh_st_info_CheckRoot_1.build [.int n, .int t34, .int v_, .int a, .int a_4, .fls a_5, .fls a_6]) (fun v_ K_ => by kernel_rfl) N t35
theorem hk1_st_info_CheckRoot_1 (N : Nat) (SQ20 : TSQ20) (SQ24 : TSQ24) (SQ13 : TSQ13) : HookFor ⟨Pg, ofList [(97, (FQ20 SQ20)), (94, (FQ24 SQ24)), (29, (FQ13 SQ13))], isref, N⟩ 0 (an_info_CheckRoot N SQ20 SQ24 SQ13) (lp Pg 77 0) (sh_st_info_CheckRoot_1, hk_st_info_CheckRoot_1 N SQ20 SQ24 SQ13) := by
 intro a κ h
 simp only at h
 unfold hk_st_info_CheckRoot_1 at h
 split at h
 ·exact (eq_st_info_CheckRoot_1 _ _ _ _ _ _ _ _ _ _ _ _).trans h
 ·cases h
theorem ho_info_CheckRoot_3 (N : Nat) (SQ20 : TSQ20) (SQ24 : TSQ24) (SQ13 : TSQ13) : HookOk ⟨Pg, ofList [(97, (FQ20 SQ20)), (94, (FQ24 SQ24)), (29, (FQ13 SQ13))], isref, N⟩ 0 (an_info_CheckRoot N SQ20 SQ24 SQ13) (lp Pg 77 1) :=
 hooks_ok [(sh_st_info_CheckRoot_3, hk_st_info_CheckRoot_3 N SQ20 SQ24 SQ13)] (by kernel_rfl) ⟨hk1_st_info_CheckRoot_3 _ _ _ _, trivial⟩
theorem ho_info_CheckRoot_1 (N : Nat) (SQ20 : TSQ20) (SQ24 : TSQ24) (SQ13 : TSQ13) : HookOk ⟨Pg, ofList [(97, (FQ20 SQ20)), (94, (FQ24 SQ24)), (29, (FQ13 SQ13))], isref, N⟩ 0 (an_info_CheckRoot N SQ20 SQ24 SQ13) (lp Pg 77 0) :=
 hooks_ok [(sh_st_info_CheckRoot_1, hk_st_info_CheckRoot_1 N SQ20 SQ24 SQ13)] (by kernel_rfl) ⟨hk1_st_info_CheckRoot_1 _ _ _ _, trivial⟩
theorem eq_info_CheckRoot (N : Nat) (SQ20 : TSQ20) (SQ24 : TSQ24) (SQ13 : TSQ13) (a_0 a_1 : Int) (a_2 a_3 : List Fl) (c_ : V -> List Blk -> Bool) : bodyV ⟨Pg, ofList [(97, (FQ20 SQ20)), (94, (FQ24 SQ24)), (29, (FQ13 SQ13))], isref, N⟩ (an_info_CheckRoot N SQ20 SQ24 SQ13) 77 (shF_info_CheckRoot.args [.int a_0, .int a_1, .fls a_2, .fls a_3]) [] c_ = G_info_CheckRoot N SQ20 SQ24 SQ13 a_0 a_1 a_2 a_3 (fun r0 => c_ (.int .i64 r0) []) := by kernel_rfl
theorem good_info_CheckRoot (N : Nat) (SQ20 : TSQ20) (SQ24 : TSQ24) (SQ13 : TSQ13) (hQ20 : GoodF Pg 97 (FQ20 SQ20)) (hQ24 : GoodF Pg 94 (FQ24 SQ24)) (hQ13 : GoodF Pg 29 (FQ13 SQ13)) : GoodF Pg 77 (F_info_CheckRoot (G_info_CheckRoot N SQ20 SQ24 SQ13)) := by
 refine good_fs (cx := ⟨Pg, ofList [(97, (FQ20 SQ20)), (94, (FQ24 SQ24)), (29, (FQ13 SQ13))], isref, N⟩) (os_zero (ofList_cons hQ20 (ofList_cons hQ24 (ofList_cons hQ13 (ofList_nil _)))) (by kernel_rfl)) shF_info_CheckRoot (sp_info_CheckRoot (G_info_CheckRoot N SQ20 SQ24 SQ13)) (an_info_CheckRoot N SQ20 SQ24 SQ13) 2 0 (by kernel_rfl) (fun i_ hi_ => by
  match i_, hi_ with
  | 0, _ => exact ho_info_CheckRoot_1 _ _ _ _
  | 1, _ => exact ho_info_CheckRoot_3 _ _ _ _
  | (q + 2), h => omega) ?_
 intro a k h
 unfold sp_info_CheckRoot at h
 split at h
 ·exact ⟨[], rfl, rfl, (eq_info_CheckRoot _ _ _ _ _ _ _ _ _).trans h⟩
 ·cases h
def an_info_line (N : Nat) (SQ24 : TSQ24) : Nat -> Option Ann := fun b_ => none
theorem eq_info_line (N : Nat) (SQ24 : TSQ24) (n : Int) (h : List Fl) (r z : Fl) (c_ : V -> List Blk -> Bool) : bodyV ⟨Pg, ofList [(94, (FQ24 SQ24))], isref, N⟩ (an_info_line N SQ24) 78 (shF_info_line.args [.int n, .fls h, .fl r, .fl z]) [] c_ = G_info_line N SQ24 n h r z (fun r0 => c_ (.int .i64 r0) []) := by kernel_rfl
theorem good_info_line (N : Nat) (SQ24 : TSQ24) (hQ24 : GoodF Pg 94 (FQ24 SQ24)) : GoodF Pg 78 (F_info_line (G_info_line N SQ24)) := by
 refine good_fs (cx := ⟨Pg, ofList [(94, (FQ24 SQ24))], isref, N⟩) (os_zero (ofList_cons hQ24 (ofList_nil _)) (by kernel_rfl)) shF_info_line (sp_info_line (G_info_line N SQ24)) (an_info_line N SQ24) 0 0 (by kernel_rfl) (fun i_ hi_ => by omega) ?_
 intro a k h
 unfold sp_info_line at h
 split at h
 ·exact ⟨[], rfl, rfl, (eq_info_line _ _ _ _ _ _ _).trans h⟩
 ·cases h
def anQ17 (N : Nat) (SQ98 : TSQ98) : Nat -> Option Ann := fun b_ => none
theorem eqQ17 (N : Nat) (SQ98 : TSQ98) (x : Fl) (c_ : V -> List Blk -> Bool) : bodyV ⟨Pg, ofList [(85, (FQ98 SQ98))], isref, N⟩ (anQ17 N SQ98) 30 (shFQ17.args [.fl x]) [] c_ = GQ17 N SQ98 x (fun r0 => c_ (.flt r0) []) := by kernel_rfl
theorem goodQ17 (N : Nat) (SQ98 : TSQ98) (hQ98 : GoodF Pg 85 (FQ98 SQ98)) : GoodF Pg 30 (FQ17 (GQ17 N SQ98)) := by
 refine good_fs (cx := ⟨Pg, ofList [(85, (FQ98 SQ98))], isref, N⟩) (os_zero (ofList_cons hQ98 (ofList_nil _)) (by kernel_rfl)) shFQ17 (spQ17 (GQ17 N SQ98)) (anQ17 N SQ98) 0 0 (by kernel_rfl) (fun i_ hi_ => by omega) ?_
 intro a k h
 unfold spQ17 at h
 split at h
 ·exact ⟨[], rfl, rfl, (eqQ17 _ _ _ _).trans h⟩
 ·cases h
def anQ63 (N : Nat) (S_m_Abs : TS_m_Abs) : Nat -> Option Ann := fun b_ => none
theorem eqQ63 (N : Nat) (S_m_Abs : TS_m_Abs) (f : Fl) (sign : Int) (c_ : V -> List Blk -> Bool) : bodyV ⟨Pg, ofList [(51, (F_m_Abs S_m_Abs))], isref, N⟩ (anQ63 N S_m_Abs) 132 (shFQ63.args [.fl f, .int sign]) [] c_ = GQ63 N S_m_Abs f sign (fun r0 => c_ (.bool r0) []) := by kernel_rfl
theorem goodQ63 (N : Nat) (S_m_Abs : TS_m_Abs) (h_m_Abs : GoodF Pg 51 (F_m_Abs S_m_Abs)) : GoodF Pg 132 (FQ63 (GQ63 N S_m_Abs)) := by
 refine good_fs (cx := ⟨Pg, ofList [(51, (F_m_Abs S_m_Abs))], isref, N⟩) (os_zero (ofList_cons h_m_Abs (ofList_nil _)) (by kernel_rfl)) shFQ63 (spQ63 (GQ63 N S_m_Abs)) (anQ63 N S_m_Abs) 0 0 (by kernel_rfl) (fun i_ hi_ => by omega) ?_
 intro a k h
 unfold spQ63 at h
 split at h
 ·exact ⟨[], rfl, rfl, (eqQ63 _ _ _ _ _).trans h⟩
 ·cases h
def anQ25 (N : Nat) (SQ63 : TSQ63) : Nat -> Option Ann := fun b_ => none
theorem eqQ25 (N : Nat) (SQ63 : TSQ63) (x : Fl) (b : Bool) (c_ : V -> List Blk -> Bool) : bodyV ⟨Pg, ofList [(132, (FQ63 SQ63))], isref, N⟩ (anQ25 N SQ63) 80 (shFQ25.args [.fl x, .bool b]) [⟨132, 1, .cells [.bool b]⟩] c_ = GQ25 N SQ63 x b (fun r1 => c_ (.flt x) [⟨132, 1, .cells [.bool r1]⟩]) := by kernel_rfl
theorem goodQ25 (N : Nat) (SQ63 : TSQ63) (hQ63 : GoodF Pg 132 (FQ63 SQ63)) : GoodF Pg 80 (FQ25 (GQ25 N SQ63)) := by
 refine good_fs (cx := ⟨Pg, ofList [(132, (FQ63 SQ63))], isref, N⟩) (os_zero (ofList_cons hQ63 (ofList_nil _)) (by kernel_rfl)) shFQ25 (spQ25 (GQ25 N SQ63)) (anQ25 N SQ63) 0 1 (by kernel_rfl) (fun i_ hi_ => by omega) ?_
 intro a k h
 unfold spQ25 at h
 split at h
 ·exact ⟨[_], rfl, rfl, (eqQ25 _ _ _ _ _).trans h⟩
 ·cases h
def anQ21 (N : Nat) (SQ25 : TSQ25) : Nat -> Option Ann := fun b_ => none
theorem eqQ21 (N : Nat) (SQ25 : TSQ25) (a b : Fl) (b_1 : Bool) (c_ : V -> List Blk -> Bool) : bodyV ⟨Pg, ofList [(80, (FQ25 SQ25))], isref, N⟩ (anQ21 N SQ25) 81 (shFQ21.args [.fl a, .fl b, .bool b_1]) [⟨132, 1, .cells [.bool b_1]⟩] c_ = GQ21 N SQ25 a b b_1 (fun r0 r1 => c_ (.flt r0) [⟨132, 1, .cells [.bool r1]⟩]) := by kernel_rfl
theorem goodQ21 (N : Nat) (SQ25 : TSQ25) (hQ25 : GoodF Pg 80 (FQ25 SQ25)) : GoodF Pg 81 (FQ21 (GQ21 N SQ25)) := by
 refine good_fs (cx := ⟨Pg, ofList [(80, (FQ25 SQ25))], isref, N⟩) (os_of (ofList_cons hQ25 (ofList_nil _)) ⟨(fr_told (by kernel_rfl) (fr_finite_Steps_Of_p0 SQ25)), trivial⟩) shFQ21 (spQ21 (GQ21 N SQ25)) (anQ21 N SQ25) 0 1 (by kernel_rfl) (fun i_ hi_ => by omega) ?_
 intro a k h
 unfold spQ21 at h
 split at h
 ·exact ⟨[_], rfl, rfl, (eqQ21 _ _ _ _ _ _).trans h⟩
 ·cases h
end Go.Proofs.YtjpaijnmiaoopaaGreatDoor
