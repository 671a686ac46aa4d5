/-
  THE TIES: each printed meaning is what the program does (written by program).
  Conditions: none.
-/
import Derived.Test.YtgngdkjghdohiaaGp
namespace Go.Proofs.Ytgngdkjghdohiaa
open Go Go.Mach Go.Proofs
set_option linter.unusedVariables false
set_option maxRecDepth 50000


def an_an_of (N : Nat) : Nat -> Option Ann := fun b_ => none
theorem eq_an_of (N : Nat) (c_ : V -> List Blk -> Bool) : bodyV ⟨Pg, ofList [], isref, N⟩ (an_an_of N) 70 (shF_an_of.args []) [] c_ = G_an_of N (fun r0 r1 r2 => c_ (.agg [.int .u64 r0, .int .i64 r1, .int .i64 r2]) []) := by kernel_rfl
theorem good_an_of (N : Nat) : GoodF Pg 70 (F_an_of (G_an_of N)) := by
  refine good_fs (cx := ⟨Pg, ofList [], isref, N⟩) (ofList_nil _) shF_an_of (sp_an_of (G_an_of N)) (an_an_of N) 0 0 (by kernel_rfl) (fun i_ hi_ => by omega) ?_
  intro a k h
  unfold sp_an_of at h
  split at h
  · exact ⟨[], rfl, rfl, (eq_an_of _ _).trans h⟩
  · cases h

def anq56 (N : Nat) : Nat -> Option Ann := fun b_ => none
theorem eqq56 (N : Nat) (f_0 f_1 f_2 : Int) (c_ : V -> List Blk -> Bool) : bodyV ⟨Pg, ofList [], isref, N⟩ (anq56 N) 87 (shFq56.args [.int f_0, .int f_1, .int f_2]) [] c_ = Gq56 N f_0 f_1 f_2 (fun r0 => c_ (.int .u64 r0) []) := by kernel_rfl
theorem goodq56 (N : Nat) : GoodF Pg 87 (Fq56 (Gq56 N)) := by
  refine good_fs (cx := ⟨Pg, ofList [], isref, N⟩) (ofList_nil _) shFq56 (spq56 (Gq56 N)) (anq56 N) 0 0 (by kernel_rfl) (fun i_ hi_ => by omega) ?_
  intro a k h
  unfold spq56 at h
  split at h
  · exact ⟨[], rfl, rfl, (eqq56 _ _ _ _ _).trans h⟩
  · cases h

def anq29 (N : Nat) : Nat -> Option Ann := fun b_ => none
theorem eqq29 (N : Nat) (f_0 f_1 f_2 : Int) (c_ : V -> List Blk -> Bool) : bodyV ⟨Pg, ofList [], isref, N⟩ (anq29 N) 89 (shFq29.args [.int f_0, .int f_1, .int f_2]) [] c_ = Gq29 N f_0 f_1 f_2 (fun r0 => c_ (.int .u64 r0) []) := by kernel_rfl
theorem goodq29 (N : Nat) : GoodF Pg 89 (Fq29 (Gq29 N)) := by
  refine good_fs (cx := ⟨Pg, ofList [], isref, N⟩) (ofList_nil _) shFq29 (spq29 (Gq29 N)) (anq29 N) 0 0 (by kernel_rfl) (fun i_ hi_ => by omega) ?_
  intro a k h
  unfold spq29 at h
  split at h
  · exact ⟨[], rfl, rfl, (eqq29 _ _ _ _ _).trans h⟩
  · cases h

def anq28 (N : Nat) (Sq56 : TSq56) (Sq29 : TSq29) : Nat -> Option Ann := fun b_ => none
theorem eqq28 (N : Nat) (Sq56 : TSq56) (Sq29 : TSq29) (b f_0 f_1 f_2 : Int) (c_ : V -> List Blk -> Bool) : bodyV ⟨Pg, ofList [(87, (Fq56 Sq56)), (89, (Fq29 Sq29))], isref, N⟩ (anq28 N Sq56 Sq29) 85 (shFq28.args [.int b, .int f_0, .int f_1, .int f_2]) [] c_ = Gq28 N Sq56 Sq29 b f_0 f_1 f_2 (fun r0 => c_ (.bool r0) []) := by kernel_rfl
theorem goodq28 (N : Nat) (Sq56 : TSq56) (Sq29 : TSq29) (hq56 : GoodF Pg 87 (Fq56 Sq56)) (hq29 : GoodF Pg 89 (Fq29 Sq29)) : GoodF Pg 85 (Fq28 (Gq28 N Sq56 Sq29)) := by
  refine good_fs (cx := ⟨Pg, ofList [(87, (Fq56 Sq56)), (89, (Fq29 Sq29))], isref, N⟩) (ofList_cons hq56 (ofList_cons hq29 (ofList_nil _))) shFq28 (spq28 (Gq28 N Sq56 Sq29)) (anq28 N Sq56 Sq29) 0 0 (by kernel_rfl) (fun i_ hi_ => by omega) ?_
  intro a k h
  unfold spq28 at h
  split at h
  · exact ⟨[], rfl, rfl, (eqq28 _ _ _ _ _ _ _ _).trans h⟩
  · cases h

def anq35 (N : Nat) : Nat -> Option Ann := fun b_ => none
theorem eqq35 (N : Nat) (f_0 f_1 f_2 : Int) (c_ : V -> List Blk -> Bool) : bodyV ⟨Pg, ofList [], isref, N⟩ (anq35 N) 88 (shFq35.args [.int f_0, .int f_1, .int f_2]) [] c_ = Gq35 N f_0 f_1 f_2 (fun r0 => c_ (.int .u64 r0) []) := by kernel_rfl
theorem goodq35 (N : Nat) : GoodF Pg 88 (Fq35 (Gq35 N)) := by
  refine good_fs (cx := ⟨Pg, ofList [], isref, N⟩) (ofList_nil _) shFq35 (spq35 (Gq35 N)) (anq35 N) 0 0 (by kernel_rfl) (fun i_ hi_ => by omega) ?_
  intro a k h
  unfold spq35 at h
  split at h
  · exact ⟨[], rfl, rfl, (eqq35 _ _ _ _ _).trans h⟩
  · cases h

def anq63 (N : Nat) (Sq29 : TSq29) (Sq35 : TSq35) : Nat -> Option Ann := fun b_ => none
theorem eqq63 (N : Nat) (Sq29 : TSq29) (Sq35 : TSq35) (f_0 f_1 f_2 : Int) (c_ : V -> List Blk -> Bool) : bodyV ⟨Pg, ofList [(89, (Fq29 Sq29)), (88, (Fq35 Sq35))], isref, N⟩ (anq63 N Sq29 Sq35) 86 (shFq63.args [.int f_0, .int f_1, .int f_2]) [] c_ = Gq63 N Sq29 Sq35 f_0 f_1 f_2 (fun r0 => c_ (.int .u64 r0) []) := by kernel_rfl
theorem goodq63 (N : Nat) (Sq29 : TSq29) (Sq35 : TSq35) (hq29 : GoodF Pg 89 (Fq29 Sq29)) (hq35 : GoodF Pg 88 (Fq35 Sq35)) : GoodF Pg 86 (Fq63 (Gq63 N Sq29 Sq35)) := by
  refine good_fs (cx := ⟨Pg, ofList [(89, (Fq29 Sq29)), (88, (Fq35 Sq35))], isref, N⟩) (ofList_cons hq29 (ofList_cons hq35 (ofList_nil _))) shFq63 (spq63 (Gq63 N Sq29 Sq35)) (anq63 N Sq29 Sq35) 0 0 (by kernel_rfl) (fun i_ hi_ => by omega) ?_
  intro a k h
  unfold spq63 at h
  split at h
  · exact ⟨[], rfl, rfl, (eqq63 _ _ _ _ _ _ _).trans h⟩
  · cases h

def anq11 (N : Nat) (Sq28 : TSq28) (Sq63 : TSq63) : Nat -> Option Ann := fun b_ => none
theorem eqq11 (N : Nat) (Sq28 : TSq28) (Sq63 : TSq63) (b f_0 f_1 f_2 : Int) (c_ : V -> List Blk -> Bool) : bodyV ⟨Pg, ofList [(85, (Fq28 Sq28)), (86, (Fq63 Sq63))], isref, N⟩ (anq11 N Sq28 Sq63) 71 (shFq11.args [.int b, .int f_0, .int f_1, .int f_2]) [] c_ = Gq11 N Sq28 Sq63 b f_0 f_1 f_2 (fun r0 => c_ (.int .u64 r0) []) := by kernel_rfl
theorem goodq11 (N : Nat) (Sq28 : TSq28) (Sq63 : TSq63) (hq28 : GoodF Pg 85 (Fq28 Sq28)) (hq63 : GoodF Pg 86 (Fq63 Sq63)) : GoodF Pg 71 (Fq11 (Gq11 N Sq28 Sq63)) := by
  refine good_fs (cx := ⟨Pg, ofList [(85, (Fq28 Sq28)), (86, (Fq63 Sq63))], isref, N⟩) (ofList_cons hq28 (ofList_cons hq63 (ofList_nil _))) shFq11 (spq11 (Gq11 N Sq28 Sq63)) (anq11 N Sq28 Sq63) 0 0 (by kernel_rfl) (fun i_ hi_ => by omega) ?_
  intro a k h
  unfold spq11 at h
  split at h
  · exact ⟨[], rfl, rfl, (eqq11 _ _ _ _ _ _ _ _).trans h⟩
  · cases h

def anq18 (N : Nat) (Sq11 : TSq11) (Sq56 : TSq56) (Sq35 : TSq35) : Nat -> Option Ann := fun b_ => none
theorem eqq18 (N : Nat) (Sq11 : TSq11) (Sq56 : TSq56) (Sq35 : TSq35) (b f_0 f_1 f_2 : Int) (c_ : V -> List Blk -> Bool) : bodyV ⟨Pg, ofList [(71, (Fq11 Sq11)), (87, (Fq56 Sq56)), (88, (Fq35 Sq35))], isref, N⟩ (anq18 N Sq11 Sq56 Sq35) 84 (shFq18.args [.int b, .int f_0, .int f_1, .int f_2]) [] c_ = Gq18 N Sq11 Sq56 Sq35 b f_0 f_1 f_2 (fun r0 r1 r2 => c_ (.tup [.bool r0, .int .i64 r1, .int .u64 r2]) []) := by kernel_rfl
theorem goodq18 (N : Nat) (Sq11 : TSq11) (Sq56 : TSq56) (Sq35 : TSq35) (hq11 : GoodF Pg 71 (Fq11 Sq11)) (hq56 : GoodF Pg 87 (Fq56 Sq56)) (hq35 : GoodF Pg 88 (Fq35 Sq35)) : GoodF Pg 84 (Fq18 (Gq18 N Sq11 Sq56 Sq35)) := by
  refine good_fs (cx := ⟨Pg, ofList [(71, (Fq11 Sq11)), (87, (Fq56 Sq56)), (88, (Fq35 Sq35))], isref, N⟩) (ofList_cons hq11 (ofList_cons hq56 (ofList_cons hq35 (ofList_nil _)))) shFq18 (spq18 (Gq18 N Sq11 Sq56 Sq35)) (anq18 N Sq11 Sq56 Sq35) 0 0 (by kernel_rfl) (fun i_ hi_ => by omega) ?_
  intro a k h
  unfold spq18 at h
  split at h
  · exact ⟨[], rfl, rfl, (eqq18 _ _ _ _ _ _ _ _ _).trans h⟩
  · cases h

def anq17 (N : Nat) (Sq18 : TSq18) : Nat -> Option Ann := fun b_ => none
theorem eqq17 (N : Nat) (Sq18 : TSq18) (b f_0 f_1 f_2 : Int) (c_ : V -> List Blk -> Bool) : bodyV ⟨Pg, ofList [(84, (Fq18 Sq18))], isref, N⟩ (anq17 N Sq18) 68 (shFq17.args [.int b, .int f_0, .int f_1, .int f_2]) [] c_ = Gq17 N Sq18 b f_0 f_1 f_2 (fun r0 => c_ (.int .i64 r0) []) := by kernel_rfl
theorem goodq17 (N : Nat) (Sq18 : TSq18) (hq18 : GoodF Pg 84 (Fq18 Sq18)) : GoodF Pg 68 (Fq17 (Gq17 N Sq18)) := by
  refine good_fs (cx := ⟨Pg, ofList [(84, (Fq18 Sq18))], isref, N⟩) (ofList_cons hq18 (ofList_nil _)) shFq17 (spq17 (Gq17 N Sq18)) (anq17 N Sq18) 0 0 (by kernel_rfl) (fun i_ hi_ => by omega) ?_
  intro a k h
  unfold spq17 at h
  split at h
  · exact ⟨[], rfl, rfl, (eqq17 _ _ _ _ _ _ _).trans h⟩
  · cases h

def anq59 (N : Nat) (Sq54 : TSq54) (S_an_of : TS_an_of) (Sq17 : TSq17) : Nat -> Option Ann := fun b_ => none
theorem eqq59 (N : Nat) (Sq54 : TSq54) (S_an_of : TS_an_of) (Sq17 : TSq17) (x : Nat) (c_ : V -> List Blk -> Bool) : bodyV ⟨Pg, ofList [(69, (Fq54 Sq54)), (70, (F_an_of S_an_of)), (68, (Fq17 Sq17))], isref, N⟩ (anq59 N Sq54 S_an_of Sq17) 55 (shFq59.args [.nat x]) [] c_ = Gq59 N Sq54 S_an_of Sq17 x (fun r0 => c_ (.int .i64 r0) []) := by kernel_rfl
theorem goodq59 (N : Nat) (Sq54 : TSq54) (S_an_of : TS_an_of) (Sq17 : TSq17) (hq54 : GoodF Pg 69 (Fq54 Sq54)) (h_an_of : GoodF Pg 70 (F_an_of S_an_of)) (hq17 : GoodF Pg 68 (Fq17 Sq17)) : GoodF Pg 55 (Fq59 (Gq59 N Sq54 S_an_of Sq17)) := by
  refine good_fs (cx := ⟨Pg, ofList [(69, (Fq54 Sq54)), (70, (F_an_of S_an_of)), (68, (Fq17 Sq17))], isref, N⟩) (ofList_cons hq54 (ofList_cons h_an_of (ofList_cons hq17 (ofList_nil _)))) shFq59 (spq59 (Gq59 N Sq54 S_an_of Sq17)) (anq59 N Sq54 S_an_of Sq17) 0 0 (by kernel_rfl) (fun i_ hi_ => by omega) ?_
  intro a k h
  unfold spq59 at h
  split at h
  · exact ⟨[], rfl, rfl, (eqq59 _ _ _ _ _ _).trans h⟩
  · cases h

def anq60 (N : Nat) (Sq54 : TSq54) (S_an_of : TS_an_of) (Sq11 : TSq11) : Nat -> Option Ann := fun b_ => none
theorem eqq60 (N : Nat) (Sq54 : TSq54) (S_an_of : TS_an_of) (Sq11 : TSq11) (a b : Nat) (c_ : V -> List Blk -> Bool) : bodyV ⟨Pg, ofList [(69, (Fq54 Sq54)), (70, (F_an_of S_an_of)), (71, (Fq11 Sq11))], isref, N⟩ (anq60 N Sq54 S_an_of Sq11) 56 (shFq60.args [.nat a, .nat b]) [] c_ = Gq60 N Sq54 S_an_of Sq11 a b (fun r0 => c_ (.bool r0) []) := by kernel_rfl
theorem goodq60 (N : Nat) (Sq54 : TSq54) (S_an_of : TS_an_of) (Sq11 : TSq11) (hq54 : GoodF Pg 69 (Fq54 Sq54)) (h_an_of : GoodF Pg 70 (F_an_of S_an_of)) (hq11 : GoodF Pg 71 (Fq11 Sq11)) : GoodF Pg 56 (Fq60 (Gq60 N Sq54 S_an_of Sq11)) := by
  refine good_fs (cx := ⟨Pg, ofList [(69, (Fq54 Sq54)), (70, (F_an_of S_an_of)), (71, (Fq11 Sq11))], isref, N⟩) (ofList_cons hq54 (ofList_cons h_an_of (ofList_cons hq11 (ofList_nil _)))) shFq60 (spq60 (Gq60 N Sq54 S_an_of Sq11)) (anq60 N Sq54 S_an_of Sq11) 0 0 (by kernel_rfl) (fun i_ hi_ => by omega) ?_
  intro a k h
  unfold spq60 at h
  split at h
  · exact ⟨[], rfl, rfl, (eqq60 _ _ _ _ _ _ _).trans h⟩
  · cases h


def sh_st_binnacleref01_Of64_0 : StSh := ⟨(.any :: (.any :: (.any :: (.slw 0 :: (.any :: (.any :: (.roi .u64 :: (.int .i64 :: (.int .i64 :: (sqs 10 [])))))))))), [some (48, 1, .flts)]⟩
def sx0_st_binnacleref01_Of64_0 : StSh := ⟨(.any :: (.any :: (.any :: (.slw 0 :: (sqs 15 []))))), [some (48, 1, .flts)]⟩
def hk_st_binnacleref01_Of64_0 (N : Nat) (Sq62 : TSq62) : List Atom -> K -> Bool := fun a_ κ => match a_ with
  | [.ints t6_1, .int t7_1, .int t8_1, .fls x] => iterG N (st_z01_Of64_0 N Sq62 t6_1 t7_1 (fun r0 => κ.ext 0 (sx0_st_binnacleref01_Of64_0.build [.fls r0]))) (t8_1, x)
  | _ => false
def anq57 (N : Nat) (Sq62 : TSq62) : Nat -> Option Ann := fun b_ => cond (b_ == 0) (some ⟨⟨[3, 6, 7, 8], [(3, none, 48)], [], []⟩, [(0, ⟨[3], [], [], []⟩)], some ⟨[2], [], [], []⟩, some (mkHooks [(sh_st_binnacleref01_Of64_0, hk_st_binnacleref01_Of64_0 N Sq62)])⟩) (none)
theorem eq_st_binnacleref01_Of64_0 (N : Nat) (Sq62 : TSq62) (κ : K) (t6_1 : List Int) (t7_1 t8_1 : Int) (x : List Fl) : iter N (fun s k => codeV ⟨Pg, ofList [(26, (Fq62 Sq62))], isref, N⟩ 0 (anq57 N Sq62) (lp Pg 25 0).2 (lp Pg 25 0).1 s (roundK Pg 0 ((anq57 N Sq62) (lp Pg 25 0).1) κ k)) (sh_st_binnacleref01_Of64_0.build [.ints t6_1, .int t7_1, .int t8_1, .fls x]) = iterG N (st_z01_Of64_0 N Sq62 t6_1 t7_1 (fun r0 => κ.ext 0 (sx0_st_binnacleref01_Of64_0.build [.fls r0]))) (t8_1, x) :=
  iter_tr (fun (v_ : Int × List Fl) => sh_st_binnacleref01_Of64_0.build [.ints t6_1, .int t7_1, .int v_.1, .fls v_.2]) (fun v_ K_ => by obtain ⟨t8_1, x⟩ := v_; kernel_rfl) N (t8_1, x)
theorem hk1_st_binnacleref01_Of64_0 (N : Nat) (Sq62 : TSq62) : HookFor ⟨Pg, ofList [(26, (Fq62 Sq62))], isref, N⟩ 0 (anq57 N Sq62) (lp Pg 25 0) (sh_st_binnacleref01_Of64_0, hk_st_binnacleref01_Of64_0 N Sq62) := by
  intro a κ h
  simp only at h
  unfold hk_st_binnacleref01_Of64_0 at h
  split at h
  · exact (eq_st_binnacleref01_Of64_0 _ _ _ _ _ _ _).trans h
  · cases h
theorem ho_binnacleref01_Of64_0 (N : Nat) (Sq62 : TSq62) : HookOk ⟨Pg, ofList [(26, (Fq62 Sq62))], isref, N⟩ 0 (anq57 N Sq62) (lp Pg 25 0) :=
  hooks_ok [(sh_st_binnacleref01_Of64_0, hk_st_binnacleref01_Of64_0 N Sq62)] (by kernel_rfl) ⟨hk1_st_binnacleref01_Of64_0 _ _, trivial⟩
theorem eqq57 (N : Nat) (Sq62 : TSq62) (l : List Int) (c_ : V -> List Blk -> Bool) : bodyZ false ⟨Pg, ofList [(26, (Fq62 Sq62))], isref, N⟩ (anq57 N Sq62) 25 (shFq57.args [.ints l]) [] c_ = Gq57 N Sq62 l (fun r0 => c_ (.rof r0) []) := by kernel_rfl
theorem goodq57 (N : Nat) (Sq62 : TSq62) (hq62 : GoodF Pg 26 (Fq62 Sq62)) : GoodF Pg 25 (Fq57 (Gq57 N Sq62)) := by
  refine good_fsZ (md := false) (cx := ⟨Pg, ofList [(26, (Fq62 Sq62))], isref, N⟩) (ofList_cons hq62 (ofList_nil _)) shFq57 (spq57 (Gq57 N Sq62)) (anq57 N Sq62) 1 0 (by kernel_rfl) (fun i_ hi_ => by
    match i_, hi_ with
    | 0, _ => exact ho_binnacleref01_Of64_0 _ _
    | (q + 1), h => omega) ?_
  intro a k h
  unfold spq57 at h
  split at h
  · exact ⟨[], rfl, rfl, (eqq57 _ _ _ _).trans h⟩
  · cases h

def an_zk_l (N : Nat) (Sq57 : TSq57) : Nat -> Option Ann := fun b_ => none
theorem eq_zk_l (N : Nat) (Sq57 : TSq57) (b : List Int) (c_ : V -> List Blk -> Bool) : bodyV ⟨Pg, ofList [(25, (Fq57 Sq57))], isref, N⟩ (an_zk_l N Sq57) 11 (shF_zk_l.args [.ints b]) [] c_ = G_zk_l N Sq57 b (fun r0 => c_ (.rof r0) []) := by kernel_rfl
theorem good_zk_l (N : Nat) (Sq57 : TSq57) (hq57 : GoodF Pg 25 (Fq57 Sq57)) : GoodF Pg 11 (F_zk_l (G_zk_l N Sq57)) := by
  refine good_fs (cx := ⟨Pg, ofList [(25, (Fq57 Sq57))], isref, N⟩) (ofList_cons hq57 (ofList_nil _)) shF_zk_l (sp_zk_l (G_zk_l N Sq57)) (an_zk_l N Sq57) 0 0 (by kernel_rfl) (fun i_ hi_ => by omega) ?_
  intro a k h
  unfold sp_zk_l at h
  split at h
  · exact ⟨[], rfl, rfl, (eq_zk_l _ _ _ _).trans h⟩
  · cases h

def an_zk_f (N : Nat) (Sq62 : TSq62) : Nat -> Option Ann := fun b_ => none
theorem eq_zk_f (N : Nat) (Sq62 : TSq62) (b : Int) (c_ : V -> List Blk -> Bool) : bodyV ⟨Pg, ofList [(26, (Fq62 Sq62))], isref, N⟩ (an_zk_f N Sq62) 12 (shF_zk_f.args [.int b]) [] c_ = G_zk_f N Sq62 b (fun r0 => c_ (.flt r0) []) := by kernel_rfl
theorem good_zk_f (N : Nat) (Sq62 : TSq62) (hq62 : GoodF Pg 26 (Fq62 Sq62)) : GoodF Pg 12 (F_zk_f (G_zk_f N Sq62)) := by
  refine good_fs (cx := ⟨Pg, ofList [(26, (Fq62 Sq62))], isref, N⟩) (ofList_cons hq62 (ofList_nil _)) shF_zk_f (sp_zk_f (G_zk_f N Sq62)) (an_zk_f N Sq62) 0 0 (by kernel_rfl) (fun i_ hi_ => by omega) ?_
  intro a k h
  unfold sp_zk_f at h
  split at h
  · exact ⟨[], rfl, rfl, (eq_zk_f _ _ _ _).trans h⟩
  · cases h

def sh_st_binnaclelaw16_rows_0 : StSh := ⟨(.rl RT0 :: (.any :: (.any :: (.any :: (.ptr 0 0 :: (.any :: (.any :: (.ptr 1 0 :: (.slw 2 :: (.slw 3 :: (.int .i64 :: (sqs 41 [])))))))))))), [some (28, 1, .cells [.int .i64, .int .i64, .nil]), some (28, 1, .cells [.int .i64, .int .i64, .slw 4]), some (48, 1, .flts), some (48, 1, .flts), some (48, 1, .flts)]⟩
def sx0_st_binnaclelaw16_rows_0 : StSh := ⟨(sqs 4 (.ptr 0 0 :: (.any :: (.any :: (.ptr 1 0 :: (.slw 2 :: (.slw 3 :: (sqs 42 [])))))))), [some (28, 1, .cells [.int .i64, .int .i64, .nil]), some (28, 1, .cells [.int .i64, .int .i64, .slw 4]), some (48, 1, .flts), some (48, 1, .flts), some (48, 1, .flts)]⟩
def hk_st_binnaclelaw16_rows_0 (N : Nat) (S_zk_l : TS_zk_l) (S_zk_f : TS_zk_f) : List Atom -> K -> Bool := fun a_ κ => match a_ with
  | [.recs t0_ w_4, .int i_3, .int t4_6, .int t4_7, .int h_6, .int h_7, .fls r_2, .fls z_1, .fls b4] => RT.cast RT0 t0_ w_4 (fun w_4 => iterG N (st_zk_rows_0 N S_zk_l S_zk_f w_4 t4_6 t4_7 h_6 h_7 (fun r4 r5 r6 => κ.ext 0 (sx0_st_binnaclelaw16_rows_0.build [.int t4_6, .int t4_7, .int h_6, .int h_7, .fls r4, .fls r5, .fls r6]))) (i_3, r_2, z_1, b4)) false
  | _ => false
def anq44 (N : Nat) (S_zk_l : TS_zk_l) (S_zk_f : TS_zk_f) : Nat -> Option Ann := fun b_ => cond (b_ == 0) (some ⟨⟨[0, 4, 7, 8, 9, 10], [(8, none, 48), (9, none, 48), (7, some 2, 48)], [], []⟩, [(0, ⟨[4, 7, 8, 9], [], [], []⟩)], some ⟨[4, 5, 6], [], [], []⟩, some (mkHooks [(sh_st_binnaclelaw16_rows_0, hk_st_binnaclelaw16_rows_0 N S_zk_l S_zk_f)])⟩) (none)
theorem eq_st_binnaclelaw16_rows_0 (N : Nat) (S_zk_l : TS_zk_l) (S_zk_f : TS_zk_f) (κ : K) (w_4 : List RY0) (i_3 t4_6 t4_7 h_6 h_7 : Int) (r_2 z_1 b4 : List Fl) : iter N (fun s k => codeV ⟨Pg, ofList [(11, (F_zk_l S_zk_l)), (12, (F_zk_f S_zk_f))], isref, N⟩ 0 (anq44 N S_zk_l S_zk_f) (lp Pg 4 0).2 (lp Pg 4 0).1 s (roundK Pg 0 ((anq44 N S_zk_l S_zk_f) (lp Pg 4 0).1) κ k)) (sh_st_binnaclelaw16_rows_0.build [.recs RT0 w_4, .int i_3, .int t4_6, .int t4_7, .int h_6, .int h_7, .fls r_2, .fls z_1, .fls b4]) = iterG N (st_zk_rows_0 N S_zk_l S_zk_f w_4 t4_6 t4_7 h_6 h_7 (fun r4 r5 r6 => κ.ext 0 (sx0_st_binnaclelaw16_rows_0.build [.int t4_6, .int t4_7, .int h_6, .int h_7, .fls r4, .fls r5, .fls r6]))) (i_3, r_2, z_1, b4) :=
  iter_tr (fun (v_ : Int × List Fl × List Fl × List Fl) => sh_st_binnaclelaw16_rows_0.build [.recs RT0 w_4, .int v_.1, .int t4_6, .int t4_7, .int h_6, .int h_7, .fls v_.2.1, .fls v_.2.2.1, .fls v_.2.2.2]) (fun v_ K_ => by obtain ⟨i_3, r_2, z_1, b4⟩ := v_; kernel_rfl) N (i_3, r_2, z_1, b4)
theorem hk1_st_binnaclelaw16_rows_0 (N : Nat) (S_zk_l : TS_zk_l) (S_zk_f : TS_zk_f) : HookFor ⟨Pg, ofList [(11, (F_zk_l S_zk_l)), (12, (F_zk_f S_zk_f))], isref, N⟩ 0 (anq44 N S_zk_l S_zk_f) (lp Pg 4 0) (sh_st_binnaclelaw16_rows_0, hk_st_binnaclelaw16_rows_0 N S_zk_l S_zk_f) := by
  intro a κ h
  simp only at h
  unfold hk_st_binnaclelaw16_rows_0 at h
  split at h
  · obtain ⟨e_, h⟩ := RT.cast_inv h (by decide); subst e_; exact (eq_st_binnaclelaw16_rows_0 _ _ _ _ _ _ _ _ _ _ _ _ _).trans h
  · cases h
theorem ho_binnaclelaw16_rows_0 (N : Nat) (S_zk_l : TS_zk_l) (S_zk_f : TS_zk_f) : HookOk ⟨Pg, ofList [(11, (F_zk_l S_zk_l)), (12, (F_zk_f S_zk_f))], isref, N⟩ 0 (anq44 N S_zk_l S_zk_f) (lp Pg 4 0) :=
  hooks_ok [(sh_st_binnaclelaw16_rows_0, hk_st_binnaclelaw16_rows_0 N S_zk_l S_zk_f)] (by kernel_rfl) ⟨hk1_st_binnaclelaw16_rows_0 _ _ _, trivial⟩
theorem eqq44 (N : Nat) (S_zk_l : TS_zk_l) (S_zk_f : TS_zk_f) (w : List RY0) (n : Int) (c_ : V -> List Blk -> Bool) : bodyZ false ⟨Pg, ofList [(11, (F_zk_l S_zk_l)), (12, (F_zk_f S_zk_f))], isref, N⟩ (anq44 N S_zk_l S_zk_f) 4 (shFq44.args [.recs RT0 w, .int n]) [] c_ = Gq44 N S_zk_l S_zk_f w n (fun r0 r2 r3 r4 => c_ (.tup [.agg [.int .i64 r0, .int .i64 n, .rof r2], .rof r3, .rof r4]) []) := by kernel_rfl
theorem goodq44 (N : Nat) (S_zk_l : TS_zk_l) (S_zk_f : TS_zk_f) (h_zk_l : GoodF Pg 11 (F_zk_l S_zk_l)) (h_zk_f : GoodF Pg 12 (F_zk_f S_zk_f)) : GoodF Pg 4 (Fq44 (Gq44 N S_zk_l S_zk_f)) := by
  refine good_fsZ (md := false) (cx := ⟨Pg, ofList [(11, (F_zk_l S_zk_l)), (12, (F_zk_f S_zk_f))], isref, N⟩) (ofList_cons h_zk_l (ofList_cons h_zk_f (ofList_nil _))) shFq44 (spq44 (Gq44 N S_zk_l S_zk_f)) (anq44 N S_zk_l S_zk_f) 1 0 (by kernel_rfl) (fun i_ hi_ => by
    match i_, hi_ with
    | 0, _ => exact ho_binnaclelaw16_rows_0 _ _ _
    | (q + 1), h => omega) ?_
  intro a k h
  unfold spq44 at h
  split at h
  · obtain ⟨e_, h⟩ := RT.cast_inv h (by decide); subst e_; exact ⟨[], rfl, rfl, (eqq44 _ _ _ _ _ _).trans h⟩
  · cases h

def anq65 (N : Nat) (S_zk_l : TS_zk_l) : Nat -> Option Ann := fun b_ => none
theorem eqq65 (N : Nat) (S_zk_l : TS_zk_l) (m_0 m_1 : Int) (m_2 : List Int) (c_ : V -> List Blk -> Bool) : bodyV ⟨Pg, ofList [(11, (F_zk_l S_zk_l))], isref, N⟩ (anq65 N S_zk_l) 16 (shFq65.args [.int m_0, .int m_1, .ints m_2]) [] c_ = Gq65 N S_zk_l m_0 m_1 m_2 (fun r2 => c_ (.agg [.int .i64 m_0, .int .i64 m_1, .rof r2]) []) := by kernel_rfl
theorem goodq65 (N : Nat) (S_zk_l : TS_zk_l) (h_zk_l : GoodF Pg 11 (F_zk_l S_zk_l)) : GoodF Pg 16 (Fq65 (Gq65 N S_zk_l)) := by
  refine good_fs (cx := ⟨Pg, ofList [(11, (F_zk_l S_zk_l))], isref, N⟩) (ofList_cons h_zk_l (ofList_nil _)) shFq65 (spq65 (Gq65 N S_zk_l)) (anq65 N S_zk_l) 0 0 (by kernel_rfl) (fun i_ hi_ => by omega) ?_
  intro a k h
  unfold spq65 at h
  split at h
  · exact ⟨[], rfl, rfl, (eqq65 _ _ _ _ _ _).trans h⟩
  · cases h

def an_zk_of (N : Nat) (S_zk_l : TS_zk_l) (Sq65 : TSq65) : Nat -> Option Ann := fun b_ => none
theorem eq_zk_of (N : Nat) (S_zk_l : TS_zk_l) (Sq65 : TSq65) (x : List Int) (m_0 m_1 : Int) (m_2 : List Int) (c_ : V -> List Blk -> Bool) : bodyV ⟨Pg, ofList [(11, (F_zk_l S_zk_l)), (16, (Fq65 Sq65))], isref, N⟩ (an_zk_of N S_zk_l Sq65) 6 (shF_zk_of.args [.ints x, .int m_0, .int m_1, .ints m_2]) [] c_ = G_zk_of N S_zk_l Sq65 x m_0 m_1 m_2 (fun r0 r3 => c_ (.agg [.rof r0, .int .i64 m_0, .int .i64 m_1, .rof r3]) []) := by kernel_rfl
theorem good_zk_of (N : Nat) (S_zk_l : TS_zk_l) (Sq65 : TSq65) (h_zk_l : GoodF Pg 11 (F_zk_l S_zk_l)) (hq65 : GoodF Pg 16 (Fq65 Sq65)) : GoodF Pg 6 (F_zk_of (G_zk_of N S_zk_l Sq65)) := by
  refine good_fs (cx := ⟨Pg, ofList [(11, (F_zk_l S_zk_l)), (16, (Fq65 Sq65))], isref, N⟩) (ofList_cons h_zk_l (ofList_cons hq65 (ofList_nil _))) shF_zk_of (sp_zk_of (G_zk_of N S_zk_l Sq65)) (an_zk_of N S_zk_l Sq65) 0 0 (by kernel_rfl) (fun i_ hi_ => by omega) ?_
  intro a k h
  unfold sp_zk_of at h
  split at h
  · exact ⟨[], rfl, rfl, (eq_zk_of _ _ _ _ _ _ _ _).trans h⟩
  · cases h

def anq24 (N : Nat) : Nat -> Option Ann := fun b_ => none
theorem eqq24 (N : Nat) (n : Int) (c_ : V -> List Blk -> Bool) : bodyV ⟨Pg, ofList [], isref, N⟩ (anq24 N) 30 (shFq24.args [.int n]) [] c_ = Gq24 N n (fun r0 => c_ (.bool r0) []) := by kernel_rfl
theorem goodq24 (N : Nat) : GoodF Pg 30 (Fq24 (Gq24 N)) := by
  refine good_fs (cx := ⟨Pg, ofList [], isref, N⟩) (ofList_nil _) shFq24 (spq24 (Gq24 N)) (anq24 N) 0 0 (by kernel_rfl) (fun i_ hi_ => by omega) ?_
  intro a k h
  unfold spq24 at h
  split at h
  · exact ⟨[], rfl, rfl, (eqq24 _ _ _).trans h⟩
  · cases h


def sh_st_anatomy_Finite_0 : StSh := ⟨(sqs 6 (.rof :: (.int .i64 :: (.int .i64 :: (sqs 12 []))))), []⟩
def sx0_st_anatomy_Finite_0 : StSh := ⟨(.any :: (.any :: (.bool :: (sqs 18 [])))), []⟩
def sx1_st_anatomy_Finite_0 : StSh := ⟨(sqs 21 []), []⟩
def hk_st_anatomy_Finite_0 (N : Nat) (Sq48 : TSq48) : List Atom -> K -> Bool := fun a_ κ => match a_ with
  | [.fls t6, .int t7, .int t8] => iterG N (st_an_Finite_0 N Sq48 t6 t7 (fun r0 => κ.ret (sx0_st_anatomy_Finite_0.build [.bool r0])) (κ.ext 0 (sx1_st_anatomy_Finite_0.build []))) t8
  | _ => false
def anq2 (N : Nat) (Sq48 : TSq48) : Nat -> Option Ann := fun b_ => cond (b_ == 0) (some ⟨⟨[6, 7, 8], [], [], []⟩, [(0, ⟨[], [], [], []⟩)], some ⟨[2], [], [], []⟩, some (mkHooks [(sh_st_anatomy_Finite_0, hk_st_anatomy_Finite_0 N Sq48)])⟩) (none)
theorem eq_st_anatomy_Finite_0 (N : Nat) (Sq48 : TSq48) (κ : K) (t6 : List Fl) (t7 t8 : Int) : iter N (fun s k => codeV ⟨Pg, ofList [(55, (Fq48 Sq48))], isref, N⟩ 0 (anq2 N Sq48) (lp Pg 27 0).2 (lp Pg 27 0).1 s (roundK Pg 0 ((anq2 N Sq48) (lp Pg 27 0).1) κ k)) (sh_st_anatomy_Finite_0.build [.fls t6, .int t7, .int t8]) = iterG N (st_an_Finite_0 N Sq48 t6 t7 (fun r0 => κ.ret (sx0_st_anatomy_Finite_0.build [.bool r0])) (κ.ext 0 (sx1_st_anatomy_Finite_0.build []))) t8 :=
  iter_tr (fun v_ => sh_st_anatomy_Finite_0.build [.fls t6, .int t7, .int v_]) (fun v_ K_ => by kernel_rfl) N t8
theorem hk1_st_anatomy_Finite_0 (N : Nat) (Sq48 : TSq48) : HookFor ⟨Pg, ofList [(55, (Fq48 Sq48))], isref, N⟩ 0 (anq2 N Sq48) (lp Pg 27 0) (sh_st_anatomy_Finite_0, hk_st_anatomy_Finite_0 N Sq48) := by
  intro a κ h
  simp only at h
  unfold hk_st_anatomy_Finite_0 at h
  split at h
  · exact (eq_st_anatomy_Finite_0 _ _ _ _ _ _).trans h
  · cases h
theorem ho_anatomy_Finite_0 (N : Nat) (Sq48 : TSq48) : HookOk ⟨Pg, ofList [(55, (Fq48 Sq48))], isref, N⟩ 0 (anq2 N Sq48) (lp Pg 27 0) :=
  hooks_ok [(sh_st_anatomy_Finite_0, hk_st_anatomy_Finite_0 N Sq48)] (by kernel_rfl) ⟨hk1_st_anatomy_Finite_0 _ _, trivial⟩
theorem eqq2 (N : Nat) (Sq48 : TSq48) (l : List Fl) (c_ : V -> List Blk -> Bool) : bodyV ⟨Pg, ofList [(55, (Fq48 Sq48))], isref, N⟩ (anq2 N Sq48) 27 (shFq2.args [.fls l]) [] c_ = Gq2 N Sq48 l (fun r0 => c_ (.bool r0) []) := by kernel_rfl
theorem goodq2 (N : Nat) (Sq48 : TSq48) (hq48 : GoodF Pg 55 (Fq48 Sq48)) : GoodF Pg 27 (Fq2 (Gq2 N Sq48)) := by
  refine good_fs (cx := ⟨Pg, ofList [(55, (Fq48 Sq48))], isref, N⟩) (ofList_cons hq48 (ofList_nil _)) shFq2 (spq2 (Gq2 N Sq48)) (anq2 N Sq48) 1 0 (by kernel_rfl) (fun i_ hi_ => by
    match i_, hi_ with
    | 0, _ => exact ho_anatomy_Finite_0 _ _
    | (q + 1), h => omega) ?_
  intro a k h
  unfold spq2 at h
  split at h
  · exact ⟨[], rfl, rfl, (eqq2 _ _ _ _).trans h⟩
  · cases h

def anq0 (N : Nat) (Sq24 : TSq24) (Sq2 : TSq2) : Nat -> Option Ann := fun b_ => none
theorem eqq0 (N : Nat) (Sq24 : TSq24) (Sq2 : TSq2) (m_0 m_1 : Int) (m_2 : List Fl) (c_ : V -> List Blk -> Bool) : bodyV ⟨Pg, ofList [(30, (Fq24 Sq24)), (27, (Fq2 Sq2))], isref, N⟩ (anq0 N Sq24 Sq2) 14 (shFq0.args [.int m_0, .int m_1, .fls m_2]) [] c_ = Gq0 N Sq24 Sq2 m_0 m_1 m_2 (fun r0 => c_ (.int .i64 r0) []) := by kernel_rfl
theorem goodq0 (N : Nat) (Sq24 : TSq24) (Sq2 : TSq2) (hq24 : GoodF Pg 30 (Fq24 Sq24)) (hq2 : GoodF Pg 27 (Fq2 Sq2)) : GoodF Pg 14 (Fq0 (Gq0 N Sq24 Sq2)) := by
  refine good_fs (cx := ⟨Pg, ofList [(30, (Fq24 Sq24)), (27, (Fq2 Sq2))], isref, N⟩) (ofList_cons hq24 (ofList_cons hq2 (ofList_nil _))) shFq0 (spq0 (Gq0 N Sq24 Sq2)) (anq0 N Sq24 Sq2) 0 0 (by kernel_rfl) (fun i_ hi_ => by omega) ?_
  intro a k h
  unfold spq0 at h
  split at h
  · exact ⟨[], rfl, rfl, (eqq0 _ _ _ _ _ _ _).trans h⟩
  · cases h

def anq27 (N : Nat) : Nat -> Option Ann := fun b_ => none
theorem eqq27 (N : Nat) (m_0 m_1 : Int) (m_2 : List Fl) (i j : Int) (c_ : V -> List Blk -> Bool) : bodyV ⟨Pg, ofList [], isref, N⟩ (anq27 N) 57 (shFq27.args [.int m_0, .int m_1, .fls m_2, .int i, .int j]) [] c_ = Gq27 N m_0 m_1 m_2 i j (fun r0 => c_ (.flt r0) []) := by kernel_rfl
theorem goodq27 (N : Nat) : GoodF Pg 57 (Fq27 (Gq27 N)) := by
  refine good_fs (cx := ⟨Pg, ofList [], isref, N⟩) (ofList_nil _) shFq27 (spq27 (Gq27 N)) (anq27 N) 0 0 (by kernel_rfl) (fun i_ hi_ => by omega) ?_
  intro a k h
  unfold spq27 at h
  split at h
  · exact ⟨[], rfl, rfl, (eqq27 _ _ _ _ _ _ _).trans h⟩
  · cases h


def sh_st_matrix_Lower_2 : StSh := ⟨(.any :: (.ptr 0 0 :: (.any :: (.int .i64 :: (.int .i64 :: (sqs 11 (.int .i64 :: (.int .i64 :: (sqs 17 []))))))))), [some (28, 1, .cells [.int .i64, .int .i64, .rof])]⟩
def sx0_st_matrix_Lower_2 : StSh := ⟨(.any :: (.any :: (.bool :: (sqs 32 [])))), []⟩
def sx1_st_matrix_Lower_2 : StSh := ⟨(.any :: (.ptr 0 0 :: (sqs 14 (.int .i64 :: (.int .i64 :: (sqs 17 [])))))), [some (28, 1, .cells [.int .i64, .int .i64, .rof])]⟩
def hk_st_matrix_Lower_2 (N : Nat) (Sq0 : TSq0) (Sq27 : TSq27) (Sq46 : TSq46) : List Atom -> K -> Bool := fun a_ κ => match a_ with
  | [.int i, .int j, .int t16_1, .int t17_1, .int m_5, .int m_6, .fls m_7] => iterG N (stq72 N Sq0 Sq27 Sq46 i t16_1 t17_1 m_5 m_6 m_7 (fun r0 => κ.ret (sx0_st_matrix_Lower_2.build [.bool r0])) (κ.ext 2 (sx1_st_matrix_Lower_2.build [.int t16_1, .int t17_1, .int m_5, .int m_6, .fls m_7]))) j
  | _ => false
def sh_st_matrix_Lower_0 : StSh := ⟨(.any :: (.ptr 0 0 :: (sqs 14 (.int .i64 :: (.int .i64 :: (sqs 17 [])))))), [some (28, 1, .cells [.int .i64, .int .i64, .rof])]⟩
def sx0_st_matrix_Lower_0 : StSh := ⟨(.any :: (.any :: (.bool :: (sqs 32 [])))), []⟩
def sx1_st_matrix_Lower_0 : StSh := ⟨(sqs 35 []), []⟩
def hk_st_matrix_Lower_0 (N : Nat) (Sq0 : TSq0) (Sq27 : TSq27) (Sq46 : TSq46) : List Atom -> K -> Bool := fun a_ κ => match a_ with
  | [.int t16, .int t17, .int m, .int m_3, .fls m_4] => iterG N (stq79 N Sq0 Sq27 Sq46 t16 m m_3 m_4 (fun r0 => κ.ret (sx0_st_matrix_Lower_0.build [.bool r0])) (κ.ext 0 (sx1_st_matrix_Lower_0.build []))) t17
  | _ => false
def anq12 (N : Nat) (Sq0 : TSq0) (Sq27 : TSq27) (Sq46 : TSq46) : Nat -> Option Ann := fun b_ => cond (b_ == 2) (some ⟨⟨[1, 3, 4, 16, 17], [], [], []⟩, [(2, ⟨[1, 16, 17], [], [], []⟩)], some ⟨[2], [], [], []⟩, some (mkHooks [(sh_st_matrix_Lower_2, hk_st_matrix_Lower_2 N Sq0 Sq27 Sq46)])⟩) (cond (b_ == 0) (some ⟨⟨[1, 16, 17], [], [], []⟩, [(0, ⟨[], [], [], []⟩)], some ⟨[2], [], [], []⟩, some (mkHooks [(sh_st_matrix_Lower_0, hk_st_matrix_Lower_0 N Sq0 Sq27 Sq46)])⟩) (none))
theorem eq_st_matrix_Lower_2 (N : Nat) (Sq0 : TSq0) (Sq27 : TSq27) (Sq46 : TSq46) (κ : K) (i j t16_1 t17_1 m_5 m_6 : Int) (m_7 : List Fl) : iter N (fun s k => codeV ⟨Pg, ofList [(14, (Fq0 Sq0)), (57, (Fq27 Sq27)), (56, (Fq46 Sq46))], isref, N⟩ 0 (anq12 N Sq0 Sq27 Sq46) (lp Pg 28 1).2 (lp Pg 28 1).1 s (roundK Pg 0 ((anq12 N Sq0 Sq27 Sq46) (lp Pg 28 1).1) κ k)) (sh_st_matrix_Lower_2.build [.int i, .int j, .int t16_1, .int t17_1, .int m_5, .int m_6, .fls m_7]) = iterG N (stq72 N Sq0 Sq27 Sq46 i t16_1 t17_1 m_5 m_6 m_7 (fun r0 => κ.ret (sx0_st_matrix_Lower_2.build [.bool r0])) (κ.ext 2 (sx1_st_matrix_Lower_2.build [.int t16_1, .int t17_1, .int m_5, .int m_6, .fls m_7]))) j :=
  iter_tr (fun v_ => sh_st_matrix_Lower_2.build [.int i, .int v_, .int t16_1, .int t17_1, .int m_5, .int m_6, .fls m_7]) (fun v_ K_ => by kernel_rfl) N j
theorem hk1_st_matrix_Lower_2 (N : Nat) (Sq0 : TSq0) (Sq27 : TSq27) (Sq46 : TSq46) : HookFor ⟨Pg, ofList [(14, (Fq0 Sq0)), (57, (Fq27 Sq27)), (56, (Fq46 Sq46))], isref, N⟩ 0 (anq12 N Sq0 Sq27 Sq46) (lp Pg 28 1) (sh_st_matrix_Lower_2, hk_st_matrix_Lower_2 N Sq0 Sq27 Sq46) := by
  intro a κ h
  simp only at h
  unfold hk_st_matrix_Lower_2 at h
  split at h
  · exact (eq_st_matrix_Lower_2 _ _ _ _ _ _ _ _ _ _ _ _).trans h
  · cases h
theorem eq_st_matrix_Lower_0 (N : Nat) (Sq0 : TSq0) (Sq27 : TSq27) (Sq46 : TSq46) (κ : K) (t16 t17 m m_3 : Int) (m_4 : List Fl) : iter N (fun s k => codeV ⟨Pg, ofList [(14, (Fq0 Sq0)), (57, (Fq27 Sq27)), (56, (Fq46 Sq46))], isref, N⟩ 0 (anq12 N Sq0 Sq27 Sq46) (lp Pg 28 0).2 (lp Pg 28 0).1 s (roundK Pg 0 ((anq12 N Sq0 Sq27 Sq46) (lp Pg 28 0).1) κ k)) (sh_st_matrix_Lower_0.build [.int t16, .int t17, .int m, .int m_3, .fls m_4]) = iterG N (stq79 N Sq0 Sq27 Sq46 t16 m m_3 m_4 (fun r0 => κ.ret (sx0_st_matrix_Lower_0.build [.bool r0])) (κ.ext 0 (sx1_st_matrix_Lower_0.build []))) t17 :=
  iter_tr (fun v_ => sh_st_matrix_Lower_0.build [.int t16, .int v_, .int m, .int m_3, .fls m_4]) (fun v_ K_ => by kernel_rfl) N t17
theorem hk1_st_matrix_Lower_0 (N : Nat) (Sq0 : TSq0) (Sq27 : TSq27) (Sq46 : TSq46) : HookFor ⟨Pg, ofList [(14, (Fq0 Sq0)), (57, (Fq27 Sq27)), (56, (Fq46 Sq46))], isref, N⟩ 0 (anq12 N Sq0 Sq27 Sq46) (lp Pg 28 0) (sh_st_matrix_Lower_0, hk_st_matrix_Lower_0 N Sq0 Sq27 Sq46) := by
  intro a κ h
  simp only at h
  unfold hk_st_matrix_Lower_0 at h
  split at h
  · exact (eq_st_matrix_Lower_0 _ _ _ _ _ _ _ _ _ _).trans h
  · cases h
theorem ho_matrix_Lower_2 (N : Nat) (Sq0 : TSq0) (Sq27 : TSq27) (Sq46 : TSq46) : HookOk ⟨Pg, ofList [(14, (Fq0 Sq0)), (57, (Fq27 Sq27)), (56, (Fq46 Sq46))], isref, N⟩ 0 (anq12 N Sq0 Sq27 Sq46) (lp Pg 28 1) :=
  hooks_ok [(sh_st_matrix_Lower_2, hk_st_matrix_Lower_2 N Sq0 Sq27 Sq46)] (by kernel_rfl) ⟨hk1_st_matrix_Lower_2 _ _ _ _, trivial⟩
theorem ho_matrix_Lower_0 (N : Nat) (Sq0 : TSq0) (Sq27 : TSq27) (Sq46 : TSq46) : HookOk ⟨Pg, ofList [(14, (Fq0 Sq0)), (57, (Fq27 Sq27)), (56, (Fq46 Sq46))], isref, N⟩ 0 (anq12 N Sq0 Sq27 Sq46) (lp Pg 28 0) :=
  hooks_ok [(sh_st_matrix_Lower_0, hk_st_matrix_Lower_0 N Sq0 Sq27 Sq46)] (by kernel_rfl) ⟨hk1_st_matrix_Lower_0 _ _ _ _, trivial⟩
theorem eqq12 (N : Nat) (Sq0 : TSq0) (Sq27 : TSq27) (Sq46 : TSq46) (m_0 m_1 : Int) (m_2 : List Fl) (c_ : V -> List Blk -> Bool) : bodyV ⟨Pg, ofList [(14, (Fq0 Sq0)), (57, (Fq27 Sq27)), (56, (Fq46 Sq46))], isref, N⟩ (anq12 N Sq0 Sq27 Sq46) 28 (shFq12.args [.int m_0, .int m_1, .fls m_2]) [] c_ = Gq12 N Sq0 Sq27 Sq46 m_0 m_1 m_2 (fun r0 => c_ (.bool r0) []) := by kernel_rfl
theorem goodq12 (N : Nat) (Sq0 : TSq0) (Sq27 : TSq27) (Sq46 : TSq46) (hq0 : GoodF Pg 14 (Fq0 Sq0)) (hq27 : GoodF Pg 57 (Fq27 Sq27)) (hq46 : GoodF Pg 56 (Fq46 Sq46)) : GoodF Pg 28 (Fq12 (Gq12 N Sq0 Sq27 Sq46)) := by
  refine good_fs (cx := ⟨Pg, ofList [(14, (Fq0 Sq0)), (57, (Fq27 Sq27)), (56, (Fq46 Sq46))], isref, N⟩) (ofList_cons hq0 (ofList_cons hq27 (ofList_cons hq46 (ofList_nil _)))) shFq12 (spq12 (Gq12 N Sq0 Sq27 Sq46)) (anq12 N Sq0 Sq27 Sq46) 2 0 (by kernel_rfl) (fun i_ hi_ => by
    match i_, hi_ with
    | 0, _ => exact ho_matrix_Lower_0 _ _ _ _
    | 1, _ => exact ho_matrix_Lower_2 _ _ _ _
    | (q + 2), h => omega) ?_
  intro a k h
  unfold spq12 at h
  split at h
  · exact ⟨[], rfl, rfl, (eqq12 _ _ _ _ _ _ _ _).trans h⟩
  · cases h

def sh_st_root_above_0 : StSh := ⟨(.any :: (.ptr 0 0 :: (.any :: (.any :: (.any :: (.int .i64 :: (.int .i64 :: (sqs 15 [])))))))), [some (28, 1, .cells [.int .i64, .int .i64, .rof])]⟩
def sx0_st_root_above_0 : StSh := ⟨(.any :: (.any :: (.bool :: (sqs 19 [])))), []⟩
def sx1_st_root_above_0 : StSh := ⟨(sqs 22 []), []⟩
def hk_st_root_above_0 (N : Nat) : List Atom -> K -> Bool := fun a_ κ => match a_ with
  | [.int t5, .int t6, .int l, .int l_3, .fls l_4] => iterG N (st_root_above_0 N t5 l l_3 l_4 (fun r0 => κ.ret (sx0_st_root_above_0.build [.bool r0])) (κ.ext 0 (sx1_st_root_above_0.build []))) t6
  | _ => false
def an_root_above (N : Nat) : Nat -> Option Ann := fun b_ => cond (b_ == 0) (some ⟨⟨[1, 5, 6], [], [], []⟩, [(0, ⟨[], [], [], []⟩)], some ⟨[2], [], [], []⟩, some (mkHooks [(sh_st_root_above_0, hk_st_root_above_0 N)])⟩) (none)
theorem eq_st_root_above_0 (N : Nat) (κ : K) (t5 t6 l l_3 : Int) (l_4 : List Fl) : iter N (fun s k => codeV ⟨Pg, ofList [], isref, N⟩ 0 (an_root_above N) (lp Pg 29 0).2 (lp Pg 29 0).1 s (roundK Pg 0 ((an_root_above N) (lp Pg 29 0).1) κ k)) (sh_st_root_above_0.build [.int t5, .int t6, .int l, .int l_3, .fls l_4]) = iterG N (st_root_above_0 N t5 l l_3 l_4 (fun r0 => κ.ret (sx0_st_root_above_0.build [.bool r0])) (κ.ext 0 (sx1_st_root_above_0.build []))) t6 :=
  iter_tr (fun v_ => sh_st_root_above_0.build [.int t5, .int v_, .int l, .int l_3, .fls l_4]) (fun v_ K_ => by kernel_rfl) N t6
theorem hk1_st_root_above_0 (N : Nat) : HookFor ⟨Pg, ofList [], isref, N⟩ 0 (an_root_above N) (lp Pg 29 0) (sh_st_root_above_0, hk_st_root_above_0 N) := by
  intro a κ h
  simp only at h
  unfold hk_st_root_above_0 at h
  split at h
  · exact (eq_st_root_above_0 _ _ _ _ _ _ _).trans h
  · cases h
theorem ho_root_above_0 (N : Nat) : HookOk ⟨Pg, ofList [], isref, N⟩ 0 (an_root_above N) (lp Pg 29 0) :=
  hooks_ok [(sh_st_root_above_0, hk_st_root_above_0 N)] (by kernel_rfl) ⟨hk1_st_root_above_0 _, trivial⟩
theorem eq_root_above (N : Nat) (l_0 l_1 : Int) (l_2 : List Fl) (c_ : V -> List Blk -> Bool) : bodyV ⟨Pg, ofList [], isref, N⟩ (an_root_above N) 29 (shF_root_above.args [.int l_0, .int l_1, .fls l_2]) [] c_ = G_root_above N l_0 l_1 l_2 (fun r0 => c_ (.bool r0) []) := by kernel_rfl
theorem good_root_above (N : Nat) : GoodF Pg 29 (F_root_above (G_root_above N)) := by
  refine good_fs (cx := ⟨Pg, ofList [], isref, N⟩) (ofList_nil _) shF_root_above (sp_root_above (G_root_above N)) (an_root_above N) 1 0 (by kernel_rfl) (fun i_ hi_ => by
    match i_, hi_ with
    | 0, _ => exact ho_root_above_0 _
    | (q + 1), h => omega) ?_
  intro a k h
  unfold sp_root_above at h
  split at h
  · exact ⟨[], rfl, rfl, (eq_root_above _ _ _ _ _).trans h⟩
  · cases h

def an_root_Check (N : Nat) (Sq0 : TSq0) (Sq2 : TSq2) (Sq12 : TSq12) (S_root_above : TS_root_above) : Nat -> Option Ann := fun b_ => none
theorem eq_root_Check (N : Nat) (Sq0 : TSq0) (Sq2 : TSq2) (Sq12 : TSq12) (S_root_above : TS_root_above) (s_0 : List Fl) (s_1 s_2 : Int) (s_3 : List Fl) (c_ : V -> List Blk -> Bool) : bodyV ⟨Pg, ofList [(14, (Fq0 Sq0)), (27, (Fq2 Sq2)), (28, (Fq12 Sq12)), (29, (F_root_above S_root_above))], isref, N⟩ (an_root_Check N Sq0 Sq2 Sq12 S_root_above) 13 (shF_root_Check.args [.fls s_0, .int s_1, .int s_2, .fls s_3]) [] c_ = G_root_Check N Sq0 Sq2 Sq12 S_root_above s_0 s_1 s_2 s_3 (fun r0 => c_ (.int .i64 r0) []) := by kernel_rfl
theorem good_root_Check (N : Nat) (Sq0 : TSq0) (Sq2 : TSq2) (Sq12 : TSq12) (S_root_above : TS_root_above) (hq0 : GoodF Pg 14 (Fq0 Sq0)) (hq2 : GoodF Pg 27 (Fq2 Sq2)) (hq12 : GoodF Pg 28 (Fq12 Sq12)) (h_root_above : GoodF Pg 29 (F_root_above S_root_above)) : GoodF Pg 13 (F_root_Check (G_root_Check N Sq0 Sq2 Sq12 S_root_above)) := by
  refine good_fs (cx := ⟨Pg, ofList [(14, (Fq0 Sq0)), (27, (Fq2 Sq2)), (28, (Fq12 Sq12)), (29, (F_root_above S_root_above))], isref, N⟩) (ofList_cons hq0 (ofList_cons hq2 (ofList_cons hq12 (ofList_cons h_root_above (ofList_nil _))))) shF_root_Check (sp_root_Check (G_root_Check N Sq0 Sq2 Sq12 S_root_above)) (an_root_Check N Sq0 Sq2 Sq12 S_root_above) 0 0 (by kernel_rfl) (fun i_ hi_ => by omega) ?_
  intro a k h
  unfold sp_root_Check at h
  split at h
  · exact ⟨[], rfl, rfl, (eq_root_Check _ _ _ _ _ _ _ _ _ _).trans h⟩
  · cases h

def an_root_finite (N : Nat) : Nat -> Option Ann := fun b_ => none
theorem eq_root_finite (N : Nat) (x : Fl) (c_ : V -> List Blk -> Bool) : bodyV ⟨Pg, ofList [], isref, N⟩ (an_root_finite N) 32 (shF_root_finite.args [.fl x]) [] c_ = G_root_finite N x (fun r0 => c_ (.bool r0) []) := by kernel_rfl
theorem good_root_finite (N : Nat) : GoodF Pg 32 (F_root_finite (G_root_finite N)) := by
  refine good_fs (cx := ⟨Pg, ofList [], isref, N⟩) (ofList_nil _) shF_root_finite (sp_root_finite (G_root_finite N)) (an_root_finite N) 0 0 (by kernel_rfl) (fun i_ hi_ => by omega) ?_
  intro a k h
  unfold sp_root_finite at h
  split at h
  · exact ⟨[], rfl, rfl, (eq_root_finite _ _ _).trans h⟩
  · cases h

def an_root_checkRow (N : Nat) (Sq2 : TSq2) (S_root_finite : TS_root_finite) : Nat -> Option Ann := fun b_ => none
theorem eq_root_checkRow (N : Nat) (Sq2 : TSq2) (S_root_finite : TS_root_finite) (n : Int) (h : List Fl) (r : Fl) (c_ : V -> List Blk -> Bool) : bodyV ⟨Pg, ofList [(27, (Fq2 Sq2)), (32, (F_root_finite S_root_finite))], isref, N⟩ (an_root_checkRow N Sq2 S_root_finite) 31 (shF_root_checkRow.args [.int n, .fls h, .fl r]) [] c_ = G_root_checkRow N Sq2 S_root_finite n h r (fun r0 => c_ (.int .i64 r0) []) := by kernel_rfl
theorem good_root_checkRow (N : Nat) (Sq2 : TSq2) (S_root_finite : TS_root_finite) (hq2 : GoodF Pg 27 (Fq2 Sq2)) (h_root_finite : GoodF Pg 32 (F_root_finite S_root_finite)) : GoodF Pg 31 (F_root_checkRow (G_root_checkRow N Sq2 S_root_finite)) := by
  refine good_fs (cx := ⟨Pg, ofList [(27, (Fq2 Sq2)), (32, (F_root_finite S_root_finite))], isref, N⟩) (ofList_cons hq2 (ofList_cons h_root_finite (ofList_nil _))) shF_root_checkRow (sp_root_checkRow (G_root_checkRow N Sq2 S_root_finite)) (an_root_checkRow N Sq2 S_root_finite) 0 0 (by kernel_rfl) (fun i_ hi_ => by omega) ?_
  intro a k h
  unfold sp_root_checkRow at h
  split at h
  · exact ⟨[], rfl, rfl, (eq_root_checkRow _ _ _ _ _ _ _).trans h⟩
  · cases h

def an_root_steps_see_p0 (N : Nat) (S_root_finite : TS_root_finite) : Nat -> Option Ann := fun b_ => none
theorem eq_root_steps_see_p0 (N : Nat) (S_root_finite : TS_root_finite) (x : Fl) (b : Bool) (c_ : V -> List Blk -> Bool) : bodyV ⟨Pg, ofList [(32, (F_root_finite S_root_finite))], isref, N⟩ (an_root_steps_see_p0 N S_root_finite) 34 (shF_root_steps_see_p0.args [.fl x, .bool b]) [⟨74, 1, .cells [.bool b]⟩] c_ = G_root_steps_see_p0 N S_root_finite x b (fun r1 => c_ (.flt x) [⟨74, 1, .cells [.bool r1]⟩]) := by kernel_rfl
theorem good_root_steps_see_p0 (N : Nat) (S_root_finite : TS_root_finite) (h_root_finite : GoodF Pg 32 (F_root_finite S_root_finite)) : GoodF Pg 34 (F_root_steps_see_p0 (G_root_steps_see_p0 N S_root_finite)) := by
  refine good_fs (cx := ⟨Pg, ofList [(32, (F_root_finite S_root_finite))], isref, N⟩) (ofList_cons h_root_finite (ofList_nil _)) shF_root_steps_see_p0 (sp_root_steps_see_p0 (G_root_steps_see_p0 N S_root_finite)) (an_root_steps_see_p0 N S_root_finite) 0 1 (by kernel_rfl) (fun i_ hi_ => by omega) ?_
  intro a k h
  unfold sp_root_steps_see_p0 at h
  split at h
  · exact ⟨[_], rfl, rfl, (eq_root_steps_see_p0 _ _ _ _ _).trans h⟩
  · cases h

def sh_st_root_steps_dot_p0_0 : StSh := ⟨(.ptr 0 0 :: (.rof :: (.rof :: (sqs 4 (.flt :: (.any :: (.any :: (.int .i64 :: (.int .i64 :: (sqs 19 [])))))))))), [some (74, 1, .cells [.bool])]⟩
def sx0_st_root_steps_dot_p0_0 : StSh := ⟨(sqs 7 (.flt :: (sqs 23 []))), [some (74, 1, .cells [.bool])]⟩
def hk_st_root_steps_dot_p0_0 (N : Nat) (S_root_steps_see_p0 : TS_root_steps_see_p0) : List Atom -> K -> Bool := fun a_ κ => match a_ with
  | [.fls a_1, .fls b_2, .fl t, .int t10, .int t11, .bool s] => iterG N (st_root_steps_dot_p0_0 N S_root_steps_see_p0 a_1 b_2 t10 (fun r0 r1 => κ.ext 0 (sx0_st_root_steps_dot_p0_0.build [.fl r0, .bool r1]))) (t, t11, s)
  | _ => false
def an_root_steps_dot_p0 (N : Nat) (S_root_steps_see_p0 : TS_root_steps_see_p0) : Nat -> Option Ann := fun b_ => cond (b_ == 0) (some ⟨⟨[0, 1, 2, 7, 10, 11], [], [], []⟩, [(0, ⟨[7], [], [], []⟩)], some ⟨[6], [], [], []⟩, some (mkHooks [(sh_st_root_steps_dot_p0_0, hk_st_root_steps_dot_p0_0 N S_root_steps_see_p0)])⟩) (none)
theorem eq_st_root_steps_dot_p0_0 (N : Nat) (S_root_steps_see_p0 : TS_root_steps_see_p0) (κ : K) (a_1 b_2 : List Fl) (t : Fl) (t10 t11 : Int) (s : Bool) : iter N (fun s k => codeV ⟨Pg, ofList [(34, (F_root_steps_see_p0 S_root_steps_see_p0))], isref, N⟩ 1 (an_root_steps_dot_p0 N S_root_steps_see_p0) (lp Pg 54 0).2 (lp Pg 54 0).1 s (roundK Pg 1 ((an_root_steps_dot_p0 N S_root_steps_see_p0) (lp Pg 54 0).1) κ k)) (sh_st_root_steps_dot_p0_0.build [.fls a_1, .fls b_2, .fl t, .int t10, .int t11, .bool s]) = iterG N (st_root_steps_dot_p0_0 N S_root_steps_see_p0 a_1 b_2 t10 (fun r0 r1 => κ.ext 0 (sx0_st_root_steps_dot_p0_0.build [.fl r0, .bool r1]))) (t, t11, s) :=
  iter_tr (fun (v_ : Fl × Int × Bool) => sh_st_root_steps_dot_p0_0.build [.fls a_1, .fls b_2, .fl v_.1, .int t10, .int v_.2.1, .bool v_.2.2]) (fun v_ K_ => by obtain ⟨t, t11, s⟩ := v_; kernel_rfl) N (t, t11, s)
theorem hk1_st_root_steps_dot_p0_0 (N : Nat) (S_root_steps_see_p0 : TS_root_steps_see_p0) : HookFor ⟨Pg, ofList [(34, (F_root_steps_see_p0 S_root_steps_see_p0))], isref, N⟩ 1 (an_root_steps_dot_p0 N S_root_steps_see_p0) (lp Pg 54 0) (sh_st_root_steps_dot_p0_0, hk_st_root_steps_dot_p0_0 N S_root_steps_see_p0) := by
  intro a κ h
  simp only at h
  unfold hk_st_root_steps_dot_p0_0 at h
  split at h
  · exact (eq_st_root_steps_dot_p0_0 _ _ _ _ _ _ _ _ _).trans h
  · cases h
theorem ho_root_steps_dot_p0_0 (N : Nat) (S_root_steps_see_p0 : TS_root_steps_see_p0) : HookOk ⟨Pg, ofList [(34, (F_root_steps_see_p0 S_root_steps_see_p0))], isref, N⟩ 1 (an_root_steps_dot_p0 N S_root_steps_see_p0) (lp Pg 54 0) :=
  hooks_ok [(sh_st_root_steps_dot_p0_0, hk_st_root_steps_dot_p0_0 N S_root_steps_see_p0)] (by kernel_rfl) ⟨hk1_st_root_steps_dot_p0_0 _ _, trivial⟩
theorem eq_root_steps_dot_p0 (N : Nat) (S_root_steps_see_p0 : TS_root_steps_see_p0) (a b : List Fl) (b_1 : Bool) (c_ : V -> List Blk -> Bool) : bodyV ⟨Pg, ofList [(34, (F_root_steps_see_p0 S_root_steps_see_p0))], isref, N⟩ (an_root_steps_dot_p0 N S_root_steps_see_p0) 54 (shF_root_steps_dot_p0.args [.fls a, .fls b, .bool b_1]) [⟨74, 1, .cells [.bool b_1]⟩] c_ = G_root_steps_dot_p0 N S_root_steps_see_p0 a b b_1 (fun r0 r1 => c_ (.flt r0) [⟨74, 1, .cells [.bool r1]⟩]) := by kernel_rfl
theorem good_root_steps_dot_p0 (N : Nat) (S_root_steps_see_p0 : TS_root_steps_see_p0) (h_root_steps_see_p0 : GoodF Pg 34 (F_root_steps_see_p0 S_root_steps_see_p0)) : GoodF Pg 54 (F_root_steps_dot_p0 (G_root_steps_dot_p0 N S_root_steps_see_p0)) := by
  refine good_fs (cx := ⟨Pg, ofList [(34, (F_root_steps_see_p0 S_root_steps_see_p0))], isref, N⟩) (ofList_cons h_root_steps_see_p0 (ofList_nil _)) shF_root_steps_dot_p0 (sp_root_steps_dot_p0 (G_root_steps_dot_p0 N S_root_steps_see_p0)) (an_root_steps_dot_p0 N S_root_steps_see_p0) 1 1 (by kernel_rfl) (fun i_ hi_ => by
    match i_, hi_ with
    | 0, _ => exact ho_root_steps_dot_p0_0 _ _
    | (q + 1), h => omega) ?_
  intro a k h
  unfold sp_root_steps_dot_p0 at h
  split at h
  · exact ⟨[_], rfl, rfl, (eq_root_steps_dot_p0 _ _ _ _ _ _).trans h⟩
  · cases h

def sh_st_root_foresee_p0_2 : StSh := ⟨(.any :: (.rof :: (.flt :: (.ptr 0 0 :: (.ptr 1 0 :: (.any :: (.any :: (.any :: (.ptr 2 0 :: (.int .i64 :: (.ptr 3 0 :: (.int .i64 :: (.slw 4 :: (sqs 11 (.int .i64 :: (.int .i64 :: (.any :: (.any :: (.int .i64 :: (.int .i64 :: (sqs 69 []))))))))))))))))))))), [some (74, 1, .cells [.bool]), some (32, 1, .cells [.rof, .int .i64, .int .i64, .rof]), some (76, 1, .cells [.flt, .nil, .nil]), some (76, 1, .cells [.flt, .slw 5, .slw 6]), some (48, 1, .flts), some (48, 1, .flts), some (48, 1, .flts)]⟩
def sx0_st_root_foresee_p0_2 : StSh := ⟨(.any :: (.rof :: (.flt :: (.ptr 0 0 :: (.ptr 1 0 :: (.any :: (.any :: (.any :: (.ptr 2 0 :: (.int .i64 :: (.ptr 3 0 :: (.int .i64 :: (.slw 4 :: (sqs 11 (.int .i64 :: (.int .i64 :: (sqs 73 []))))))))))))))))), [some (74, 1, .cells [.bool]), some (32, 1, .cells [.rof, .int .i64, .int .i64, .rof]), some (76, 1, .cells [.flt, .nil, .nil]), some (76, 1, .cells [.flt, .slw 5, .slw 6]), some (48, 1, .flts), some (48, 1, .flts), some (48, 1, .flts)]⟩
def hk_st_root_foresee_p0_2 (N : Nat) (S_root_steps_dot_p0 : TS_root_steps_dot_p0) (S_root_steps_see_p0 : TS_root_steps_see_p0) : List Atom -> K -> Bool := fun a_ κ => match a_ with
  | [.fls h_3, .fl r_3, .int n_2, .int j_1, .int t24_2, .int t25_2, .int t28_1, .int t29_1, .bool k__2, .fls s_11, .int s_12, .int s_13, .fls s_14, .fl t8_2, .fl o_2, .fls col, .fls b5_2, .fls b6] => iterG N (st_root_foresee_p0_2 N S_root_steps_dot_p0 S_root_steps_see_p0 h_3 r_3 n_2 j_1 t24_2 t25_2 t28_1 k__2 s_11 s_12 s_13 s_14 t8_2 o_2 b5_2 b6 (fun r13 => κ.ext 2 (sx0_st_root_foresee_p0_2.build [.fls h_3, .fl r_3, .int n_2, .int j_1, .int t24_2, .int t25_2, .bool k__2, .fls s_11, .int s_12, .int s_13, .fls s_14, .fl t8_2, .fl o_2, .fls r13, .fls b5_2, .fls b6]))) (t29_1, col)
  | _ => false
def sh_st_root_foresee_p0_0 : StSh := ⟨(.any :: (.rof :: (.flt :: (.ptr 0 0 :: (.ptr 1 0 :: (.any :: (.any :: (.any :: (.ptr 2 0 :: (.int .i64 :: (.ptr 3 0 :: (sqs 13 (.int .i64 :: (.int .i64 :: (sqs 73 []))))))))))))))), [some (74, 1, .cells [.bool]), some (32, 1, .cells [.rof, .int .i64, .int .i64, .rof]), some (76, 1, .cells [.flt, .nil, .nil]), some (76, 1, .cells [.flt, .slw 4, .slw 5]), some (48, 1, .flts), some (48, 1, .flts)]⟩
def sx0_st_root_foresee_p0_0 : StSh := ⟨(.any :: (.rof :: (.flt :: (.ptr 0 0 :: (.ptr 1 0 :: (.any :: (.any :: (.any :: (.ptr 2 0 :: (.int .i64 :: (.ptr 3 0 :: (sqs 88 [])))))))))))), [some (74, 1, .cells [.bool]), some (32, 1, .cells [.rof, .int .i64, .int .i64, .rof]), some (76, 1, .cells [.flt, .nil, .nil]), some (76, 1, .cells [.flt, .slw 4, .slw 5]), some (48, 1, .flts), some (48, 1, .flts)]⟩
def hk_st_root_foresee_p0_0 (N : Nat) (S_root_steps_dot_p0 : TS_root_steps_dot_p0) (S_root_steps_see_p0 : TS_root_steps_see_p0) : List Atom -> K -> Bool := fun a_ κ => match a_ with
  | [.fls h_1, .fl r_1, .int n, .int t24, .int t25, .bool k_, .fls s, .int s_4, .int s_5, .fls s_6, .fl t8, .fl o, .fls b4, .fls b5] => iterG N (st_root_foresee_p0_0 N S_root_steps_dot_p0 S_root_steps_see_p0 h_1 r_1 n t24 s s_4 s_5 s_6 t8 o b5 (fun r3 r10 => κ.ext 0 (sx0_st_root_foresee_p0_0.build [.fls h_1, .fl r_1, .int n, .bool r3, .fls s, .int s_4, .int s_5, .fls s_6, .fl t8, .fl o, .fls r10, .fls b5]))) (t25, k_, b4)
  | _ => false
def sh_st_root_foresee_p0_4 : StSh := ⟨(.any :: (.any :: (.any :: (.ptr 0 0 :: (sqs 4 (.ptr 1 0 :: (.any :: (.ptr 2 0 :: (.any :: (.any :: (.any :: (.int .i64 :: (sqs 84 []))))))))))))), [some (74, 1, .cells [.bool]), some (76, 1, .cells [.flt, .nil, .nil]), some (76, 1, .cells [.flt, .slw 3, .slw 4]), some (48, 1, .flts), some (48, 1, .flts)]⟩
def sx0_st_root_foresee_p0_4 : StSh := ⟨(sqs 8 (.ptr 1 0 :: (.any :: (.ptr 2 0 :: (sqs 88 []))))), [some (74, 1, .cells [.bool]), some (76, 1, .cells [.flt, .nil, .nil]), some (76, 1, .cells [.flt, .slw 3, .slw 4]), some (48, 1, .flts), some (48, 1, .flts)]⟩
def hk_st_root_foresee_p0_4 (N : Nat) (S_root_steps_dot_p0 : TS_root_steps_dot_p0) (S_root_steps_see_p0 : TS_root_steps_see_p0) : List Atom -> K -> Bool := fun a_ κ => match a_ with
  | [.int j_2, .bool k__4, .fl t8_3, .fl o_3, .fls b3, .fls b4_3] => iterG N (st_root_foresee_p0_4 N S_root_steps_dot_p0 S_root_steps_see_p0 t8_3 o_3 b3 (fun r0 r4 => κ.ext 4 (sx0_st_root_foresee_p0_4.build [.bool r0, .fl t8_3, .fl o_3, .fls b3, .fls r4]))) (j_2, k__4, b4_3)
  | _ => false
def an_root_foresee_p0 (N : Nat) (S_root_steps_dot_p0 : TS_root_steps_dot_p0) (S_root_steps_see_p0 : TS_root_steps_see_p0) : Nat -> Option Ann := fun b_ => cond (b_ == 2) (some ⟨⟨[1, 2, 3, 4, 8, 9, 10, 11, 12, 24, 25, 28, 29], [(12, none, 48)], [], []⟩, [(2, ⟨[1, 2, 3, 4, 8, 9, 10, 11, 12, 24, 25], [], [], []⟩)], some ⟨[8], [], [], []⟩, some (mkHooks [(sh_st_root_foresee_p0_2, hk_st_root_foresee_p0_2 N S_root_steps_dot_p0 S_root_steps_see_p0)])⟩) (cond (b_ == 0) (some ⟨⟨[1, 2, 3, 4, 8, 9, 10, 24, 25], [], [], []⟩, [(0, ⟨[1, 2, 3, 4, 8, 9, 10], [], [], []⟩)], some ⟨[8], [], [], []⟩, some (mkHooks [(sh_st_root_foresee_p0_0, hk_st_root_foresee_p0_0 N S_root_steps_dot_p0 S_root_steps_see_p0)])⟩) (cond (b_ == 4) (some ⟨⟨[3, 8, 10, 14], [], [], []⟩, [(4, ⟨[8, 10], [], [], []⟩)], some ⟨[8], [], [], []⟩, some (mkHooks [(sh_st_root_foresee_p0_4, hk_st_root_foresee_p0_4 N S_root_steps_dot_p0 S_root_steps_see_p0)])⟩) (none)))
theorem eq_st_root_foresee_p0_2 (N : Nat) (S_root_steps_dot_p0 : TS_root_steps_dot_p0) (S_root_steps_see_p0 : TS_root_steps_see_p0) (κ : K) (h_3 : List Fl) (r_3 : Fl) (n_2 j_1 t24_2 t25_2 t28_1 t29_1 : Int) (k__2 : Bool) (s_11 : List Fl) (s_12 s_13 : Int) (s_14 : List Fl) (t8_2 o_2 : Fl) (col b5_2 b6 : List Fl) : iter N (fun s k => codeV ⟨Pg, ofList [(54, (F_root_steps_dot_p0 S_root_steps_dot_p0)), (34, (F_root_steps_see_p0 S_root_steps_see_p0))], isref, N⟩ 1 (an_root_foresee_p0 N S_root_steps_dot_p0 S_root_steps_see_p0) (lp Pg 33 1).2 (lp Pg 33 1).1 s (roundK Pg 1 ((an_root_foresee_p0 N S_root_steps_dot_p0 S_root_steps_see_p0) (lp Pg 33 1).1) κ k)) (sh_st_root_foresee_p0_2.build [.fls h_3, .fl r_3, .int n_2, .int j_1, .int t24_2, .int t25_2, .int t28_1, .int t29_1, .bool k__2, .fls s_11, .int s_12, .int s_13, .fls s_14, .fl t8_2, .fl o_2, .fls col, .fls b5_2, .fls b6]) = iterG N (st_root_foresee_p0_2 N S_root_steps_dot_p0 S_root_steps_see_p0 h_3 r_3 n_2 j_1 t24_2 t25_2 t28_1 k__2 s_11 s_12 s_13 s_14 t8_2 o_2 b5_2 b6 (fun r13 => κ.ext 2 (sx0_st_root_foresee_p0_2.build [.fls h_3, .fl r_3, .int n_2, .int j_1, .int t24_2, .int t25_2, .bool k__2, .fls s_11, .int s_12, .int s_13, .fls s_14, .fl t8_2, .fl o_2, .fls r13, .fls b5_2, .fls b6]))) (t29_1, col) :=
  iter_tr (fun (v_ : Int × List Fl) => sh_st_root_foresee_p0_2.build [.fls h_3, .fl r_3, .int n_2, .int j_1, .int t24_2, .int t25_2, .int t28_1, .int v_.1, .bool k__2, .fls s_11, .int s_12, .int s_13, .fls s_14, .fl t8_2, .fl o_2, .fls v_.2, .fls b5_2, .fls b6]) (fun v_ K_ => by obtain ⟨t29_1, col⟩ := v_; kernel_rfl) N (t29_1, col)
theorem hk1_st_root_foresee_p0_2 (N : Nat) (S_root_steps_dot_p0 : TS_root_steps_dot_p0) (S_root_steps_see_p0 : TS_root_steps_see_p0) : HookFor ⟨Pg, ofList [(54, (F_root_steps_dot_p0 S_root_steps_dot_p0)), (34, (F_root_steps_see_p0 S_root_steps_see_p0))], isref, N⟩ 1 (an_root_foresee_p0 N S_root_steps_dot_p0 S_root_steps_see_p0) (lp Pg 33 1) (sh_st_root_foresee_p0_2, hk_st_root_foresee_p0_2 N S_root_steps_dot_p0 S_root_steps_see_p0) := by
  intro a κ h
  simp only at h
  unfold hk_st_root_foresee_p0_2 at h
  split at h
  · exact (eq_st_root_foresee_p0_2 _ _ _ _ _ _ _ _ _ _ _ _ _ _ _ _ _ _ _ _ _ _).trans h
  · cases h
theorem eq_st_root_foresee_p0_0 (N : Nat) (S_root_steps_dot_p0 : TS_root_steps_dot_p0) (S_root_steps_see_p0 : TS_root_steps_see_p0) (κ : K) (h_1 : List Fl) (r_1 : Fl) (n t24 t25 : Int) (k_ : Bool) (s : List Fl) (s_4 s_5 : Int) (s_6 : List Fl) (t8 o : Fl) (b4 b5 : List Fl) : iter N (fun s k => codeV ⟨Pg, ofList [(54, (F_root_steps_dot_p0 S_root_steps_dot_p0)), (34, (F_root_steps_see_p0 S_root_steps_see_p0))], isref, N⟩ 1 (an_root_foresee_p0 N S_root_steps_dot_p0 S_root_steps_see_p0) (lp Pg 33 0).2 (lp Pg 33 0).1 s (roundK Pg 1 ((an_root_foresee_p0 N S_root_steps_dot_p0 S_root_steps_see_p0) (lp Pg 33 0).1) κ k)) (sh_st_root_foresee_p0_0.build [.fls h_1, .fl r_1, .int n, .int t24, .int t25, .bool k_, .fls s, .int s_4, .int s_5, .fls s_6, .fl t8, .fl o, .fls b4, .fls b5]) = iterG N (st_root_foresee_p0_0 N S_root_steps_dot_p0 S_root_steps_see_p0 h_1 r_1 n t24 s s_4 s_5 s_6 t8 o b5 (fun r3 r10 => κ.ext 0 (sx0_st_root_foresee_p0_0.build [.fls h_1, .fl r_1, .int n, .bool r3, .fls s, .int s_4, .int s_5, .fls s_6, .fl t8, .fl o, .fls r10, .fls b5]))) (t25, k_, b4) :=
  iter_tr (fun (v_ : Int × Bool × List Fl) => sh_st_root_foresee_p0_0.build [.fls h_1, .fl r_1, .int n, .int t24, .int v_.1, .bool v_.2.1, .fls s, .int s_4, .int s_5, .fls s_6, .fl t8, .fl o, .fls v_.2.2, .fls b5]) (fun v_ K_ => by obtain ⟨t25, k_, b4⟩ := v_; kernel_rfl) N (t25, k_, b4)
theorem hk1_st_root_foresee_p0_0 (N : Nat) (S_root_steps_dot_p0 : TS_root_steps_dot_p0) (S_root_steps_see_p0 : TS_root_steps_see_p0) : HookFor ⟨Pg, ofList [(54, (F_root_steps_dot_p0 S_root_steps_dot_p0)), (34, (F_root_steps_see_p0 S_root_steps_see_p0))], isref, N⟩ 1 (an_root_foresee_p0 N S_root_steps_dot_p0 S_root_steps_see_p0) (lp Pg 33 0) (sh_st_root_foresee_p0_0, hk_st_root_foresee_p0_0 N S_root_steps_dot_p0 S_root_steps_see_p0) := by
  intro a κ h
  simp only at h
  unfold hk_st_root_foresee_p0_0 at h
  split at h
  · exact (eq_st_root_foresee_p0_0 _ _ _ _ _ _ _ _ _ _ _ _ _ _ _ _ _ _).trans h
  · cases h
theorem eq_st_root_foresee_p0_4 (N : Nat) (S_root_steps_dot_p0 : TS_root_steps_dot_p0) (S_root_steps_see_p0 : TS_root_steps_see_p0) (κ : K) (j_2 : Int) (k__4 : Bool) (t8_3 o_3 : Fl) (b3 b4_3 : List Fl) : iter N (fun s k => codeV ⟨Pg, ofList [(54, (F_root_steps_dot_p0 S_root_steps_dot_p0)), (34, (F_root_steps_see_p0 S_root_steps_see_p0))], isref, N⟩ 1 (an_root_foresee_p0 N S_root_steps_dot_p0 S_root_steps_see_p0) (lp Pg 33 2).2 (lp Pg 33 2).1 s (roundK Pg 1 ((an_root_foresee_p0 N S_root_steps_dot_p0 S_root_steps_see_p0) (lp Pg 33 2).1) κ k)) (sh_st_root_foresee_p0_4.build [.int j_2, .bool k__4, .fl t8_3, .fl o_3, .fls b3, .fls b4_3]) = iterG N (st_root_foresee_p0_4 N S_root_steps_dot_p0 S_root_steps_see_p0 t8_3 o_3 b3 (fun r0 r4 => κ.ext 4 (sx0_st_root_foresee_p0_4.build [.bool r0, .fl t8_3, .fl o_3, .fls b3, .fls r4]))) (j_2, k__4, b4_3) :=
  iter_tr (fun (v_ : Int × Bool × List Fl) => sh_st_root_foresee_p0_4.build [.int v_.1, .bool v_.2.1, .fl t8_3, .fl o_3, .fls b3, .fls v_.2.2]) (fun v_ K_ => by obtain ⟨j_2, k__4, b4_3⟩ := v_; kernel_rfl) N (j_2, k__4, b4_3)
theorem hk1_st_root_foresee_p0_4 (N : Nat) (S_root_steps_dot_p0 : TS_root_steps_dot_p0) (S_root_steps_see_p0 : TS_root_steps_see_p0) : HookFor ⟨Pg, ofList [(54, (F_root_steps_dot_p0 S_root_steps_dot_p0)), (34, (F_root_steps_see_p0 S_root_steps_see_p0))], isref, N⟩ 1 (an_root_foresee_p0 N S_root_steps_dot_p0 S_root_steps_see_p0) (lp Pg 33 2) (sh_st_root_foresee_p0_4, hk_st_root_foresee_p0_4 N S_root_steps_dot_p0 S_root_steps_see_p0) := by
  intro a κ h
  simp only at h
  unfold hk_st_root_foresee_p0_4 at h
  split at h
  · exact (eq_st_root_foresee_p0_4 _ _ _ _ _ _ _ _ _ _).trans h
  · cases h
theorem ho_root_foresee_p0_2 (N : Nat) (S_root_steps_dot_p0 : TS_root_steps_dot_p0) (S_root_steps_see_p0 : TS_root_steps_see_p0) : HookOk ⟨Pg, ofList [(54, (F_root_steps_dot_p0 S_root_steps_dot_p0)), (34, (F_root_steps_see_p0 S_root_steps_see_p0))], isref, N⟩ 1 (an_root_foresee_p0 N S_root_steps_dot_p0 S_root_steps_see_p0) (lp Pg 33 1) :=
  hooks_ok [(sh_st_root_foresee_p0_2, hk_st_root_foresee_p0_2 N S_root_steps_dot_p0 S_root_steps_see_p0)] (by kernel_rfl) ⟨hk1_st_root_foresee_p0_2 _ _ _, trivial⟩
theorem ho_root_foresee_p0_0 (N : Nat) (S_root_steps_dot_p0 : TS_root_steps_dot_p0) (S_root_steps_see_p0 : TS_root_steps_see_p0) : HookOk ⟨Pg, ofList [(54, (F_root_steps_dot_p0 S_root_steps_dot_p0)), (34, (F_root_steps_see_p0 S_root_steps_see_p0))], isref, N⟩ 1 (an_root_foresee_p0 N S_root_steps_dot_p0 S_root_steps_see_p0) (lp Pg 33 0) :=
  hooks_ok [(sh_st_root_foresee_p0_0, hk_st_root_foresee_p0_0 N S_root_steps_dot_p0 S_root_steps_see_p0)] (by kernel_rfl) ⟨hk1_st_root_foresee_p0_0 _ _ _, trivial⟩
theorem ho_root_foresee_p0_4 (N : Nat) (S_root_steps_dot_p0 : TS_root_steps_dot_p0) (S_root_steps_see_p0 : TS_root_steps_see_p0) : HookOk ⟨Pg, ofList [(54, (F_root_steps_dot_p0 S_root_steps_dot_p0)), (34, (F_root_steps_see_p0 S_root_steps_see_p0))], isref, N⟩ 1 (an_root_foresee_p0 N S_root_steps_dot_p0 S_root_steps_see_p0) (lp Pg 33 2) :=
  hooks_ok [(sh_st_root_foresee_p0_4, hk_st_root_foresee_p0_4 N S_root_steps_dot_p0 S_root_steps_see_p0)] (by kernel_rfl) ⟨hk1_st_root_foresee_p0_4 _ _ _, trivial⟩
theorem eq_root_foresee_p0 (N : Nat) (S_root_steps_dot_p0 : TS_root_steps_dot_p0) (S_root_steps_see_p0 : TS_root_steps_see_p0) (s_0 : List Fl) (s_1 s_2 : Int) (s_3 h : List Fl) (r : Fl) (b : Bool) (c_ : V -> List Blk -> Bool) : bodyV ⟨Pg, ofList [(54, (F_root_steps_dot_p0 S_root_steps_dot_p0)), (34, (F_root_steps_see_p0 S_root_steps_see_p0))], isref, N⟩ (an_root_foresee_p0 N S_root_steps_dot_p0 S_root_steps_see_p0) 33 (shF_root_foresee_p0.args [.fls s_0, .int s_1, .int s_2, .fls s_3, .fls h, .fl r, .bool b]) [⟨74, 1, .cells [.bool b]⟩] c_ = G_root_foresee_p0 N S_root_steps_dot_p0 S_root_steps_see_p0 s_0 s_1 s_2 s_3 h r b (fun r0 r1 r2 r3 => c_ (.agg [.flt r0, .slw 1, .slw 2]) [⟨74, 1, .cells [.bool r1]⟩, ⟨48, 1, .flts r2⟩, ⟨48, 1, .flts r3⟩]) := by kernel_rfl
theorem good_root_foresee_p0 (N : Nat) (S_root_steps_dot_p0 : TS_root_steps_dot_p0) (S_root_steps_see_p0 : TS_root_steps_see_p0) (h_root_steps_dot_p0 : GoodF Pg 54 (F_root_steps_dot_p0 S_root_steps_dot_p0)) (h_root_steps_see_p0 : GoodF Pg 34 (F_root_steps_see_p0 S_root_steps_see_p0)) : GoodF Pg 33 (F_root_foresee_p0 (G_root_foresee_p0 N S_root_steps_dot_p0 S_root_steps_see_p0)) := by
  refine good_fs (cx := ⟨Pg, ofList [(54, (F_root_steps_dot_p0 S_root_steps_dot_p0)), (34, (F_root_steps_see_p0 S_root_steps_see_p0))], isref, N⟩) (ofList_cons h_root_steps_dot_p0 (ofList_cons h_root_steps_see_p0 (ofList_nil _))) shF_root_foresee_p0 (sp_root_foresee_p0 (G_root_foresee_p0 N S_root_steps_dot_p0 S_root_steps_see_p0)) (an_root_foresee_p0 N S_root_steps_dot_p0 S_root_steps_see_p0) 3 1 (by kernel_rfl) (fun i_ hi_ => by
    match i_, hi_ with
    | 0, _ => exact ho_root_foresee_p0_0 _ _ _
    | 1, _ => exact ho_root_foresee_p0_2 _ _ _
    | 2, _ => exact ho_root_foresee_p0_4 _ _ _
    | (q + 3), h => omega) ?_
  intro a k h
  unfold sp_root_foresee_p0 at h
  split at h
  · exact ⟨[_], rfl, rfl, (eq_root_foresee_p0 _ _ _ _ _ _ _ _ _ _ _).trans h⟩
  · cases h

def anq9 (N : Nat) : Nat -> Option Ann := fun b_ => none
theorem eqq9 (N : Nat) (i j : Int) (c_ : V -> List Blk -> Bool) : bodyV ⟨Pg, ofList [], isref, N⟩ (anq9 N) 73 (shFq9.args [.int i, .int j]) [] c_ = Gq9 N i j (fun r0 => c_ (.flt r0) []) := by kernel_rfl
theorem goodq9 (N : Nat) : GoodF Pg 73 (Fq9 (Gq9 N)) := by
  refine good_fs (cx := ⟨Pg, ofList [], isref, N⟩) (ofList_nil _) shFq9 (spq9 (Gq9 N)) (anq9 N) 0 0 (by kernel_rfl) (fun i_ hi_ => by omega) ?_
  intro a k h
  unfold spq9 at h
  split at h
  · exact ⟨[], rfl, rfl, (eqq9 _ _ _ _).trans h⟩
  · cases h

def sh_st_matrix_fill_f_2 : StSh := ⟨(.any :: (.int .i64 :: (.fn 73 [] :: (.any :: (.any :: (.any :: (.ptr 0 0 :: (.ptr 1 0 :: (.int .i64 :: (sqs 8 (.int .i64 :: (.int .i64 :: (.any :: (.any :: (.int .i64 :: (.int .i64 :: (sqs 14 []))))))))))))))))), [some (28, 1, .cells [.int .i64, .int .i64, .nil]), some (28, 1, .cells [.int .i64, .int .i64, .slw 2]), some (48, 1, .flts)]⟩
def sx0_st_matrix_fill_f_2 : StSh := ⟨(.any :: (.int .i64 :: (.fn 73 [] :: (.any :: (.any :: (.any :: (.ptr 0 0 :: (.ptr 1 0 :: (sqs 9 (.int .i64 :: (.int .i64 :: (sqs 18 [])))))))))))), [some (28, 1, .cells [.int .i64, .int .i64, .nil]), some (28, 1, .cells [.int .i64, .int .i64, .slw 2]), some (48, 1, .flts)]⟩
def hk_st_matrix_fill_f_2 (N : Nat) (Sq9 : TSq9) : List Atom -> K -> Bool := fun a_ κ => match a_ with
  | [.int cols_2, .int i, .int t17_1, .int t18_1, .int t21, .int t22, .int t6_2, .int t6_3, .int m_2, .int m_3, .fls b2_1] => iterG N (stq75 N Sq9 cols_2 i t17_1 t18_1 t21 t6_2 t6_3 m_2 m_3 (fun r7 => κ.ext 2 (sx0_st_matrix_fill_f_2.build [.int cols_2, .int t17_1, .int t18_1, .int t6_2, .int t6_3, .int m_2, .int m_3, .fls r7]))) (t22, b2_1)
  | _ => false
def sh_st_matrix_fill_f_0 : StSh := ⟨(.any :: (.int .i64 :: (.fn 73 [] :: (.any :: (.any :: (.any :: (.ptr 0 0 :: (.ptr 1 0 :: (sqs 9 (.int .i64 :: (.int .i64 :: (sqs 18 [])))))))))))), [some (28, 1, .cells [.int .i64, .int .i64, .nil]), some (28, 1, .cells [.int .i64, .int .i64, .slw 2]), some (48, 1, .flts)]⟩
def sx0_st_matrix_fill_f_0 : StSh := ⟨(sqs 6 (.ptr 0 0 :: (.ptr 1 0 :: (sqs 29 [])))), [some (28, 1, .cells [.int .i64, .int .i64, .nil]), some (28, 1, .cells [.int .i64, .int .i64, .slw 2]), some (48, 1, .flts)]⟩
def hk_st_matrix_fill_f_0 (N : Nat) (Sq9 : TSq9) : List Atom -> K -> Bool := fun a_ κ => match a_ with
  | [.int cols_1, .int t17, .int t18, .int t6, .int t6_1, .int m, .int m_1, .fls b2] => iterG N (stq74 N Sq9 cols_1 t17 t6 t6_1 m m_1 (fun r4 => κ.ext 0 (sx0_st_matrix_fill_f_0.build [.int t6, .int t6_1, .int m, .int m_1, .fls r4]))) (t18, b2)
  | _ => false
def anq25 (N : Nat) (Sq9 : TSq9) : Nat -> Option Ann := fun b_ => cond (b_ == 2) (some ⟨⟨[1, 2, 6, 7, 8, 17, 18, 21, 22], [], [], []⟩, [(2, ⟨[1, 2, 6, 7, 17, 18], [], [], []⟩)], some ⟨[6], [], [], []⟩, some (mkHooks [(sh_st_matrix_fill_f_2, hk_st_matrix_fill_f_2 N Sq9)])⟩) (cond (b_ == 0) (some ⟨⟨[1, 2, 6, 7, 17, 18], [], [], []⟩, [(0, ⟨[6, 7], [], [], []⟩)], some ⟨[6], [], [], []⟩, some (mkHooks [(sh_st_matrix_fill_f_0, hk_st_matrix_fill_f_0 N Sq9)])⟩) (none))
theorem eq_st_matrix_fill_f_2 (N : Nat) (Sq9 : TSq9) (κ : K) (cols_2 i t17_1 t18_1 t21 t22 t6_2 t6_3 m_2 m_3 : Int) (b2_1 : List Fl) : iter N (fun s k => codeV ⟨Pg, ofList [(73, (Fq9 Sq9))], isref, N⟩ 0 (anq25 N Sq9) (lp Pg 72 1).2 (lp Pg 72 1).1 s (roundK Pg 0 ((anq25 N Sq9) (lp Pg 72 1).1) κ k)) (sh_st_matrix_fill_f_2.build [.int cols_2, .int i, .int t17_1, .int t18_1, .int t21, .int t22, .int t6_2, .int t6_3, .int m_2, .int m_3, .fls b2_1]) = iterG N (stq75 N Sq9 cols_2 i t17_1 t18_1 t21 t6_2 t6_3 m_2 m_3 (fun r7 => κ.ext 2 (sx0_st_matrix_fill_f_2.build [.int cols_2, .int t17_1, .int t18_1, .int t6_2, .int t6_3, .int m_2, .int m_3, .fls r7]))) (t22, b2_1) :=
  iter_tr (fun (v_ : Int × List Fl) => sh_st_matrix_fill_f_2.build [.int cols_2, .int i, .int t17_1, .int t18_1, .int t21, .int v_.1, .int t6_2, .int t6_3, .int m_2, .int m_3, .fls v_.2]) (fun v_ K_ => by obtain ⟨t22, b2_1⟩ := v_; kernel_rfl) N (t22, b2_1)
theorem hk1_st_matrix_fill_f_2 (N : Nat) (Sq9 : TSq9) : HookFor ⟨Pg, ofList [(73, (Fq9 Sq9))], isref, N⟩ 0 (anq25 N Sq9) (lp Pg 72 1) (sh_st_matrix_fill_f_2, hk_st_matrix_fill_f_2 N Sq9) := by
  intro a κ h
  simp only at h
  unfold hk_st_matrix_fill_f_2 at h
  split at h
  · exact (eq_st_matrix_fill_f_2 _ _ _ _ _ _ _ _ _ _ _ _ _ _).trans h
  · cases h
theorem eq_st_matrix_fill_f_0 (N : Nat) (Sq9 : TSq9) (κ : K) (cols_1 t17 t18 t6 t6_1 m m_1 : Int) (b2 : List Fl) : iter N (fun s k => codeV ⟨Pg, ofList [(73, (Fq9 Sq9))], isref, N⟩ 0 (anq25 N Sq9) (lp Pg 72 0).2 (lp Pg 72 0).1 s (roundK Pg 0 ((anq25 N Sq9) (lp Pg 72 0).1) κ k)) (sh_st_matrix_fill_f_0.build [.int cols_1, .int t17, .int t18, .int t6, .int t6_1, .int m, .int m_1, .fls b2]) = iterG N (stq74 N Sq9 cols_1 t17 t6 t6_1 m m_1 (fun r4 => κ.ext 0 (sx0_st_matrix_fill_f_0.build [.int t6, .int t6_1, .int m, .int m_1, .fls r4]))) (t18, b2) :=
  iter_tr (fun (v_ : Int × List Fl) => sh_st_matrix_fill_f_0.build [.int cols_1, .int t17, .int v_.1, .int t6, .int t6_1, .int m, .int m_1, .fls v_.2]) (fun v_ K_ => by obtain ⟨t18, b2⟩ := v_; kernel_rfl) N (t18, b2)
theorem hk1_st_matrix_fill_f_0 (N : Nat) (Sq9 : TSq9) : HookFor ⟨Pg, ofList [(73, (Fq9 Sq9))], isref, N⟩ 0 (anq25 N Sq9) (lp Pg 72 0) (sh_st_matrix_fill_f_0, hk_st_matrix_fill_f_0 N Sq9) := by
  intro a κ h
  simp only at h
  unfold hk_st_matrix_fill_f_0 at h
  split at h
  · exact (eq_st_matrix_fill_f_0 _ _ _ _ _ _ _ _ _ _ _).trans h
  · cases h
theorem ho_matrix_fill_f_2 (N : Nat) (Sq9 : TSq9) : HookOk ⟨Pg, ofList [(73, (Fq9 Sq9))], isref, N⟩ 0 (anq25 N Sq9) (lp Pg 72 1) :=
  hooks_ok [(sh_st_matrix_fill_f_2, hk_st_matrix_fill_f_2 N Sq9)] (by kernel_rfl) ⟨hk1_st_matrix_fill_f_2 _ _, trivial⟩
theorem ho_matrix_fill_f_0 (N : Nat) (Sq9 : TSq9) : HookOk ⟨Pg, ofList [(73, (Fq9 Sq9))], isref, N⟩ 0 (anq25 N Sq9) (lp Pg 72 0) :=
  hooks_ok [(sh_st_matrix_fill_f_0, hk_st_matrix_fill_f_0 N Sq9)] (by kernel_rfl) ⟨hk1_st_matrix_fill_f_0 _ _, trivial⟩
theorem eqq25 (N : Nat) (Sq9 : TSq9) (rows cols : Int) (c_ : V -> List Blk -> Bool) : bodyV ⟨Pg, ofList [(73, (Fq9 Sq9))], isref, N⟩ (anq25 N Sq9) 72 (shFq25.args [.int rows, .int cols]) [] c_ = Gq25 N Sq9 rows cols (fun r2 => c_ (.agg [.int .i64 rows, .int .i64 cols, .slw 0]) [⟨48, 1, .flts r2⟩]) := by kernel_rfl
theorem goodq25 (N : Nat) (Sq9 : TSq9) (hq9 : GoodF Pg 73 (Fq9 Sq9)) : GoodF Pg 72 (Fq25 (Gq25 N Sq9)) := by
  refine good_fs (cx := ⟨Pg, ofList [(73, (Fq9 Sq9))], isref, N⟩) (ofList_cons hq9 (ofList_nil _)) shFq25 (spq25 (Gq25 N Sq9)) (anq25 N Sq9) 2 0 (by kernel_rfl) (fun i_ hi_ => by
    match i_, hi_ with
    | 0, _ => exact ho_matrix_fill_f_0 _ _
    | 1, _ => exact ho_matrix_fill_f_2 _ _
    | (q + 2), h => omega) ?_
  intro a k h
  unfold spq25 at h
  split at h
  · exact ⟨[], rfl, rfl, (eqq25 _ _ _ _ _).trans h⟩
  · cases h

def anq5 (N : Nat) (Sq24 : TSq24) (Sq25 : TSq25) : Nat -> Option Ann := fun b_ => none
theorem eqq5 (N : Nat) (Sq24 : TSq24) (Sq25 : TSq25) (rows cols : Int) (c_ : V -> List Blk -> Bool) : bodyV ⟨Pg, ofList [(30, (Fq24 Sq24)), (72, (Fq25 Sq25))], isref, N⟩ (anq5 N Sq24 Sq25) 58 (shFq5.args [.int rows, .int cols]) [] c_ = Gq5 N Sq24 Sq25 rows cols (fun r0 r1 r2 => c_ (.tup [.agg [.int .i64 r0, .int .i64 r1, .nil], .int .i64 r2]) []) (fun r2 r3 => c_ (.tup [.agg [.int .i64 rows, .int .i64 cols, .slw 0], .int .i64 r2]) [⟨48, 1, .flts r3⟩]) := by kernel_rfl
theorem goodq5 (N : Nat) (Sq24 : TSq24) (Sq25 : TSq25) (hq24 : GoodF Pg 30 (Fq24 Sq24)) (hq25 : GoodF Pg 72 (Fq25 Sq25)) : GoodF Pg 58 (Fq5 (Gq5 N Sq24 Sq25)) := by
  refine good_fs (cx := ⟨Pg, ofList [(30, (Fq24 Sq24)), (72, (Fq25 Sq25))], isref, N⟩) (ofList_cons hq24 (ofList_cons hq25 (ofList_nil _))) shFq5 (spq5 (Gq5 N Sq24 Sq25)) (anq5 N Sq24 Sq25) 0 0 (by kernel_rfl) (fun i_ hi_ => by omega) ?_
  intro a k h
  unfold spq5 at h
  split at h
  · exact ⟨[], rfl, rfl, (eqq5 _ _ _ _ _ _).trans h⟩
  · cases h


def anq20 (N : Nat) (Sq70 : TSq70) : Nat -> Option Ann := fun b_ => none
theorem eqq20 (N : Nat) (Sq70 : TSq70) (x : Fl) (c_ : V -> List Blk -> Bool) : bodyV ⟨Pg, ofList [(65, (Fq70 Sq70))], isref, N⟩ (anq20 N Sq70) 46 (shFq20.args [.fl x]) [] c_ = Gq20 N Sq70 x (fun r0 => c_ (.flt r0) []) := by kernel_rfl
theorem goodq20 (N : Nat) (Sq70 : TSq70) (hq70 : GoodF Pg 65 (Fq70 Sq70)) : GoodF Pg 46 (Fq20 (Gq20 N Sq70)) := by
  refine good_fs (cx := ⟨Pg, ofList [(65, (Fq70 Sq70))], isref, N⟩) (ofList_cons hq70 (ofList_nil _)) shFq20 (spq20 (Gq20 N Sq70)) (anq20 N Sq70) 0 0 (by kernel_rfl) (fun i_ hi_ => by omega) ?_
  intro a k h
  unfold spq20 at h
  split at h
  · exact ⟨[], rfl, rfl, (eqq20 _ _ _ _).trans h⟩
  · cases h

end Go.Proofs.Ytgngdkjghdohiaa
