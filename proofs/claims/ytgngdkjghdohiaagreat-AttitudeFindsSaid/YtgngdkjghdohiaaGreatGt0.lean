/-
  THE TIES: each printed meaning is what the program does (written by program).
  Conditions: none.
-/
import Derived.Test.YtgngdkjghdohiaaGreatGp
namespace Go.Proofs.YtgngdkjghdohiaaGreat
open Go Go.Mach Go.Proofs
set_option linter.unusedVariables false
set_option maxRecDepth 50000


def an_an_of (N : Nat) : Nat -> Option Ann := fun b_ => none
theorem eq_an_of (N : Nat) (c_ : V -> List Blk -> Bool) : bodyV ⟨Pg, ofList [], isref, N⟩ (an_an_of N) 198 (shF_an_of.args []) [] c_ = G_an_of N (fun r0 r1 r2 => c_ (.agg [.int .u64 r0, .int .i64 r1, .int .i64 r2]) []) := by kernel_rfl
theorem good_an_of (N : Nat) : GoodF Pg 198 (F_an_of (G_an_of N)) := by
  refine good_fs (cx := ⟨Pg, ofList [], isref, N⟩) (ofList_nil _) shF_an_of (sp_an_of (G_an_of N)) (an_an_of N) 0 0 (by kernel_rfl) (fun i_ hi_ => by omega) ?_
  intro a k h
  unfold sp_an_of at h
  split at h
  · exact ⟨[], rfl, rfl, (eq_an_of _ _).trans h⟩
  · cases h

def anZ104 (N : Nat) : Nat -> Option Ann := fun b_ => none
theorem eqZ104 (N : Nat) (f_0 f_1 f_2 : Int) (c_ : V -> List Blk -> Bool) : bodyV ⟨Pg, ofList [], isref, N⟩ (anZ104 N) 227 (shFZ104.args [.int f_0, .int f_1, .int f_2]) [] c_ = GZ104 N f_0 f_1 f_2 (fun r0 => c_ (.int .u64 r0) []) := by kernel_rfl
theorem goodZ104 (N : Nat) : GoodF Pg 227 (FZ104 (GZ104 N)) := by
  refine good_fs (cx := ⟨Pg, ofList [], isref, N⟩) (ofList_nil _) shFZ104 (spZ104 (GZ104 N)) (anZ104 N) 0 0 (by kernel_rfl) (fun i_ hi_ => by omega) ?_
  intro a k h
  unfold spZ104 at h
  split at h
  · exact ⟨[], rfl, rfl, (eqZ104 _ _ _ _ _).trans h⟩
  · cases h

def anZ44 (N : Nat) : Nat -> Option Ann := fun b_ => none
theorem eqZ44 (N : Nat) (f_0 f_1 f_2 : Int) (c_ : V -> List Blk -> Bool) : bodyV ⟨Pg, ofList [], isref, N⟩ (anZ44 N) 229 (shFZ44.args [.int f_0, .int f_1, .int f_2]) [] c_ = GZ44 N f_0 f_1 f_2 (fun r0 => c_ (.int .u64 r0) []) := by kernel_rfl
theorem goodZ44 (N : Nat) : GoodF Pg 229 (FZ44 (GZ44 N)) := by
  refine good_fs (cx := ⟨Pg, ofList [], isref, N⟩) (ofList_nil _) shFZ44 (spZ44 (GZ44 N)) (anZ44 N) 0 0 (by kernel_rfl) (fun i_ hi_ => by omega) ?_
  intro a k h
  unfold spZ44 at h
  split at h
  · exact ⟨[], rfl, rfl, (eqZ44 _ _ _ _ _).trans h⟩
  · cases h

def anZ42 (N : Nat) (SZ104 : TSZ104) (SZ44 : TSZ44) : Nat -> Option Ann := fun b_ => none
theorem eqZ42 (N : Nat) (SZ104 : TSZ104) (SZ44 : TSZ44) (b f_0 f_1 f_2 : Int) (c_ : V -> List Blk -> Bool) : bodyV ⟨Pg, ofList [(227, (FZ104 SZ104)), (229, (FZ44 SZ44))], isref, N⟩ (anZ42 N SZ104 SZ44) 219 (shFZ42.args [.int b, .int f_0, .int f_1, .int f_2]) [] c_ = GZ42 N SZ104 SZ44 b f_0 f_1 f_2 (fun r0 => c_ (.bool r0) []) := by kernel_rfl
theorem goodZ42 (N : Nat) (SZ104 : TSZ104) (SZ44 : TSZ44) (hZ104 : GoodF Pg 227 (FZ104 SZ104)) (hZ44 : GoodF Pg 229 (FZ44 SZ44)) : GoodF Pg 219 (FZ42 (GZ42 N SZ104 SZ44)) := by
  refine good_fs (cx := ⟨Pg, ofList [(227, (FZ104 SZ104)), (229, (FZ44 SZ44))], isref, N⟩) (ofList_cons hZ104 (ofList_cons hZ44 (ofList_nil _))) shFZ42 (spZ42 (GZ42 N SZ104 SZ44)) (anZ42 N SZ104 SZ44) 0 0 (by kernel_rfl) (fun i_ hi_ => by omega) ?_
  intro a k h
  unfold spZ42 at h
  split at h
  · exact ⟨[], rfl, rfl, (eqZ42 _ _ _ _ _ _ _ _).trans h⟩
  · cases h

def anZ72 (N : Nat) : Nat -> Option Ann := fun b_ => none
theorem eqZ72 (N : Nat) (f_0 f_1 f_2 : Int) (c_ : V -> List Blk -> Bool) : bodyV ⟨Pg, ofList [], isref, N⟩ (anZ72 N) 228 (shFZ72.args [.int f_0, .int f_1, .int f_2]) [] c_ = GZ72 N f_0 f_1 f_2 (fun r0 => c_ (.int .u64 r0) []) := by kernel_rfl
theorem goodZ72 (N : Nat) : GoodF Pg 228 (FZ72 (GZ72 N)) := by
  refine good_fs (cx := ⟨Pg, ofList [], isref, N⟩) (ofList_nil _) shFZ72 (spZ72 (GZ72 N)) (anZ72 N) 0 0 (by kernel_rfl) (fun i_ hi_ => by omega) ?_
  intro a k h
  unfold spZ72 at h
  split at h
  · exact ⟨[], rfl, rfl, (eqZ72 _ _ _ _ _).trans h⟩
  · cases h

def anZ120 (N : Nat) (SZ44 : TSZ44) (SZ72 : TSZ72) : Nat -> Option Ann := fun b_ => none
theorem eqZ120 (N : Nat) (SZ44 : TSZ44) (SZ72 : TSZ72) (f_0 f_1 f_2 : Int) (c_ : V -> List Blk -> Bool) : bodyV ⟨Pg, ofList [(229, (FZ44 SZ44)), (228, (FZ72 SZ72))], isref, N⟩ (anZ120 N SZ44 SZ72) 220 (shFZ120.args [.int f_0, .int f_1, .int f_2]) [] c_ = GZ120 N SZ44 SZ72 f_0 f_1 f_2 (fun r0 => c_ (.int .u64 r0) []) := by kernel_rfl
theorem goodZ120 (N : Nat) (SZ44 : TSZ44) (SZ72 : TSZ72) (hZ44 : GoodF Pg 229 (FZ44 SZ44)) (hZ72 : GoodF Pg 228 (FZ72 SZ72)) : GoodF Pg 220 (FZ120 (GZ120 N SZ44 SZ72)) := by
  refine good_fs (cx := ⟨Pg, ofList [(229, (FZ44 SZ44)), (228, (FZ72 SZ72))], isref, N⟩) (ofList_cons hZ44 (ofList_cons hZ72 (ofList_nil _))) shFZ120 (spZ120 (GZ120 N SZ44 SZ72)) (anZ120 N SZ44 SZ72) 0 0 (by kernel_rfl) (fun i_ hi_ => by omega) ?_
  intro a k h
  unfold spZ120 at h
  split at h
  · exact ⟨[], rfl, rfl, (eqZ120 _ _ _ _ _ _ _).trans h⟩
  · cases h

def anZ18 (N : Nat) (SZ42 : TSZ42) (SZ120 : TSZ120) : Nat -> Option Ann := fun b_ => none
theorem eqZ18 (N : Nat) (SZ42 : TSZ42) (SZ120 : TSZ120) (b f_0 f_1 f_2 : Int) (c_ : V -> List Blk -> Bool) : bodyV ⟨Pg, ofList [(219, (FZ42 SZ42)), (220, (FZ120 SZ120))], isref, N⟩ (anZ18 N SZ42 SZ120) 201 (shFZ18.args [.int b, .int f_0, .int f_1, .int f_2]) [] c_ = GZ18 N SZ42 SZ120 b f_0 f_1 f_2 (fun r0 => c_ (.int .u64 r0) []) := by kernel_rfl
theorem goodZ18 (N : Nat) (SZ42 : TSZ42) (SZ120 : TSZ120) (hZ42 : GoodF Pg 219 (FZ42 SZ42)) (hZ120 : GoodF Pg 220 (FZ120 SZ120)) : GoodF Pg 201 (FZ18 (GZ18 N SZ42 SZ120)) := by
  refine good_fs (cx := ⟨Pg, ofList [(219, (FZ42 SZ42)), (220, (FZ120 SZ120))], isref, N⟩) (ofList_cons hZ42 (ofList_cons hZ120 (ofList_nil _))) shFZ18 (spZ18 (GZ18 N SZ42 SZ120)) (anZ18 N SZ42 SZ120) 0 0 (by kernel_rfl) (fun i_ hi_ => by omega) ?_
  intro a k h
  unfold spZ18 at h
  split at h
  · exact ⟨[], rfl, rfl, (eqZ18 _ _ _ _ _ _ _ _).trans h⟩
  · cases h

def anZ27 (N : Nat) (SZ18 : TSZ18) (SZ104 : TSZ104) (SZ72 : TSZ72) : Nat -> Option Ann := fun b_ => none
theorem eqZ27 (N : Nat) (SZ18 : TSZ18) (SZ104 : TSZ104) (SZ72 : TSZ72) (b f_0 f_1 f_2 : Int) (c_ : V -> List Blk -> Bool) : bodyV ⟨Pg, ofList [(201, (FZ18 SZ18)), (227, (FZ104 SZ104)), (228, (FZ72 SZ72))], isref, N⟩ (anZ27 N SZ18 SZ104 SZ72) 218 (shFZ27.args [.int b, .int f_0, .int f_1, .int f_2]) [] c_ = GZ27 N SZ18 SZ104 SZ72 b f_0 f_1 f_2 (fun r0 r1 r2 => c_ (.tup [.bool r0, .int .i64 r1, .int .u64 r2]) []) := by kernel_rfl
theorem goodZ27 (N : Nat) (SZ18 : TSZ18) (SZ104 : TSZ104) (SZ72 : TSZ72) (hZ18 : GoodF Pg 201 (FZ18 SZ18)) (hZ104 : GoodF Pg 227 (FZ104 SZ104)) (hZ72 : GoodF Pg 228 (FZ72 SZ72)) : GoodF Pg 218 (FZ27 (GZ27 N SZ18 SZ104 SZ72)) := by
  refine good_fs (cx := ⟨Pg, ofList [(201, (FZ18 SZ18)), (227, (FZ104 SZ104)), (228, (FZ72 SZ72))], isref, N⟩) (ofList_cons hZ18 (ofList_cons hZ104 (ofList_cons hZ72 (ofList_nil _)))) shFZ27 (spZ27 (GZ27 N SZ18 SZ104 SZ72)) (anZ27 N SZ18 SZ104 SZ72) 0 0 (by kernel_rfl) (fun i_ hi_ => by omega) ?_
  intro a k h
  unfold spZ27 at h
  split at h
  · exact ⟨[], rfl, rfl, (eqZ27 _ _ _ _ _ _ _ _ _).trans h⟩
  · cases h

def anZ26 (N : Nat) (SZ27 : TSZ27) : Nat -> Option Ann := fun b_ => none
theorem eqZ26 (N : Nat) (SZ27 : TSZ27) (b f_0 f_1 f_2 : Int) (c_ : V -> List Blk -> Bool) : bodyV ⟨Pg, ofList [(218, (FZ27 SZ27))], isref, N⟩ (anZ26 N SZ27) 197 (shFZ26.args [.int b, .int f_0, .int f_1, .int f_2]) [] c_ = GZ26 N SZ27 b f_0 f_1 f_2 (fun r0 => c_ (.int .i64 r0) []) := by kernel_rfl
theorem goodZ26 (N : Nat) (SZ27 : TSZ27) (hZ27 : GoodF Pg 218 (FZ27 SZ27)) : GoodF Pg 197 (FZ26 (GZ26 N SZ27)) := by
  refine good_fs (cx := ⟨Pg, ofList [(218, (FZ27 SZ27))], isref, N⟩) (ofList_cons hZ27 (ofList_nil _)) shFZ26 (spZ26 (GZ26 N SZ27)) (anZ26 N SZ27) 0 0 (by kernel_rfl) (fun i_ hi_ => by omega) ?_
  intro a k h
  unfold spZ26 at h
  split at h
  · exact ⟨[], rfl, rfl, (eqZ26 _ _ _ _ _ _ _).trans h⟩
  · cases h

def anZ112 (N : Nat) (SZ78 : TSZ78) (S_an_of : TS_an_of) (SZ26 : TSZ26) : Nat -> Option Ann := fun b_ => none
theorem eqZ112 (N : Nat) (SZ78 : TSZ78) (S_an_of : TS_an_of) (SZ26 : TSZ26) (x : Nat) (c_ : V -> List Blk -> Bool) : bodyV ⟨Pg, ofList [(90, (FZ78 SZ78)), (198, (F_an_of S_an_of)), (197, (FZ26 SZ26))], isref, N⟩ (anZ112 N SZ78 S_an_of SZ26) 159 (shFZ112.args [.nat x]) [] c_ = GZ112 N SZ78 S_an_of SZ26 x (fun r0 => c_ (.int .i64 r0) []) := by kernel_rfl
theorem goodZ112 (N : Nat) (SZ78 : TSZ78) (S_an_of : TS_an_of) (SZ26 : TSZ26) (hZ78 : GoodF Pg 90 (FZ78 SZ78)) (h_an_of : GoodF Pg 198 (F_an_of S_an_of)) (hZ26 : GoodF Pg 197 (FZ26 SZ26)) : GoodF Pg 159 (FZ112 (GZ112 N SZ78 S_an_of SZ26)) := by
  refine good_fs (cx := ⟨Pg, ofList [(90, (FZ78 SZ78)), (198, (F_an_of S_an_of)), (197, (FZ26 SZ26))], isref, N⟩) (ofList_cons hZ78 (ofList_cons h_an_of (ofList_cons hZ26 (ofList_nil _)))) shFZ112 (spZ112 (GZ112 N SZ78 S_an_of SZ26)) (anZ112 N SZ78 S_an_of SZ26) 0 0 (by kernel_rfl) (fun i_ hi_ => by omega) ?_
  intro a k h
  unfold spZ112 at h
  split at h
  · exact ⟨[], rfl, rfl, (eqZ112 _ _ _ _ _ _).trans h⟩
  · cases h

def anZ125 (N : Nat) (SZ78 : TSZ78) (SZ30 : TSZ30) : Nat -> Option Ann := fun b_ => none
theorem eqZ125 (N : Nat) (SZ78 : TSZ78) (SZ30 : TSZ30) (x : Nat) (c_ : V -> List Blk -> Bool) : bodyV ⟨Pg, ofList [(90, (FZ78 SZ78)), (31, (FZ30 SZ30))], isref, N⟩ (anZ125 N SZ78 SZ30) 35 (shFZ125.args [.nat x]) [] c_ = GZ125 N SZ78 SZ30 x (fun r0 => c_ (.flt r0) []) := by kernel_rfl
theorem goodZ125 (N : Nat) (SZ78 : TSZ78) (SZ30 : TSZ30) (hZ78 : GoodF Pg 90 (FZ78 SZ78)) (hZ30 : GoodF Pg 31 (FZ30 SZ30)) : GoodF Pg 35 (FZ125 (GZ125 N SZ78 SZ30)) := by
  refine good_fs (cx := ⟨Pg, ofList [(90, (FZ78 SZ78)), (31, (FZ30 SZ30))], isref, N⟩) (ofList_cons hZ78 (ofList_cons hZ30 (ofList_nil _))) shFZ125 (spZ125 (GZ125 N SZ78 SZ30)) (anZ125 N SZ78 SZ30) 0 0 (by kernel_rfl) (fun i_ hi_ => by omega) ?_
  intro a k h
  unfold spZ125 at h
  split at h
  · exact ⟨[], rfl, rfl, (eqZ125 _ _ _ _ _).trans h⟩
  · cases h

def sh_st_binnacleref01_Of64_0 : StSh := ⟨(.any :: (.any :: (.any :: (.slw 0 :: (.any :: (.any :: (.roi .u64 :: (.int .i64 :: (.int .i64 :: (sqs 10 [])))))))))), [some (25, 1, .flts)]⟩
def sx0_st_binnacleref01_Of64_0 : StSh := ⟨(.any :: (.any :: (.any :: (.slw 0 :: (sqs 15 []))))), [some (25, 1, .flts)]⟩
def hk_st_binnacleref01_Of64_0 (N : Nat) (SZ30 : TSZ30) : List Atom -> K -> Bool := fun a_ κ => match a_ with
  | [.ints t6_1, .int t7_1, .int t8_1, .fls x] => iterG N (st_z01_Of64_0 N SZ30 t6_1 t7_1 (fun r0 => κ.ext 0 (sx0_st_binnacleref01_Of64_0.build [.fls r0]))) (t8_1, x)
  | _ => false
def anZ61 (N : Nat) (SZ30 : TSZ30) : Nat -> Option Ann := fun b_ => cond (b_ == 0) (some ⟨⟨[3, 6, 7, 8], [(3, none, 25)], []⟩, [(0, ⟨[3], [], []⟩)], some ⟨[2], [], []⟩, some (mkHooks [(sh_st_binnacleref01_Of64_0, hk_st_binnacleref01_Of64_0 N SZ30)])⟩) (none)
theorem eq_st_binnacleref01_Of64_0 (N : Nat) (SZ30 : TSZ30) (κ : K) (t6_1 : List Int) (t7_1 t8_1 : Int) (x : List Fl) : iter N (fun s k => codeV ⟨Pg, ofList [(31, (FZ30 SZ30))], isref, N⟩ 0 (anZ61 N SZ30) (lp Pg 6 0).2 (lp Pg 6 0).1 s (roundK Pg 0 ((anZ61 N SZ30) (lp Pg 6 0).1) κ k)) (sh_st_binnacleref01_Of64_0.build [.ints t6_1, .int t7_1, .int t8_1, .fls x]) = iterG N (st_z01_Of64_0 N SZ30 t6_1 t7_1 (fun r0 => κ.ext 0 (sx0_st_binnacleref01_Of64_0.build [.fls r0]))) (t8_1, x) :=
  iter_tr (fun (v_ : Int × List Fl) => sh_st_binnacleref01_Of64_0.build [.ints t6_1, .int t7_1, .int v_.1, .fls v_.2]) (fun v_ K_ => by obtain ⟨t8_1, x⟩ := v_; kernel_rfl) N (t8_1, x)
theorem hk1_st_binnacleref01_Of64_0 (N : Nat) (SZ30 : TSZ30) : HookFor ⟨Pg, ofList [(31, (FZ30 SZ30))], isref, N⟩ 0 (anZ61 N SZ30) (lp Pg 6 0) (sh_st_binnacleref01_Of64_0, hk_st_binnacleref01_Of64_0 N SZ30) := by
  intro a κ h
  simp only at h
  unfold hk_st_binnacleref01_Of64_0 at h
  split at h
  · exact (eq_st_binnacleref01_Of64_0 _ _ _ _ _ _ _).trans h
  · cases h
theorem ho_binnacleref01_Of64_0 (N : Nat) (SZ30 : TSZ30) : HookOk ⟨Pg, ofList [(31, (FZ30 SZ30))], isref, N⟩ 0 (anZ61 N SZ30) (lp Pg 6 0) :=
  hooks_ok [(sh_st_binnacleref01_Of64_0, hk_st_binnacleref01_Of64_0 N SZ30)] (by kernel_rfl) ⟨hk1_st_binnacleref01_Of64_0 _ _, trivial⟩
theorem eqZ61 (N : Nat) (SZ30 : TSZ30) (l : List Int) (c_ : V -> List Blk -> Bool) : bodyV ⟨Pg, ofList [(31, (FZ30 SZ30))], isref, N⟩ (anZ61 N SZ30) 6 (shFZ61.args [.ints l]) [] c_ = GZ61 N SZ30 l (fun r0 => c_ (.slw 0) [⟨25, 1, .flts r0⟩]) := by kernel_rfl
theorem goodZ61 (N : Nat) (SZ30 : TSZ30) (hZ30 : GoodF Pg 31 (FZ30 SZ30)) : GoodF Pg 6 (FZ61 (GZ61 N SZ30)) := by
  refine good_fs (cx := ⟨Pg, ofList [(31, (FZ30 SZ30))], isref, N⟩) (ofList_cons hZ30 (ofList_nil _)) shFZ61 (spZ61 (GZ61 N SZ30)) (anZ61 N SZ30) 1 0 (by kernel_rfl) (fun i_ hi_ => by
    match i_, hi_ with
    | 0, _ => exact ho_binnacleref01_Of64_0 _ _
    | (q + 1), h => omega) ?_
  intro a k h
  unfold spZ61 at h
  split at h
  · exact ⟨[], rfl, rfl, (eqZ61 _ _ _ _).trans h⟩
  · cases h

def anZ108 (N : Nat) : Nat -> Option Ann := fun b_ => none
theorem eqZ108 (N : Nat) (l : List Fl) (c_ : V -> List Blk -> Bool) : bodyV ⟨Pg, ofList [], isref, N⟩ (anZ108 N) 5 (shFZ108.args [.fls l]) [] c_ = GZ108 N l (fun r0 r1 r2 r3 => c_ (.agg [.flt r0, .flt r1, .flt r2, .flt r3]) []) := by kernel_rfl
theorem goodZ108 (N : Nat) : GoodF Pg 5 (FZ108 (GZ108 N)) := by
  refine good_fs (cx := ⟨Pg, ofList [], isref, N⟩) (ofList_nil _) shFZ108 (spZ108 (GZ108 N)) (anZ108 N) 0 0 (by kernel_rfl) (fun i_ hi_ => by omega) ?_
  intro a k h
  unfold spZ108 at h
  split at h
  · exact ⟨[], rfl, rfl, (eqZ108 _ _ _).trans h⟩
  · cases h

def an_zl_f (N : Nat) (SZ30 : TSZ30) : Nat -> Option Ann := fun b_ => none
theorem eq_zl_f (N : Nat) (SZ30 : TSZ30) (b : Int) (c_ : V -> List Blk -> Bool) : bodyV ⟨Pg, ofList [(31, (FZ30 SZ30))], isref, N⟩ (an_zl_f N SZ30) 32 (shF_zl_f.args [.int b]) [] c_ = G_zl_f N SZ30 b (fun r0 => c_ (.flt r0) []) := by kernel_rfl
theorem good_zl_f (N : Nat) (SZ30 : TSZ30) (hZ30 : GoodF Pg 31 (FZ30 SZ30)) : GoodF Pg 32 (F_zl_f (G_zl_f N SZ30)) := by
  refine good_fs (cx := ⟨Pg, ofList [(31, (FZ30 SZ30))], isref, N⟩) (ofList_cons hZ30 (ofList_nil _)) shF_zl_f (sp_zl_f (G_zl_f N SZ30)) (an_zl_f N SZ30) 0 0 (by kernel_rfl) (fun i_ hi_ => by omega) ?_
  intro a k h
  unfold sp_zl_f at h
  split at h
  · exact ⟨[], rfl, rfl, (eq_zl_f _ _ _ _).trans h⟩
  · cases h

def anZ107 (N : Nat) (S_zl_f : TS_zl_f) : Nat -> Option Ann := fun b_ => none
theorem eqZ107 (N : Nat) (S_zl_f : TS_zl_f) (b_0 b_1 b_2 : Int) (c_ : V -> List Blk -> Bool) : bodyV ⟨Pg, ofList [(32, (F_zl_f S_zl_f))], isref, N⟩ (anZ107 N S_zl_f) 7 (shFZ107.args [.int b_0, .int b_1, .int b_2]) [] c_ = GZ107 N S_zl_f b_0 b_1 b_2 (fun r0 r1 r2 => c_ (.agg [.flt r0, .flt r1, .flt r2]) []) := by kernel_rfl
theorem goodZ107 (N : Nat) (S_zl_f : TS_zl_f) (h_zl_f : GoodF Pg 32 (F_zl_f S_zl_f)) : GoodF Pg 7 (FZ107 (GZ107 N S_zl_f)) := by
  refine good_fs (cx := ⟨Pg, ofList [(32, (F_zl_f S_zl_f))], isref, N⟩) (ofList_cons h_zl_f (ofList_nil _)) shFZ107 (spZ107 (GZ107 N S_zl_f)) (anZ107 N S_zl_f) 0 0 (by kernel_rfl) (fun i_ hi_ => by omega) ?_
  intro a k h
  unfold spZ107 at h
  split at h
  · exact ⟨[], rfl, rfl, (eqZ107 _ _ _ _ _ _).trans h⟩
  · cases h

def anZ64 (N : Nat) : Nat -> Option Ann := fun b_ => none
theorem eqZ64 (N : Nat) (q_0 q_1 q_2 q_3 : Fl) (c_ : V -> List Blk -> Bool) : bodyV ⟨Pg, ofList [], isref, N⟩ (anZ64 N) 86 (shFZ64.args [.fl q_0, .fl q_1, .fl q_2, .fl q_3]) [] c_ = GZ64 N q_0 q_1 q_2 q_3 (fun r0 => c_ (.slw 0) [⟨25, 1, .flts r0⟩]) := by kernel_rfl
theorem goodZ64 (N : Nat) : GoodF Pg 86 (FZ64 (GZ64 N)) := by
  refine good_fs (cx := ⟨Pg, ofList [], isref, N⟩) (ofList_nil _) shFZ64 (spZ64 (GZ64 N)) (anZ64 N) 0 0 (by kernel_rfl) (fun i_ hi_ => by omega) ?_
  intro a k h
  unfold spZ64 at h
  split at h
  · exact ⟨[], rfl, rfl, (eqZ64 _ _ _ _ _ _).trans h⟩
  · cases h


def anZ111 (N : Nat) (SZ57 : TSZ57) : Nat -> Option Ann := fun b_ => none
theorem eqZ111 (N : Nat) (SZ57 : TSZ57) (x : Fl) (c_ : V -> List Blk -> Bool) : bodyV ⟨Pg, ofList [(90, (FZ57 SZ57))], isref, N⟩ (anZ111 N SZ57) 200 (shFZ111.args [.fl x]) [] c_ = GZ111 N SZ57 x (fun r0 => c_ (.int .u64 r0) []) := by kernel_rfl
theorem goodZ111 (N : Nat) (SZ57 : TSZ57) (hZ57 : GoodF Pg 90 (FZ57 SZ57)) : GoodF Pg 200 (FZ111 (GZ111 N SZ57)) := by
  refine good_fs (cx := ⟨Pg, ofList [(90, (FZ57 SZ57))], isref, N⟩) (ofList_cons hZ57 (ofList_nil _)) shFZ111 (spZ111 (GZ111 N SZ57)) (anZ111 N SZ57) 0 0 (by kernel_rfl) (fun i_ hi_ => by omega) ?_
  intro a k h
  unfold spZ111 at h
  split at h
  · exact ⟨[], rfl, rfl, (eqZ111 _ _ _ _).trans h⟩
  · cases h

def anZ45 (N : Nat) (SZ111 : TSZ111) : Nat -> Option Ann := fun b_ => none
theorem eqZ45 (N : Nat) (SZ111 : TSZ111) (x : Fl) (c_ : V -> List Blk -> Bool) : bodyV ⟨Pg, ofList [(200, (FZ111 SZ111))], isref, N⟩ (anZ45 N SZ111) 161 (shFZ45.args [.fl x]) [] c_ = GZ45 N SZ111 x (fun r0 r1 r2 => c_ (.tup [.bool r0, .int .i64 r1, .int .u64 r2]) []) := by kernel_rfl
theorem goodZ45 (N : Nat) (SZ111 : TSZ111) (hZ111 : GoodF Pg 200 (FZ111 SZ111)) : GoodF Pg 161 (FZ45 (GZ45 N SZ111)) := by
  refine good_fs (cx := ⟨Pg, ofList [(200, (FZ111 SZ111))], isref, N⟩) (ofList_cons hZ111 (ofList_nil _)) shFZ45 (spZ45 (GZ45 N SZ111)) (anZ45 N SZ111) 0 0 (by kernel_rfl) (fun i_ hi_ => by omega) ?_
  intro a k h
  unfold spZ45 at h
  split at h
  · exact ⟨[], rfl, rfl, (eqZ45 _ _ _ _).trans h⟩
  · cases h

def anZ68 (N : Nat) : Nat -> Option Ann := fun b_ => none
theorem eqZ68 (N : Nat) (exp frac most : Int) (c_ : V -> List Blk -> Bool) : bodyV ⟨Pg, ofList [], isref, N⟩ (anZ68 N) 203 (shFZ68.args [.int exp, .int frac, .int most]) [] c_ = GZ68 N exp frac most (fun r0 => c_ (.int .i64 r0) []) := by kernel_rfl
theorem goodZ68 (N : Nat) : GoodF Pg 203 (FZ68 (GZ68 N)) := by
  refine good_fs (cx := ⟨Pg, ofList [], isref, N⟩) (ofList_nil _) shFZ68 (spZ68 (GZ68 N)) (anZ68 N) 0 0 (by kernel_rfl) (fun i_ hi_ => by omega) ?_
  intro a k h
  unfold spZ68 at h
  split at h
  · exact ⟨[], rfl, rfl, (eqZ68 _ _ _ _ _).trans h⟩
  · cases h

def anZ97 (N : Nat) (SZ45 : TSZ45) (SZ68 : TSZ68) : Nat -> Option Ann := fun b_ => none
theorem eqZ97 (N : Nat) (SZ45 : TSZ45) (SZ68 : TSZ68) (x : Fl) (c_ : V -> List Blk -> Bool) : bodyV ⟨Pg, ofList [(161, (FZ45 SZ45)), (203, (FZ68 SZ68))], isref, N⟩ (anZ97 N SZ45 SZ68) 180 (shFZ97.args [.fl x]) [] c_ = GZ97 N SZ45 SZ68 x (fun r0 => c_ (.int .i64 r0) []) := by kernel_rfl
theorem goodZ97 (N : Nat) (SZ45 : TSZ45) (SZ68 : TSZ68) (hZ45 : GoodF Pg 161 (FZ45 SZ45)) (hZ68 : GoodF Pg 203 (FZ68 SZ68)) : GoodF Pg 180 (FZ97 (GZ97 N SZ45 SZ68)) := by
  refine good_fs (cx := ⟨Pg, ofList [(161, (FZ45 SZ45)), (203, (FZ68 SZ68))], isref, N⟩) (ofList_cons hZ45 (ofList_cons hZ68 (ofList_nil _))) shFZ97 (spZ97 (GZ97 N SZ45 SZ68)) (anZ97 N SZ45 SZ68) 0 0 (by kernel_rfl) (fun i_ hi_ => by omega) ?_
  intro a k h
  unfold spZ97 at h
  split at h
  · exact ⟨[], rfl, rfl, (eqZ97 _ _ _ _ _).trans h⟩
  · cases h

def anZ53 (N : Nat) (SZ97 : TSZ97) : Nat -> Option Ann := fun b_ => none
theorem eqZ53 (N : Nat) (SZ97 : TSZ97) (x : Fl) (c_ : V -> List Blk -> Bool) : bodyV ⟨Pg, ofList [(180, (FZ97 SZ97))], isref, N⟩ (anZ53 N SZ97) 133 (shFZ53.args [.fl x]) [] c_ = GZ53 N SZ97 x (fun r0 => c_ (.bool r0) []) := by kernel_rfl
theorem goodZ53 (N : Nat) (SZ97 : TSZ97) (hZ97 : GoodF Pg 180 (FZ97 SZ97)) : GoodF Pg 133 (FZ53 (GZ53 N SZ97)) := by
  refine good_fs (cx := ⟨Pg, ofList [(180, (FZ97 SZ97))], isref, N⟩) (ofList_cons hZ97 (ofList_nil _)) shFZ53 (spZ53 (GZ53 N SZ97)) (anZ53 N SZ97) 0 0 (by kernel_rfl) (fun i_ hi_ => by omega) ?_
  intro a k h
  unfold spZ53 at h
  split at h
  · exact ⟨[], rfl, rfl, (eqZ53 _ _ _ _).trans h⟩
  · cases h

def sh_st_binnacleref01_AllFinite_0 : StSh := ⟨(sqs 5 (.rof :: (.int .i64 :: (.int .i64 :: (sqs 7 []))))), []⟩
def sx0_st_binnacleref01_AllFinite_0 : StSh := ⟨(.any :: (.any :: (.bool :: (sqs 12 [])))), []⟩
def sx1_st_binnacleref01_AllFinite_0 : StSh := ⟨(sqs 15 []), []⟩
def hk_st_binnacleref01_AllFinite_0 (N : Nat) (SZ53 : TSZ53) : List Atom -> K -> Bool := fun a_ κ => match a_ with
  | [.fls t5, .int t6, .int t7] => iterG N (stZ135 N SZ53 t5 t6 (fun r0 => κ.ret (sx0_st_binnacleref01_AllFinite_0.build [.bool r0])) (κ.ext 0 (sx1_st_binnacleref01_AllFinite_0.build []))) t7
  | _ => false
def anZ46 (N : Nat) (SZ53 : TSZ53) : Nat -> Option Ann := fun b_ => cond (b_ == 0) (some ⟨⟨[5, 6, 7], [], []⟩, [(0, ⟨[], [], []⟩)], some ⟨[2], [], []⟩, some (mkHooks [(sh_st_binnacleref01_AllFinite_0, hk_st_binnacleref01_AllFinite_0 N SZ53)])⟩) (none)
theorem eq_st_binnacleref01_AllFinite_0 (N : Nat) (SZ53 : TSZ53) (κ : K) (t5 : List Fl) (t6 t7 : Int) : iter N (fun s k => codeV ⟨Pg, ofList [(133, (FZ53 SZ53))], isref, N⟩ 0 (anZ46 N SZ53) (lp Pg 76 0).2 (lp Pg 76 0).1 s (roundK Pg 0 ((anZ46 N SZ53) (lp Pg 76 0).1) κ k)) (sh_st_binnacleref01_AllFinite_0.build [.fls t5, .int t6, .int t7]) = iterG N (stZ135 N SZ53 t5 t6 (fun r0 => κ.ret (sx0_st_binnacleref01_AllFinite_0.build [.bool r0])) (κ.ext 0 (sx1_st_binnacleref01_AllFinite_0.build []))) t7 :=
  iter_tr (fun v_ => sh_st_binnacleref01_AllFinite_0.build [.fls t5, .int t6, .int v_]) (fun v_ K_ => by kernel_rfl) N t7
theorem hk1_st_binnacleref01_AllFinite_0 (N : Nat) (SZ53 : TSZ53) : HookFor ⟨Pg, ofList [(133, (FZ53 SZ53))], isref, N⟩ 0 (anZ46 N SZ53) (lp Pg 76 0) (sh_st_binnacleref01_AllFinite_0, hk_st_binnacleref01_AllFinite_0 N SZ53) := by
  intro a κ h
  simp only at h
  unfold hk_st_binnacleref01_AllFinite_0 at h
  split at h
  · exact (eq_st_binnacleref01_AllFinite_0 _ _ _ _ _ _).trans h
  · cases h
theorem ho_binnacleref01_AllFinite_0 (N : Nat) (SZ53 : TSZ53) : HookOk ⟨Pg, ofList [(133, (FZ53 SZ53))], isref, N⟩ 0 (anZ46 N SZ53) (lp Pg 76 0) :=
  hooks_ok [(sh_st_binnacleref01_AllFinite_0, hk_st_binnacleref01_AllFinite_0 N SZ53)] (by kernel_rfl) ⟨hk1_st_binnacleref01_AllFinite_0 _ _, trivial⟩
theorem eqZ46 (N : Nat) (SZ53 : TSZ53) (l : List Fl) (c_ : V -> List Blk -> Bool) : bodyV ⟨Pg, ofList [(133, (FZ53 SZ53))], isref, N⟩ (anZ46 N SZ53) 76 (shFZ46.args [.fls l]) [] c_ = GZ46 N SZ53 l (fun r0 => c_ (.bool r0) []) := by kernel_rfl
theorem goodZ46 (N : Nat) (SZ53 : TSZ53) (hZ53 : GoodF Pg 133 (FZ53 SZ53)) : GoodF Pg 76 (FZ46 (GZ46 N SZ53)) := by
  refine good_fs (cx := ⟨Pg, ofList [(133, (FZ53 SZ53))], isref, N⟩) (ofList_cons hZ53 (ofList_nil _)) shFZ46 (spZ46 (GZ46 N SZ53)) (anZ46 N SZ53) 1 0 (by kernel_rfl) (fun i_ hi_ => by
    match i_, hi_ with
    | 0, _ => exact ho_binnacleref01_AllFinite_0 _ _
    | (q + 1), h => omega) ?_
  intro a k h
  unfold spZ46 at h
  split at h
  · exact ⟨[], rfl, rfl, (eqZ46 _ _ _ _).trans h⟩
  · cases h

def anZ87 (N : Nat) (SZ64 : TSZ64) (SZ46 : TSZ46) : Nat -> Option Ann := fun b_ => none
theorem eqZ87 (N : Nat) (SZ64 : TSZ64) (SZ46 : TSZ46) (q_0 q_1 q_2 q_3 : Fl) (c_ : V -> List Blk -> Bool) : bodyV ⟨Pg, ofList [(86, (FZ64 SZ64)), (76, (FZ46 SZ46))], isref, N⟩ (anZ87 N SZ64 SZ46) 33 (shFZ87.args [.fl q_0, .fl q_1, .fl q_2, .fl q_3]) [] c_ = GZ87 N SZ64 SZ46 q_0 q_1 q_2 q_3 (fun r0 => c_ (.bool r0) []) := by kernel_rfl
theorem goodZ87 (N : Nat) (SZ64 : TSZ64) (SZ46 : TSZ46) (hZ64 : GoodF Pg 86 (FZ64 SZ64)) (hZ46 : GoodF Pg 76 (FZ46 SZ46)) : GoodF Pg 33 (FZ87 (GZ87 N SZ64 SZ46)) := by
  refine good_fs (cx := ⟨Pg, ofList [(86, (FZ64 SZ64)), (76, (FZ46 SZ46))], isref, N⟩) (ofList_cons hZ64 (ofList_cons hZ46 (ofList_nil _))) shFZ87 (spZ87 (GZ87 N SZ64 SZ46)) (anZ87 N SZ64 SZ46) 0 0 (by kernel_rfl) (fun i_ hi_ => by omega) ?_
  intro a k h
  unfold spZ87 at h
  split at h
  · exact ⟨[], rfl, rfl, (eqZ87 _ _ _ _ _ _ _ _).trans h⟩
  · cases h

def anZ41 (N : Nat) : Nat -> Option Ann := fun b_ => none
theorem eqZ41 (N : Nat) (c_ : V -> List Blk -> Bool) : bodyV ⟨Pg, ofList [], isref, N⟩ (anZ41 N) 41 (shFZ41.args []) [] c_ = GZ41 N (fun r0 r1 => c_ (.agg [.ptr 0 0, .int .i64 r0]) [⟨91, 1, .cells [.bool r1, .nil]⟩]) := by kernel_rfl
theorem goodZ41 (N : Nat) : GoodF Pg 41 (FZ41 (GZ41 N)) := by
  refine good_fs (cx := ⟨Pg, ofList [], isref, N⟩) (ofList_nil _) shFZ41 (spZ41 (GZ41 N)) (anZ41 N) 0 0 (by kernel_rfl) (fun i_ hi_ => by omega) ?_
  intro a k h
  unfold spZ41 at h
  split at h
  · exact ⟨[], rfl, rfl, (eqZ41 _ _).trans h⟩
  · cases h

def sh_st_binnacleref01_odd_0 : StSh := ⟨(.int .u64 :: (.int .i64 :: (sqs 15 []))), []⟩
def sx0_st_binnacleref01_odd_0 : StSh := ⟨(.int .u64 :: (.int .i64 :: (sqs 15 []))), []⟩
def hk_st_binnacleref01_odd_0 (N : Nat) : List Atom -> K -> Bool := fun a_ κ => match a_ with
  | [.int m_1, .int e_1] => iterG N (st_z01_odd_0 N (fun r0 r1 => κ.ext 0 (sx0_st_binnacleref01_odd_0.build [.int r0, .int r1]))) (m_1, e_1)
  | _ => false
def anZ94 (N : Nat) : Nat -> Option Ann := fun b_ => cond (b_ == 0) (some ⟨⟨[0, 1], [], []⟩, [(0, ⟨[0, 1], [], []⟩)], some ⟨[4, 5], [], []⟩, some (mkHooks [(sh_st_binnacleref01_odd_0, hk_st_binnacleref01_odd_0 N)])⟩) (none)
theorem eq_st_binnacleref01_odd_0 (N : Nat) (κ : K) (m_1 e_1 : Int) : iter N (fun s k => codeV ⟨Pg, ofList [], isref, N⟩ 0 (anZ94 N) (lp Pg 162 0).2 (lp Pg 162 0).1 s (roundK Pg 0 ((anZ94 N) (lp Pg 162 0).1) κ k)) (sh_st_binnacleref01_odd_0.build [.int m_1, .int e_1]) = iterG N (st_z01_odd_0 N (fun r0 r1 => κ.ext 0 (sx0_st_binnacleref01_odd_0.build [.int r0, .int r1]))) (m_1, e_1) :=
  iter_tr (fun (v_ : Int × Int) => sh_st_binnacleref01_odd_0.build [.int v_.1, .int v_.2]) (fun v_ K_ => by obtain ⟨m_1, e_1⟩ := v_; kernel_rfl) N (m_1, e_1)
theorem hk1_st_binnacleref01_odd_0 (N : Nat) : HookFor ⟨Pg, ofList [], isref, N⟩ 0 (anZ94 N) (lp Pg 162 0) (sh_st_binnacleref01_odd_0, hk_st_binnacleref01_odd_0 N) := by
  intro a κ h
  simp only at h
  unfold hk_st_binnacleref01_odd_0 at h
  split at h
  · exact (eq_st_binnacleref01_odd_0 _ _ _ _).trans h
  · cases h
theorem ho_binnacleref01_odd_0 (N : Nat) : HookOk ⟨Pg, ofList [], isref, N⟩ 0 (anZ94 N) (lp Pg 162 0) :=
  hooks_ok [(sh_st_binnacleref01_odd_0, hk_st_binnacleref01_odd_0 N)] (by kernel_rfl) ⟨hk1_st_binnacleref01_odd_0 _, trivial⟩
theorem eqZ94 (N : Nat) (m e : Int) (c_ : V -> List Blk -> Bool) : bodyV ⟨Pg, ofList [], isref, N⟩ (anZ94 N) 162 (shFZ94.args [.int m, .int e]) [] c_ = GZ94 N m e (fun r0 r1 => c_ (.tup [.int .u64 r0, .int .i64 r1]) []) := by kernel_rfl
theorem goodZ94 (N : Nat) : GoodF Pg 162 (FZ94 (GZ94 N)) := by
  refine good_fs (cx := ⟨Pg, ofList [], isref, N⟩) (ofList_nil _) shFZ94 (spZ94 (GZ94 N)) (anZ94 N) 1 0 (by kernel_rfl) (fun i_ hi_ => by
    match i_, hi_ with
    | 0, _ => exact ho_binnacleref01_odd_0 _
    | (q + 1), h => omega) ?_
  intro a k h
  unfold spZ94 at h
  split at h
  · exact ⟨[], rfl, rfl, (eqZ94 _ _ _ _).trans h⟩
  · cases h

def anZ88 (N : Nat) (SZ45 : TSZ45) (SZ94 : TSZ94) : Nat -> Option Ann := fun b_ => none
def lsZ131 (d_ : List V) (u_ : List (Option Blk)) (x : Fl) (neg : Bool) (e f : Int) : St := ⟨((dq d_ 0) :: ((dq d_ 1) :: (.ptr 0 0 :: ((dq d_ 2) :: (.bool neg :: (.int .i64 e :: (.int .u64 f :: (dqs d_ 3 28 [])))))))), [some ⟨144, 1, .cells [.bool false, .int .u64 0, .int .i64 0]⟩]⟩
theorem jnZ131 (N : Nat) (SZ45 : TSZ45) (SZ94 : TSZ94) (d_ : List V) (u_ : List (Option Blk)) (x : Fl) (neg : Bool) (e f : Int) (c_ : V -> List Blk -> Bool) : codesV ⟨Pg, ofList [(161, (FZ45 SZ45)), (162, (FZ94 SZ94))], isref, N⟩ 0 (anZ88 N SZ45 SZ94) ((cds Pg 94).drop 6) 0 (lsZ131 d_ u_ x neg e f) (finV Pg 94 0 c_) = JZ131 N SZ45 SZ94 x neg e f (fun r0 r1 r2 r3 => c_ (.tup [.agg [.bool r0, .int .u64 r1, .int .i64 r2], .int .i64 r3]) []) := by kernel_rfl
theorem hd_z01_Parts_w (N : Nat) (SZ45 : TSZ45) (SZ94 : TSZ94) (x : Fl) (c_ : V -> List Blk -> Bool) (κn_ : St -> Bool) : codesV ⟨Pg, ofList [(161, (FZ45 SZ45)), (162, (FZ94 SZ94))], isref, N⟩ 0 (anZ88 N SZ45 SZ94) (sg Pg 94 0 6) 0 (st0 Pg 94 (shFZ88.args [.fl x]) []) { (finV Pg 94 0 c_) with nrm := κn_ } = (SZ45 x (fun cr nr nr_1 => (cond (nr == 2047) (c_ (.tup [.agg [.bool false, .int .u64 0, .int .i64 0], .int .i64 4]) []) (cond (decide (nr > 0)) ((fits .i64 (nr - 1)) && (κn_ (lsZ131 [.flt x, .any, .int .i64 0, .any, .any, .tup [.bool cr, .int .i64 nr, .int .u64 nr_1], .flt x, .tup [.bool cr, .int .i64 nr, .int .u64 nr_1], .bool cr, .int .i64 nr, .int .u64 nr_1, .int .i64 nr, .bool false, .any, .int .i64 nr, .bool true, .int .u64 nr_1, .int .u64 (IntKind.wrap .u64 (nr_1 + 4503599627370496)), .int .i64 nr, .int .i64 (nr - 1), .any, .any, .any, .any, .any, .any, .any, .any, .any, .any, .any] [] x cr (nr - 1) (IntKind.wrap .u64 (nr_1 + 4503599627370496))))) (κn_ (lsZ131 [.flt x, .any, .int .i64 0, .any, .any, .tup [.bool cr, .int .i64 nr, .int .u64 nr_1], .flt x, .tup [.bool cr, .int .i64 nr, .int .u64 nr_1], .bool cr, .int .i64 nr, .int .u64 nr_1, .int .i64 nr, .bool false, .any, .int .i64 nr, .bool false, .any, .any, .any, .any, .any, .any, .any, .any, .any, .any, .any, .any, .any, .any, .any] [] x cr nr nr_1)))))) := by kernel_rfl
theorem jn_z01_Parts_w (N : Nat) (SZ45 : TSZ45) (SZ94 : TSZ94) (x : Fl) (c_ : V -> List Blk -> Bool) : codesV ⟨Pg, ofList [(161, (FZ45 SZ45)), (162, (FZ94 SZ94))], isref, N⟩ 0 (anZ88 N SZ45 SZ94) ((cds Pg 94).drop 0) 0 (st0 Pg 94 (shFZ88.args [.fl x]) []) (finV Pg 94 0 c_) = GZ88 N SZ45 SZ94 x (fun r0 r1 r2 r3 => c_ (.tup [.agg [.bool r0, .int .u64 r1, .int .i64 r2], .int .i64 r3]) []) := by
  rw [codesV_cut 0 6 6 rfl]
  refine (hd_z01_Parts_w N SZ45 SZ94 x c_ _).trans ?_
  simp only [jnZ131]
  kernel_rfl
theorem eqZ88 (N : Nat) (SZ45 : TSZ45) (SZ94 : TSZ94) (x : Fl) (c_ : V -> List Blk -> Bool) : bodyV ⟨Pg, ofList [(161, (FZ45 SZ45)), (162, (FZ94 SZ94))], isref, N⟩ (anZ88 N SZ45 SZ94) 94 (shFZ88.args [.fl x]) [] c_ = GZ88 N SZ45 SZ94 x (fun r0 r1 r2 r3 => c_ (.tup [.agg [.bool r0, .int .u64 r1, .int .i64 r2], .int .i64 r3]) []) :=
  (bodyV_codes (by kernel_rfl)).trans (jn_z01_Parts_w N SZ45 SZ94 x c_)
theorem goodZ88 (N : Nat) (SZ45 : TSZ45) (SZ94 : TSZ94) (hZ45 : GoodF Pg 161 (FZ45 SZ45)) (hZ94 : GoodF Pg 162 (FZ94 SZ94)) : GoodF Pg 94 (FZ88 (GZ88 N SZ45 SZ94)) := by
  refine good_fs (cx := ⟨Pg, ofList [(161, (FZ45 SZ45)), (162, (FZ94 SZ94))], isref, N⟩) (ofList_cons hZ45 (ofList_cons hZ94 (ofList_nil _))) shFZ88 (spZ88 (GZ88 N SZ45 SZ94)) (anZ88 N SZ45 SZ94) 0 0 (by kernel_rfl) (fun i_ hi_ => by omega) ?_
  intro a k h
  unfold spZ88 at h
  split at h
  · exact ⟨[], rfl, rfl, (eqZ88 _ _ _ _ _).trans h⟩
  · cases h

def sh_st_binnacleref00_cut_w_0 : StSh := ⟨(.sl 0 :: (sqs 20 [])), [some (213, 1, .ints .u32)]⟩
def sx0_st_binnacleref00_cut_w_0 : StSh := ⟨(.sl 0 :: (sqs 20 [])), [some (213, 1, .ints .u32)]⟩
def hk_st_binnacleref00_cut_w_0 (N : Nat) : List Atom -> K -> Bool := fun a_ κ => match a_ with
  | [.nat m_1, .nat m_2, .ints m_3] => iterG N (stZ134 N m_1 m_3 (fun r1 => κ.ext 0 (sx0_st_binnacleref00_cut_w_0.build [.nat m_1, .nat r1, .ints m_3]))) m_2
  | _ => false
def anZ7 (N : Nat) : Nat -> Option Ann := fun b_ => cond (b_ == 0) (some ⟨⟨[0], [(0, some 0, 0)], []⟩, [(0, ⟨[0], [], []⟩)], some ⟨[2], [], []⟩, some (mkHooks [(sh_st_binnacleref00_cut_w_0, hk_st_binnacleref00_cut_w_0 N)])⟩) (none)
theorem eq_st_binnacleref00_cut_w_0 (N : Nat) (κ : K) (m_1 m_2 : Nat) (m_3 : List Int) : iter N (fun s k => codeV ⟨Pg, ofList [], isref, N⟩ 1 (anZ7 N) (lp Pg 164 0).2 (lp Pg 164 0).1 s (roundK Pg 1 ((anZ7 N) (lp Pg 164 0).1) κ k)) (sh_st_binnacleref00_cut_w_0.build [.nat m_1, .nat m_2, .ints m_3]) = iterG N (stZ134 N m_1 m_3 (fun r1 => κ.ext 0 (sx0_st_binnacleref00_cut_w_0.build [.nat m_1, .nat r1, .ints m_3]))) m_2 :=
  iter_tr (fun v_ => sh_st_binnacleref00_cut_w_0.build [.nat m_1, .nat v_, .ints m_3]) (fun v_ K_ => by kernel_rfl) N m_2
theorem hk1_st_binnacleref00_cut_w_0 (N : Nat) : HookFor ⟨Pg, ofList [], isref, N⟩ 1 (anZ7 N) (lp Pg 164 0) (sh_st_binnacleref00_cut_w_0, hk_st_binnacleref00_cut_w_0 N) := by
  intro a κ h
  simp only at h
  unfold hk_st_binnacleref00_cut_w_0 at h
  split at h
  · exact (eq_st_binnacleref00_cut_w_0 _ _ _ _ _).trans h
  · cases h
theorem ho_binnacleref00_cut_w_0 (N : Nat) : HookOk ⟨Pg, ofList [], isref, N⟩ 1 (anZ7 N) (lp Pg 164 0) :=
  hooks_ok [(sh_st_binnacleref00_cut_w_0, hk_st_binnacleref00_cut_w_0 N)] (by kernel_rfl) ⟨hk1_st_binnacleref00_cut_w_0 _, trivial⟩
theorem eqZ7 (N : Nat) (b : List Int) (c_ : V -> List Blk -> Bool) : bodyZ ⟨Pg, ofList [], isref, N⟩ (anZ7 N) 164 (shFZ7.args [.ints b]) [⟨213, 1, .ints .u32 b⟩] c_ = GZ7 N b (fun r0 r1 => c_ (.sl 0 r0 r1) [⟨213, 1, .ints .u32 b⟩]) := by kernel_rfl
theorem goodZ7 (N : Nat) : GoodF Pg 164 (FZ7 (GZ7 N)) := by
  refine good_fsZ (cx := ⟨Pg, ofList [], isref, N⟩) (ofList_nil _) shFZ7 (spZ7 (GZ7 N)) (anZ7 N) 1 1 (by kernel_rfl) (fun i_ hi_ => by
    match i_, hi_ with
    | 0, _ => exact ho_binnacleref00_cut_w_0 _
    | (q + 1), h => omega) ?_
  intro a k h
  unfold spZ7 at h
  split at h
  · exact ⟨[_], rfl, rfl, (eqZ7 _ _ _).trans h⟩
  · cases h

def anZ71 (N : Nat) (SZ7 : TSZ7) : Nat -> Option Ann := fun b_ => none
theorem eqZ71 (N : Nat) (SZ7 : TSZ7) (n : Int) (c_ : V -> List Blk -> Bool) : bodyZ ⟨Pg, ofList [(164, (FZ7 SZ7))], isref, N⟩ (anZ71 N SZ7) 163 (shFZ71.args [.int n]) [] c_ = GZ71 N SZ7 n (fun r0 => c_ (.roi .u32 r0) []) := by kernel_rfl
theorem goodZ71 (N : Nat) (SZ7 : TSZ7) (hZ7 : GoodF Pg 164 (FZ7 SZ7)) : GoodF Pg 163 (FZ71 (GZ71 N SZ7)) := by
  refine good_fsZ (cx := ⟨Pg, ofList [(164, (FZ7 SZ7))], isref, N⟩) (ofList_cons hZ7 (ofList_nil _)) shFZ71 (spZ71 (GZ71 N SZ7)) (anZ71 N SZ7) 0 0 (by kernel_rfl) (fun i_ hi_ => by omega) ?_
  intro a k h
  unfold spZ71 at h
  split at h
  · exact ⟨[], rfl, rfl, (eqZ71 _ _ _ _).trans h⟩
  · cases h

def sh_st_binnacleref00_cut_0 : StSh := ⟨(.roi .u32 :: (sqs 20 [])), []⟩
def sx0_st_binnacleref00_cut_0 : StSh := ⟨(.roi .u32 :: (sqs 20 [])), []⟩
def hk_st_binnacleref00_cut_0 (N : Nat) : List Atom -> K -> Bool := fun a_ κ => match a_ with
  | [.ints m_1] => iterG N (st_z00_cut_0 N (fun r0 => κ.ext 0 (sx0_st_binnacleref00_cut_0.build [.ints r0]))) m_1
  | _ => false
def anZ118 (N : Nat) : Nat -> Option Ann := fun b_ => cond (b_ == 0) (some ⟨⟨[0], [], []⟩, [(0, ⟨[0], [], []⟩)], some ⟨[2], [], []⟩, some (mkHooks [(sh_st_binnacleref00_cut_0, hk_st_binnacleref00_cut_0 N)])⟩) (none)
theorem eq_st_binnacleref00_cut_0 (N : Nat) (κ : K) (m_1 : List Int) : iter N (fun s k => codeV ⟨Pg, ofList [], isref, N⟩ 0 (anZ118 N) (lp Pg 164 0).2 (lp Pg 164 0).1 s (roundK Pg 0 ((anZ118 N) (lp Pg 164 0).1) κ k)) (sh_st_binnacleref00_cut_0.build [.ints m_1]) = iterG N (st_z00_cut_0 N (fun r0 => κ.ext 0 (sx0_st_binnacleref00_cut_0.build [.ints r0]))) m_1 :=
  iter_tr (fun v_ => sh_st_binnacleref00_cut_0.build [.ints v_]) (fun v_ K_ => by kernel_rfl) N m_1
theorem hk1_st_binnacleref00_cut_0 (N : Nat) : HookFor ⟨Pg, ofList [], isref, N⟩ 0 (anZ118 N) (lp Pg 164 0) (sh_st_binnacleref00_cut_0, hk_st_binnacleref00_cut_0 N) := by
  intro a κ h
  simp only at h
  unfold hk_st_binnacleref00_cut_0 at h
  split at h
  · exact (eq_st_binnacleref00_cut_0 _ _ _).trans h
  · cases h
theorem ho_binnacleref00_cut_0 (N : Nat) : HookOk ⟨Pg, ofList [], isref, N⟩ 0 (anZ118 N) (lp Pg 164 0) :=
  hooks_ok [(sh_st_binnacleref00_cut_0, hk_st_binnacleref00_cut_0 N)] (by kernel_rfl) ⟨hk1_st_binnacleref00_cut_0 _, trivial⟩
theorem eqZ118 (N : Nat) (m : List Int) (c_ : V -> List Blk -> Bool) : bodyZ ⟨Pg, ofList [], isref, N⟩ (anZ118 N) 164 (shFZ118.args [.ints m]) [] c_ = GZ118 N m (fun r0 => c_ (.roi .u32 r0) []) := by kernel_rfl
theorem goodZ118 (N : Nat) : GoodF Pg 164 (FZ118 (GZ118 N)) := by
  refine good_fsZ (cx := ⟨Pg, ofList [], isref, N⟩) (ofList_nil _) shFZ118 (spZ118 (GZ118 N)) (anZ118 N) 1 0 (by kernel_rfl) (fun i_ hi_ => by
    match i_, hi_ with
    | 0, _ => exact ho_binnacleref00_cut_0 _
    | (q + 1), h => omega) ?_
  intro a k h
  unfold spZ118 at h
  split at h
  · exact ⟨[], rfl, rfl, (eqZ118 _ _ _).trans h⟩
  · cases h

def anZ14 (N : Nat) (SZ118 : TSZ118) : Nat -> Option Ann := fun b_ => none
theorem eqZ14 (N : Nat) (SZ118 : TSZ118) (neg : Bool) (m : List Int) (b : Bool) (c_ : V -> List Blk -> Bool) : bodyZ ⟨Pg, ofList [(164, (FZ118 SZ118))], isref, N⟩ (anZ14 N SZ118) 96 (shFZ14.args [.bool neg, .ints m, .bool b]) [⟨91, 1, .cells [.bool b, .nil]⟩] c_ = GZ14 N SZ118 neg m b (fun r0 r1 => c_ (.ptr 0 0) [⟨91, 1, .cells [.bool r0, .roi .u32 r1]⟩]) := by kernel_rfl
theorem goodZ14 (N : Nat) (SZ118 : TSZ118) (hZ118 : GoodF Pg 164 (FZ118 SZ118)) : GoodF Pg 96 (FZ14 (GZ14 N SZ118)) := by
  refine good_fsZ (cx := ⟨Pg, ofList [(164, (FZ118 SZ118))], isref, N⟩) (ofList_cons hZ118 (ofList_nil _)) shFZ14 (spZ14 (GZ14 N SZ118)) (anZ14 N SZ118) 0 1 (by kernel_rfl) (fun i_ hi_ => by omega) ?_
  intro a k h
  unfold spZ14 at h
  split at h
  · exact ⟨[_], rfl, rfl, (eqZ14 _ _ _ _ _ _).trans h⟩
  · cases h

def anZ24 (N : Nat) (SZ71 : TSZ71) (SZ14 : TSZ14) : Nat -> Option Ann := fun b_ => none
theorem eqZ24 (N : Nat) (SZ71 : TSZ71) (SZ14 : TSZ14) (n : Int) (b : Bool) (c_ : V -> List Blk -> Bool) : bodyZ ⟨Pg, ofList [(163, (FZ71 SZ71)), (96, (FZ14 SZ14))], isref, N⟩ (anZ24 N SZ71 SZ14) 95 (shFZ24.args [.int n, .bool b]) [⟨91, 1, .cells [.bool b, .nil]⟩] c_ = GZ24 N SZ71 SZ14 n b (fun r0 r1 => c_ (.ptr 0 0) [⟨91, 1, .cells [.bool r0, .roi .u32 r1]⟩]) := by kernel_rfl
theorem goodZ24 (N : Nat) (SZ71 : TSZ71) (SZ14 : TSZ14) (hZ71 : GoodF Pg 163 (FZ71 SZ71)) (hZ14 : GoodF Pg 96 (FZ14 SZ14)) : GoodF Pg 95 (FZ24 (GZ24 N SZ71 SZ14)) := by
  refine good_fsZ (cx := ⟨Pg, ofList [(163, (FZ71 SZ71)), (96, (FZ14 SZ14))], isref, N⟩) (ofList_cons hZ71 (ofList_cons hZ14 (ofList_nil _))) shFZ24 (spZ24 (GZ24 N SZ71 SZ14)) (anZ24 N SZ71 SZ14) 0 1 (by kernel_rfl) (fun i_ hi_ => by omega) ?_
  intro a k h
  unfold spZ24 at h
  split at h
  · exact ⟨[_], rfl, rfl, (eqZ24 _ _ _ _ _ _).trans h⟩
  · cases h

def anZ69 (N : Nat) (SZ7 : TSZ7) : Nat -> Option Ann := fun b_ => none
theorem eqZ69 (N : Nat) (SZ7 : TSZ7) (neg b : Bool) (b_1 b_2 : List Int) (c_ : V -> List Blk -> Bool) : bodyZ ⟨Pg, ofList [(164, (FZ7 SZ7))], isref, N⟩ (anZ69 N SZ7) 96 (shFZ69.args [.bool neg, .bool b, .ints b_1, .ints b_2]) [⟨91, 1, .cells [.bool b, .roi .u32 b_1]⟩, ⟨213, 1, .ints .u32 b_2⟩] c_ = GZ69 N SZ7 neg b b_1 b_2 (fun r0 r1 r2 => c_ (.ptr 0 0) [⟨91, 1, .cells [.bool r0, .sl 1 r1 r2]⟩, ⟨213, 1, .ints .u32 b_2⟩]) := by kernel_rfl
theorem goodZ69 (N : Nat) (SZ7 : TSZ7) (hZ7 : GoodF Pg 164 (FZ7 SZ7)) : GoodF Pg 96 (FZ69 (GZ69 N SZ7)) := by
  refine good_fsZ (cx := ⟨Pg, ofList [(164, (FZ7 SZ7))], isref, N⟩) (ofList_cons hZ7 (ofList_nil _)) shFZ69 (spZ69 (GZ69 N SZ7)) (anZ69 N SZ7) 0 2 (by kernel_rfl) (fun i_ hi_ => by omega) ?_
  intro a k h
  unfold spZ69 at h
  split at h
  · exact ⟨[_, _], rfl, rfl, (eqZ69 _ _ _ _ _ _ _).trans h⟩
  · cases h

def anZ66 (N : Nat) (SZ69 : TSZ69) : Nat -> Option Ann := fun b_ => none
theorem eqZ66 (N : Nat) (SZ69 : TSZ69) (b : Bool) (b_1 : List Int) (c_ : V -> List Blk -> Bool) : bodyZ ⟨Pg, ofList [(96, (FZ69 SZ69))], isref, N⟩ (anZ66 N SZ69) 45 (shFZ66.args [.bool b, .ints b_1]) [⟨91, 1, .cells [.bool b, .roi .u32 b_1]⟩] c_ = GZ66 N SZ69 b b_1 (fun r0 r1 => c_ (.ptr 0 0) [⟨91, 1, .cells [.bool r0, .roi .u32 r1]⟩]) := by kernel_rfl
theorem goodZ66 (N : Nat) (SZ69 : TSZ69) (hZ69 : GoodF Pg 96 (FZ69 SZ69)) : GoodF Pg 45 (FZ66 (GZ66 N SZ69)) := by
  refine good_fsZ (cx := ⟨Pg, ofList [(96, (FZ69 SZ69))], isref, N⟩) (ofList_cons hZ69 (ofList_nil _)) shFZ66 (spZ66 (GZ66 N SZ69)) (anZ66 N SZ69) 0 1 (by kernel_rfl) (fun i_ hi_ => by omega) ?_
  intro a k h
  unfold spZ66 at h
  split at h
  · exact ⟨[_], rfl, rfl, (eqZ66 _ _ _ _ _).trans h⟩
  · cases h

def anZ102 (N : Nat) (SZ88 : TSZ88) (SZ24 : TSZ24) (SZ66 : TSZ66) : Nat -> Option Ann := fun b_ => none
theorem eqZ102 (N : Nat) (SZ88 : TSZ88) (SZ24 : TSZ24) (SZ66 : TSZ66) (x : Fl) (c_ : V -> List Blk -> Bool) : bodyV ⟨Pg, ofList [(94, (FZ88 SZ88)), (95, (FZ24 SZ24)), (45, (FZ66 SZ66))], isref, N⟩ (anZ102 N SZ88 SZ24 SZ66) 40 (shFZ102.args [.fl x]) [] c_ = GZ102 N SZ88 SZ24 SZ66 x (fun r0 r1 r2 => c_ (.agg [.ptr 0 0, .int .i64 r0]) [⟨91, 1, .cells [.bool r1, .roi .u32 r2]⟩]) := by kernel_rfl
theorem goodZ102 (N : Nat) (SZ88 : TSZ88) (SZ24 : TSZ24) (SZ66 : TSZ66) (hZ88 : GoodF Pg 94 (FZ88 SZ88)) (hZ24 : GoodF Pg 95 (FZ24 SZ24)) (hZ66 : GoodF Pg 45 (FZ66 SZ66)) : GoodF Pg 40 (FZ102 (GZ102 N SZ88 SZ24 SZ66)) := by
  refine good_fs (cx := ⟨Pg, ofList [(94, (FZ88 SZ88)), (95, (FZ24 SZ24)), (45, (FZ66 SZ66))], isref, N⟩) (ofList_cons hZ88 (ofList_cons hZ24 (ofList_cons hZ66 (ofList_nil _)))) shFZ102 (spZ102 (GZ102 N SZ88 SZ24 SZ66)) (anZ102 N SZ88 SZ24 SZ66) 0 0 (by kernel_rfl) (fun i_ hi_ => by omega) ?_
  intro a k h
  unfold spZ102 at h
  split at h
  · exact ⟨[], rfl, rfl, (eqZ102 _ _ _ _ _ _).trans h⟩
  · cases h

def sh_st_binnacleref00_times_2 : StSh := ⟨(.roi .u32 :: (.roi .u32 :: (.any :: (.any :: (.any :: (.slw 0 :: (.int .i64 :: (.int .u64 :: (.int .i64 :: (sqs 59 [])))))))))), [some (213, 1, .ints .u32)]⟩
def sx0_st_binnacleref00_times_2 : StSh := ⟨(.roi .u32 :: (.roi .u32 :: (.any :: (.any :: (.any :: (.slw 0 :: (.int .i64 :: (.int .u64 :: (sqs 60 []))))))))), [some (213, 1, .ints .u32)]⟩
def hk_st_binnacleref00_times_2 (N : Nat) (SZ7 : TSZ7) : List Atom -> K -> Bool := fun a_ κ => match a_ with
  | [.ints a_2, .ints b_2, .int i_1, .int carry, .int k_, .ints out_1] => iterG N (st_z00_times_2 N SZ7 a_2 b_2 i_1 (fun r3 r4 => κ.ext 2 (sx0_st_binnacleref00_times_2.build [.ints a_2, .ints b_2, .int i_1, .int r3, .ints r4]))) (carry, k_, out_1)
  | _ => false
def sh_st_binnacleref00_times_0 : StSh := ⟨(.roi .u32 :: (.roi .u32 :: (.any :: (.any :: (.any :: (.slw 0 :: (.int .i64 :: (sqs 61 [])))))))), [some (213, 1, .ints .u32)]⟩
def sx0_st_binnacleref00_times_0 : StSh := ⟨(sqs 5 (.slw 0 :: (sqs 62 []))), [some (213, 1, .ints .u32)]⟩
def hk_st_binnacleref00_times_0 (N : Nat) (SZ7 : TSZ7) : List Atom -> K -> Bool := fun a_ κ => match a_ with
  | [.ints a_1, .ints b_1, .int i, .ints out] => iterG N (st_z00_times_0 N SZ7 a_1 b_1 (fun r0 => κ.ext 0 (sx0_st_binnacleref00_times_0.build [.ints r0]))) (i, out)
  | _ => false
def anZ60 (N : Nat) (SZ7 : TSZ7) : Nat -> Option Ann := fun b_ => cond (b_ == 2) (some ⟨⟨[0, 1, 5, 6, 7, 8], [], []⟩, [(2, ⟨[0, 1, 5, 6, 7], [], []⟩)], some ⟨[4], [], []⟩, some (mkHooks [(sh_st_binnacleref00_times_2, hk_st_binnacleref00_times_2 N SZ7)])⟩) (cond (b_ == 0) (some ⟨⟨[0, 1, 5, 6], [], []⟩, [(0, ⟨[5], [], []⟩)], some ⟨[4], [], []⟩, some (mkHooks [(sh_st_binnacleref00_times_0, hk_st_binnacleref00_times_0 N SZ7)])⟩) (none))
theorem eq_st_binnacleref00_times_2 (N : Nat) (SZ7 : TSZ7) (κ : K) (a_2 b_2 : List Int) (i_1 carry k_ : Int) (out_1 : List Int) : iter N (fun s k => codeV ⟨Pg, ofList [(164, (FZ7 SZ7))], isref, N⟩ 0 (anZ60 N SZ7) (lp Pg 97 1).2 (lp Pg 97 1).1 s (roundK Pg 0 ((anZ60 N SZ7) (lp Pg 97 1).1) κ k)) (sh_st_binnacleref00_times_2.build [.ints a_2, .ints b_2, .int i_1, .int carry, .int k_, .ints out_1]) = iterG N (st_z00_times_2 N SZ7 a_2 b_2 i_1 (fun r3 r4 => κ.ext 2 (sx0_st_binnacleref00_times_2.build [.ints a_2, .ints b_2, .int i_1, .int r3, .ints r4]))) (carry, k_, out_1) :=
  iter_tr (fun (v_ : Int × Int × List Int) => sh_st_binnacleref00_times_2.build [.ints a_2, .ints b_2, .int i_1, .int v_.1, .int v_.2.1, .ints v_.2.2]) (fun v_ K_ => by obtain ⟨carry, k_, out_1⟩ := v_; kernel_rfl) N (carry, k_, out_1)
theorem hk1_st_binnacleref00_times_2 (N : Nat) (SZ7 : TSZ7) : HookFor ⟨Pg, ofList [(164, (FZ7 SZ7))], isref, N⟩ 0 (anZ60 N SZ7) (lp Pg 97 1) (sh_st_binnacleref00_times_2, hk_st_binnacleref00_times_2 N SZ7) := by
  intro a κ h
  simp only at h
  unfold hk_st_binnacleref00_times_2 at h
  split at h
  · exact (eq_st_binnacleref00_times_2 _ _ _ _ _ _ _ _ _).trans h
  · cases h
theorem eq_st_binnacleref00_times_0 (N : Nat) (SZ7 : TSZ7) (κ : K) (a_1 b_1 : List Int) (i : Int) (out : List Int) : iter N (fun s k => codeV ⟨Pg, ofList [(164, (FZ7 SZ7))], isref, N⟩ 0 (anZ60 N SZ7) (lp Pg 97 0).2 (lp Pg 97 0).1 s (roundK Pg 0 ((anZ60 N SZ7) (lp Pg 97 0).1) κ k)) (sh_st_binnacleref00_times_0.build [.ints a_1, .ints b_1, .int i, .ints out]) = iterG N (st_z00_times_0 N SZ7 a_1 b_1 (fun r0 => κ.ext 0 (sx0_st_binnacleref00_times_0.build [.ints r0]))) (i, out) :=
  iter_tr (fun (v_ : Int × List Int) => sh_st_binnacleref00_times_0.build [.ints a_1, .ints b_1, .int v_.1, .ints v_.2]) (fun v_ K_ => by obtain ⟨i, out⟩ := v_; kernel_rfl) N (i, out)
theorem hk1_st_binnacleref00_times_0 (N : Nat) (SZ7 : TSZ7) : HookFor ⟨Pg, ofList [(164, (FZ7 SZ7))], isref, N⟩ 0 (anZ60 N SZ7) (lp Pg 97 0) (sh_st_binnacleref00_times_0, hk_st_binnacleref00_times_0 N SZ7) := by
  intro a κ h
  simp only at h
  unfold hk_st_binnacleref00_times_0 at h
  split at h
  · exact (eq_st_binnacleref00_times_0 _ _ _ _ _ _ _).trans h
  · cases h
theorem ho_binnacleref00_times_2 (N : Nat) (SZ7 : TSZ7) : HookOk ⟨Pg, ofList [(164, (FZ7 SZ7))], isref, N⟩ 0 (anZ60 N SZ7) (lp Pg 97 1) :=
  hooks_ok [(sh_st_binnacleref00_times_2, hk_st_binnacleref00_times_2 N SZ7)] (by kernel_rfl) ⟨hk1_st_binnacleref00_times_2 _ _, trivial⟩
theorem ho_binnacleref00_times_0 (N : Nat) (SZ7 : TSZ7) : HookOk ⟨Pg, ofList [(164, (FZ7 SZ7))], isref, N⟩ 0 (anZ60 N SZ7) (lp Pg 97 0) :=
  hooks_ok [(sh_st_binnacleref00_times_0, hk_st_binnacleref00_times_0 N SZ7)] (by kernel_rfl) ⟨hk1_st_binnacleref00_times_0 _ _, trivial⟩
theorem eqZ60 (N : Nat) (SZ7 : TSZ7) (a b : List Int) (c_ : V -> List Blk -> Bool) : bodyZ ⟨Pg, ofList [(164, (FZ7 SZ7))], isref, N⟩ (anZ60 N SZ7) 97 (shFZ60.args [.ints a, .ints b]) [] c_ = GZ60 N SZ7 a b (fun r0 => c_ (.roi .u32 r0) []) := by kernel_rfl
theorem goodZ60 (N : Nat) (SZ7 : TSZ7) (hZ7 : GoodF Pg 164 (FZ7 SZ7)) : GoodF Pg 97 (FZ60 (GZ60 N SZ7)) := by
  refine good_fsZ (cx := ⟨Pg, ofList [(164, (FZ7 SZ7))], isref, N⟩) (ofList_cons hZ7 (ofList_nil _)) shFZ60 (spZ60 (GZ60 N SZ7)) (anZ60 N SZ7) 2 0 (by kernel_rfl) (fun i_ hi_ => by
    match i_, hi_ with
    | 0, _ => exact ho_binnacleref00_times_0 _ _
    | 1, _ => exact ho_binnacleref00_times_2 _ _
    | (q + 2), h => omega) ?_
  intro a k h
  unfold spZ60 at h
  split at h
  · exact ⟨[], rfl, rfl, (eqZ60 _ _ _ _ _).trans h⟩
  · cases h

def anZ28 (N : Nat) (SZ60 : TSZ60) (SZ14 : TSZ14) : Nat -> Option Ann := fun b_ => none
theorem eqZ28 (N : Nat) (SZ60 : TSZ60) (SZ14 : TSZ14) (b b_1 : Bool) (b_2 : List Int) (b_3 : Bool) (b_4 : List Int) (c_ : V -> List Blk -> Bool) : bodyZ ⟨Pg, ofList [(97, (FZ60 SZ60)), (96, (FZ14 SZ14))], isref, N⟩ (anZ28 N SZ60 SZ14) 42 (shFZ28.args [.bool b, .bool b_1, .ints b_2, .bool b_3, .ints b_4]) [⟨91, 1, .cells [.bool b, .nil]⟩, ⟨91, 1, .cells [.bool b_1, .roi .u32 b_2]⟩, ⟨91, 1, .cells [.bool b_3, .roi .u32 b_4]⟩] c_ = GZ28 N SZ60 SZ14 b b_1 b_2 b_3 b_4 (fun r0 r1 => c_ (.ptr 0 0) [⟨91, 1, .cells [.bool r0, .roi .u32 r1]⟩, ⟨91, 1, .cells [.bool b_1, .roi .u32 b_2]⟩, ⟨91, 1, .cells [.bool b_3, .roi .u32 b_4]⟩]) := by kernel_rfl
theorem goodZ28 (N : Nat) (SZ60 : TSZ60) (SZ14 : TSZ14) (hZ60 : GoodF Pg 97 (FZ60 SZ60)) (hZ14 : GoodF Pg 96 (FZ14 SZ14)) : GoodF Pg 42 (FZ28 (GZ28 N SZ60 SZ14)) := by
  refine good_fsZ (cx := ⟨Pg, ofList [(97, (FZ60 SZ60)), (96, (FZ14 SZ14))], isref, N⟩) (ofList_cons hZ60 (ofList_cons hZ14 (ofList_nil _))) shFZ28 (spZ28 (GZ28 N SZ60 SZ14)) (anZ28 N SZ60 SZ14) 0 3 (by kernel_rfl) (fun i_ hi_ => by omega) ?_
  intro a k h
  unfold spZ28 at h
  split at h
  · exact ⟨[_, _, _], rfl, rfl, (eqZ28 _ _ _ _ _ _ _ _ _).trans h⟩
  · cases h

def anZ1 (N : Nat) (SZ28 : TSZ28) : Nat -> Option Ann := fun b_ => none
theorem eqZ1 (N : Nat) (SZ28 : TSZ28) (x y : Int) (b : Bool) (b_1 : List Int) (b_2 : Bool) (b_3 : List Int) (c_ : V -> List Blk -> Bool) : bodyV ⟨Pg, ofList [(42, (FZ28 SZ28))], isref, N⟩ (anZ1 N SZ28) 13 (shFZ1.args [.int x, .int y, .bool b, .ints b_1, .bool b_2, .ints b_3]) [⟨91, 1, .cells [.bool b, .roi .u32 b_1]⟩, ⟨91, 1, .cells [.bool b_2, .roi .u32 b_3]⟩] c_ = GZ1 N SZ28 x y b b_1 b_2 b_3 (fun r0 r5 r6 => c_ (.agg [.ptr 2 0, .int .i64 r0]) [⟨91, 1, .cells [.bool b, .roi .u32 b_1]⟩, ⟨91, 1, .cells [.bool b_2, .roi .u32 b_3]⟩, ⟨91, 1, .cells [.bool r5, .roi .u32 r6]⟩]) := by kernel_rfl
theorem goodZ1 (N : Nat) (SZ28 : TSZ28) (hZ28 : GoodF Pg 42 (FZ28 SZ28)) : GoodF Pg 13 (FZ1 (GZ1 N SZ28)) := by
  refine good_fs (cx := ⟨Pg, ofList [(42, (FZ28 SZ28))], isref, N⟩) (ofList_cons hZ28 (ofList_nil _)) shFZ1 (spZ1 (GZ1 N SZ28)) (anZ1 N SZ28) 0 2 (by kernel_rfl) (fun i_ hi_ => by omega) ?_
  intro a k h
  unfold spZ1 at h
  split at h
  · exact ⟨[_, _], rfl, rfl, (eqZ1 _ _ _ _ _ _ _ _ _).trans h⟩
  · cases h

def anZ77 (N : Nat) : Nat -> Option Ann := fun b_ => none
theorem eqZ77 (N : Nat) (b : Bool) (c_ : V -> List Blk -> Bool) : bodyZ ⟨Pg, ofList [], isref, N⟩ (anZ77 N) 14 (shFZ77.args [.bool b]) [⟨91, 1, .cells [.bool b, .nil]⟩] c_ = GZ77 N b (fun r0 r2 => c_ (.int .i64 r0) [⟨91, 1, .cells [.bool b, .roi .u32 r2]⟩]) := by kernel_rfl
theorem goodZ77 (N : Nat) : GoodF Pg 14 (FZ77 (GZ77 N)) := by
  refine good_fsZ (cx := ⟨Pg, ofList [], isref, N⟩) (ofList_nil _) shFZ77 (spZ77 (GZ77 N)) (anZ77 N) 0 1 (by kernel_rfl) (fun i_ hi_ => by omega) ?_
  intro a k h
  unfold spZ77 at h
  split at h
  · exact ⟨[_], rfl, rfl, (eqZ77 _ _ _).trans h⟩
  · cases h

def anZ11 (N : Nat) : Nat -> Option Ann := fun b_ => none
theorem eqZ11 (N : Nat) (b : Bool) (b_1 : List Int) (c_ : V -> List Blk -> Bool) : bodyZ ⟨Pg, ofList [], isref, N⟩ (anZ11 N) 14 (shFZ11.args [.bool b, .ints b_1]) [⟨91, 1, .cells [.bool b, .roi .u32 b_1]⟩] c_ = GZ11 N b b_1 (fun r0 => c_ (.int .i64 r0) [⟨91, 1, .cells [.bool b, .roi .u32 b_1]⟩]) := by kernel_rfl
theorem goodZ11 (N : Nat) : GoodF Pg 14 (FZ11 (GZ11 N)) := by
  refine good_fsZ (cx := ⟨Pg, ofList [], isref, N⟩) (ofList_nil _) shFZ11 (spZ11 (GZ11 N)) (anZ11 N) 0 1 (by kernel_rfl) (fun i_ hi_ => by omega) ?_
  intro a k h
  unfold spZ11 at h
  split at h
  · exact ⟨[_], rfl, rfl, (eqZ11 _ _ _ _).trans h⟩
  · cases h

def sh_st_binnacleref00_left_0 : StSh := ⟨(.roi .u32 :: (sqs 4 (.int .i64 :: (.int .u64 :: (.slw 0 :: (.int .i64 :: (sqs 49 []))))))), [some (213, 1, .ints .u32)]⟩
def sx0_st_binnacleref00_left_0 : StSh := ⟨(sqs 7 (.slw 0 :: (sqs 50 []))), [some (213, 1, .ints .u32)]⟩
def hk_st_binnacleref00_left_0 (N : Nat) (SZ7 : TSZ7) : List Atom -> K -> Bool := fun a_ κ => match a_ with
  | [.ints m_1, .int w, .int s, .int i, .ints out] => iterG N (st_z00_left_0 N SZ7 m_1 w s (fun r0 => κ.ext 0 (sx0_st_binnacleref00_left_0.build [.ints r0]))) (i, out)
  | _ => false
def anZ105 (N : Nat) (SZ7 : TSZ7) : Nat -> Option Ann := fun b_ => cond (b_ == 0) (some ⟨⟨[0, 5, 6, 7, 8], [], []⟩, [(0, ⟨[7], [], []⟩)], some ⟨[4], [], []⟩, some (mkHooks [(sh_st_binnacleref00_left_0, hk_st_binnacleref00_left_0 N SZ7)])⟩) (none)
theorem eq_st_binnacleref00_left_0 (N : Nat) (SZ7 : TSZ7) (κ : K) (m_1 : List Int) (w s i : Int) (out : List Int) : iter N (fun s k => codeV ⟨Pg, ofList [(164, (FZ7 SZ7))], isref, N⟩ 0 (anZ105 N SZ7) (lp Pg 168 0).2 (lp Pg 168 0).1 s (roundK Pg 0 ((anZ105 N SZ7) (lp Pg 168 0).1) κ k)) (sh_st_binnacleref00_left_0.build [.ints m_1, .int w, .int s, .int i, .ints out]) = iterG N (st_z00_left_0 N SZ7 m_1 w s (fun r0 => κ.ext 0 (sx0_st_binnacleref00_left_0.build [.ints r0]))) (i, out) :=
  iter_tr (fun (v_ : Int × List Int) => sh_st_binnacleref00_left_0.build [.ints m_1, .int w, .int s, .int v_.1, .ints v_.2]) (fun v_ K_ => by obtain ⟨i, out⟩ := v_; kernel_rfl) N (i, out)
theorem hk1_st_binnacleref00_left_0 (N : Nat) (SZ7 : TSZ7) : HookFor ⟨Pg, ofList [(164, (FZ7 SZ7))], isref, N⟩ 0 (anZ105 N SZ7) (lp Pg 168 0) (sh_st_binnacleref00_left_0, hk_st_binnacleref00_left_0 N SZ7) := by
  intro a κ h
  simp only at h
  unfold hk_st_binnacleref00_left_0 at h
  split at h
  · exact (eq_st_binnacleref00_left_0 _ _ _ _ _ _ _ _).trans h
  · cases h
theorem ho_binnacleref00_left_0 (N : Nat) (SZ7 : TSZ7) : HookOk ⟨Pg, ofList [(164, (FZ7 SZ7))], isref, N⟩ 0 (anZ105 N SZ7) (lp Pg 168 0) :=
  hooks_ok [(sh_st_binnacleref00_left_0, hk_st_binnacleref00_left_0 N SZ7)] (by kernel_rfl) ⟨hk1_st_binnacleref00_left_0 _ _, trivial⟩
theorem eqZ105 (N : Nat) (SZ7 : TSZ7) (m : List Int) (n : Int) (c_ : V -> List Blk -> Bool) : bodyZ ⟨Pg, ofList [(164, (FZ7 SZ7))], isref, N⟩ (anZ105 N SZ7) 168 (shFZ105.args [.ints m, .int n]) [] c_ = GZ105 N SZ7 m n (fun r0 => c_ (.roi .u32 r0) []) := by kernel_rfl
theorem goodZ105 (N : Nat) (SZ7 : TSZ7) (hZ7 : GoodF Pg 164 (FZ7 SZ7)) : GoodF Pg 168 (FZ105 (GZ105 N SZ7)) := by
  refine good_fsZ (cx := ⟨Pg, ofList [(164, (FZ7 SZ7))], isref, N⟩) (ofList_cons hZ7 (ofList_nil _)) shFZ105 (spZ105 (GZ105 N SZ7)) (anZ105 N SZ7) 1 0 (by kernel_rfl) (fun i_ hi_ => by
    match i_, hi_ with
    | 0, _ => exact ho_binnacleref00_left_0 _ _
    | (q + 1), h => omega) ?_
  intro a k h
  unfold spZ105 at h
  split at h
  · exact ⟨[], rfl, rfl, (eqZ105 _ _ _ _ _).trans h⟩
  · cases h

def anZ51 (N : Nat) (SZ105 : TSZ105) (SZ14 : TSZ14) : Nat -> Option Ann := fun b_ => none
theorem eqZ51 (N : Nat) (SZ105 : TSZ105) (SZ14 : TSZ14) (n : Int) (b b_1 : Bool) (b_2 : List Int) (c_ : V -> List Blk -> Bool) : bodyZ ⟨Pg, ofList [(168, (FZ105 SZ105)), (96, (FZ14 SZ14))], isref, N⟩ (anZ51 N SZ105 SZ14) 99 (shFZ51.args [.int n, .bool b, .bool b_1, .ints b_2]) [⟨91, 1, .cells [.bool b, .nil]⟩, ⟨91, 1, .cells [.bool b_1, .roi .u32 b_2]⟩] c_ = GZ51 N SZ105 SZ14 n b b_1 b_2 (fun r0 r1 => c_ (.ptr 0 0) [⟨91, 1, .cells [.bool r0, .roi .u32 r1]⟩, ⟨91, 1, .cells [.bool b_1, .roi .u32 b_2]⟩]) := by kernel_rfl
theorem goodZ51 (N : Nat) (SZ105 : TSZ105) (SZ14 : TSZ14) (hZ105 : GoodF Pg 168 (FZ105 SZ105)) (hZ14 : GoodF Pg 96 (FZ14 SZ14)) : GoodF Pg 99 (FZ51 (GZ51 N SZ105 SZ14)) := by
  refine good_fsZ (cx := ⟨Pg, ofList [(168, (FZ105 SZ105)), (96, (FZ14 SZ14))], isref, N⟩) (ofList_cons hZ105 (ofList_cons hZ14 (ofList_nil _))) shFZ51 (spZ51 (GZ51 N SZ105 SZ14)) (anZ51 N SZ105 SZ14) 0 2 (by kernel_rfl) (fun i_ hi_ => by omega) ?_
  intro a k h
  unfold spZ51 at h
  split at h
  · exact ⟨[_, _], rfl, rfl, (eqZ51 _ _ _ _ _ _ _ _).trans h⟩
  · cases h

def anZ13 (N : Nat) (SZ51 : TSZ51) : Nat -> Option Ann := fun b_ => none
theorem eqZ13 (N : Nat) (SZ51 : TSZ51) (x e : Int) (b : Bool) (b_1 : List Int) (c_ : V -> List Blk -> Bool) : bodyV ⟨Pg, ofList [(99, (FZ51 SZ51))], isref, N⟩ (anZ13 N SZ51) 44 (shFZ13.args [.int x, .int e, .bool b, .ints b_1]) [⟨91, 1, .cells [.bool b, .roi .u32 b_1]⟩] c_ = GZ13 N SZ51 x e b b_1 (c_ (.agg [.ptr 0 0, .int .i64 x]) [⟨91, 1, .cells [.bool b, .roi .u32 b_1]⟩]) (fun r3 r4 => c_ (.agg [.ptr 1 0, .int .i64 e]) [⟨91, 1, .cells [.bool b, .roi .u32 b_1]⟩, ⟨91, 1, .cells [.bool r3, .roi .u32 r4]⟩]) := by kernel_rfl
theorem goodZ13 (N : Nat) (SZ51 : TSZ51) (hZ51 : GoodF Pg 99 (FZ51 SZ51)) : GoodF Pg 44 (FZ13 (GZ13 N SZ51)) := by
  refine good_fs (cx := ⟨Pg, ofList [(99, (FZ51 SZ51))], isref, N⟩) (ofList_cons hZ51 (ofList_nil _)) shFZ13 (spZ13 (GZ13 N SZ51)) (anZ13 N SZ51) 0 1 (by kernel_rfl) (fun i_ hi_ => by omega) ?_
  intro a k h
  unfold spZ13 at h
  split at h
  · exact ⟨[_], rfl, rfl, (eqZ13 _ _ _ _ _ _ _).trans h⟩
  · cases h

def sh_st_binnacleref00_plus_0 : StSh := ⟨(.roi .u32 :: (.roi .u32 :: (sqs 4 (.slw 0 :: (.int .u64 :: (.int .i64 :: (sqs 52 []))))))), [some (213, 1, .ints .u32)]⟩
def sx0_st_binnacleref00_plus_0 : StSh := ⟨(.roi .u32 :: (sqs 5 (.slw 0 :: (.int .u64 :: (sqs 53 []))))), [some (213, 1, .ints .u32)]⟩
def hk_st_binnacleref00_plus_0 (N : Nat) (SZ7 : TSZ7) : List Atom -> K -> Bool := fun a_ κ => match a_ with
  | [.ints a_1, .ints b_1, .int carry, .int i, .ints out] => iterG N (st_z00_plus_0 N SZ7 a_1 b_1 (fun r1 r2 => κ.ext 0 (sx0_st_binnacleref00_plus_0.build [.ints a_1, .int r1, .ints r2]))) (carry, i, out)
  | _ => false
def anZ106 (N : Nat) (SZ7 : TSZ7) : Nat -> Option Ann := fun b_ => cond (b_ == 0) (some ⟨⟨[0, 1, 6, 7, 8], [], []⟩, [(0, ⟨[0, 6, 7], [], []⟩)], some ⟨[4], [], []⟩, some (mkHooks [(sh_st_binnacleref00_plus_0, hk_st_binnacleref00_plus_0 N SZ7)])⟩) (none)
theorem eq_st_binnacleref00_plus_0 (N : Nat) (SZ7 : TSZ7) (κ : K) (a_1 b_1 : List Int) (carry i : Int) (out : List Int) : iter N (fun s k => codeV ⟨Pg, ofList [(164, (FZ7 SZ7))], isref, N⟩ 0 (anZ106 N SZ7) (lp Pg 165 0).2 (lp Pg 165 0).1 s (roundK Pg 0 ((anZ106 N SZ7) (lp Pg 165 0).1) κ k)) (sh_st_binnacleref00_plus_0.build [.ints a_1, .ints b_1, .int carry, .int i, .ints out]) = iterG N (st_z00_plus_0 N SZ7 a_1 b_1 (fun r1 r2 => κ.ext 0 (sx0_st_binnacleref00_plus_0.build [.ints a_1, .int r1, .ints r2]))) (carry, i, out) :=
  iter_tr (fun (v_ : Int × Int × List Int) => sh_st_binnacleref00_plus_0.build [.ints a_1, .ints b_1, .int v_.1, .int v_.2.1, .ints v_.2.2]) (fun v_ K_ => by obtain ⟨carry, i, out⟩ := v_; kernel_rfl) N (carry, i, out)
theorem hk1_st_binnacleref00_plus_0 (N : Nat) (SZ7 : TSZ7) : HookFor ⟨Pg, ofList [(164, (FZ7 SZ7))], isref, N⟩ 0 (anZ106 N SZ7) (lp Pg 165 0) (sh_st_binnacleref00_plus_0, hk_st_binnacleref00_plus_0 N SZ7) := by
  intro a κ h
  simp only at h
  unfold hk_st_binnacleref00_plus_0 at h
  split at h
  · exact (eq_st_binnacleref00_plus_0 _ _ _ _ _ _ _ _).trans h
  · cases h
theorem ho_binnacleref00_plus_0 (N : Nat) (SZ7 : TSZ7) : HookOk ⟨Pg, ofList [(164, (FZ7 SZ7))], isref, N⟩ 0 (anZ106 N SZ7) (lp Pg 165 0) :=
  hooks_ok [(sh_st_binnacleref00_plus_0, hk_st_binnacleref00_plus_0 N SZ7)] (by kernel_rfl) ⟨hk1_st_binnacleref00_plus_0 _ _, trivial⟩
theorem eqZ106 (N : Nat) (SZ7 : TSZ7) (a b : List Int) (c_ : V -> List Blk -> Bool) : bodyZ ⟨Pg, ofList [(164, (FZ7 SZ7))], isref, N⟩ (anZ106 N SZ7) 165 (shFZ106.args [.ints a, .ints b]) [] c_ = GZ106 N SZ7 a b (fun r0 => c_ (.roi .u32 r0) []) := by kernel_rfl
theorem goodZ106 (N : Nat) (SZ7 : TSZ7) (hZ7 : GoodF Pg 164 (FZ7 SZ7)) : GoodF Pg 165 (FZ106 (GZ106 N SZ7)) := by
  refine good_fsZ (cx := ⟨Pg, ofList [(164, (FZ7 SZ7))], isref, N⟩) (ofList_cons hZ7 (ofList_nil _)) shFZ106 (spZ106 (GZ106 N SZ7)) (anZ106 N SZ7) 1 0 (by kernel_rfl) (fun i_ hi_ => by
    match i_, hi_ with
    | 0, _ => exact ho_binnacleref00_plus_0 _ _
    | (q + 1), h => omega) ?_
  intro a k h
  unfold spZ106 at h
  split at h
  · exact ⟨[], rfl, rfl, (eqZ106 _ _ _ _ _).trans h⟩
  · cases h

end Go.Proofs.YtgngdkjghdohiaaGreat
