/-
  THE TIES: each printed meaning is what the program does (written by program).
  Conditions: none.
-/
import Derived.Test.YtgngdkjghdohiaaGp
namespace Go.Proofs.Ytgngdkjghdohiaa
open Go Go.Mach Go.Proofs
set_option linter.unusedVariables false
set_option maxRecDepth 50000

def sh_st_binnacleref09_Triangle_2 : StSh := ⟨(.any :: (.ptr 0 0 :: (.any :: (.any :: (.int .i64 :: (.int .i64 :: (sqs 36 []))))))), [some (28, 1, .cells [.int .i64, .int .i64, .rof])]⟩
def sx0_st_binnacleref09_Triangle_2 : StSh := ⟨(.any :: (.any :: (.int .i64 :: (sqs 39 [])))), []⟩
def sx1_st_binnacleref09_Triangle_2 : StSh := ⟨(.any :: (.ptr 0 0 :: (.any :: (.any :: (.int .i64 :: (sqs 37 [])))))), [some (28, 1, .cells [.int .i64, .int .i64, .rof])]⟩
def hk_st_binnacleref09_Triangle_2 (N : Nat) (Sq26 : TSq26) (Sq55 : TSq55) (Sq15 : TSq15) : List Atom -> K -> Bool := fun a_ κ => match a_ with
  | [.int i_1, .int j, .int m_5, .int m_6, .fls m_7] => iterG N (stq73 N Sq26 Sq55 Sq15 i_1 m_5 m_6 m_7 (fun r0 => κ.ret (sx0_st_binnacleref09_Triangle_2.build [.int r0])) (κ.ext 2 (sx1_st_binnacleref09_Triangle_2.build [.int i_1, .int m_5, .int m_6, .fls m_7]))) j
  | _ => false
def sh_st_binnacleref09_Triangle_0 : StSh := ⟨(.any :: (.ptr 0 0 :: (.any :: (.any :: (.int .i64 :: (sqs 37 [])))))), [some (28, 1, .cells [.int .i64, .int .i64, .rof])]⟩
def sx0_st_binnacleref09_Triangle_0 : StSh := ⟨(.any :: (.any :: (.int .i64 :: (sqs 39 [])))), []⟩
def sx1_st_binnacleref09_Triangle_0 : StSh := ⟨(sqs 42 []), []⟩
def hk_st_binnacleref09_Triangle_0 (N : Nat) (Sq26 : TSq26) (Sq55 : TSq55) (Sq15 : TSq15) : List Atom -> K -> Bool := fun a_ κ => match a_ with
  | [.int i, .int m, .int m_3, .fls m_4] => iterG N (stq81 N Sq26 Sq55 Sq15 m m_3 m_4 (fun r0 => κ.ret (sx0_st_binnacleref09_Triangle_0.build [.int r0])) (κ.ext 0 (sx1_st_binnacleref09_Triangle_0.build []))) i
  | _ => false
def anq30 (N : Nat) (Sq26 : TSq26) (Sq55 : TSq55) (Sq15 : TSq15) : Nat -> Option Ann := fun b_ => cond (b_ == 2) (some ⟨⟨[1, 4, 5], [], [], []⟩, [(2, ⟨[1, 4], [], [], []⟩)], some ⟨[2], [], [], []⟩, some (mkHooks [(sh_st_binnacleref09_Triangle_2, hk_st_binnacleref09_Triangle_2 N Sq26 Sq55 Sq15)])⟩) (cond (b_ == 0) (some ⟨⟨[1, 4], [], [], []⟩, [(0, ⟨[], [], [], []⟩)], some ⟨[2], [], [], []⟩, some (mkHooks [(sh_st_binnacleref09_Triangle_0, hk_st_binnacleref09_Triangle_0 N Sq26 Sq55 Sq15)])⟩) (none))
theorem eq_st_binnacleref09_Triangle_2 (N : Nat) (Sq26 : TSq26) (Sq55 : TSq55) (Sq15 : TSq15) (κ : K) (i_1 j m_5 m_6 : Int) (m_7 : List Fl) : iter N (fun s k => codeV ⟨Pg, ofList [(59, (Fq26 Sq26)), (60, (Fq55 Sq55)), (61, (Fq15 Sq15))], isref, N⟩ 0 (anq30 N Sq26 Sq55 Sq15) (lp Pg 38 1).2 (lp Pg 38 1).1 s (roundK Pg 0 ((anq30 N Sq26 Sq55 Sq15) (lp Pg 38 1).1) κ k)) (sh_st_binnacleref09_Triangle_2.build [.int i_1, .int j, .int m_5, .int m_6, .fls m_7]) = iterG N (stq73 N Sq26 Sq55 Sq15 i_1 m_5 m_6 m_7 (fun r0 => κ.ret (sx0_st_binnacleref09_Triangle_2.build [.int r0])) (κ.ext 2 (sx1_st_binnacleref09_Triangle_2.build [.int i_1, .int m_5, .int m_6, .fls m_7]))) j :=
  iter_tr (fun v_ => sh_st_binnacleref09_Triangle_2.build [.int i_1, .int v_, .int m_5, .int m_6, .fls m_7]) (fun v_ K_ => by kernel_rfl) N j
theorem hk1_st_binnacleref09_Triangle_2 (N : Nat) (Sq26 : TSq26) (Sq55 : TSq55) (Sq15 : TSq15) : HookFor ⟨Pg, ofList [(59, (Fq26 Sq26)), (60, (Fq55 Sq55)), (61, (Fq15 Sq15))], isref, N⟩ 0 (anq30 N Sq26 Sq55 Sq15) (lp Pg 38 1) (sh_st_binnacleref09_Triangle_2, hk_st_binnacleref09_Triangle_2 N Sq26 Sq55 Sq15) := by
  intro a κ h
  simp only at h
  unfold hk_st_binnacleref09_Triangle_2 at h
  split at h
  · exact (eq_st_binnacleref09_Triangle_2 _ _ _ _ _ _ _ _ _ _).trans h
  · cases h
theorem eq_st_binnacleref09_Triangle_0 (N : Nat) (Sq26 : TSq26) (Sq55 : TSq55) (Sq15 : TSq15) (κ : K) (i m m_3 : Int) (m_4 : List Fl) : iter N (fun s k => codeV ⟨Pg, ofList [(59, (Fq26 Sq26)), (60, (Fq55 Sq55)), (61, (Fq15 Sq15))], isref, N⟩ 0 (anq30 N Sq26 Sq55 Sq15) (lp Pg 38 0).2 (lp Pg 38 0).1 s (roundK Pg 0 ((anq30 N Sq26 Sq55 Sq15) (lp Pg 38 0).1) κ k)) (sh_st_binnacleref09_Triangle_0.build [.int i, .int m, .int m_3, .fls m_4]) = iterG N (stq81 N Sq26 Sq55 Sq15 m m_3 m_4 (fun r0 => κ.ret (sx0_st_binnacleref09_Triangle_0.build [.int r0])) (κ.ext 0 (sx1_st_binnacleref09_Triangle_0.build []))) i :=
  iter_tr (fun v_ => sh_st_binnacleref09_Triangle_0.build [.int v_, .int m, .int m_3, .fls m_4]) (fun v_ K_ => by kernel_rfl) N i
theorem hk1_st_binnacleref09_Triangle_0 (N : Nat) (Sq26 : TSq26) (Sq55 : TSq55) (Sq15 : TSq15) : HookFor ⟨Pg, ofList [(59, (Fq26 Sq26)), (60, (Fq55 Sq55)), (61, (Fq15 Sq15))], isref, N⟩ 0 (anq30 N Sq26 Sq55 Sq15) (lp Pg 38 0) (sh_st_binnacleref09_Triangle_0, hk_st_binnacleref09_Triangle_0 N Sq26 Sq55 Sq15) := by
  intro a κ h
  simp only at h
  unfold hk_st_binnacleref09_Triangle_0 at h
  split at h
  · exact (eq_st_binnacleref09_Triangle_0 _ _ _ _ _ _ _ _ _).trans h
  · cases h
theorem ho_binnacleref09_Triangle_2 (N : Nat) (Sq26 : TSq26) (Sq55 : TSq55) (Sq15 : TSq15) : HookOk ⟨Pg, ofList [(59, (Fq26 Sq26)), (60, (Fq55 Sq55)), (61, (Fq15 Sq15))], isref, N⟩ 0 (anq30 N Sq26 Sq55 Sq15) (lp Pg 38 1) :=
  hooks_ok [(sh_st_binnacleref09_Triangle_2, hk_st_binnacleref09_Triangle_2 N Sq26 Sq55 Sq15)] (by kernel_rfl) ⟨hk1_st_binnacleref09_Triangle_2 _ _ _ _, trivial⟩
theorem ho_binnacleref09_Triangle_0 (N : Nat) (Sq26 : TSq26) (Sq55 : TSq55) (Sq15 : TSq15) : HookOk ⟨Pg, ofList [(59, (Fq26 Sq26)), (60, (Fq55 Sq55)), (61, (Fq15 Sq15))], isref, N⟩ 0 (anq30 N Sq26 Sq55 Sq15) (lp Pg 38 0) :=
  hooks_ok [(sh_st_binnacleref09_Triangle_0, hk_st_binnacleref09_Triangle_0 N Sq26 Sq55 Sq15)] (by kernel_rfl) ⟨hk1_st_binnacleref09_Triangle_0 _ _ _ _, trivial⟩
theorem eqq30 (N : Nat) (Sq26 : TSq26) (Sq55 : TSq55) (Sq15 : TSq15) (m_0 m_1 : Int) (m_2 : List Fl) (c_ : V -> List Blk -> Bool) : bodyV ⟨Pg, ofList [(59, (Fq26 Sq26)), (60, (Fq55 Sq55)), (61, (Fq15 Sq15))], isref, N⟩ (anq30 N Sq26 Sq55 Sq15) 38 (shFq30.args [.int m_0, .int m_1, .fls m_2]) [] c_ = Gq30 N Sq26 Sq55 Sq15 m_0 m_1 m_2 (fun r0 => c_ (.int .i64 r0) []) := by kernel_rfl
theorem goodq30 (N : Nat) (Sq26 : TSq26) (Sq55 : TSq55) (Sq15 : TSq15) (hq26 : GoodF Pg 59 (Fq26 Sq26)) (hq55 : GoodF Pg 60 (Fq55 Sq55)) (hq15 : GoodF Pg 61 (Fq15 Sq15)) : GoodF Pg 38 (Fq30 (Gq30 N Sq26 Sq55 Sq15)) := by
  refine good_fs (cx := ⟨Pg, ofList [(59, (Fq26 Sq26)), (60, (Fq55 Sq55)), (61, (Fq15 Sq15))], isref, N⟩) (ofList_cons hq26 (ofList_cons hq55 (ofList_cons hq15 (ofList_nil _)))) shFq30 (spq30 (Gq30 N Sq26 Sq55 Sq15)) (anq30 N Sq26 Sq55 Sq15) 2 0 (by kernel_rfl) (fun i_ hi_ => by
    match i_, hi_ with
    | 0, _ => exact ho_binnacleref09_Triangle_0 _ _ _ _
    | 1, _ => exact ho_binnacleref09_Triangle_2 _ _ _ _
    | (q + 2), h => omega) ?_
  intro a k h
  unfold spq30 at h
  split at h
  · exact ⟨[], rfl, rfl, (eqq30 _ _ _ _ _ _ _ _).trans h⟩
  · cases h

def anq8 (N : Nat) (Sq53 : TSq53) (Sq4 : TSq4) (Sq30 : TSq30) : Nat -> Option Ann := fun b_ => none
theorem eqq8 (N : Nat) (Sq53 : TSq53) (Sq4 : TSq4) (Sq30 : TSq30) (s_0 : List Fl) (s_1 s_2 : Int) (s_3 : List Fl) (c_ : V -> List Blk -> Bool) : bodyV ⟨Pg, ofList [(36, (Fq53 Sq53)), (37, (Fq4 Sq4)), (38, (Fq30 Sq30))], isref, N⟩ (anq8 N Sq53 Sq4 Sq30) 18 (shFq8.args [.fls s_0, .int s_1, .int s_2, .fls s_3]) [] c_ = Gq8 N Sq53 Sq4 Sq30 s_0 s_1 s_2 s_3 (fun r0 => c_ (.int .i64 r0) []) := by kernel_rfl
theorem goodq8 (N : Nat) (Sq53 : TSq53) (Sq4 : TSq4) (Sq30 : TSq30) (hq53 : GoodF Pg 36 (Fq53 Sq53)) (hq4 : GoodF Pg 37 (Fq4 Sq4)) (hq30 : GoodF Pg 38 (Fq30 Sq30)) : GoodF Pg 18 (Fq8 (Gq8 N Sq53 Sq4 Sq30)) := by
  refine good_fs (cx := ⟨Pg, ofList [(36, (Fq53 Sq53)), (37, (Fq4 Sq4)), (38, (Fq30 Sq30))], isref, N⟩) (ofList_cons hq53 (ofList_cons hq4 (ofList_cons hq30 (ofList_nil _)))) shFq8 (spq8 (Gq8 N Sq53 Sq4 Sq30)) (anq8 N Sq53 Sq4 Sq30) 0 0 (by kernel_rfl) (fun i_ hi_ => by omega) ?_
  intro a k h
  unfold spq8 at h
  split at h
  · exact ⟨[], rfl, rfl, (eqq8 _ _ _ _ _ _ _ _ _).trans h⟩
  · cases h

def anq58 (N : Nat) (Sq26 : TSq26) : Nat -> Option Ann := fun b_ => none
theorem eqq58 (N : Nat) (Sq26 : TSq26) (m_0 m_1 : Int) (m_2 : List Fl) (c_ : V -> List Blk -> Bool) : bodyV ⟨Pg, ofList [(59, (Fq26 Sq26))], isref, N⟩ (anq58 N Sq26) 39 (shFq58.args [.int m_0, .int m_1, .fls m_2]) [] c_ = Gq58 N Sq26 m_0 m_1 m_2 (fun r0 => c_ (.int .i64 r0) []) := by kernel_rfl
theorem goodq58 (N : Nat) (Sq26 : TSq26) (hq26 : GoodF Pg 59 (Fq26 Sq26)) : GoodF Pg 39 (Fq58 (Gq58 N Sq26)) := by
  refine good_fs (cx := ⟨Pg, ofList [(59, (Fq26 Sq26))], isref, N⟩) (ofList_cons hq26 (ofList_nil _)) shFq58 (spq58 (Gq58 N Sq26)) (anq58 N Sq26) 0 0 (by kernel_rfl) (fun i_ hi_ => by omega) ?_
  intro a k h
  unfold spq58 at h
  split at h
  · exact ⟨[], rfl, rfl, (eqq58 _ _ _ _ _ _).trans h⟩
  · cases h

def anq39 (N : Nat) (Sq58 : TSq58) : Nat -> Option Ann := fun b_ => none
theorem eqq39 (N : Nat) (Sq58 : TSq58) (n h_0 h_1 : Int) (h_2 r z : List Fl) (c_ : V -> List Blk -> Bool) : bodyV ⟨Pg, ofList [(39, (Fq58 Sq58))], isref, N⟩ (anq39 N Sq58) 19 (shFq39.args [.int n, .int h_0, .int h_1, .fls h_2, .fls r, .fls z]) [] c_ = Gq39 N Sq58 n h_0 h_1 h_2 r z (fun r0 => c_ (.int .i64 r0) []) := by kernel_rfl
theorem goodq39 (N : Nat) (Sq58 : TSq58) (hq58 : GoodF Pg 39 (Fq58 Sq58)) : GoodF Pg 19 (Fq39 (Gq39 N Sq58)) := by
  refine good_fs (cx := ⟨Pg, ofList [(39, (Fq58 Sq58))], isref, N⟩) (ofList_cons hq58 (ofList_nil _)) shFq39 (spq39 (Gq39 N Sq58)) (anq39 N Sq58) 0 0 (by kernel_rfl) (fun i_ hi_ => by omega) ?_
  intro a k h
  unfold spq39 at h
  split at h
  · exact ⟨[], rfl, rfl, (eqq39 _ _ _ _ _ _ _ _ _).trans h⟩
  · cases h

def sh_st_binnacleref08_First_0 : StSh := ⟨(.roi .i64 :: (.any :: (.any :: (.int .i64 :: (sqs 15 []))))), []⟩
def sx0_st_binnacleref08_First_0 : StSh := ⟨(.any :: (.any :: (.int .i64 :: (sqs 16 [])))), []⟩
def sx1_st_binnacleref08_First_0 : StSh := ⟨(sqs 19 []), []⟩
def hk_st_binnacleref08_First_0 (N : Nat) : List Atom -> K -> Bool := fun a_ κ => match a_ with
  | [.ints l_1, .int i] => iterG N (st_z08_First_0 N l_1 (fun r0 => κ.ret (sx0_st_binnacleref08_First_0.build [.int r0])) (κ.ext 0 (sx1_st_binnacleref08_First_0.build []))) i
  | _ => false
def anq7 (N : Nat) : Nat -> Option Ann := fun b_ => cond (b_ == 0) (some ⟨⟨[0, 3], [], [], []⟩, [(0, ⟨[], [], [], []⟩)], some ⟨[2], [], [], []⟩, some (mkHooks [(sh_st_binnacleref08_First_0, hk_st_binnacleref08_First_0 N)])⟩) (none)
theorem eq_st_binnacleref08_First_0 (N : Nat) (κ : K) (l_1 : List Int) (i : Int) : iter N (fun s k => codeV ⟨Pg, ofList [], isref, N⟩ 0 (anq7 N) (lp Pg 17 0).2 (lp Pg 17 0).1 s (roundK Pg 0 ((anq7 N) (lp Pg 17 0).1) κ k)) (sh_st_binnacleref08_First_0.build [.ints l_1, .int i]) = iterG N (st_z08_First_0 N l_1 (fun r0 => κ.ret (sx0_st_binnacleref08_First_0.build [.int r0])) (κ.ext 0 (sx1_st_binnacleref08_First_0.build []))) i :=
  iter_tr (fun v_ => sh_st_binnacleref08_First_0.build [.ints l_1, .int v_]) (fun v_ K_ => by kernel_rfl) N i
theorem hk1_st_binnacleref08_First_0 (N : Nat) : HookFor ⟨Pg, ofList [], isref, N⟩ 0 (anq7 N) (lp Pg 17 0) (sh_st_binnacleref08_First_0, hk_st_binnacleref08_First_0 N) := by
  intro a κ h
  simp only at h
  unfold hk_st_binnacleref08_First_0 at h
  split at h
  · exact (eq_st_binnacleref08_First_0 _ _ _ _).trans h
  · cases h
theorem ho_binnacleref08_First_0 (N : Nat) : HookOk ⟨Pg, ofList [], isref, N⟩ 0 (anq7 N) (lp Pg 17 0) :=
  hooks_ok [(sh_st_binnacleref08_First_0, hk_st_binnacleref08_First_0 N)] (by kernel_rfl) ⟨hk1_st_binnacleref08_First_0 _, trivial⟩
theorem eqq7 (N : Nat) (l : List Int) (c_ : V -> List Blk -> Bool) : bodyV ⟨Pg, ofList [], isref, N⟩ (anq7 N) 17 (shFq7.args [.ints l]) [] c_ = Gq7 N l (fun r0 => c_ (.int .i64 r0) []) := by kernel_rfl
theorem goodq7 (N : Nat) : GoodF Pg 17 (Fq7 (Gq7 N)) := by
  refine good_fs (cx := ⟨Pg, ofList [], isref, N⟩) (ofList_nil _) shFq7 (spq7 (Gq7 N)) (anq7 N) 1 0 (by kernel_rfl) (fun i_ hi_ => by
    match i_, hi_ with
    | 0, _ => exact ho_binnacleref08_First_0 _
    | (q + 1), h => omega) ?_
  intro a k h
  unfold spq7 at h
  split at h
  · exact ⟨[], rfl, rfl, (eqq7 _ _ _).trans h⟩
  · cases h

def anq21 (N : Nat) : Nat -> Option Ann := fun b_ => none
theorem eqq21 (N : Nat) (m_0 m_1 : Int) (m_2 : List Fl) (i j : Int) (c_ : V -> List Blk -> Bool) : bodyV ⟨Pg, ofList [], isref, N⟩ (anq21 N) 47 (shFq21.args [.int m_0, .int m_1, .fls m_2, .int i, .int j]) [] c_ = Gq21 N m_0 m_1 m_2 i j (fun r0 => c_ (.flt r0) []) := by kernel_rfl
theorem goodq21 (N : Nat) : GoodF Pg 47 (Fq21 (Gq21 N)) := by
  refine good_fs (cx := ⟨Pg, ofList [], isref, N⟩) (ofList_nil _) shFq21 (spq21 (Gq21 N)) (anq21 N) 0 0 (by kernel_rfl) (fun i_ hi_ => by omega) ?_
  intro a k h
  unfold spq21 at h
  split at h
  · exact ⟨[], rfl, rfl, (eqq21 _ _ _ _ _ _ _).trans h⟩
  · cases h

def sh_st_binnacleref08_Row_0 : StSh := ⟨(.any :: (.int .i64 :: (.ptr 0 0 :: (.any :: (.any :: (.slw 1 :: (.int .i64 :: (sqs 14 [])))))))), [some (28, 1, .cells [.int .i64, .int .i64, .rof]), some (48, 1, .flts)]⟩
def sx0_st_binnacleref08_Row_0 : StSh := ⟨(sqs 5 (.slw 0 :: (sqs 15 []))), [some (48, 1, .flts)]⟩
def hk_st_binnacleref08_Row_0 (N : Nat) (Sq21 : TSq21) : List Atom -> K -> Bool := fun a_ κ => match a_ with
  | [.int i_2, .int j_1, .int m_5, .int m_6, .fls m_7, .fls out] => iterG N (st_z08_Row_0 N Sq21 i_2 m_5 m_6 m_7 (fun r0 => κ.ext 0 (sx0_st_binnacleref08_Row_0.build [.fls r0]))) (j_1, out)
  | _ => false
def anq49 (N : Nat) (Sq21 : TSq21) : Nat -> Option Ann := fun b_ => cond (b_ == 0) (some ⟨⟨[1, 2, 5, 6], [(5, none, 48)], [], []⟩, [(0, ⟨[5], [], [], []⟩)], some ⟨[4], [], [], []⟩, some (mkHooks [(sh_st_binnacleref08_Row_0, hk_st_binnacleref08_Row_0 N Sq21)])⟩) (none)
theorem eq_st_binnacleref08_Row_0 (N : Nat) (Sq21 : TSq21) (κ : K) (i_2 j_1 m_5 m_6 : Int) (m_7 out : List Fl) : iter N (fun s k => codeV ⟨Pg, ofList [(47, (Fq21 Sq21))], isref, N⟩ 0 (anq49 N Sq21) (lp Pg 21 0).2 (lp Pg 21 0).1 s (roundK Pg 0 ((anq49 N Sq21) (lp Pg 21 0).1) κ k)) (sh_st_binnacleref08_Row_0.build [.int i_2, .int j_1, .int m_5, .int m_6, .fls m_7, .fls out]) = iterG N (st_z08_Row_0 N Sq21 i_2 m_5 m_6 m_7 (fun r0 => κ.ext 0 (sx0_st_binnacleref08_Row_0.build [.fls r0]))) (j_1, out) :=
  iter_tr (fun (v_ : Int × List Fl) => sh_st_binnacleref08_Row_0.build [.int i_2, .int v_.1, .int m_5, .int m_6, .fls m_7, .fls v_.2]) (fun v_ K_ => by obtain ⟨j_1, out⟩ := v_; kernel_rfl) N (j_1, out)
theorem hk1_st_binnacleref08_Row_0 (N : Nat) (Sq21 : TSq21) : HookFor ⟨Pg, ofList [(47, (Fq21 Sq21))], isref, N⟩ 0 (anq49 N Sq21) (lp Pg 21 0) (sh_st_binnacleref08_Row_0, hk_st_binnacleref08_Row_0 N Sq21) := by
  intro a κ h
  simp only at h
  unfold hk_st_binnacleref08_Row_0 at h
  split at h
  · exact (eq_st_binnacleref08_Row_0 _ _ _ _ _ _ _ _ _).trans h
  · cases h
theorem ho_binnacleref08_Row_0 (N : Nat) (Sq21 : TSq21) : HookOk ⟨Pg, ofList [(47, (Fq21 Sq21))], isref, N⟩ 0 (anq49 N Sq21) (lp Pg 21 0) :=
  hooks_ok [(sh_st_binnacleref08_Row_0, hk_st_binnacleref08_Row_0 N Sq21)] (by kernel_rfl) ⟨hk1_st_binnacleref08_Row_0 _ _, trivial⟩
theorem eqq49 (N : Nat) (Sq21 : TSq21) (m_0 m_1 : Int) (m_2 : List Fl) (i : Int) (c_ : V -> List Blk -> Bool) : bodyZ false ⟨Pg, ofList [(47, (Fq21 Sq21))], isref, N⟩ (anq49 N Sq21) 21 (shFq49.args [.int m_0, .int m_1, .fls m_2, .int i]) [] c_ = Gq49 N Sq21 m_0 m_1 m_2 i (fun r0 => c_ (.rof r0) []) := by kernel_rfl
theorem goodq49 (N : Nat) (Sq21 : TSq21) (hq21 : GoodF Pg 47 (Fq21 Sq21)) : GoodF Pg 21 (Fq49 (Gq49 N Sq21)) := by
  refine good_fsZ (md := false) (cx := ⟨Pg, ofList [(47, (Fq21 Sq21))], isref, N⟩) (ofList_cons hq21 (ofList_nil _)) shFq49 (spq49 (Gq49 N Sq21)) (anq49 N Sq21) 1 0 (by kernel_rfl) (fun i_ hi_ => by
    match i_, hi_ with
    | 0, _ => exact ho_binnacleref08_Row_0 _ _
    | (q + 1), h => omega) ?_
  intro a k h
  unfold spq49 at h
  split at h
  · exact ⟨[], rfl, rfl, (eqq49 _ _ _ _ _ _ _).trans h⟩
  · cases h

def anq32 (N : Nat) (Sq4 : TSq4) (Sq1 : TSq1) : Nat -> Option Ann := fun b_ => none
theorem eqq32 (N : Nat) (Sq4 : TSq4) (Sq1 : TSq1) (n : Int) (h : List Fl) (r : Fl) (c_ : V -> List Blk -> Bool) : bodyV ⟨Pg, ofList [(37, (Fq4 Sq4)), (42, (Fq1 Sq1))], isref, N⟩ (anq32 N Sq4 Sq1) 40 (shFq32.args [.int n, .fls h, .fl r]) [] c_ = Gq32 N Sq4 Sq1 n h r (fun r0 => c_ (.int .i64 r0) []) := by kernel_rfl
theorem goodq32 (N : Nat) (Sq4 : TSq4) (Sq1 : TSq1) (hq4 : GoodF Pg 37 (Fq4 Sq4)) (hq1 : GoodF Pg 42 (Fq1 Sq1)) : GoodF Pg 40 (Fq32 (Gq32 N Sq4 Sq1)) := by
  refine good_fs (cx := ⟨Pg, ofList [(37, (Fq4 Sq4)), (42, (Fq1 Sq1))], isref, N⟩) (ofList_cons hq4 (ofList_cons hq1 (ofList_nil _))) shFq32 (spq32 (Gq32 N Sq4 Sq1)) (anq32 N Sq4 Sq1) 0 0 (by kernel_rfl) (fun i_ hi_ => by omega) ?_
  intro a k h
  unfold spq32 at h
  split at h
  · exact ⟨[], rfl, rfl, (eqq32 _ _ _ _ _ _ _).trans h⟩
  · cases h

def anq45 (N : Nat) : Nat -> Option Ann := fun b_ => none
theorem eqq45 (N : Nat) (is : Bool) (e : Int) (c_ : V -> List Blk -> Bool) : bodyV ⟨Pg, ofList [], isref, N⟩ (anq45 N) 41 (shFq45.args [.bool is, .int e]) [] c_ = Gq45 N is e (fun r0 => c_ (.int .i64 r0) []) := by kernel_rfl
theorem goodq45 (N : Nat) : GoodF Pg 41 (Fq45 (Gq45 N)) := by
  refine good_fs (cx := ⟨Pg, ofList [], isref, N⟩) (ofList_nil _) shFq45 (spq45 (Gq45 N)) (anq45 N) 0 0 (by kernel_rfl) (fun i_ hi_ => by omega) ?_
  intro a k h
  unfold spq45 at h
  split at h
  · exact ⟨[], rfl, rfl, (eqq45 _ _ _ _).trans h⟩
  · cases h

def anq10 (N : Nat) (Sq1 : TSq1) : Nat -> Option Ann := fun b_ => none
theorem eqq10 (N : Nat) (Sq1 : TSq1) (x : Fl) (b : Bool) (c_ : V -> List Blk -> Bool) : bodyV ⟨Pg, ofList [(42, (Fq1 Sq1))], isref, N⟩ (anq10 N Sq1) 44 (shFq10.args [.fl x, .bool b]) [⟨87, 1, .cells [.bool b]⟩] c_ = Gq10 N Sq1 x b (fun r1 => c_ (.flt x) [⟨87, 1, .cells [.bool r1]⟩]) := by kernel_rfl
theorem goodq10 (N : Nat) (Sq1 : TSq1) (hq1 : GoodF Pg 42 (Fq1 Sq1)) : GoodF Pg 44 (Fq10 (Gq10 N Sq1)) := by
  refine good_fs (cx := ⟨Pg, ofList [(42, (Fq1 Sq1))], isref, N⟩) (ofList_cons hq1 (ofList_nil _)) shFq10 (spq10 (Gq10 N Sq1)) (anq10 N Sq1) 0 1 (by kernel_rfl) (fun i_ hi_ => by omega) ?_
  intro a k h
  unfold spq10 at h
  split at h
  · exact ⟨[_], rfl, rfl, (eqq10 _ _ _ _ _).trans h⟩
  · cases h

def sh_st_binnacleref09_Steps_Dot_p0_0 : StSh := ⟨(.ptr 0 0 :: (.rof :: (.rof :: (sqs 4 (.flt :: (.any :: (.any :: (.int .i64 :: (.int .i64 :: (sqs 19 [])))))))))), [some (87, 1, .cells [.bool])]⟩
def sx0_st_binnacleref09_Steps_Dot_p0_0 : StSh := ⟨(sqs 7 (.flt :: (sqs 23 []))), [some (87, 1, .cells [.bool])]⟩
def hk_st_binnacleref09_Steps_Dot_p0_0 (N : Nat) (Sq10 : TSq10) : List Atom -> K -> Bool := fun a_ κ => match a_ with
  | [.fls a_1, .fls b_2, .fl t, .int t10, .int t11, .bool s] => iterG N (st_zs_Dot_p0_0 N Sq10 a_1 b_2 t10 (fun r0 r1 => κ.ext 0 (sx0_st_binnacleref09_Steps_Dot_p0_0.build [.fl r0, .bool r1]))) (t, t11, s)
  | _ => false
def anq22 (N : Nat) (Sq10 : TSq10) : Nat -> Option Ann := fun b_ => cond (b_ == 0) (some ⟨⟨[0, 1, 2, 7, 10, 11], [], [], []⟩, [(0, ⟨[7], [], [], []⟩)], some ⟨[6], [], [], []⟩, some (mkHooks [(sh_st_binnacleref09_Steps_Dot_p0_0, hk_st_binnacleref09_Steps_Dot_p0_0 N Sq10)])⟩) (none)
theorem eq_st_binnacleref09_Steps_Dot_p0_0 (N : Nat) (Sq10 : TSq10) (κ : K) (a_1 b_2 : List Fl) (t : Fl) (t10 t11 : Int) (s : Bool) : iter N (fun s k => codeV ⟨Pg, ofList [(44, (Fq10 Sq10))], isref, N⟩ 1 (anq22 N Sq10) (lp Pg 63 0).2 (lp Pg 63 0).1 s (roundK Pg 1 ((anq22 N Sq10) (lp Pg 63 0).1) κ k)) (sh_st_binnacleref09_Steps_Dot_p0_0.build [.fls a_1, .fls b_2, .fl t, .int t10, .int t11, .bool s]) = iterG N (st_zs_Dot_p0_0 N Sq10 a_1 b_2 t10 (fun r0 r1 => κ.ext 0 (sx0_st_binnacleref09_Steps_Dot_p0_0.build [.fl r0, .bool r1]))) (t, t11, s) :=
  iter_tr (fun (v_ : Fl × Int × Bool) => sh_st_binnacleref09_Steps_Dot_p0_0.build [.fls a_1, .fls b_2, .fl v_.1, .int t10, .int v_.2.1, .bool v_.2.2]) (fun v_ K_ => by obtain ⟨t, t11, s⟩ := v_; kernel_rfl) N (t, t11, s)
theorem hk1_st_binnacleref09_Steps_Dot_p0_0 (N : Nat) (Sq10 : TSq10) : HookFor ⟨Pg, ofList [(44, (Fq10 Sq10))], isref, N⟩ 1 (anq22 N Sq10) (lp Pg 63 0) (sh_st_binnacleref09_Steps_Dot_p0_0, hk_st_binnacleref09_Steps_Dot_p0_0 N Sq10) := by
  intro a κ h
  simp only at h
  unfold hk_st_binnacleref09_Steps_Dot_p0_0 at h
  split at h
  · exact (eq_st_binnacleref09_Steps_Dot_p0_0 _ _ _ _ _ _ _ _ _).trans h
  · cases h
theorem ho_binnacleref09_Steps_Dot_p0_0 (N : Nat) (Sq10 : TSq10) : HookOk ⟨Pg, ofList [(44, (Fq10 Sq10))], isref, N⟩ 1 (anq22 N Sq10) (lp Pg 63 0) :=
  hooks_ok [(sh_st_binnacleref09_Steps_Dot_p0_0, hk_st_binnacleref09_Steps_Dot_p0_0 N Sq10)] (by kernel_rfl) ⟨hk1_st_binnacleref09_Steps_Dot_p0_0 _ _, trivial⟩
theorem eqq22 (N : Nat) (Sq10 : TSq10) (a b : List Fl) (b_1 : Bool) (c_ : V -> List Blk -> Bool) : bodyV ⟨Pg, ofList [(44, (Fq10 Sq10))], isref, N⟩ (anq22 N Sq10) 63 (shFq22.args [.fls a, .fls b, .bool b_1]) [⟨87, 1, .cells [.bool b_1]⟩] c_ = Gq22 N Sq10 a b b_1 (fun r0 r1 => c_ (.flt r0) [⟨87, 1, .cells [.bool r1]⟩]) := by kernel_rfl
theorem goodq22 (N : Nat) (Sq10 : TSq10) (hq10 : GoodF Pg 44 (Fq10 Sq10)) : GoodF Pg 63 (Fq22 (Gq22 N Sq10)) := by
  refine good_fs (cx := ⟨Pg, ofList [(44, (Fq10 Sq10))], isref, N⟩) (ofList_cons hq10 (ofList_nil _)) shFq22 (spq22 (Gq22 N Sq10)) (anq22 N Sq10) 1 1 (by kernel_rfl) (fun i_ hi_ => by
    match i_, hi_ with
    | 0, _ => exact ho_binnacleref09_Steps_Dot_p0_0 _ _
    | (q + 1), h => omega) ?_
  intro a k h
  unfold spq22 at h
  split at h
  · exact ⟨[_], rfl, rfl, (eqq22 _ _ _ _ _ _).trans h⟩
  · cases h

def sh_st_binnacleref08_Col_0 : StSh := ⟨(.any :: (.int .i64 :: (.ptr 0 0 :: (.any :: (.any :: (.slw 1 :: (.int .i64 :: (sqs 14 [])))))))), [some (28, 1, .cells [.int .i64, .int .i64, .rof]), some (48, 1, .flts)]⟩
def sx0_st_binnacleref08_Col_0 : StSh := ⟨(sqs 5 (.slw 0 :: (sqs 15 []))), [some (48, 1, .flts)]⟩
def hk_st_binnacleref08_Col_0 (N : Nat) (Sq21 : TSq21) : List Atom -> K -> Bool := fun a_ κ => match a_ with
  | [.int j_2, .int i_1, .int m_5, .int m_6, .fls m_7, .fls out] => iterG N (st_z08_Col_0 N Sq21 j_2 m_5 m_6 m_7 (fun r0 => κ.ext 0 (sx0_st_binnacleref08_Col_0.build [.fls r0]))) (i_1, out)
  | _ => false
def anq38 (N : Nat) (Sq21 : TSq21) : Nat -> Option Ann := fun b_ => cond (b_ == 0) (some ⟨⟨[1, 2, 5, 6], [(5, none, 48)], [], []⟩, [(0, ⟨[5], [], [], []⟩)], some ⟨[4], [], [], []⟩, some (mkHooks [(sh_st_binnacleref08_Col_0, hk_st_binnacleref08_Col_0 N Sq21)])⟩) (none)
theorem eq_st_binnacleref08_Col_0 (N : Nat) (Sq21 : TSq21) (κ : K) (j_2 i_1 m_5 m_6 : Int) (m_7 out : List Fl) : iter N (fun s k => codeV ⟨Pg, ofList [(47, (Fq21 Sq21))], isref, N⟩ 0 (anq38 N Sq21) (lp Pg 64 0).2 (lp Pg 64 0).1 s (roundK Pg 0 ((anq38 N Sq21) (lp Pg 64 0).1) κ k)) (sh_st_binnacleref08_Col_0.build [.int j_2, .int i_1, .int m_5, .int m_6, .fls m_7, .fls out]) = iterG N (st_z08_Col_0 N Sq21 j_2 m_5 m_6 m_7 (fun r0 => κ.ext 0 (sx0_st_binnacleref08_Col_0.build [.fls r0]))) (i_1, out) :=
  iter_tr (fun (v_ : Int × List Fl) => sh_st_binnacleref08_Col_0.build [.int j_2, .int v_.1, .int m_5, .int m_6, .fls m_7, .fls v_.2]) (fun v_ K_ => by obtain ⟨i_1, out⟩ := v_; kernel_rfl) N (i_1, out)
theorem hk1_st_binnacleref08_Col_0 (N : Nat) (Sq21 : TSq21) : HookFor ⟨Pg, ofList [(47, (Fq21 Sq21))], isref, N⟩ 0 (anq38 N Sq21) (lp Pg 64 0) (sh_st_binnacleref08_Col_0, hk_st_binnacleref08_Col_0 N Sq21) := by
  intro a κ h
  simp only at h
  unfold hk_st_binnacleref08_Col_0 at h
  split at h
  · exact (eq_st_binnacleref08_Col_0 _ _ _ _ _ _ _ _ _).trans h
  · cases h
theorem ho_binnacleref08_Col_0 (N : Nat) (Sq21 : TSq21) : HookOk ⟨Pg, ofList [(47, (Fq21 Sq21))], isref, N⟩ 0 (anq38 N Sq21) (lp Pg 64 0) :=
  hooks_ok [(sh_st_binnacleref08_Col_0, hk_st_binnacleref08_Col_0 N Sq21)] (by kernel_rfl) ⟨hk1_st_binnacleref08_Col_0 _ _, trivial⟩
theorem eqq38 (N : Nat) (Sq21 : TSq21) (m_0 m_1 : Int) (m_2 : List Fl) (j : Int) (c_ : V -> List Blk -> Bool) : bodyV ⟨Pg, ofList [(47, (Fq21 Sq21))], isref, N⟩ (anq38 N Sq21) 64 (shFq38.args [.int m_0, .int m_1, .fls m_2, .int j]) [] c_ = Gq38 N Sq21 m_0 m_1 m_2 j (fun r0 => c_ (.slw 0) [⟨48, 1, .flts r0⟩]) := by kernel_rfl
theorem goodq38 (N : Nat) (Sq21 : TSq21) (hq21 : GoodF Pg 47 (Fq21 Sq21)) : GoodF Pg 64 (Fq38 (Gq38 N Sq21)) := by
  refine good_fs (cx := ⟨Pg, ofList [(47, (Fq21 Sq21))], isref, N⟩) (ofList_cons hq21 (ofList_nil _)) shFq38 (spq38 (Gq38 N Sq21)) (anq38 N Sq21) 1 0 (by kernel_rfl) (fun i_ hi_ => by
    match i_, hi_ with
    | 0, _ => exact ho_binnacleref08_Col_0 _ _
    | (q + 1), h => omega) ?_
  intro a k h
  unfold spq38 at h
  split at h
  · exact ⟨[], rfl, rfl, (eqq38 _ _ _ _ _ _ _).trans h⟩
  · cases h

def sh_st_binnacleref16_seen_p0_0 : StSh := ⟨(.any :: (.rof :: (.any :: (.ptr 0 0 :: (.ptr 1 0 :: (sqs 6 (.int .i64 :: (.slw 2 :: (.slw 3 :: (.flt :: (.int .i64 :: (sqs 63 [])))))))))))), [some (87, 1, .cells [.bool]), some (32, 1, .cells [.rof, .int .i64, .int .i64, .rof]), some (48, 1, .flts), some (48, 1, .flts)]⟩
def sx0_st_binnacleref16_seen_p0_0 : StSh := ⟨(.any :: (.any :: (.any :: (.ptr 0 0 :: (sqs 7 (.int .i64 :: (.slw 1 :: (.slw 2 :: (.flt :: (sqs 64 [])))))))))), [some (87, 1, .cells [.bool]), some (48, 1, .flts), some (48, 1, .flts)]⟩
def hk_st_binnacleref16_seen_p0_0 (N : Nat) (Sq22 : TSq22) (Sq38 : TSq38) (Sq10 : TSq10) : List Atom -> K -> Bool := fun a_ κ => match a_ with
  | [.fls h_1, .int n, .fl m, .int j, .bool steps, .fls s, .int s_4, .int s_5, .fls s_6, .fls v, .fls a] => iterG N (st_z16_seen_p0_0 N Sq22 Sq38 Sq10 h_1 n m s s_4 s_5 s_6 a (fun r2 r3 => κ.ext 0 (sx0_st_binnacleref16_seen_p0_0.build [.int n, .fl m, .bool r2, .fls r3, .fls a]))) (j, steps, v)
  | _ => false
def sh_st_binnacleref16_seen_p0_2 : StSh := ⟨(.any :: (.any :: (.any :: (.ptr 0 0 :: (sqs 8 (.slw 1 :: (.slw 2 :: (.flt :: (.any :: (.int .i64 :: (sqs 62 []))))))))))), [some (87, 1, .cells [.bool]), some (48, 1, .flts), some (48, 1, .flts)]⟩
def sx0_st_binnacleref16_seen_p0_2 : StSh := ⟨(sqs 12 (.slw 1 :: (.slw 2 :: (.flt :: (sqs 64 []))))), [some (87, 1, .cells [.bool]), some (48, 1, .flts), some (48, 1, .flts)]⟩
def hk_st_binnacleref16_seen_p0_2 (N : Nat) (Sq22 : TSq22) (Sq38 : TSq38) (Sq10 : TSq10) : List Atom -> K -> Bool := fun a_ κ => match a_ with
  | [.fl m_1, .int j_1, .bool steps_2, .fls v_2, .fls a_1] => iterG N (st_z16_seen_p0_2 N Sq22 Sq38 Sq10 m_1 v_2 (fun r1 r3 => κ.ext 2 (sx0_st_binnacleref16_seen_p0_2.build [.fl m_1, .bool r1, .fls v_2, .fls r3]))) (j_1, steps_2, a_1)
  | _ => false
def anq6 (N : Nat) (Sq22 : TSq22) (Sq38 : TSq38) (Sq10 : TSq10) : Nat -> Option Ann := fun b_ => cond (b_ == 0) (some ⟨⟨[1, 3, 4, 11, 12, 13, 14, 15], [], [], []⟩, [(0, ⟨[3, 11, 12, 13, 14], [], [], []⟩)], some ⟨[8, 9, 10], [], [], []⟩, some (mkHooks [(sh_st_binnacleref16_seen_p0_0, hk_st_binnacleref16_seen_p0_0 N Sq22 Sq38 Sq10)])⟩) (cond (b_ == 2) (some ⟨⟨[3, 12, 13, 14, 16], [], [], []⟩, [(2, ⟨[12, 13, 14], [], [], []⟩)], some ⟨[8, 9, 10], [], [], []⟩, some (mkHooks [(sh_st_binnacleref16_seen_p0_2, hk_st_binnacleref16_seen_p0_2 N Sq22 Sq38 Sq10)])⟩) (none))
theorem eq_st_binnacleref16_seen_p0_0 (N : Nat) (Sq22 : TSq22) (Sq38 : TSq38) (Sq10 : TSq10) (κ : K) (h_1 : List Fl) (n : Int) (m : Fl) (j : Int) (steps : Bool) (s : List Fl) (s_4 s_5 : Int) (s_6 v a : List Fl) : iter N (fun s k => codeV ⟨Pg, ofList [(63, (Fq22 Sq22)), (64, (Fq38 Sq38)), (44, (Fq10 Sq10))], isref, N⟩ 1 (anq6 N Sq22 Sq38 Sq10) (lp Pg 43 0).2 (lp Pg 43 0).1 s (roundK Pg 1 ((anq6 N Sq22 Sq38 Sq10) (lp Pg 43 0).1) κ k)) (sh_st_binnacleref16_seen_p0_0.build [.fls h_1, .int n, .fl m, .int j, .bool steps, .fls s, .int s_4, .int s_5, .fls s_6, .fls v, .fls a]) = iterG N (st_z16_seen_p0_0 N Sq22 Sq38 Sq10 h_1 n m s s_4 s_5 s_6 a (fun r2 r3 => κ.ext 0 (sx0_st_binnacleref16_seen_p0_0.build [.int n, .fl m, .bool r2, .fls r3, .fls a]))) (j, steps, v) :=
  iter_tr (fun (v_ : Int × Bool × List Fl) => sh_st_binnacleref16_seen_p0_0.build [.fls h_1, .int n, .fl m, .int v_.1, .bool v_.2.1, .fls s, .int s_4, .int s_5, .fls s_6, .fls v_.2.2, .fls a]) (fun v_ K_ => by obtain ⟨j, steps, v⟩ := v_; kernel_rfl) N (j, steps, v)
theorem hk1_st_binnacleref16_seen_p0_0 (N : Nat) (Sq22 : TSq22) (Sq38 : TSq38) (Sq10 : TSq10) : HookFor ⟨Pg, ofList [(63, (Fq22 Sq22)), (64, (Fq38 Sq38)), (44, (Fq10 Sq10))], isref, N⟩ 1 (anq6 N Sq22 Sq38 Sq10) (lp Pg 43 0) (sh_st_binnacleref16_seen_p0_0, hk_st_binnacleref16_seen_p0_0 N Sq22 Sq38 Sq10) := by
  intro a κ h
  simp only at h
  unfold hk_st_binnacleref16_seen_p0_0 at h
  split at h
  · exact (eq_st_binnacleref16_seen_p0_0 _ _ _ _ _ _ _ _ _ _ _ _ _ _ _ _).trans h
  · cases h
theorem eq_st_binnacleref16_seen_p0_2 (N : Nat) (Sq22 : TSq22) (Sq38 : TSq38) (Sq10 : TSq10) (κ : K) (m_1 : Fl) (j_1 : Int) (steps_2 : Bool) (v_2 a_1 : List Fl) : iter N (fun s k => codeV ⟨Pg, ofList [(63, (Fq22 Sq22)), (64, (Fq38 Sq38)), (44, (Fq10 Sq10))], isref, N⟩ 1 (anq6 N Sq22 Sq38 Sq10) (lp Pg 43 1).2 (lp Pg 43 1).1 s (roundK Pg 1 ((anq6 N Sq22 Sq38 Sq10) (lp Pg 43 1).1) κ k)) (sh_st_binnacleref16_seen_p0_2.build [.fl m_1, .int j_1, .bool steps_2, .fls v_2, .fls a_1]) = iterG N (st_z16_seen_p0_2 N Sq22 Sq38 Sq10 m_1 v_2 (fun r1 r3 => κ.ext 2 (sx0_st_binnacleref16_seen_p0_2.build [.fl m_1, .bool r1, .fls v_2, .fls r3]))) (j_1, steps_2, a_1) :=
  iter_tr (fun (v_ : Int × Bool × List Fl) => sh_st_binnacleref16_seen_p0_2.build [.fl m_1, .int v_.1, .bool v_.2.1, .fls v_2, .fls v_.2.2]) (fun v_ K_ => by obtain ⟨j_1, steps_2, a_1⟩ := v_; kernel_rfl) N (j_1, steps_2, a_1)
theorem hk1_st_binnacleref16_seen_p0_2 (N : Nat) (Sq22 : TSq22) (Sq38 : TSq38) (Sq10 : TSq10) : HookFor ⟨Pg, ofList [(63, (Fq22 Sq22)), (64, (Fq38 Sq38)), (44, (Fq10 Sq10))], isref, N⟩ 1 (anq6 N Sq22 Sq38 Sq10) (lp Pg 43 1) (sh_st_binnacleref16_seen_p0_2, hk_st_binnacleref16_seen_p0_2 N Sq22 Sq38 Sq10) := by
  intro a κ h
  simp only at h
  unfold hk_st_binnacleref16_seen_p0_2 at h
  split at h
  · exact (eq_st_binnacleref16_seen_p0_2 _ _ _ _ _ _ _ _ _ _).trans h
  · cases h
theorem ho_binnacleref16_seen_p0_0 (N : Nat) (Sq22 : TSq22) (Sq38 : TSq38) (Sq10 : TSq10) : HookOk ⟨Pg, ofList [(63, (Fq22 Sq22)), (64, (Fq38 Sq38)), (44, (Fq10 Sq10))], isref, N⟩ 1 (anq6 N Sq22 Sq38 Sq10) (lp Pg 43 0) :=
  hooks_ok [(sh_st_binnacleref16_seen_p0_0, hk_st_binnacleref16_seen_p0_0 N Sq22 Sq38 Sq10)] (by kernel_rfl) ⟨hk1_st_binnacleref16_seen_p0_0 _ _ _ _, trivial⟩
theorem ho_binnacleref16_seen_p0_2 (N : Nat) (Sq22 : TSq22) (Sq38 : TSq38) (Sq10 : TSq10) : HookOk ⟨Pg, ofList [(63, (Fq22 Sq22)), (64, (Fq38 Sq38)), (44, (Fq10 Sq10))], isref, N⟩ 1 (anq6 N Sq22 Sq38 Sq10) (lp Pg 43 1) :=
  hooks_ok [(sh_st_binnacleref16_seen_p0_2, hk_st_binnacleref16_seen_p0_2 N Sq22 Sq38 Sq10)] (by kernel_rfl) ⟨hk1_st_binnacleref16_seen_p0_2 _ _ _ _, trivial⟩
theorem eqq6 (N : Nat) (Sq22 : TSq22) (Sq38 : TSq38) (Sq10 : TSq10) (s_0 : List Fl) (s_1 s_2 : Int) (s_3 h : List Fl) (r : Fl) (b : Bool) (c_ : V -> List Blk -> Bool) : bodyV ⟨Pg, ofList [(63, (Fq22 Sq22)), (64, (Fq38 Sq38)), (44, (Fq10 Sq10))], isref, N⟩ (anq6 N Sq22 Sq38 Sq10) 43 (shFq6.args [.fls s_0, .int s_1, .int s_2, .fls s_3, .fls h, .fl r, .bool b]) [⟨87, 1, .cells [.bool b]⟩] c_ = Gq6 N Sq22 Sq38 Sq10 s_0 s_1 s_2 s_3 h r b (fun r0 r1 r2 r3 => c_ (.tup [.flt r0, .slw 1, .slw 2]) [⟨87, 1, .cells [.bool r1]⟩, ⟨48, 1, .flts r2⟩, ⟨48, 1, .flts r3⟩]) := by kernel_rfl
theorem goodq6 (N : Nat) (Sq22 : TSq22) (Sq38 : TSq38) (Sq10 : TSq10) (hq22 : GoodF Pg 63 (Fq22 Sq22)) (hq38 : GoodF Pg 64 (Fq38 Sq38)) (hq10 : GoodF Pg 44 (Fq10 Sq10)) : GoodF Pg 43 (Fq6 (Gq6 N Sq22 Sq38 Sq10)) := by
  refine good_fs (cx := ⟨Pg, ofList [(63, (Fq22 Sq22)), (64, (Fq38 Sq38)), (44, (Fq10 Sq10))], isref, N⟩) (ofList_cons hq22 (ofList_cons hq38 (ofList_cons hq10 (ofList_nil _)))) shFq6 (spq6 (Gq6 N Sq22 Sq38 Sq10)) (anq6 N Sq22 Sq38 Sq10) 2 1 (by kernel_rfl) (fun i_ hi_ => by
    match i_, hi_ with
    | 0, _ => exact ho_binnacleref16_seen_p0_0 _ _ _ _
    | 1, _ => exact ho_binnacleref16_seen_p0_2 _ _ _ _
    | (q + 2), h => omega) ?_
  intro a k h
  unfold spq6 at h
  split at h
  · exact ⟨[_], rfl, rfl, (eqq6 _ _ _ _ _ _ _ _ _ _ _ _).trans h⟩
  · cases h

def anq31 (N : Nat) : Nat -> Option Ann := fun b_ => none
theorem eqq31 (N : Nat) (rows cols : Int) (c_ : V -> List Blk -> Bool) : bodyV ⟨Pg, ofList [], isref, N⟩ (anq31 N) 45 (shFq31.args [.int rows, .int cols]) [] c_ = Gq31 N rows cols (fun r2 => c_ (.agg [.int .i64 rows, .int .i64 cols, .slw 0]) [⟨48, 1, .flts r2⟩]) := by kernel_rfl
theorem goodq31 (N : Nat) : GoodF Pg 45 (Fq31 (Gq31 N)) := by
  refine good_fs (cx := ⟨Pg, ofList [], isref, N⟩) (ofList_nil _) shFq31 (spq31 (Gq31 N)) (anq31 N) 0 0 (by kernel_rfl) (fun i_ hi_ => by omega) ?_
  intro a k h
  unfold spq31 at h
  split at h
  · exact ⟨[], rfl, rfl, (eqq31 _ _ _ _).trans h⟩
  · cases h

def anq14 (N : Nat) : Nat -> Option Ann := fun b_ => none
theorem eqq14 (N : Nat) (m_0 m_1 i j : Int) (x : Fl) (b : List Fl) (c_ : V -> List Blk -> Bool) : bodyV ⟨Pg, ofList [], isref, N⟩ (anq14 N) 48 (shFq14.args [.int m_0, .int m_1, .int i, .int j, .fl x, .fls b]) [⟨48, 1, .flts b⟩] c_ = Gq14 N m_0 m_1 i j x b (fun r0 => c_ (.tup []) [⟨48, 1, .flts r0⟩]) := by kernel_rfl
theorem goodq14 (N : Nat) : GoodF Pg 48 (Fq14 (Gq14 N)) := by
  refine good_fs (cx := ⟨Pg, ofList [], isref, N⟩) (ofList_nil _) shFq14 (spq14 (Gq14 N)) (anq14 N) 0 1 (by kernel_rfl) (fun i_ hi_ => by omega) ?_
  intro a k h
  unfold spq14 at h
  split at h
  · exact ⟨[_], rfl, rfl, (eqq14 _ _ _ _ _ _ _ _).trans h⟩
  · cases h

def anq43 (N : Nat) : Nat -> Option Ann := fun b_ => none
theorem eqq43 (N : Nat) (m_0 m_1 i j : Int) (b : List Fl) (c_ : V -> List Blk -> Bool) : bodyV ⟨Pg, ofList [], isref, N⟩ (anq43 N) 47 (shFq43.args [.int m_0, .int m_1, .int i, .int j, .fls b]) [⟨48, 1, .flts b⟩] c_ = Gq43 N m_0 m_1 i j b (fun r0 => c_ (.flt r0) [⟨48, 1, .flts b⟩]) := by kernel_rfl
theorem goodq43 (N : Nat) : GoodF Pg 47 (Fq43 (Gq43 N)) := by
  refine good_fs (cx := ⟨Pg, ofList [], isref, N⟩) (ofList_nil _) shFq43 (spq43 (Gq43 N)) (anq43 N) 0 1 (by kernel_rfl) (fun i_ hi_ => by omega) ?_
  intro a k h
  unfold spq43 at h
  split at h
  · exact ⟨[_], rfl, rfl, (eqq43 _ _ _ _ _ _ _).trans h⟩
  · cases h

def sh_st_binnacleref16_ended_ww1_0 : StSh := ⟨(.slw 0 :: (.any :: (.any :: (.ptr 2 0 :: (.ptr 3 0 :: (.any :: (.int .i64 :: (sqs 16 [])))))))), [some (48, 1, .flts), some (48, 1, .flts), some (28, 1, .cells [.int .i64, .int .i64, .slw 1]), some (32, 1, .cells [.nil, .int .i64, .int .i64, .nil])]⟩
def sx0_st_binnacleref16_ended_ww1_0 : StSh := ⟨(sqs 4 (.ptr 2 0 :: (.int .i64 :: (sqs 17 [])))), [some (48, 1, .flts), some (48, 1, .flts), some (32, 1, .cells [.nil, .int .i64, .int .i64, .nil])]⟩
def sx1_st_binnacleref16_ended_ww1_0 : StSh := ⟨(.slw 0 :: (.any :: (.any :: (.ptr 2 0 :: (.ptr 3 0 :: (sqs 18 [])))))), [some (48, 1, .flts), some (48, 1, .flts), some (28, 1, .cells [.int .i64, .int .i64, .slw 1]), some (32, 1, .cells [.nil, .int .i64, .int .i64, .nil])]⟩
def hk_st_binnacleref16_ended_ww1_0 (N : Nat) (Sq43 : TSq43) : List Atom -> K -> Bool := fun a_ κ => match a_ with
  | [.int i, .fls x, .fls b1, .int l, .int l_2, .int t4, .int t4_1] => iterG N (stq78 N Sq43 x b1 l l_2 t4 t4_1 (fun r0 r3 r4 => κ.ret (sx0_st_binnacleref16_ended_ww1_0.build [.int r0, .fls x, .fls b1, .int r3, .int r4])) (κ.ext 0 (sx1_st_binnacleref16_ended_ww1_0.build [.fls x, .fls b1, .int l, .int l_2, .int t4, .int t4_1]))) i
  | _ => false
def anq3 (N : Nat) (Sq43 : TSq43) : Nat -> Option Ann := fun b_ => cond (b_ == 0) (some ⟨⟨[0, 3, 4, 6], [], [], []⟩, [(0, ⟨[0, 3, 4], [], [], []⟩)], some ⟨[4, 5], [], [], []⟩, some (mkHooks [(sh_st_binnacleref16_ended_ww1_0, hk_st_binnacleref16_ended_ww1_0 N Sq43)])⟩) (none)
theorem eq_st_binnacleref16_ended_ww1_0 (N : Nat) (Sq43 : TSq43) (κ : K) (i : Int) (x b1 : List Fl) (l l_2 t4 t4_1 : Int) : iter N (fun s k => codeV ⟨Pg, ofList [(47, (Fq43 Sq43))], isref, N⟩ 2 (anq3 N Sq43) (lp Pg 49 0).2 (lp Pg 49 0).1 s (roundK Pg 2 ((anq3 N Sq43) (lp Pg 49 0).1) κ k)) (sh_st_binnacleref16_ended_ww1_0.build [.int i, .fls x, .fls b1, .int l, .int l_2, .int t4, .int t4_1]) = iterG N (stq78 N Sq43 x b1 l l_2 t4 t4_1 (fun r0 r3 r4 => κ.ret (sx0_st_binnacleref16_ended_ww1_0.build [.int r0, .fls x, .fls b1, .int r3, .int r4])) (κ.ext 0 (sx1_st_binnacleref16_ended_ww1_0.build [.fls x, .fls b1, .int l, .int l_2, .int t4, .int t4_1]))) i :=
  iter_tr (fun v_ => sh_st_binnacleref16_ended_ww1_0.build [.int v_, .fls x, .fls b1, .int l, .int l_2, .int t4, .int t4_1]) (fun v_ K_ => by kernel_rfl) N i
theorem hk1_st_binnacleref16_ended_ww1_0 (N : Nat) (Sq43 : TSq43) : HookFor ⟨Pg, ofList [(47, (Fq43 Sq43))], isref, N⟩ 2 (anq3 N Sq43) (lp Pg 49 0) (sh_st_binnacleref16_ended_ww1_0, hk_st_binnacleref16_ended_ww1_0 N Sq43) := by
  intro a κ h
  simp only at h
  unfold hk_st_binnacleref16_ended_ww1_0 at h
  split at h
  · exact (eq_st_binnacleref16_ended_ww1_0 _ _ _ _ _ _ _ _ _ _).trans h
  · cases h
theorem ho_binnacleref16_ended_ww1_0 (N : Nat) (Sq43 : TSq43) : HookOk ⟨Pg, ofList [(47, (Fq43 Sq43))], isref, N⟩ 2 (anq3 N Sq43) (lp Pg 49 0) :=
  hooks_ok [(sh_st_binnacleref16_ended_ww1_0, hk_st_binnacleref16_ended_ww1_0 N Sq43)] (by kernel_rfl) ⟨hk1_st_binnacleref16_ended_ww1_0 _ _, trivial⟩
theorem eqq3 (N : Nat) (Sq43 : TSq43) (l_0 l_1 : Int) (b b_1 : List Fl) (c_ : V -> List Blk -> Bool) : bodyV ⟨Pg, ofList [(47, (Fq43 Sq43))], isref, N⟩ (anq3 N Sq43) 49 (shFq3.args [.int l_0, .int l_1, .fls b, .fls b_1]) [⟨48, 1, .flts b⟩, ⟨48, 1, .flts b_1⟩] c_ = Gq3 N Sq43 l_0 l_1 b b_1 (fun r0 r1 r2 => c_ (.tup [.agg [.nil, .int .i64 r0, .int .i64 r1, .nil], .int .i64 r2]) [⟨48, 1, .flts b⟩, ⟨48, 1, .flts b_1⟩]) (fun r2 => c_ (.tup [.agg [.slw 0, .int .i64 l_0, .int .i64 l_1, .slw 1], .int .i64 r2]) [⟨48, 1, .flts b⟩, ⟨48, 1, .flts b_1⟩]) := by kernel_rfl
theorem goodq3 (N : Nat) (Sq43 : TSq43) (hq43 : GoodF Pg 47 (Fq43 Sq43)) : GoodF Pg 49 (Fq3 (Gq3 N Sq43)) := by
  refine good_fs (cx := ⟨Pg, ofList [(47, (Fq43 Sq43))], isref, N⟩) (ofList_cons hq43 (ofList_nil _)) shFq3 (spq3 (Gq3 N Sq43)) (anq3 N Sq43) 1 2 (by kernel_rfl) (fun i_ hi_ => by
    match i_, hi_ with
    | 0, _ => exact ho_binnacleref16_ended_ww1_0 _ _
    | (q + 1), h => omega) ?_
  intro a k h
  unfold spq3 at h
  split at h
  · exact ⟨[_, _], rfl, rfl, (eqq3 _ _ _ _ _ _ _).trans h⟩
  · cases h

end Go.Proofs.Ytgngdkjghdohiaa
