/-
  THE TIES: each printed meaning is what the program does (written by program).
  Conditions: none.
-/
import Derived.Test.YtnfgnjciliapaaaGreatDoorGs
namespace Go.Proofs.YtnfgnjciliapaaaGreatDoor
open Go Go.Mach Go.Proofs
set_option linter.unusedVariables false
set_option maxRecDepth 50000

def anQ76 (N : Nat) (SQ71 : TSQ71) : Nat -> Option Ann := fun b_ => none
theorem eqQ76 (N : Nat) (SQ71 : TSQ71) (n : Int) (c_ : V -> List Blk -> Bool) : bodyZ ⟨Pg, ofList [(96, (FQ71 SQ71))], isref, N⟩ (anQ76 N SQ71) 51 (shFQ76.args [.int n]) [] c_ = GQ76 N SQ71 n (fun r0 r1 => c_ (.ptr 0 0) [⟨98, 1, .cells [.bool r0, .roi .u32 r1]⟩]) := by kernel_rfl
theorem goodQ76 (N : Nat) (SQ71 : TSQ71) (hQ71 : GoodF Pg 96 (FQ71 SQ71)) : GoodF Pg 51 (FQ76 (GQ76 N SQ71)) := by
  refine good_fsZ (cx := ⟨Pg, ofList [(96, (FQ71 SQ71))], isref, N⟩) (ofList_cons hQ71 (ofList_nil _)) shFQ76 (spQ76 (GQ76 N SQ71)) (anQ76 N SQ71) 0 0 (by kernel_rfl) (fun i_ hi_ => by omega) ?_
  intro a k h
  unfold spQ76 at h
  split at h
  · exact ⟨[], rfl, rfl, (eqQ76 _ _ _ _).trans h⟩
  · cases h

def anQ100 (N : Nat) (SQ76 : TSQ76) : Nat -> Option Ann := fun b_ => none
theorem eqQ100 (N : Nat) (SQ76 : TSQ76) (n : Int) (c_ : V -> List Blk -> Bool) : bodyV ⟨Pg, ofList [(51, (FQ76 SQ76))], isref, N⟩ (anQ100 N SQ76) 14 (shFQ100.args [.int n]) [] c_ = GQ100 N SQ76 n (fun r0 r1 r2 => c_ (.agg [.ptr 0 0, .int .i64 r0]) [⟨98, 1, .cells [.bool r1, .roi .u32 r2]⟩]) := by kernel_rfl
theorem goodQ100 (N : Nat) (SQ76 : TSQ76) (hQ76 : GoodF Pg 51 (FQ76 SQ76)) : GoodF Pg 14 (FQ100 (GQ100 N SQ76)) := by
  refine good_fs (cx := ⟨Pg, ofList [(51, (FQ76 SQ76))], isref, N⟩) (ofList_cons hQ76 (ofList_nil _)) shFQ100 (spQ100 (GQ100 N SQ76)) (anQ100 N SQ76) 0 0 (by kernel_rfl) (fun i_ hi_ => by omega) ?_
  intro a k h
  unfold spQ100 at h
  split at h
  · exact ⟨[], rfl, rfl, (eqQ100 _ _ _ _).trans h⟩
  · cases h

def anQ99 (N : Nat) (SQ76 : TSQ76) : Nat -> Option Ann := fun b_ => none
theorem eqQ99 (N : Nat) (SQ76 : TSQ76) (e : Int) (c_ : V -> List Blk -> Bool) : bodyV ⟨Pg, ofList [(51, (FQ76 SQ76))], isref, N⟩ (anQ99 N SQ76) 16 (shFQ99.args [.int e]) [] c_ = GQ99 N SQ76 e (fun r1 r2 => c_ (.agg [.ptr 0 0, .int .i64 e]) [⟨98, 1, .cells [.bool r1, .roi .u32 r2]⟩]) := by kernel_rfl
theorem goodQ99 (N : Nat) (SQ76 : TSQ76) (hQ76 : GoodF Pg 51 (FQ76 SQ76)) : GoodF Pg 16 (FQ99 (GQ99 N SQ76)) := by
  refine good_fs (cx := ⟨Pg, ofList [(51, (FQ76 SQ76))], isref, N⟩) (ofList_cons hQ76 (ofList_nil _)) shFQ99 (spQ99 (GQ99 N SQ76)) (anQ99 N SQ76) 0 0 (by kernel_rfl) (fun i_ hi_ => by omega) ?_
  intro a k h
  unfold spQ99 at h
  split at h
  · exact ⟨[], rfl, rfl, (eqQ99 _ _ _ _).trans h⟩
  · cases h

def anQ89 (N : Nat) (SQ9 : TSQ9) : Nat -> Option Ann := fun b_ => none
theorem eqQ89 (N : Nat) (SQ9 : TSQ9) (neg b : Bool) (b_1 : List Int) (c_ : V -> List Blk -> Bool) : bodyZ ⟨Pg, ofList [(147, (FQ9 SQ9))], isref, N⟩ (anQ89 N SQ9) 99 (shFQ89.args [.bool neg, .bool b, .ints b_1]) [⟨98, 1, .cells [.bool b, .nil]⟩, ⟨87, 1, .ints .u32 b_1⟩] c_ = GQ89 N SQ9 neg b b_1 (fun r0 r1 r2 => c_ (.ptr 0 0) [⟨98, 1, .cells [.bool r0, .sl 1 r1 r2]⟩, ⟨87, 1, .ints .u32 b_1⟩]) := by kernel_rfl
theorem goodQ89 (N : Nat) (SQ9 : TSQ9) (hQ9 : GoodF Pg 147 (FQ9 SQ9)) : GoodF Pg 99 (FQ89 (GQ89 N SQ9)) := by
  refine good_fsZ (cx := ⟨Pg, ofList [(147, (FQ9 SQ9))], isref, N⟩) (ofList_cons hQ9 (ofList_nil _)) shFQ89 (spQ89 (GQ89 N SQ9)) (anQ89 N SQ9) 0 2 (by kernel_rfl) (fun i_ hi_ => by omega) ?_
  intro a k h
  unfold spQ89 at h
  split at h
  · exact ⟨[_, _], rfl, rfl, (eqQ89 _ _ _ _ _ _).trans h⟩
  · cases h

def anQ80 (N : Nat) (SQ89 : TSQ89) : Nat -> Option Ann := fun b_ => none
theorem eqQ80 (N : Nat) (SQ89 : TSQ89) (b b_1 : Bool) (b_2 : List Int) (c_ : V -> List Blk -> Bool) : bodyZ ⟨Pg, ofList [(99, (FQ89 SQ89))], isref, N⟩ (anQ80 N SQ89) 55 (shFQ80.args [.bool b, .bool b_1, .ints b_2]) [⟨98, 1, .cells [.bool b, .nil]⟩, ⟨98, 1, .cells [.bool b_1, .roi .u32 b_2]⟩] c_ = GQ80 N SQ89 b b_1 b_2 (fun r0 r1 => c_ (.ptr 0 0) [⟨98, 1, .cells [.bool r0, .roi .u32 r1]⟩, ⟨98, 1, .cells [.bool b_1, .roi .u32 b_2]⟩]) := by kernel_rfl
theorem goodQ80 (N : Nat) (SQ89 : TSQ89) (hQ89 : GoodF Pg 99 (FQ89 SQ89)) : GoodF Pg 55 (FQ80 (GQ80 N SQ89)) := by
  refine good_fsZ (cx := ⟨Pg, ofList [(99, (FQ89 SQ89))], isref, N⟩) (ofList_cons hQ89 (ofList_nil _)) shFQ80 (spQ80 (GQ80 N SQ89)) (anQ80 N SQ89) 0 2 (by kernel_rfl) (fun i_ hi_ => by omega) ?_
  intro a k h
  unfold spQ80 at h
  split at h
  · exact ⟨[_, _], rfl, rfl, (eqQ80 _ _ _ _ _ _).trans h⟩
  · cases h

def anQ21 (N : Nat) (SQ80 : TSQ80) : Nat -> Option Ann := fun b_ => none
theorem eqQ21 (N : Nat) (SQ80 : TSQ80) (x : Int) (b : Bool) (b_1 : List Int) (c_ : V -> List Blk -> Bool) : bodyV ⟨Pg, ofList [(55, (FQ80 SQ80))], isref, N⟩ (anQ21 N SQ80) 17 (shFQ21.args [.int x, .bool b, .ints b_1]) [⟨98, 1, .cells [.bool b, .roi .u32 b_1]⟩] c_ = GQ21 N SQ80 x b b_1 (fun r3 r4 => c_ (.agg [.ptr 1 0, .int .i64 x]) [⟨98, 1, .cells [.bool b, .roi .u32 b_1]⟩, ⟨98, 1, .cells [.bool r3, .roi .u32 r4]⟩]) := by kernel_rfl
theorem goodQ21 (N : Nat) (SQ80 : TSQ80) (hQ80 : GoodF Pg 55 (FQ80 SQ80)) : GoodF Pg 17 (FQ21 (GQ21 N SQ80)) := by
  refine good_fs (cx := ⟨Pg, ofList [(55, (FQ80 SQ80))], isref, N⟩) (ofList_cons hQ80 (ofList_nil _)) shFQ21 (spQ21 (GQ21 N SQ80)) (anQ21 N SQ80) 0 1 (by kernel_rfl) (fun i_ hi_ => by omega) ?_
  intro a k h
  unfold spQ21 at h
  split at h
  · exact ⟨[_], rfl, rfl, (eqQ21 _ _ _ _ _ _).trans h⟩
  · cases h

def anQ55 (N : Nat) : Nat -> Option Ann := fun b_ => none
theorem eqQ55 (N : Nat) (b : Bool) (b_1 : List Int) (c_ : V -> List Blk -> Bool) : bodyZ ⟨Pg, ofList [], isref, N⟩ (anQ55 N) 52 (shFQ55.args [.bool b, .ints b_1]) [⟨98, 1, .cells [.bool b, .roi .u32 b_1]⟩] c_ = GQ55 N b b_1 (fun r0 => c_ (.int .i64 r0) [⟨98, 1, .cells [.bool b, .roi .u32 b_1]⟩]) := by kernel_rfl
theorem goodQ55 (N : Nat) : GoodF Pg 52 (FQ55 (GQ55 N)) := by
  refine good_fsZ (cx := ⟨Pg, ofList [], isref, N⟩) (ofList_nil _) shFQ55 (spQ55 (GQ55 N)) (anQ55 N) 0 1 (by kernel_rfl) (fun i_ hi_ => by omega) ?_
  intro a k h
  unfold spQ55 at h
  split at h
  · exact ⟨[_], rfl, rfl, (eqQ55 _ _ _ _).trans h⟩
  · cases h

def sh_st_binnacleref00_left_0 : StSh := ⟨(.roi .u32 :: (sqs 4 (.int .i64 :: (.int .u64 :: (.slw 0 :: (.int .i64 :: (sqs 49 []))))))), [some (87, 1, .ints .u32)]⟩
def sx0_st_binnacleref00_left_0 : StSh := ⟨(sqs 7 (.slw 0 :: (sqs 50 []))), [some (87, 1, .ints .u32)]⟩
def hk_st_binnacleref00_left_0 (N : Nat) (SQ9 : TSQ9) : List Atom -> K -> Bool := fun a_ κ => match a_ with
  | [.ints m_1, .int w, .int s, .int i, .ints out] => iterG N (st_z00_left_0 N SQ9 m_1 w s (fun r0 => κ.ext 0 (sx0_st_binnacleref00_left_0.build [.ints r0]))) (i, out)
  | _ => false
def anQ124 (N : Nat) (SQ9 : TSQ9) : Nat -> Option Ann := fun b_ => cond (b_ == 0) (some ⟨⟨[0, 5, 6, 7, 8], [], []⟩, [(0, ⟨[7], [], []⟩)], some ⟨[4], [], []⟩, some (mkHooks [(sh_st_binnacleref00_left_0, hk_st_binnacleref00_left_0 N SQ9)])⟩) (none)
theorem eq_st_binnacleref00_left_0 (N : Nat) (SQ9 : TSQ9) (κ : K) (m_1 : List Int) (w s i : Int) (out : List Int) : iter N (fun s k => codeV ⟨Pg, ofList [(147, (FQ9 SQ9))], isref, N⟩ 0 (anQ124 N SQ9) (lp Pg 146 0).2 (lp Pg 146 0).1 s (roundK Pg 0 ((anQ124 N SQ9) (lp Pg 146 0).1) κ k)) (sh_st_binnacleref00_left_0.build [.ints m_1, .int w, .int s, .int i, .ints out]) = iterG N (st_z00_left_0 N SQ9 m_1 w s (fun r0 => κ.ext 0 (sx0_st_binnacleref00_left_0.build [.ints r0]))) (i, out) :=
  iter_tr (fun (v_ : Int × List Int) => sh_st_binnacleref00_left_0.build [.ints m_1, .int w, .int s, .int v_.1, .ints v_.2]) (fun v_ K_ => by obtain ⟨i, out⟩ := v_; kernel_rfl) N (i, out)
theorem hk1_st_binnacleref00_left_0 (N : Nat) (SQ9 : TSQ9) : HookFor ⟨Pg, ofList [(147, (FQ9 SQ9))], isref, N⟩ 0 (anQ124 N SQ9) (lp Pg 146 0) (sh_st_binnacleref00_left_0, hk_st_binnacleref00_left_0 N SQ9) := by
  intro a κ h
  simp only at h
  unfold hk_st_binnacleref00_left_0 at h
  split at h
  · exact (eq_st_binnacleref00_left_0 _ _ _ _ _ _ _ _).trans h
  · cases h
theorem ho_binnacleref00_left_0 (N : Nat) (SQ9 : TSQ9) : HookOk ⟨Pg, ofList [(147, (FQ9 SQ9))], isref, N⟩ 0 (anQ124 N SQ9) (lp Pg 146 0) :=
  hooks_ok [(sh_st_binnacleref00_left_0, hk_st_binnacleref00_left_0 N SQ9)] (by kernel_rfl) ⟨hk1_st_binnacleref00_left_0 _ _, trivial⟩
theorem eqQ124 (N : Nat) (SQ9 : TSQ9) (m : List Int) (n : Int) (c_ : V -> List Blk -> Bool) : bodyZ ⟨Pg, ofList [(147, (FQ9 SQ9))], isref, N⟩ (anQ124 N SQ9) 146 (shFQ124.args [.ints m, .int n]) [] c_ = GQ124 N SQ9 m n (fun r0 => c_ (.roi .u32 r0) []) := by kernel_rfl
theorem goodQ124 (N : Nat) (SQ9 : TSQ9) (hQ9 : GoodF Pg 147 (FQ9 SQ9)) : GoodF Pg 146 (FQ124 (GQ124 N SQ9)) := by
  refine good_fsZ (cx := ⟨Pg, ofList [(147, (FQ9 SQ9))], isref, N⟩) (ofList_cons hQ9 (ofList_nil _)) shFQ124 (spQ124 (GQ124 N SQ9)) (anQ124 N SQ9) 1 0 (by kernel_rfl) (fun i_ hi_ => by
    match i_, hi_ with
    | 0, _ => exact ho_binnacleref00_left_0 _ _
    | (q + 1), h => omega) ?_
  intro a k h
  unfold spQ124 at h
  split at h
  · exact ⟨[], rfl, rfl, (eqQ124 _ _ _ _ _).trans h⟩
  · cases h

def anQ79 (N : Nat) (SQ124 : TSQ124) (SQ44 : TSQ44) : Nat -> Option Ann := fun b_ => none
theorem eqQ79 (N : Nat) (SQ124 : TSQ124) (SQ44 : TSQ44) (n : Int) (b b_1 : Bool) (b_2 : List Int) (c_ : V -> List Blk -> Bool) : bodyZ ⟨Pg, ofList [(146, (FQ124 SQ124)), (99, (FQ44 SQ44))], isref, N⟩ (anQ79 N SQ124 SQ44) 98 (shFQ79.args [.int n, .bool b, .bool b_1, .ints b_2]) [⟨98, 1, .cells [.bool b, .nil]⟩, ⟨98, 1, .cells [.bool b_1, .roi .u32 b_2]⟩] c_ = GQ79 N SQ124 SQ44 n b b_1 b_2 (fun r0 r1 => c_ (.ptr 0 0) [⟨98, 1, .cells [.bool r0, .roi .u32 r1]⟩, ⟨98, 1, .cells [.bool b_1, .roi .u32 b_2]⟩]) := by kernel_rfl
theorem goodQ79 (N : Nat) (SQ124 : TSQ124) (SQ44 : TSQ44) (hQ124 : GoodF Pg 146 (FQ124 SQ124)) (hQ44 : GoodF Pg 99 (FQ44 SQ44)) : GoodF Pg 98 (FQ79 (GQ79 N SQ124 SQ44)) := by
  refine good_fsZ (cx := ⟨Pg, ofList [(146, (FQ124 SQ124)), (99, (FQ44 SQ44))], isref, N⟩) (ofList_cons hQ124 (ofList_cons hQ44 (ofList_nil _))) shFQ79 (spQ79 (GQ79 N SQ124 SQ44)) (anQ79 N SQ124 SQ44) 0 2 (by kernel_rfl) (fun i_ hi_ => by omega) ?_
  intro a k h
  unfold spQ79 at h
  split at h
  · exact ⟨[_, _], rfl, rfl, (eqQ79 _ _ _ _ _ _ _ _).trans h⟩
  · cases h

def anQ26 (N : Nat) (SQ79 : TSQ79) : Nat -> Option Ann := fun b_ => none
theorem eqQ26 (N : Nat) (SQ79 : TSQ79) (x e : Int) (b : Bool) (b_1 : List Int) (c_ : V -> List Blk -> Bool) : bodyV ⟨Pg, ofList [(98, (FQ79 SQ79))], isref, N⟩ (anQ26 N SQ79) 54 (shFQ26.args [.int x, .int e, .bool b, .ints b_1]) [⟨98, 1, .cells [.bool b, .roi .u32 b_1]⟩] c_ = GQ26 N SQ79 x e b b_1 (c_ (.agg [.ptr 0 0, .int .i64 x]) [⟨98, 1, .cells [.bool b, .roi .u32 b_1]⟩]) (fun r3 r4 => c_ (.agg [.ptr 1 0, .int .i64 e]) [⟨98, 1, .cells [.bool b, .roi .u32 b_1]⟩, ⟨98, 1, .cells [.bool r3, .roi .u32 r4]⟩]) := by kernel_rfl
theorem goodQ26 (N : Nat) (SQ79 : TSQ79) (hQ79 : GoodF Pg 98 (FQ79 SQ79)) : GoodF Pg 54 (FQ26 (GQ26 N SQ79)) := by
  refine good_fs (cx := ⟨Pg, ofList [(98, (FQ79 SQ79))], isref, N⟩) (ofList_cons hQ79 (ofList_nil _)) shFQ26 (spQ26 (GQ26 N SQ79)) (anQ26 N SQ79) 0 1 (by kernel_rfl) (fun i_ hi_ => by omega) ?_
  intro a k h
  unfold spQ26 at h
  split at h
  · exact ⟨[_], rfl, rfl, (eqQ26 _ _ _ _ _ _ _).trans h⟩
  · cases h

def sh_st_binnacleref00_plus_0 : StSh := ⟨(.roi .u32 :: (.roi .u32 :: (sqs 4 (.slw 0 :: (.int .u64 :: (.int .i64 :: (sqs 52 []))))))), [some (87, 1, .ints .u32)]⟩
def sx0_st_binnacleref00_plus_0 : StSh := ⟨(.roi .u32 :: (sqs 5 (.slw 0 :: (.int .u64 :: (sqs 53 []))))), [some (87, 1, .ints .u32)]⟩
def hk_st_binnacleref00_plus_0 (N : Nat) (SQ9 : TSQ9) : List Atom -> K -> Bool := fun a_ κ => match a_ with
  | [.ints a_1, .ints b_1, .int carry, .int i, .ints out] => iterG N (st_z00_plus_0 N SQ9 a_1 b_1 (fun r1 r2 => κ.ext 0 (sx0_st_binnacleref00_plus_0.build [.ints a_1, .int r1, .ints r2]))) (carry, i, out)
  | _ => false
def anQ125 (N : Nat) (SQ9 : TSQ9) : Nat -> Option Ann := fun b_ => cond (b_ == 0) (some ⟨⟨[0, 1, 6, 7, 8], [], []⟩, [(0, ⟨[0, 6, 7], [], []⟩)], some ⟨[4], [], []⟩, some (mkHooks [(sh_st_binnacleref00_plus_0, hk_st_binnacleref00_plus_0 N SQ9)])⟩) (none)
theorem eq_st_binnacleref00_plus_0 (N : Nat) (SQ9 : TSQ9) (κ : K) (a_1 b_1 : List Int) (carry i : Int) (out : List Int) : iter N (fun s k => codeV ⟨Pg, ofList [(147, (FQ9 SQ9))], isref, N⟩ 0 (anQ125 N SQ9) (lp Pg 143 0).2 (lp Pg 143 0).1 s (roundK Pg 0 ((anQ125 N SQ9) (lp Pg 143 0).1) κ k)) (sh_st_binnacleref00_plus_0.build [.ints a_1, .ints b_1, .int carry, .int i, .ints out]) = iterG N (st_z00_plus_0 N SQ9 a_1 b_1 (fun r1 r2 => κ.ext 0 (sx0_st_binnacleref00_plus_0.build [.ints a_1, .int r1, .ints r2]))) (carry, i, out) :=
  iter_tr (fun (v_ : Int × Int × List Int) => sh_st_binnacleref00_plus_0.build [.ints a_1, .ints b_1, .int v_.1, .int v_.2.1, .ints v_.2.2]) (fun v_ K_ => by obtain ⟨carry, i, out⟩ := v_; kernel_rfl) N (carry, i, out)
theorem hk1_st_binnacleref00_plus_0 (N : Nat) (SQ9 : TSQ9) : HookFor ⟨Pg, ofList [(147, (FQ9 SQ9))], isref, N⟩ 0 (anQ125 N SQ9) (lp Pg 143 0) (sh_st_binnacleref00_plus_0, hk_st_binnacleref00_plus_0 N SQ9) := by
  intro a κ h
  simp only at h
  unfold hk_st_binnacleref00_plus_0 at h
  split at h
  · exact (eq_st_binnacleref00_plus_0 _ _ _ _ _ _ _ _).trans h
  · cases h
theorem ho_binnacleref00_plus_0 (N : Nat) (SQ9 : TSQ9) : HookOk ⟨Pg, ofList [(147, (FQ9 SQ9))], isref, N⟩ 0 (anQ125 N SQ9) (lp Pg 143 0) :=
  hooks_ok [(sh_st_binnacleref00_plus_0, hk_st_binnacleref00_plus_0 N SQ9)] (by kernel_rfl) ⟨hk1_st_binnacleref00_plus_0 _ _, trivial⟩
theorem eqQ125 (N : Nat) (SQ9 : TSQ9) (a b : List Int) (c_ : V -> List Blk -> Bool) : bodyZ ⟨Pg, ofList [(147, (FQ9 SQ9))], isref, N⟩ (anQ125 N SQ9) 143 (shFQ125.args [.ints a, .ints b]) [] c_ = GQ125 N SQ9 a b (fun r0 => c_ (.roi .u32 r0) []) := by kernel_rfl
theorem goodQ125 (N : Nat) (SQ9 : TSQ9) (hQ9 : GoodF Pg 147 (FQ9 SQ9)) : GoodF Pg 143 (FQ125 (GQ125 N SQ9)) := by
  refine good_fsZ (cx := ⟨Pg, ofList [(147, (FQ9 SQ9))], isref, N⟩) (ofList_cons hQ9 (ofList_nil _)) shFQ125 (spQ125 (GQ125 N SQ9)) (anQ125 N SQ9) 1 0 (by kernel_rfl) (fun i_ hi_ => by
    match i_, hi_ with
    | 0, _ => exact ho_binnacleref00_plus_0 _ _
    | (q + 1), h => omega) ?_
  intro a k h
  unfold spQ125 at h
  split at h
  · exact ⟨[], rfl, rfl, (eqQ125 _ _ _ _ _).trans h⟩
  · cases h

def sh_st_binnacleref00_compare_0 : StSh := ⟨(.roi .u32 :: (.roi .u32 :: (.any :: (.any :: (.any :: (.int .i64 :: (sqs 35 []))))))), []⟩
def sx0_st_binnacleref00_compare_0 : StSh := ⟨(sqs 4 (.int .i64 :: (sqs 36 []))), []⟩
def sx1_st_binnacleref00_compare_0 : StSh := ⟨(sqs 41 []), []⟩
def hk_st_binnacleref00_compare_0 (N : Nat) : List Atom -> K -> Bool := fun a_ κ => match a_ with
  | [.ints a_1, .ints b_1, .int i] => iterG N (stQ158 N a_1 b_1 (fun r0 => κ.ret (sx0_st_binnacleref00_compare_0.build [.int r0])) (κ.ext 0 (sx1_st_binnacleref00_compare_0.build []))) i
  | _ => false
def anQ93 (N : Nat) : Nat -> Option Ann := fun b_ => cond (b_ == 0) (some ⟨⟨[0, 1, 5], [], []⟩, [(0, ⟨[], [], []⟩)], some ⟨[4], [], []⟩, some (mkHooks [(sh_st_binnacleref00_compare_0, hk_st_binnacleref00_compare_0 N)])⟩) (none)
theorem eq_st_binnacleref00_compare_0 (N : Nat) (κ : K) (a_1 b_1 : List Int) (i : Int) : iter N (fun s k => codeV ⟨Pg, ofList [], isref, N⟩ 0 (anQ93 N) (lp Pg 144 0).2 (lp Pg 144 0).1 s (roundK Pg 0 ((anQ93 N) (lp Pg 144 0).1) κ k)) (sh_st_binnacleref00_compare_0.build [.ints a_1, .ints b_1, .int i]) = iterG N (stQ158 N a_1 b_1 (fun r0 => κ.ret (sx0_st_binnacleref00_compare_0.build [.int r0])) (κ.ext 0 (sx1_st_binnacleref00_compare_0.build []))) i :=
  iter_tr (fun v_ => sh_st_binnacleref00_compare_0.build [.ints a_1, .ints b_1, .int v_]) (fun v_ K_ => by kernel_rfl) N i
theorem hk1_st_binnacleref00_compare_0 (N : Nat) : HookFor ⟨Pg, ofList [], isref, N⟩ 0 (anQ93 N) (lp Pg 144 0) (sh_st_binnacleref00_compare_0, hk_st_binnacleref00_compare_0 N) := by
  intro a κ h
  simp only at h
  unfold hk_st_binnacleref00_compare_0 at h
  split at h
  · exact (eq_st_binnacleref00_compare_0 _ _ _ _ _).trans h
  · cases h
theorem ho_binnacleref00_compare_0 (N : Nat) : HookOk ⟨Pg, ofList [], isref, N⟩ 0 (anQ93 N) (lp Pg 144 0) :=
  hooks_ok [(sh_st_binnacleref00_compare_0, hk_st_binnacleref00_compare_0 N)] (by kernel_rfl) ⟨hk1_st_binnacleref00_compare_0 _, trivial⟩
theorem eqQ93 (N : Nat) (a b : List Int) (c_ : V -> List Blk -> Bool) : bodyZ ⟨Pg, ofList [], isref, N⟩ (anQ93 N) 144 (shFQ93.args [.ints a, .ints b]) [] c_ = GQ93 N a b (fun r0 => c_ (.int .i64 r0) []) := by kernel_rfl
theorem goodQ93 (N : Nat) : GoodF Pg 144 (FQ93 (GQ93 N)) := by
  refine good_fsZ (cx := ⟨Pg, ofList [], isref, N⟩) (ofList_nil _) shFQ93 (spQ93 (GQ93 N)) (anQ93 N) 1 0 (by kernel_rfl) (fun i_ hi_ => by
    match i_, hi_ with
    | 0, _ => exact ho_binnacleref00_compare_0 _
    | (q + 1), h => omega) ?_
  intro a k h
  unfold spQ93 at h
  split at h
  · exact ⟨[], rfl, rfl, (eqQ93 _ _ _ _).trans h⟩
  · cases h

def sh_st_binnacleref00_minus_0 : StSh := ⟨(.roi .u32 :: (.roi .u32 :: (.any :: (.any :: (.any :: (.slw 0 :: (.int .u64 :: (.int .i64 :: (sqs 48 []))))))))), [some (87, 1, .ints .u32)]⟩
def sx0_st_binnacleref00_minus_0 : StSh := ⟨(sqs 5 (.slw 0 :: (sqs 50 []))), [some (87, 1, .ints .u32)]⟩
def hk_st_binnacleref00_minus_0 (N : Nat) (SQ9 : TSQ9) : List Atom -> K -> Bool := fun a_ κ => match a_ with
  | [.ints a_1, .ints b_1, .int borrow, .int i, .ints out] => iterG N (st_z00_minus_0 N SQ9 a_1 b_1 (fun r0 => κ.ext 0 (sx0_st_binnacleref00_minus_0.build [.ints r0]))) (borrow, i, out)
  | _ => false
def anQ113 (N : Nat) (SQ9 : TSQ9) : Nat -> Option Ann := fun b_ => cond (b_ == 0) (some ⟨⟨[0, 1, 5, 6, 7], [], []⟩, [(0, ⟨[5], [], []⟩)], some ⟨[4], [], []⟩, some (mkHooks [(sh_st_binnacleref00_minus_0, hk_st_binnacleref00_minus_0 N SQ9)])⟩) (none)
theorem eq_st_binnacleref00_minus_0 (N : Nat) (SQ9 : TSQ9) (κ : K) (a_1 b_1 : List Int) (borrow i : Int) (out : List Int) : iter N (fun s k => codeV ⟨Pg, ofList [(147, (FQ9 SQ9))], isref, N⟩ 0 (anQ113 N SQ9) (lp Pg 145 0).2 (lp Pg 145 0).1 s (roundK Pg 0 ((anQ113 N SQ9) (lp Pg 145 0).1) κ k)) (sh_st_binnacleref00_minus_0.build [.ints a_1, .ints b_1, .int borrow, .int i, .ints out]) = iterG N (st_z00_minus_0 N SQ9 a_1 b_1 (fun r0 => κ.ext 0 (sx0_st_binnacleref00_minus_0.build [.ints r0]))) (borrow, i, out) :=
  iter_tr (fun (v_ : Int × Int × List Int) => sh_st_binnacleref00_minus_0.build [.ints a_1, .ints b_1, .int v_.1, .int v_.2.1, .ints v_.2.2]) (fun v_ K_ => by obtain ⟨borrow, i, out⟩ := v_; kernel_rfl) N (borrow, i, out)
theorem hk1_st_binnacleref00_minus_0 (N : Nat) (SQ9 : TSQ9) : HookFor ⟨Pg, ofList [(147, (FQ9 SQ9))], isref, N⟩ 0 (anQ113 N SQ9) (lp Pg 145 0) (sh_st_binnacleref00_minus_0, hk_st_binnacleref00_minus_0 N SQ9) := by
  intro a κ h
  simp only at h
  unfold hk_st_binnacleref00_minus_0 at h
  split at h
  · exact (eq_st_binnacleref00_minus_0 _ _ _ _ _ _ _ _).trans h
  · cases h
theorem ho_binnacleref00_minus_0 (N : Nat) (SQ9 : TSQ9) : HookOk ⟨Pg, ofList [(147, (FQ9 SQ9))], isref, N⟩ 0 (anQ113 N SQ9) (lp Pg 145 0) :=
  hooks_ok [(sh_st_binnacleref00_minus_0, hk_st_binnacleref00_minus_0 N SQ9)] (by kernel_rfl) ⟨hk1_st_binnacleref00_minus_0 _ _, trivial⟩
theorem eqQ113 (N : Nat) (SQ9 : TSQ9) (a b : List Int) (c_ : V -> List Blk -> Bool) : bodyZ ⟨Pg, ofList [(147, (FQ9 SQ9))], isref, N⟩ (anQ113 N SQ9) 145 (shFQ113.args [.ints a, .ints b]) [] c_ = GQ113 N SQ9 a b (fun r0 => c_ (.roi .u32 r0) []) := by kernel_rfl
theorem goodQ113 (N : Nat) (SQ9 : TSQ9) (hQ9 : GoodF Pg 147 (FQ9 SQ9)) : GoodF Pg 145 (FQ113 (GQ113 N SQ9)) := by
  refine good_fsZ (cx := ⟨Pg, ofList [(147, (FQ9 SQ9))], isref, N⟩) (ofList_cons hQ9 (ofList_nil _)) shFQ113 (spQ113 (GQ113 N SQ9)) (anQ113 N SQ9) 1 0 (by kernel_rfl) (fun i_ hi_ => by
    match i_, hi_ with
    | 0, _ => exact ho_binnacleref00_minus_0 _ _
    | (q + 1), h => omega) ?_
  intro a k h
  unfold spQ113 at h
  split at h
  · exact ⟨[], rfl, rfl, (eqQ113 _ _ _ _ _).trans h⟩
  · cases h

def anQ66 (N : Nat) (SQ125 : TSQ125) (SQ44 : TSQ44) (SQ93 : TSQ93) (SQ113 : TSQ113) : Nat -> Option Ann := fun b_ => none
theorem eqQ66 (N : Nat) (SQ125 : TSQ125) (SQ44 : TSQ44) (SQ93 : TSQ93) (SQ113 : TSQ113) (turn b b_1 : Bool) (b_2 : List Int) (b_3 : Bool) (b_4 : List Int) (c_ : V -> List Blk -> Bool) : bodyZ ⟨Pg, ofList [(143, (FQ125 SQ125)), (99, (FQ44 SQ44)), (144, (FQ93 SQ93)), (145, (FQ113 SQ113))], isref, N⟩ (anQ66 N SQ125 SQ44 SQ93 SQ113) 97 (shFQ66.args [.bool turn, .bool b, .bool b_1, .ints b_2, .bool b_3, .ints b_4]) [⟨98, 1, .cells [.bool b, .nil]⟩, ⟨98, 1, .cells [.bool b_1, .roi .u32 b_2]⟩, ⟨98, 1, .cells [.bool b_3, .roi .u32 b_4]⟩] c_ = GQ66 N SQ125 SQ44 SQ93 SQ113 turn b b_1 b_2 b_3 b_4 (fun r0 r1 => c_ (.ptr 0 0) [⟨98, 1, .cells [.bool r0, .roi .u32 r1]⟩, ⟨98, 1, .cells [.bool b_1, .roi .u32 b_2]⟩, ⟨98, 1, .cells [.bool b_3, .roi .u32 b_4]⟩]) := by kernel_rfl
theorem goodQ66 (N : Nat) (SQ125 : TSQ125) (SQ44 : TSQ44) (SQ93 : TSQ93) (SQ113 : TSQ113) (hQ125 : GoodF Pg 143 (FQ125 SQ125)) (hQ44 : GoodF Pg 99 (FQ44 SQ44)) (hQ93 : GoodF Pg 144 (FQ93 SQ93)) (hQ113 : GoodF Pg 145 (FQ113 SQ113)) : GoodF Pg 97 (FQ66 (GQ66 N SQ125 SQ44 SQ93 SQ113)) := by
  refine good_fsZ (cx := ⟨Pg, ofList [(143, (FQ125 SQ125)), (99, (FQ44 SQ44)), (144, (FQ93 SQ93)), (145, (FQ113 SQ113))], isref, N⟩) (ofList_cons hQ125 (ofList_cons hQ44 (ofList_cons hQ93 (ofList_cons hQ113 (ofList_nil _))))) shFQ66 (spQ66 (GQ66 N SQ125 SQ44 SQ93 SQ113)) (anQ66 N SQ125 SQ44 SQ93 SQ113) 0 3 (by kernel_rfl) (fun i_ hi_ => by omega) ?_
  intro a k h
  unfold spQ66 at h
  split at h
  · exact ⟨[_, _, _], rfl, rfl, (eqQ66 _ _ _ _ _ _ _ _ _ _ _ _).trans h⟩
  · cases h

def anQ39 (N : Nat) (SQ66 : TSQ66) : Nat -> Option Ann := fun b_ => none
theorem eqQ39 (N : Nat) (SQ66 : TSQ66) (b b_1 : Bool) (b_2 : List Int) (b_3 : Bool) (b_4 : List Int) (c_ : V -> List Blk -> Bool) : bodyZ ⟨Pg, ofList [(97, (FQ66 SQ66))], isref, N⟩ (anQ39 N SQ66) 53 (shFQ39.args [.bool b, .bool b_1, .ints b_2, .bool b_3, .ints b_4]) [⟨98, 1, .cells [.bool b, .nil]⟩, ⟨98, 1, .cells [.bool b_1, .roi .u32 b_2]⟩, ⟨98, 1, .cells [.bool b_3, .roi .u32 b_4]⟩] c_ = GQ39 N SQ66 b b_1 b_2 b_3 b_4 (fun r0 r1 => c_ (.ptr 0 0) [⟨98, 1, .cells [.bool r0, .roi .u32 r1]⟩, ⟨98, 1, .cells [.bool b_1, .roi .u32 b_2]⟩, ⟨98, 1, .cells [.bool b_3, .roi .u32 b_4]⟩]) := by kernel_rfl
theorem goodQ39 (N : Nat) (SQ66 : TSQ66) (hQ66 : GoodF Pg 97 (FQ66 SQ66)) : GoodF Pg 53 (FQ39 (GQ39 N SQ66)) := by
  refine good_fsZ (cx := ⟨Pg, ofList [(97, (FQ66 SQ66))], isref, N⟩) (ofList_cons hQ66 (ofList_nil _)) shFQ39 (spQ39 (GQ39 N SQ66)) (anQ39 N SQ66) 0 3 (by kernel_rfl) (fun i_ hi_ => by omega) ?_
  intro a k h
  unfold spQ39 at h
  split at h
  · exact ⟨[_, _, _], rfl, rfl, (eqQ39 _ _ _ _ _ _ _ _).trans h⟩
  · cases h

def anQ3 (N : Nat) (SQ55 : TSQ55) (SQ26 : TSQ26) (SQ39 : TSQ39) : Nat -> Option Ann := fun b_ => none
theorem eqQ3 (N : Nat) (SQ55 : TSQ55) (SQ26 : TSQ26) (SQ39 : TSQ39) (x y : Int) (b : Bool) (b_1 : List Int) (b_2 : Bool) (b_3 : List Int) (c_ : V -> List Blk -> Bool) : bodyV ⟨Pg, ofList [(52, (FQ55 SQ55)), (54, (FQ26 SQ26)), (53, (FQ39 SQ39))], isref, N⟩ (anQ3 N SQ55 SQ26 SQ39) 15 (shFQ3.args [.int x, .int y, .bool b, .ints b_1, .bool b_2, .ints b_3]) [⟨98, 1, .cells [.bool b, .roi .u32 b_1]⟩, ⟨98, 1, .cells [.bool b_2, .roi .u32 b_3]⟩] c_ = GQ3 N SQ55 SQ26 SQ39 x y b b_1 b_2 b_3 (c_ (.agg [.ptr 1 0, .int .i64 y]) [⟨98, 1, .cells [.bool b, .roi .u32 b_1]⟩, ⟨98, 1, .cells [.bool b_2, .roi .u32 b_3]⟩]) (c_ (.agg [.ptr 0 0, .int .i64 x]) [⟨98, 1, .cells [.bool b, .roi .u32 b_1]⟩, ⟨98, 1, .cells [.bool b_2, .roi .u32 b_3]⟩]) (fun r0 r5 r6 => c_ (.agg [.ptr 2 0, .int .i64 r0]) [⟨98, 1, .cells [.bool b, .roi .u32 b_1]⟩, ⟨98, 1, .cells [.bool b_2, .roi .u32 b_3]⟩, ⟨98, 1, .cells [.bool r5, .roi .u32 r6]⟩]) := by kernel_rfl
theorem goodQ3 (N : Nat) (SQ55 : TSQ55) (SQ26 : TSQ26) (SQ39 : TSQ39) (hQ55 : GoodF Pg 52 (FQ55 SQ55)) (hQ26 : GoodF Pg 54 (FQ26 SQ26)) (hQ39 : GoodF Pg 53 (FQ39 SQ39)) : GoodF Pg 15 (FQ3 (GQ3 N SQ55 SQ26 SQ39)) := by
  refine good_fs (cx := ⟨Pg, ofList [(52, (FQ55 SQ55)), (54, (FQ26 SQ26)), (53, (FQ39 SQ39))], isref, N⟩) (ofList_cons hQ55 (ofList_cons hQ26 (ofList_cons hQ39 (ofList_nil _)))) shFQ3 (spQ3 (GQ3 N SQ55 SQ26 SQ39)) (anQ3 N SQ55 SQ26 SQ39) 0 2 (by kernel_rfl) (fun i_ hi_ => by omega) ?_
  intro a k h
  unfold spQ3 at h
  split at h
  · exact ⟨[_, _], rfl, rfl, (eqQ3 _ _ _ _ _ _ _ _ _ _ _).trans h⟩
  · cases h

def anQ105 (N : Nat) : Nat -> Option Ann := fun b_ => none
theorem eqQ105 (N : Nat) (c_ : V -> List Blk -> Bool) : bodyV ⟨Pg, ofList [], isref, N⟩ (anQ105 N) 100 (shFQ105.args []) [] c_ = GQ105 N (fun r0 r1 => c_ (.agg [.ptr 0 0, .int .i64 r0]) [⟨98, 1, .cells [.bool r1, .nil]⟩]) := by kernel_rfl
theorem goodQ105 (N : Nat) : GoodF Pg 100 (FQ105 (GQ105 N)) := by
  refine good_fs (cx := ⟨Pg, ofList [], isref, N⟩) (ofList_nil _) shFQ105 (spQ105 (GQ105 N)) (anQ105 N) 0 0 (by kernel_rfl) (fun i_ hi_ => by omega) ?_
  intro a k h
  unfold spQ105 at h
  split at h
  · exact ⟨[], rfl, rfl, (eqQ105 _ _).trans h⟩
  · cases h

def anQ128 (N : Nat) (SQ96 : TSQ96) : Nat -> Option Ann := fun b_ => none
theorem eqQ128 (N : Nat) (SQ96 : TSQ96) (x : Fl) (c_ : V -> List Blk -> Bool) : bodyV ⟨Pg, ofList [(95, (FQ96 SQ96))], isref, N⟩ (anQ128 N SQ96) 151 (shFQ128.args [.fl x]) [] c_ = GQ128 N SQ96 x (fun r0 => c_ (.int .u64 r0) []) := by kernel_rfl
theorem goodQ128 (N : Nat) (SQ96 : TSQ96) (hQ96 : GoodF Pg 95 (FQ96 SQ96)) : GoodF Pg 151 (FQ128 (GQ128 N SQ96)) := by
  refine good_fs (cx := ⟨Pg, ofList [(95, (FQ96 SQ96))], isref, N⟩) (ofList_cons hQ96 (ofList_nil _)) shFQ128 (spQ128 (GQ128 N SQ96)) (anQ128 N SQ96) 0 0 (by kernel_rfl) (fun i_ hi_ => by omega) ?_
  intro a k h
  unfold spQ128 at h
  split at h
  · exact ⟨[], rfl, rfl, (eqQ128 _ _ _ _).trans h⟩
  · cases h

def anQ95 (N : Nat) (SQ128 : TSQ128) : Nat -> Option Ann := fun b_ => none
theorem eqQ95 (N : Nat) (SQ128 : TSQ128) (x : Fl) (c_ : V -> List Blk -> Bool) : bodyV ⟨Pg, ofList [(151, (FQ128 SQ128))], isref, N⟩ (anQ95 N SQ128) 115 (shFQ95.args [.fl x]) [] c_ = GQ95 N SQ128 x (fun r0 r1 r2 => c_ (.tup [.bool r0, .int .i64 r1, .int .u64 r2]) []) := by kernel_rfl
theorem goodQ95 (N : Nat) (SQ128 : TSQ128) (hQ128 : GoodF Pg 151 (FQ128 SQ128)) : GoodF Pg 115 (FQ95 (GQ95 N SQ128)) := by
  refine good_fs (cx := ⟨Pg, ofList [(151, (FQ128 SQ128))], isref, N⟩) (ofList_cons hQ128 (ofList_nil _)) shFQ95 (spQ95 (GQ95 N SQ128)) (anQ95 N SQ128) 0 0 (by kernel_rfl) (fun i_ hi_ => by omega) ?_
  intro a k h
  unfold spQ95 at h
  split at h
  · exact ⟨[], rfl, rfl, (eqQ95 _ _ _ _).trans h⟩
  · cases h

def sh_st_binnacleref01_odd_0 : StSh := ⟨(.int .u64 :: (.int .i64 :: (sqs 15 []))), []⟩
def sx0_st_binnacleref01_odd_0 : StSh := ⟨(.int .u64 :: (.int .i64 :: (sqs 15 []))), []⟩
def hk_st_binnacleref01_odd_0 (N : Nat) : List Atom -> K -> Bool := fun a_ κ => match a_ with
  | [.int m_1, .int e_1] => iterG N (st_z01_odd_0 N (fun r0 r1 => κ.ext 0 (sx0_st_binnacleref01_odd_0.build [.int r0, .int r1]))) (m_1, e_1)
  | _ => false
def anQ116 (N : Nat) : Nat -> Option Ann := fun b_ => cond (b_ == 0) (some ⟨⟨[0, 1], [], []⟩, [(0, ⟨[0, 1], [], []⟩)], some ⟨[4, 5], [], []⟩, some (mkHooks [(sh_st_binnacleref01_odd_0, hk_st_binnacleref01_odd_0 N)])⟩) (none)
theorem eq_st_binnacleref01_odd_0 (N : Nat) (κ : K) (m_1 e_1 : Int) : iter N (fun s k => codeV ⟨Pg, ofList [], isref, N⟩ 0 (anQ116 N) (lp Pg 116 0).2 (lp Pg 116 0).1 s (roundK Pg 0 ((anQ116 N) (lp Pg 116 0).1) κ k)) (sh_st_binnacleref01_odd_0.build [.int m_1, .int e_1]) = iterG N (st_z01_odd_0 N (fun r0 r1 => κ.ext 0 (sx0_st_binnacleref01_odd_0.build [.int r0, .int r1]))) (m_1, e_1) :=
  iter_tr (fun (v_ : Int × Int) => sh_st_binnacleref01_odd_0.build [.int v_.1, .int v_.2]) (fun v_ K_ => by obtain ⟨m_1, e_1⟩ := v_; kernel_rfl) N (m_1, e_1)
theorem hk1_st_binnacleref01_odd_0 (N : Nat) : HookFor ⟨Pg, ofList [], isref, N⟩ 0 (anQ116 N) (lp Pg 116 0) (sh_st_binnacleref01_odd_0, hk_st_binnacleref01_odd_0 N) := by
  intro a κ h
  simp only at h
  unfold hk_st_binnacleref01_odd_0 at h
  split at h
  · exact (eq_st_binnacleref01_odd_0 _ _ _ _).trans h
  · cases h
theorem ho_binnacleref01_odd_0 (N : Nat) : HookOk ⟨Pg, ofList [], isref, N⟩ 0 (anQ116 N) (lp Pg 116 0) :=
  hooks_ok [(sh_st_binnacleref01_odd_0, hk_st_binnacleref01_odd_0 N)] (by kernel_rfl) ⟨hk1_st_binnacleref01_odd_0 _, trivial⟩
theorem eqQ116 (N : Nat) (m e : Int) (c_ : V -> List Blk -> Bool) : bodyV ⟨Pg, ofList [], isref, N⟩ (anQ116 N) 116 (shFQ116.args [.int m, .int e]) [] c_ = GQ116 N m e (fun r0 r1 => c_ (.tup [.int .u64 r0, .int .i64 r1]) []) := by kernel_rfl
theorem goodQ116 (N : Nat) : GoodF Pg 116 (FQ116 (GQ116 N)) := by
  refine good_fs (cx := ⟨Pg, ofList [], isref, N⟩) (ofList_nil _) shFQ116 (spQ116 (GQ116 N)) (anQ116 N) 1 0 (by kernel_rfl) (fun i_ hi_ => by
    match i_, hi_ with
    | 0, _ => exact ho_binnacleref01_odd_0 _
    | (q + 1), h => omega) ?_
  intro a k h
  unfold spQ116 at h
  split at h
  · exact ⟨[], rfl, rfl, (eqQ116 _ _ _ _).trans h⟩
  · cases h

def anQ112 (N : Nat) (SQ95 : TSQ95) (SQ116 : TSQ116) : Nat -> Option Ann := fun b_ => none
def lsQ156 (d_ : List V) (u_ : List (Option Blk)) (x : Fl) (neg : Bool) (e f : Int) : St := ⟨((dq d_ 0) :: ((dq d_ 1) :: (.ptr 0 0 :: ((dq d_ 2) :: (.bool neg :: (.int .i64 e :: (.int .u64 f :: (dqs d_ 3 28 [])))))))), [some ⟨108, 1, .cells [.bool false, .int .u64 0, .int .i64 0]⟩]⟩
theorem jnQ156 (N : Nat) (SQ95 : TSQ95) (SQ116 : TSQ116) (d_ : List V) (u_ : List (Option Blk)) (x : Fl) (neg : Bool) (e f : Int) (c_ : V -> List Blk -> Bool) : codesV ⟨Pg, ofList [(115, (FQ95 SQ95)), (116, (FQ116 SQ116))], isref, N⟩ 0 (anQ112 N SQ95 SQ116) ((cds Pg 66).drop 6) 0 (lsQ156 d_ u_ x neg e f) (finV Pg 66 0 c_) = JQ156 N SQ95 SQ116 x neg e f (fun r0 r1 r2 r3 => c_ (.tup [.agg [.bool r0, .int .u64 r1, .int .i64 r2], .int .i64 r3]) []) := by kernel_rfl
theorem hd_z01_Parts_w (N : Nat) (SQ95 : TSQ95) (SQ116 : TSQ116) (x : Fl) (c_ : V -> List Blk -> Bool) (κn_ : St -> Bool) : codesV ⟨Pg, ofList [(115, (FQ95 SQ95)), (116, (FQ116 SQ116))], isref, N⟩ 0 (anQ112 N SQ95 SQ116) (sg Pg 66 0 6) 0 (st0 Pg 66 (shFQ112.args [.fl x]) []) { (finV Pg 66 0 c_) with nrm := κn_ } = (SQ95 x (fun cr nr nr_1 => (cond (nr == 2047) (c_ (.tup [.agg [.bool false, .int .u64 0, .int .i64 0], .int .i64 4]) []) (cond (decide (nr > 0)) ((fits .i64 (nr - 1)) && (κn_ (lsQ156 [.flt x, .any, .int .i64 0, .any, .any, .tup [.bool cr, .int .i64 nr, .int .u64 nr_1], .flt x, .tup [.bool cr, .int .i64 nr, .int .u64 nr_1], .bool cr, .int .i64 nr, .int .u64 nr_1, .int .i64 nr, .bool false, .any, .int .i64 nr, .bool true, .int .u64 nr_1, .int .u64 (IntKind.wrap .u64 (nr_1 + 4503599627370496)), .int .i64 nr, .int .i64 (nr - 1), .any, .any, .any, .any, .any, .any, .any, .any, .any, .any, .any] [] x cr (nr - 1) (IntKind.wrap .u64 (nr_1 + 4503599627370496))))) (κn_ (lsQ156 [.flt x, .any, .int .i64 0, .any, .any, .tup [.bool cr, .int .i64 nr, .int .u64 nr_1], .flt x, .tup [.bool cr, .int .i64 nr, .int .u64 nr_1], .bool cr, .int .i64 nr, .int .u64 nr_1, .int .i64 nr, .bool false, .any, .int .i64 nr, .bool false, .any, .any, .any, .any, .any, .any, .any, .any, .any, .any, .any, .any, .any, .any, .any] [] x cr nr nr_1)))))) := by kernel_rfl
theorem jn_z01_Parts_w (N : Nat) (SQ95 : TSQ95) (SQ116 : TSQ116) (x : Fl) (c_ : V -> List Blk -> Bool) : codesV ⟨Pg, ofList [(115, (FQ95 SQ95)), (116, (FQ116 SQ116))], isref, N⟩ 0 (anQ112 N SQ95 SQ116) ((cds Pg 66).drop 0) 0 (st0 Pg 66 (shFQ112.args [.fl x]) []) (finV Pg 66 0 c_) = GQ112 N SQ95 SQ116 x (fun r0 r1 r2 r3 => c_ (.tup [.agg [.bool r0, .int .u64 r1, .int .i64 r2], .int .i64 r3]) []) := by
  rw [codesV_cut 0 6 6 rfl]
  refine (hd_z01_Parts_w N SQ95 SQ116 x c_ _).trans ?_
  simp only [jnQ156]
  kernel_rfl
theorem eqQ112 (N : Nat) (SQ95 : TSQ95) (SQ116 : TSQ116) (x : Fl) (c_ : V -> List Blk -> Bool) : bodyV ⟨Pg, ofList [(115, (FQ95 SQ95)), (116, (FQ116 SQ116))], isref, N⟩ (anQ112 N SQ95 SQ116) 66 (shFQ112.args [.fl x]) [] c_ = GQ112 N SQ95 SQ116 x (fun r0 r1 r2 r3 => c_ (.tup [.agg [.bool r0, .int .u64 r1, .int .i64 r2], .int .i64 r3]) []) :=
  (bodyV_codes (by kernel_rfl)).trans (jn_z01_Parts_w N SQ95 SQ116 x c_)
theorem goodQ112 (N : Nat) (SQ95 : TSQ95) (SQ116 : TSQ116) (hQ95 : GoodF Pg 115 (FQ95 SQ95)) (hQ116 : GoodF Pg 116 (FQ116 SQ116)) : GoodF Pg 66 (FQ112 (GQ112 N SQ95 SQ116)) := by
  refine good_fs (cx := ⟨Pg, ofList [(115, (FQ95 SQ95)), (116, (FQ116 SQ116))], isref, N⟩) (ofList_cons hQ95 (ofList_cons hQ116 (ofList_nil _))) shFQ112 (spQ112 (GQ112 N SQ95 SQ116)) (anQ112 N SQ95 SQ116) 0 0 (by kernel_rfl) (fun i_ hi_ => by omega) ?_
  intro a k h
  unfold spQ112 at h
  split at h
  · exact ⟨[], rfl, rfl, (eqQ112 _ _ _ _ _).trans h⟩
  · cases h

def anQ62 (N : Nat) (SQ94 : TSQ94) (SQ44 : TSQ44) : Nat -> Option Ann := fun b_ => none
theorem eqQ62 (N : Nat) (SQ94 : TSQ94) (SQ44 : TSQ44) (n : Int) (b : Bool) (c_ : V -> List Blk -> Bool) : bodyZ ⟨Pg, ofList [(117, (FQ94 SQ94)), (99, (FQ44 SQ44))], isref, N⟩ (anQ62 N SQ94 SQ44) 67 (shFQ62.args [.int n, .bool b]) [⟨98, 1, .cells [.bool b, .nil]⟩] c_ = GQ62 N SQ94 SQ44 n b (fun r0 r1 => c_ (.ptr 0 0) [⟨98, 1, .cells [.bool r0, .roi .u32 r1]⟩]) := by kernel_rfl
theorem goodQ62 (N : Nat) (SQ94 : TSQ94) (SQ44 : TSQ44) (hQ94 : GoodF Pg 117 (FQ94 SQ94)) (hQ44 : GoodF Pg 99 (FQ44 SQ44)) : GoodF Pg 67 (FQ62 (GQ62 N SQ94 SQ44)) := by
  refine good_fsZ (cx := ⟨Pg, ofList [(117, (FQ94 SQ94)), (99, (FQ44 SQ44))], isref, N⟩) (ofList_cons hQ94 (ofList_cons hQ44 (ofList_nil _))) shFQ62 (spQ62 (GQ62 N SQ94 SQ44)) (anQ62 N SQ94 SQ44) 0 1 (by kernel_rfl) (fun i_ hi_ => by omega) ?_
  intro a k h
  unfold spQ62 at h
  split at h
  · exact ⟨[_], rfl, rfl, (eqQ62 _ _ _ _ _ _).trans h⟩
  · cases h

def anQ90 (N : Nat) (SQ9 : TSQ9) : Nat -> Option Ann := fun b_ => none
theorem eqQ90 (N : Nat) (SQ9 : TSQ9) (neg b : Bool) (b_1 b_2 : List Int) (c_ : V -> List Blk -> Bool) : bodyZ ⟨Pg, ofList [(147, (FQ9 SQ9))], isref, N⟩ (anQ90 N SQ9) 99 (shFQ90.args [.bool neg, .bool b, .ints b_1, .ints b_2]) [⟨98, 1, .cells [.bool b, .roi .u32 b_1]⟩, ⟨87, 1, .ints .u32 b_2⟩] c_ = GQ90 N SQ9 neg b b_1 b_2 (fun r0 r1 r2 => c_ (.ptr 0 0) [⟨98, 1, .cells [.bool r0, .sl 1 r1 r2]⟩, ⟨87, 1, .ints .u32 b_2⟩]) := by kernel_rfl
theorem goodQ90 (N : Nat) (SQ9 : TSQ9) (hQ9 : GoodF Pg 147 (FQ9 SQ9)) : GoodF Pg 99 (FQ90 (GQ90 N SQ9)) := by
  refine good_fsZ (cx := ⟨Pg, ofList [(147, (FQ9 SQ9))], isref, N⟩) (ofList_cons hQ9 (ofList_nil _)) shFQ90 (spQ90 (GQ90 N SQ9)) (anQ90 N SQ9) 0 2 (by kernel_rfl) (fun i_ hi_ => by omega) ?_
  intro a k h
  unfold spQ90 at h
  split at h
  · exact ⟨[_, _], rfl, rfl, (eqQ90 _ _ _ _ _ _ _).trans h⟩
  · cases h

def anQ87 (N : Nat) (SQ90 : TSQ90) : Nat -> Option Ann := fun b_ => none
theorem eqQ87 (N : Nat) (SQ90 : TSQ90) (b : Bool) (b_1 : List Int) (c_ : V -> List Blk -> Bool) : bodyZ ⟨Pg, ofList [(99, (FQ90 SQ90))], isref, N⟩ (anQ87 N SQ90) 55 (shFQ87.args [.bool b, .ints b_1]) [⟨98, 1, .cells [.bool b, .roi .u32 b_1]⟩] c_ = GQ87 N SQ90 b b_1 (fun r0 r1 => c_ (.ptr 0 0) [⟨98, 1, .cells [.bool r0, .roi .u32 r1]⟩]) := by kernel_rfl
theorem goodQ87 (N : Nat) (SQ90 : TSQ90) (hQ90 : GoodF Pg 99 (FQ90 SQ90)) : GoodF Pg 55 (FQ87 (GQ87 N SQ90)) := by
  refine good_fsZ (cx := ⟨Pg, ofList [(99, (FQ90 SQ90))], isref, N⟩) (ofList_cons hQ90 (ofList_nil _)) shFQ87 (spQ87 (GQ87 N SQ90)) (anQ87 N SQ90) 0 1 (by kernel_rfl) (fun i_ hi_ => by omega) ?_
  intro a k h
  unfold spQ87 at h
  split at h
  · exact ⟨[_], rfl, rfl, (eqQ87 _ _ _ _ _).trans h⟩
  · cases h

def anQ135 (N : Nat) (SQ112 : TSQ112) (SQ62 : TSQ62) (SQ87 : TSQ87) : Nat -> Option Ann := fun b_ => none
theorem eqQ135 (N : Nat) (SQ112 : TSQ112) (SQ62 : TSQ62) (SQ87 : TSQ87) (x : Fl) (c_ : V -> List Blk -> Bool) : bodyV ⟨Pg, ofList [(66, (FQ112 SQ112)), (67, (FQ62 SQ62)), (55, (FQ87 SQ87))], isref, N⟩ (anQ135 N SQ112 SQ62 SQ87) 28 (shFQ135.args [.fl x]) [] c_ = GQ135 N SQ112 SQ62 SQ87 x (fun r0 r1 r2 => c_ (.agg [.ptr 0 0, .int .i64 r0]) [⟨98, 1, .cells [.bool r1, .roi .u32 r2]⟩]) := by kernel_rfl
theorem goodQ135 (N : Nat) (SQ112 : TSQ112) (SQ62 : TSQ62) (SQ87 : TSQ87) (hQ112 : GoodF Pg 66 (FQ112 SQ112)) (hQ62 : GoodF Pg 67 (FQ62 SQ62)) (hQ87 : GoodF Pg 55 (FQ87 SQ87)) : GoodF Pg 28 (FQ135 (GQ135 N SQ112 SQ62 SQ87)) := by
  refine good_fs (cx := ⟨Pg, ofList [(66, (FQ112 SQ112)), (67, (FQ62 SQ62)), (55, (FQ87 SQ87))], isref, N⟩) (ofList_cons hQ112 (ofList_cons hQ62 (ofList_cons hQ87 (ofList_nil _)))) shFQ135 (spQ135 (GQ135 N SQ112 SQ62 SQ87)) (anQ135 N SQ112 SQ62 SQ87) 0 0 (by kernel_rfl) (fun i_ hi_ => by omega) ?_
  intro a k h
  unfold spQ135 at h
  split at h
  · exact ⟨[], rfl, rfl, (eqQ135 _ _ _ _ _ _).trans h⟩
  · cases h

def sh_st_binnacleref00_times_2 : StSh := ⟨(.roi .u32 :: (.roi .u32 :: (.any :: (.any :: (.any :: (.slw 0 :: (.int .i64 :: (.int .u64 :: (.int .i64 :: (sqs 59 [])))))))))), [some (87, 1, .ints .u32)]⟩
def sx0_st_binnacleref00_times_2 : StSh := ⟨(.roi .u32 :: (.roi .u32 :: (.any :: (.any :: (.any :: (.slw 0 :: (.int .i64 :: (.int .u64 :: (sqs 60 []))))))))), [some (87, 1, .ints .u32)]⟩
def hk_st_binnacleref00_times_2 (N : Nat) (SQ9 : TSQ9) : List Atom -> K -> Bool := fun a_ κ => match a_ with
  | [.ints a_2, .ints b_2, .int i_1, .int carry, .int k_, .ints out_1] => iterG N (st_z00_times_2 N SQ9 a_2 b_2 i_1 (fun r3 r4 => κ.ext 2 (sx0_st_binnacleref00_times_2.build [.ints a_2, .ints b_2, .int i_1, .int r3, .ints r4]))) (carry, k_, out_1)
  | _ => false
def sh_st_binnacleref00_times_0 : StSh := ⟨(.roi .u32 :: (.roi .u32 :: (.any :: (.any :: (.any :: (.slw 0 :: (.int .i64 :: (sqs 61 [])))))))), [some (87, 1, .ints .u32)]⟩
def sx0_st_binnacleref00_times_0 : StSh := ⟨(sqs 5 (.slw 0 :: (sqs 62 []))), [some (87, 1, .ints .u32)]⟩
def hk_st_binnacleref00_times_0 (N : Nat) (SQ9 : TSQ9) : List Atom -> K -> Bool := fun a_ κ => match a_ with
  | [.ints a_1, .ints b_1, .int i, .ints out] => iterG N (st_z00_times_0 N SQ9 a_1 b_1 (fun r0 => κ.ext 0 (sx0_st_binnacleref00_times_0.build [.ints r0]))) (i, out)
  | _ => false
def anQ111 (N : Nat) (SQ9 : TSQ9) : Nat -> Option Ann := fun b_ => cond (b_ == 2) (some ⟨⟨[0, 1, 5, 6, 7, 8], [], []⟩, [(2, ⟨[0, 1, 5, 6, 7], [], []⟩)], some ⟨[4], [], []⟩, some (mkHooks [(sh_st_binnacleref00_times_2, hk_st_binnacleref00_times_2 N SQ9)])⟩) (cond (b_ == 0) (some ⟨⟨[0, 1, 5, 6], [], []⟩, [(0, ⟨[5], [], []⟩)], some ⟨[4], [], []⟩, some (mkHooks [(sh_st_binnacleref00_times_0, hk_st_binnacleref00_times_0 N SQ9)])⟩) (none))
theorem eq_st_binnacleref00_times_2 (N : Nat) (SQ9 : TSQ9) (κ : K) (a_2 b_2 : List Int) (i_1 carry k_ : Int) (out_1 : List Int) : iter N (fun s k => codeV ⟨Pg, ofList [(147, (FQ9 SQ9))], isref, N⟩ 0 (anQ111 N SQ9) (lp Pg 101 1).2 (lp Pg 101 1).1 s (roundK Pg 0 ((anQ111 N SQ9) (lp Pg 101 1).1) κ k)) (sh_st_binnacleref00_times_2.build [.ints a_2, .ints b_2, .int i_1, .int carry, .int k_, .ints out_1]) = iterG N (st_z00_times_2 N SQ9 a_2 b_2 i_1 (fun r3 r4 => κ.ext 2 (sx0_st_binnacleref00_times_2.build [.ints a_2, .ints b_2, .int i_1, .int r3, .ints r4]))) (carry, k_, out_1) :=
  iter_tr (fun (v_ : Int × Int × List Int) => sh_st_binnacleref00_times_2.build [.ints a_2, .ints b_2, .int i_1, .int v_.1, .int v_.2.1, .ints v_.2.2]) (fun v_ K_ => by obtain ⟨carry, k_, out_1⟩ := v_; kernel_rfl) N (carry, k_, out_1)
theorem hk1_st_binnacleref00_times_2 (N : Nat) (SQ9 : TSQ9) : HookFor ⟨Pg, ofList [(147, (FQ9 SQ9))], isref, N⟩ 0 (anQ111 N SQ9) (lp Pg 101 1) (sh_st_binnacleref00_times_2, hk_st_binnacleref00_times_2 N SQ9) := by
  intro a κ h
  simp only at h
  unfold hk_st_binnacleref00_times_2 at h
  split at h
  · exact (eq_st_binnacleref00_times_2 _ _ _ _ _ _ _ _ _).trans h
  · cases h
theorem eq_st_binnacleref00_times_0 (N : Nat) (SQ9 : TSQ9) (κ : K) (a_1 b_1 : List Int) (i : Int) (out : List Int) : iter N (fun s k => codeV ⟨Pg, ofList [(147, (FQ9 SQ9))], isref, N⟩ 0 (anQ111 N SQ9) (lp Pg 101 0).2 (lp Pg 101 0).1 s (roundK Pg 0 ((anQ111 N SQ9) (lp Pg 101 0).1) κ k)) (sh_st_binnacleref00_times_0.build [.ints a_1, .ints b_1, .int i, .ints out]) = iterG N (st_z00_times_0 N SQ9 a_1 b_1 (fun r0 => κ.ext 0 (sx0_st_binnacleref00_times_0.build [.ints r0]))) (i, out) :=
  iter_tr (fun (v_ : Int × List Int) => sh_st_binnacleref00_times_0.build [.ints a_1, .ints b_1, .int v_.1, .ints v_.2]) (fun v_ K_ => by obtain ⟨i, out⟩ := v_; kernel_rfl) N (i, out)
theorem hk1_st_binnacleref00_times_0 (N : Nat) (SQ9 : TSQ9) : HookFor ⟨Pg, ofList [(147, (FQ9 SQ9))], isref, N⟩ 0 (anQ111 N SQ9) (lp Pg 101 0) (sh_st_binnacleref00_times_0, hk_st_binnacleref00_times_0 N SQ9) := by
  intro a κ h
  simp only at h
  unfold hk_st_binnacleref00_times_0 at h
  split at h
  · exact (eq_st_binnacleref00_times_0 _ _ _ _ _ _ _).trans h
  · cases h
theorem ho_binnacleref00_times_2 (N : Nat) (SQ9 : TSQ9) : HookOk ⟨Pg, ofList [(147, (FQ9 SQ9))], isref, N⟩ 0 (anQ111 N SQ9) (lp Pg 101 1) :=
  hooks_ok [(sh_st_binnacleref00_times_2, hk_st_binnacleref00_times_2 N SQ9)] (by kernel_rfl) ⟨hk1_st_binnacleref00_times_2 _ _, trivial⟩
theorem ho_binnacleref00_times_0 (N : Nat) (SQ9 : TSQ9) : HookOk ⟨Pg, ofList [(147, (FQ9 SQ9))], isref, N⟩ 0 (anQ111 N SQ9) (lp Pg 101 0) :=
  hooks_ok [(sh_st_binnacleref00_times_0, hk_st_binnacleref00_times_0 N SQ9)] (by kernel_rfl) ⟨hk1_st_binnacleref00_times_0 _ _, trivial⟩
theorem eqQ111 (N : Nat) (SQ9 : TSQ9) (a b : List Int) (c_ : V -> List Blk -> Bool) : bodyZ ⟨Pg, ofList [(147, (FQ9 SQ9))], isref, N⟩ (anQ111 N SQ9) 101 (shFQ111.args [.ints a, .ints b]) [] c_ = GQ111 N SQ9 a b (fun r0 => c_ (.roi .u32 r0) []) := by kernel_rfl
theorem goodQ111 (N : Nat) (SQ9 : TSQ9) (hQ9 : GoodF Pg 147 (FQ9 SQ9)) : GoodF Pg 101 (FQ111 (GQ111 N SQ9)) := by
  refine good_fsZ (cx := ⟨Pg, ofList [(147, (FQ9 SQ9))], isref, N⟩) (ofList_cons hQ9 (ofList_nil _)) shFQ111 (spQ111 (GQ111 N SQ9)) (anQ111 N SQ9) 2 0 (by kernel_rfl) (fun i_ hi_ => by
    match i_, hi_ with
    | 0, _ => exact ho_binnacleref00_times_0 _ _
    | 1, _ => exact ho_binnacleref00_times_2 _ _
    | (q + 2), h => omega) ?_
  intro a k h
  unfold spQ111 at h
  split at h
  · exact ⟨[], rfl, rfl, (eqQ111 _ _ _ _ _).trans h⟩
  · cases h

def anQ65 (N : Nat) (SQ111 : TSQ111) (SQ44 : TSQ44) : Nat -> Option Ann := fun b_ => none
theorem eqQ65 (N : Nat) (SQ111 : TSQ111) (SQ44 : TSQ44) (b b_1 : Bool) (b_2 : List Int) (b_3 : Bool) (b_4 : List Int) (c_ : V -> List Blk -> Bool) : bodyZ ⟨Pg, ofList [(101, (FQ111 SQ111)), (99, (FQ44 SQ44))], isref, N⟩ (anQ65 N SQ111 SQ44) 57 (shFQ65.args [.bool b, .bool b_1, .ints b_2, .bool b_3, .ints b_4]) [⟨98, 1, .cells [.bool b, .nil]⟩, ⟨98, 1, .cells [.bool b_1, .roi .u32 b_2]⟩, ⟨98, 1, .cells [.bool b_3, .roi .u32 b_4]⟩] c_ = GQ65 N SQ111 SQ44 b b_1 b_2 b_3 b_4 (fun r0 r1 => c_ (.ptr 0 0) [⟨98, 1, .cells [.bool r0, .roi .u32 r1]⟩, ⟨98, 1, .cells [.bool b_1, .roi .u32 b_2]⟩, ⟨98, 1, .cells [.bool b_3, .roi .u32 b_4]⟩]) := by kernel_rfl
theorem goodQ65 (N : Nat) (SQ111 : TSQ111) (SQ44 : TSQ44) (hQ111 : GoodF Pg 101 (FQ111 SQ111)) (hQ44 : GoodF Pg 99 (FQ44 SQ44)) : GoodF Pg 57 (FQ65 (GQ65 N SQ111 SQ44)) := by
  refine good_fsZ (cx := ⟨Pg, ofList [(101, (FQ111 SQ111)), (99, (FQ44 SQ44))], isref, N⟩) (ofList_cons hQ111 (ofList_cons hQ44 (ofList_nil _))) shFQ65 (spQ65 (GQ65 N SQ111 SQ44)) (anQ65 N SQ111 SQ44) 0 3 (by kernel_rfl) (fun i_ hi_ => by omega) ?_
  intro a k h
  unfold spQ65 at h
  split at h
  · exact ⟨[_, _, _], rfl, rfl, (eqQ65 _ _ _ _ _ _ _ _ _).trans h⟩
  · cases h

def anQ2 (N : Nat) (SQ65 : TSQ65) : Nat -> Option Ann := fun b_ => none
theorem eqQ2 (N : Nat) (SQ65 : TSQ65) (x y : Int) (b : Bool) (b_1 : List Int) (b_2 : Bool) (b_3 : List Int) (c_ : V -> List Blk -> Bool) : bodyV ⟨Pg, ofList [(57, (FQ65 SQ65))], isref, N⟩ (anQ2 N SQ65) 19 (shFQ2.args [.int x, .int y, .bool b, .ints b_1, .bool b_2, .ints b_3]) [⟨98, 1, .cells [.bool b, .roi .u32 b_1]⟩, ⟨98, 1, .cells [.bool b_2, .roi .u32 b_3]⟩] c_ = GQ2 N SQ65 x y b b_1 b_2 b_3 (fun r0 r5 r6 => c_ (.agg [.ptr 2 0, .int .i64 r0]) [⟨98, 1, .cells [.bool b, .roi .u32 b_1]⟩, ⟨98, 1, .cells [.bool b_2, .roi .u32 b_3]⟩, ⟨98, 1, .cells [.bool r5, .roi .u32 r6]⟩]) := by kernel_rfl
theorem goodQ2 (N : Nat) (SQ65 : TSQ65) (hQ65 : GoodF Pg 57 (FQ65 SQ65)) : GoodF Pg 19 (FQ2 (GQ2 N SQ65)) := by
  refine good_fs (cx := ⟨Pg, ofList [(57, (FQ65 SQ65))], isref, N⟩) (ofList_cons hQ65 (ofList_nil _)) shFQ2 (spQ2 (GQ2 N SQ65)) (anQ2 N SQ65) 0 2 (by kernel_rfl) (fun i_ hi_ => by omega) ?_
  intro a k h
  unfold spQ2 at h
  split at h
  · exact ⟨[_, _], rfl, rfl, (eqQ2 _ _ _ _ _ _ _ _ _).trans h⟩
  · cases h

def anQ98 (N : Nat) : Nat -> Option Ann := fun b_ => none
theorem eqQ98 (N : Nat) (b : Bool) (c_ : V -> List Blk -> Bool) : bodyZ ⟨Pg, ofList [], isref, N⟩ (anQ98 N) 52 (shFQ98.args [.bool b]) [⟨98, 1, .cells [.bool b, .nil]⟩] c_ = GQ98 N b (fun r0 r2 => c_ (.int .i64 r0) [⟨98, 1, .cells [.bool b, .roi .u32 r2]⟩]) := by kernel_rfl
theorem goodQ98 (N : Nat) : GoodF Pg 52 (FQ98 (GQ98 N)) := by
  refine good_fsZ (cx := ⟨Pg, ofList [], isref, N⟩) (ofList_nil _) shFQ98 (spQ98 (GQ98 N)) (anQ98 N) 0 1 (by kernel_rfl) (fun i_ hi_ => by omega) ?_
  intro a k h
  unfold spQ98 at h
  split at h
  · exact ⟨[_], rfl, rfl, (eqQ98 _ _ _).trans h⟩
  · cases h

def anQ17 (N : Nat) (SQ98 : TSQ98) (SQ55 : TSQ55) (SQ26 : TSQ26) (SQ39 : TSQ39) : Nat -> Option Ann := fun b_ => none
theorem eqQ17 (N : Nat) (SQ98 : TSQ98) (SQ55 : TSQ55) (SQ26 : TSQ26) (SQ39 : TSQ39) (x y : Int) (b b_1 : Bool) (b_2 : List Int) (c_ : V -> List Blk -> Bool) : bodyV ⟨Pg, ofList [(52, (orFs (FQ98 SQ98) (FQ55 SQ55) shFQ98)), (54, (FQ26 SQ26)), (53, (FQ39 SQ39))], isref, N⟩ (anQ17 N SQ98 SQ55 SQ26 SQ39) 15 (shFQ17.args [.int x, .int y, .bool b, .bool b_1, .ints b_2]) [⟨98, 1, .cells [.bool b, .nil]⟩, ⟨98, 1, .cells [.bool b_1, .roi .u32 b_2]⟩] c_ = GQ17 N SQ98 SQ55 SQ26 SQ39 x y b b_1 b_2 (fun r2 => c_ (.agg [.ptr 1 0, .int .i64 y]) [⟨98, 1, .cells [.bool b, .roi .u32 r2]⟩, ⟨98, 1, .cells [.bool b_1, .roi .u32 b_2]⟩]) (fun r2 => c_ (.agg [.ptr 0 0, .int .i64 x]) [⟨98, 1, .cells [.bool b, .roi .u32 r2]⟩, ⟨98, 1, .cells [.bool b_1, .roi .u32 b_2]⟩]) (fun r0 r2 r5 r6 => c_ (.agg [.ptr 2 0, .int .i64 r0]) [⟨98, 1, .cells [.bool b, .roi .u32 r2]⟩, ⟨98, 1, .cells [.bool b_1, .roi .u32 b_2]⟩, ⟨98, 1, .cells [.bool r5, .roi .u32 r6]⟩]) := by kernel_rfl
theorem goodQ17 (N : Nat) (SQ98 : TSQ98) (SQ55 : TSQ55) (SQ26 : TSQ26) (SQ39 : TSQ39) (hQ98 : GoodF Pg 52 (FQ98 SQ98)) (hQ55 : GoodF Pg 52 (FQ55 SQ55)) (hQ26 : GoodF Pg 54 (FQ26 SQ26)) (hQ39 : GoodF Pg 53 (FQ39 SQ39)) : GoodF Pg 15 (FQ17 (GQ17 N SQ98 SQ55 SQ26 SQ39)) := by
  refine good_fs (cx := ⟨Pg, ofList [(52, (orFs (FQ98 SQ98) (FQ55 SQ55) shFQ98)), (54, (FQ26 SQ26)), (53, (FQ39 SQ39))], isref, N⟩) (ofList_cons (good_or hQ98 hQ55) (ofList_cons hQ26 (ofList_cons hQ39 (ofList_nil _)))) shFQ17 (spQ17 (GQ17 N SQ98 SQ55 SQ26 SQ39)) (anQ17 N SQ98 SQ55 SQ26 SQ39) 0 2 (by kernel_rfl) (fun i_ hi_ => by omega) ?_
  intro a k h
  unfold spQ17 at h
  split at h
  · exact ⟨[_, _], rfl, rfl, (eqQ17 _ _ _ _ _ _ _ _ _ _ _).trans h⟩
  · cases h

def sh_st_binnacleref03_Dot_0 : StSh := ⟨(.rof :: (.rof :: (.any :: (.any :: (.ptr 0 0 :: (.ptr 1 0 :: (.any :: (.any :: (.any :: (.int .i64 :: (.int .i64 :: (sqs 17 [])))))))))))), [some (42, 1, .cells [.val, .int .i64]), some (42, 1, .cells [.ptr 2 0, .int .i64]), some (98, 1, .cells [.bool, .roi .u32])]⟩
def sx0_st_binnacleref03_Dot_0 : StSh := ⟨(sqs 4 (.ptr 0 0 :: (.ptr 1 0 :: (sqs 22 [])))), [some (42, 1, .cells [.val, .int .i64]), some (42, 1, .cells [.ptr 2 0, .int .i64]), some (98, 1, .cells [.bool, .roi .u32])]⟩
def hk_st_binnacleref03_Dot_0 (N : Nat) (SQ105 : TSQ105) (SQ135 : TSQ135) (SQ2 : TSQ2) (SQ17 : TSQ17) (SQ3 : TSQ3) : List Atom -> K -> Bool := fun a_ κ => match a_ with
  | [.fls a_2, .fls b_2, .int t9_1, .int t10_1, .val t4_2, .int t4_3, .int s_1, .bool b2_1, .ints b2_2] => iterG N (st_z03_Dot_0 N SQ105 SQ135 SQ2 SQ17 SQ3 a_2 b_2 t9_1 t4_2 t4_3 (fun r2 r3 r4 => κ.ext 0 (sx0_st_binnacleref03_Dot_0.build [.val t4_2, .int t4_3, .int r2, .bool r3, .ints r4]))) (t10_1, s_1, b2_1, b2_2)
  | _ => false
def anQ137 (N : Nat) (SQ105 : TSQ105) (SQ135 : TSQ135) (SQ2 : TSQ2) (SQ17 : TSQ17) (SQ3 : TSQ3) : Nat -> Option Ann := fun b_ => cond (b_ == 0) (some ⟨⟨[0, 1, 4, 5, 9, 10], [], [(2, 1, some .u32)]⟩, [(0, ⟨[4, 5], [], []⟩)], some ⟨[4], [], []⟩, some (mkHooks [(sh_st_binnacleref03_Dot_0, hk_st_binnacleref03_Dot_0 N SQ105 SQ135 SQ2 SQ17 SQ3)])⟩) (none)
theorem eq_st_binnacleref03_Dot_0 (N : Nat) (SQ105 : TSQ105) (SQ135 : TSQ135) (SQ2 : TSQ2) (SQ17 : TSQ17) (SQ3 : TSQ3) (κ : K) (a_2 b_2 : List Fl) (t9_1 t10_1 : Int) (t4_2 : Value) (t4_3 s_1 : Int) (b2_1 : Bool) (b2_2 : List Int) : iter N (fun s k => codeV ⟨Pg, ofList [(100, (FQ105 SQ105)), (28, (FQ135 SQ135)), (19, (FQ2 SQ2)), (15, (orFs (FQ17 SQ17) (FQ3 SQ3) shFQ17))], isref, N⟩ 0 (anQ137 N SQ105 SQ135 SQ2 SQ17 SQ3) (lp Pg 56 0).2 (lp Pg 56 0).1 s (roundK Pg 0 ((anQ137 N SQ105 SQ135 SQ2 SQ17 SQ3) (lp Pg 56 0).1) κ k)) (sh_st_binnacleref03_Dot_0.build [.fls a_2, .fls b_2, .int t9_1, .int t10_1, .val t4_2, .int t4_3, .int s_1, .bool b2_1, .ints b2_2]) = iterG N (st_z03_Dot_0 N SQ105 SQ135 SQ2 SQ17 SQ3 a_2 b_2 t9_1 t4_2 t4_3 (fun r2 r3 r4 => κ.ext 0 (sx0_st_binnacleref03_Dot_0.build [.val t4_2, .int t4_3, .int r2, .bool r3, .ints r4]))) (t10_1, s_1, b2_1, b2_2) :=
  iter_tr (fun (v_ : Int × Int × Bool × List Int) => sh_st_binnacleref03_Dot_0.build [.fls a_2, .fls b_2, .int t9_1, .int v_.1, .val t4_2, .int t4_3, .int v_.2.1, .bool v_.2.2.1, .ints v_.2.2.2]) (fun v_ K_ => by obtain ⟨t10_1, s_1, b2_1, b2_2⟩ := v_; kernel_rfl) N (t10_1, s_1, b2_1, b2_2)
theorem hk1_st_binnacleref03_Dot_0 (N : Nat) (SQ105 : TSQ105) (SQ135 : TSQ135) (SQ2 : TSQ2) (SQ17 : TSQ17) (SQ3 : TSQ3) : HookFor ⟨Pg, ofList [(100, (FQ105 SQ105)), (28, (FQ135 SQ135)), (19, (FQ2 SQ2)), (15, (orFs (FQ17 SQ17) (FQ3 SQ3) shFQ17))], isref, N⟩ 0 (anQ137 N SQ105 SQ135 SQ2 SQ17 SQ3) (lp Pg 56 0) (sh_st_binnacleref03_Dot_0, hk_st_binnacleref03_Dot_0 N SQ105 SQ135 SQ2 SQ17 SQ3) := by
  intro a κ h
  simp only at h
  unfold hk_st_binnacleref03_Dot_0 at h
  split at h
  · exact (eq_st_binnacleref03_Dot_0 _ _ _ _ _ _ _ _ _ _ _ _ _ _ _ _).trans h
  · cases h
theorem ho_binnacleref03_Dot_0 (N : Nat) (SQ105 : TSQ105) (SQ135 : TSQ135) (SQ2 : TSQ2) (SQ17 : TSQ17) (SQ3 : TSQ3) : HookOk ⟨Pg, ofList [(100, (FQ105 SQ105)), (28, (FQ135 SQ135)), (19, (FQ2 SQ2)), (15, (orFs (FQ17 SQ17) (FQ3 SQ3) shFQ17))], isref, N⟩ 0 (anQ137 N SQ105 SQ135 SQ2 SQ17 SQ3) (lp Pg 56 0) :=
  hooks_ok [(sh_st_binnacleref03_Dot_0, hk_st_binnacleref03_Dot_0 N SQ105 SQ135 SQ2 SQ17 SQ3)] (by kernel_rfl) ⟨hk1_st_binnacleref03_Dot_0 _ _ _ _ _ _, trivial⟩
theorem eqQ137 (N : Nat) (SQ105 : TSQ105) (SQ135 : TSQ135) (SQ2 : TSQ2) (SQ17 : TSQ17) (SQ3 : TSQ3) (a b : List Fl) (c_ : V -> List Blk -> Bool) : bodyV ⟨Pg, ofList [(100, (FQ105 SQ105)), (28, (FQ135 SQ135)), (19, (FQ2 SQ2)), (15, (orFs (FQ17 SQ17) (FQ3 SQ3) shFQ17))], isref, N⟩ (anQ137 N SQ105 SQ135 SQ2 SQ17 SQ3) 56 (shFQ137.args [.fls a, .fls b]) [] c_ = GQ137 N SQ105 SQ135 SQ2 SQ17 SQ3 a b (fun r0 r1 r2 => c_ (.agg [.ptr 0 0, .int .i64 r0]) [⟨98, 1, .cells [.bool r1, .roi .u32 r2]⟩]) := by kernel_rfl
theorem goodQ137 (N : Nat) (SQ105 : TSQ105) (SQ135 : TSQ135) (SQ2 : TSQ2) (SQ17 : TSQ17) (SQ3 : TSQ3) (hQ105 : GoodF Pg 100 (FQ105 SQ105)) (hQ135 : GoodF Pg 28 (FQ135 SQ135)) (hQ2 : GoodF Pg 19 (FQ2 SQ2)) (hQ17 : GoodF Pg 15 (FQ17 SQ17)) (hQ3 : GoodF Pg 15 (FQ3 SQ3)) : GoodF Pg 56 (FQ137 (GQ137 N SQ105 SQ135 SQ2 SQ17 SQ3)) := by
  refine good_fs (cx := ⟨Pg, ofList [(100, (FQ105 SQ105)), (28, (FQ135 SQ135)), (19, (FQ2 SQ2)), (15, (orFs (FQ17 SQ17) (FQ3 SQ3) shFQ17))], isref, N⟩) (ofList_cons hQ105 (ofList_cons hQ135 (ofList_cons hQ2 (ofList_cons (good_or hQ17 hQ3) (ofList_nil _))))) shFQ137 (spQ137 (GQ137 N SQ105 SQ135 SQ2 SQ17 SQ3)) (anQ137 N SQ105 SQ135 SQ2 SQ17 SQ3) 1 0 (by kernel_rfl) (fun i_ hi_ => by
    match i_, hi_ with
    | 0, _ => exact ho_binnacleref03_Dot_0 _ _ _ _ _ _
    | (q + 1), h => omega) ?_
  intro a k h
  unfold spQ137 at h
  split at h
  · exact ⟨[], rfl, rfl, (eqQ137 _ _ _ _ _ _ _ _ _).trans h⟩
  · cases h

def anQ19 (N : Nat) (SQ137 : TSQ137) : Nat -> Option Ann := fun b_ => none
theorem eqQ19 (N : Nat) (SQ137 : TSQ137) (v_0 v_1 v_2 : Fl) (c_ : V -> List Blk -> Bool) : bodyV ⟨Pg, ofList [(56, (FQ137 SQ137))], isref, N⟩ (anQ19 N SQ137) 18 (shFQ19.args [.fl v_0, .fl v_1, .fl v_2]) [] c_ = GQ19 N SQ137 v_0 v_1 v_2 (fun r0 r1 r2 => c_ (.agg [.ptr 0 0, .int .i64 r0]) [⟨98, 1, .cells [.bool r1, .roi .u32 r2]⟩]) := by kernel_rfl
theorem goodQ19 (N : Nat) (SQ137 : TSQ137) (hQ137 : GoodF Pg 56 (FQ137 SQ137)) : GoodF Pg 18 (FQ19 (GQ19 N SQ137)) := by
  refine good_fs (cx := ⟨Pg, ofList [(56, (FQ137 SQ137))], isref, N⟩) (ofList_cons hQ137 (ofList_nil _)) shFQ19 (spQ19 (GQ19 N SQ137)) (anQ19 N SQ137) 0 0 (by kernel_rfl) (fun i_ hi_ => by omega) ?_
  intro a k h
  unfold spQ19 at h
  split at h
  · exact ⟨[], rfl, rfl, (eqQ19 _ _ _ _ _ _).trans h⟩
  · cases h

def anQ16 (N : Nat) (SQ21 : TSQ21) (SQ3 : TSQ3) (SQ55 : TSQ55) : Nat -> Option Ann := fun b_ => none
theorem eqQ16 (N : Nat) (SQ21 : TSQ21) (SQ3 : TSQ3) (SQ55 : TSQ55) (x y : Int) (b : Bool) (b_1 : List Int) (b_2 : Bool) (b_3 : List Int) (c_ : V -> List Blk -> Bool) : bodyV ⟨Pg, ofList [(17, (FQ21 SQ21)), (15, (FQ3 SQ3)), (52, (FQ55 SQ55))], isref, N⟩ (anQ16 N SQ21 SQ3 SQ55) 20 (shFQ16.args [.int x, .int y, .bool b, .ints b_1, .bool b_2, .ints b_3]) [⟨98, 1, .cells [.bool b, .roi .u32 b_1]⟩, ⟨98, 1, .cells [.bool b_2, .roi .u32 b_3]⟩] c_ = GQ16 N SQ21 SQ3 SQ55 x y b b_1 b_2 b_3 (fun r0 => c_ (.int .i64 r0) [⟨98, 1, .cells [.bool b, .roi .u32 b_1]⟩, ⟨98, 1, .cells [.bool b_2, .roi .u32 b_3]⟩]) := by kernel_rfl
theorem goodQ16 (N : Nat) (SQ21 : TSQ21) (SQ3 : TSQ3) (SQ55 : TSQ55) (hQ21 : GoodF Pg 17 (FQ21 SQ21)) (hQ3 : GoodF Pg 15 (FQ3 SQ3)) (hQ55 : GoodF Pg 52 (FQ55 SQ55)) : GoodF Pg 20 (FQ16 (GQ16 N SQ21 SQ3 SQ55)) := by
  refine good_fs (cx := ⟨Pg, ofList [(17, (FQ21 SQ21)), (15, (FQ3 SQ3)), (52, (FQ55 SQ55))], isref, N⟩) (ofList_cons hQ21 (ofList_cons hQ3 (ofList_cons hQ55 (ofList_nil _)))) shFQ16 (spQ16 (GQ16 N SQ21 SQ3 SQ55)) (anQ16 N SQ21 SQ3 SQ55) 0 2 (by kernel_rfl) (fun i_ hi_ => by omega) ?_
  intro a k h
  unfold spQ16 at h
  split at h
  · exact ⟨[_, _], rfl, rfl, (eqQ16 _ _ _ _ _ _ _ _ _ _ _).trans h⟩
  · cases h

end Go.Proofs.YtnfgnjciliapaaaGreatDoor
