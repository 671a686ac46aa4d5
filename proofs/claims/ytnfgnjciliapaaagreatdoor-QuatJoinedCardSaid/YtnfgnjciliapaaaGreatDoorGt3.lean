/-
  THE TIES: each printed meaning is what the program does (written by program).
  Conditions: none.
-/
import Derived.Test.YtnfgnjciliapaaaGreatDoorGs
namespace Go.Proofs.YtnfgnjciliapaaaGreatDoor
open Go Go.Mach Go.Proofs
set_option linter.unusedVariables false
set_option maxRecDepth 50000

def anQ120 (N : Nat) (SQ101 : TSQ101) (SQ123 : TSQ123) : Nat -> Option Ann := fun b_ => none
def lsQ161 (d_ : List V) (u_ : List (Option Blk)) (x : Fl) (neg : Bool) (e f : Int) : St := ⟨((dq d_ 0) :: ((dq d_ 1) :: (.ptr 0 0 :: ((dq d_ 2) :: (.bool neg :: (.int .i64 e :: (.int .u64 f :: (dqs d_ 3 28 [])))))))), [some ⟨108, 1, .cells [.bool false, .int .u64 0, .int .i64 0]⟩]⟩
theorem jnQ161 (N : Nat) (SQ101 : TSQ101) (SQ123 : TSQ123) (d_ : List V) (u_ : List (Option Blk)) (x : Fl) (neg : Bool) (e f : Int) (c_ : V -> List Blk -> Bool) : codesV ⟨Pg, ofList [(115, (FQ101 SQ101)), (116, (FQ123 SQ123))], isref, N⟩ 0 (anQ120 N SQ101 SQ123) ((cds Pg 66).drop 6) 0 (lsQ161 d_ u_ x neg e f) (finV Pg 66 0 c_) = JQ161 N SQ101 SQ123 x neg e f (fun r0 r1 r2 r3 => c_ (.tup [.agg [.bool r0, .int .u64 r1, .int .i64 r2], .int .i64 r3]) []) := by kernel_rfl
theorem hd_z01_Parts_w (N : Nat) (SQ101 : TSQ101) (SQ123 : TSQ123) (x : Fl) (c_ : V -> List Blk -> Bool) (κn_ : St -> Bool) : codesV ⟨Pg, ofList [(115, (FQ101 SQ101)), (116, (FQ123 SQ123))], isref, N⟩ 0 (anQ120 N SQ101 SQ123) (sg Pg 66 0 6) 0 (st0 Pg 66 (shFQ120.args [.fl x]) []) { (finV Pg 66 0 c_) with nrm := κn_ } = (SQ101 x (fun cr nr nr_1 => (cond (nr == 2047) (c_ (.tup [.agg [.bool false, .int .u64 0, .int .i64 0], .int .i64 4]) []) (cond (decide (nr > 0)) ((fits .i64 (nr - 1)) && (κn_ (lsQ161 [.flt x, .any, .int .i64 0, .any, .any, .tup [.bool cr, .int .i64 nr, .int .u64 nr_1], .flt x, .tup [.bool cr, .int .i64 nr, .int .u64 nr_1], .bool cr, .int .i64 nr, .int .u64 nr_1, .int .i64 nr, .bool false, .any, .int .i64 nr, .bool true, .int .u64 nr_1, .int .u64 (IntKind.wrap .u64 (nr_1 + 4503599627370496)), .int .i64 nr, .int .i64 (nr - 1), .any, .any, .any, .any, .any, .any, .any, .any, .any, .any, .any] [] x cr (nr - 1) (IntKind.wrap .u64 (nr_1 + 4503599627370496))))) (κn_ (lsQ161 [.flt x, .any, .int .i64 0, .any, .any, .tup [.bool cr, .int .i64 nr, .int .u64 nr_1], .flt x, .tup [.bool cr, .int .i64 nr, .int .u64 nr_1], .bool cr, .int .i64 nr, .int .u64 nr_1, .int .i64 nr, .bool false, .any, .int .i64 nr, .bool false, .any, .any, .any, .any, .any, .any, .any, .any, .any, .any, .any, .any, .any, .any, .any] [] x cr nr nr_1)))))) := by kernel_rfl
theorem jn_z01_Parts_w (N : Nat) (SQ101 : TSQ101) (SQ123 : TSQ123) (x : Fl) (c_ : V -> List Blk -> Bool) : codesV ⟨Pg, ofList [(115, (FQ101 SQ101)), (116, (FQ123 SQ123))], isref, N⟩ 0 (anQ120 N SQ101 SQ123) ((cds Pg 66).drop 0) 0 (st0 Pg 66 (shFQ120.args [.fl x]) []) (finV Pg 66 0 c_) = GQ120 N SQ101 SQ123 x (fun r0 r1 r2 r3 => c_ (.tup [.agg [.bool r0, .int .u64 r1, .int .i64 r2], .int .i64 r3]) []) := by
  rw [codesV_cut 0 6 6 rfl]
  refine (hd_z01_Parts_w N SQ101 SQ123 x c_ _).trans ?_
  simp only [jnQ161]
  kernel_rfl
theorem eqQ120 (N : Nat) (SQ101 : TSQ101) (SQ123 : TSQ123) (x : Fl) (c_ : V -> List Blk -> Bool) : bodyV ⟨Pg, ofList [(115, (FQ101 SQ101)), (116, (FQ123 SQ123))], isref, N⟩ (anQ120 N SQ101 SQ123) 66 (shFQ120.args [.fl x]) [] c_ = GQ120 N SQ101 SQ123 x (fun r0 r1 r2 r3 => c_ (.tup [.agg [.bool r0, .int .u64 r1, .int .i64 r2], .int .i64 r3]) []) :=
  (bodyV_codes (by kernel_rfl)).trans (jn_z01_Parts_w N SQ101 SQ123 x c_)
theorem goodQ120 (N : Nat) (SQ101 : TSQ101) (SQ123 : TSQ123) (hQ101 : GoodF Pg 115 (FQ101 SQ101)) (hQ123 : GoodF Pg 116 (FQ123 SQ123)) : GoodF Pg 66 (FQ120 (GQ120 N SQ101 SQ123)) := by
  refine good_fs (cx := ⟨Pg, ofList [(115, (FQ101 SQ101)), (116, (FQ123 SQ123))], isref, N⟩) (ofList_cons hQ101 (ofList_cons hQ123 (ofList_nil _))) shFQ120 (spQ120 (GQ120 N SQ101 SQ123)) (anQ120 N SQ101 SQ123) 0 0 (by kernel_rfl) (fun i_ hi_ => by omega) ?_
  intro a k h
  unfold spQ120 at h
  split at h
  · exact ⟨[], rfl, rfl, (eqQ120 _ _ _ _ _).trans h⟩
  · cases h

def sh_st_binnacleref00_cut_w_0 : StSh := ⟨(.sl 0 :: (sqs 20 [])), [some (87, 1, .ints .u32)]⟩
def sx0_st_binnacleref00_cut_w_0 : StSh := ⟨(.sl 0 :: (sqs 20 [])), [some (87, 1, .ints .u32)]⟩
def hk_st_binnacleref00_cut_w_0 (N : Nat) : List Atom -> K -> Bool := fun a_ κ => match a_ with
  | [.nat m_1, .nat m_2, .ints m_3] => iterG N (stQ170 N m_1 m_3 (fun r1 => κ.ext 0 (sx0_st_binnacleref00_cut_w_0.build [.nat m_1, .nat r1, .ints m_3]))) m_2
  | _ => false
def anQ10 (N : Nat) : Nat -> Option Ann := fun b_ => cond (b_ == 0) (some ⟨⟨[0], [(0, some 0, 0)], []⟩, [(0, ⟨[0], [], []⟩)], some ⟨[2], [], []⟩, some (mkHooks [(sh_st_binnacleref00_cut_w_0, hk_st_binnacleref00_cut_w_0 N)])⟩) (none)
theorem eq_st_binnacleref00_cut_w_0 (N : Nat) (κ : K) (m_1 m_2 : Nat) (m_3 : List Int) : iter N (fun s k => codeV ⟨Pg, ofList [], isref, N⟩ 1 (anQ10 N) (lp Pg 147 0).2 (lp Pg 147 0).1 s (roundK Pg 1 ((anQ10 N) (lp Pg 147 0).1) κ k)) (sh_st_binnacleref00_cut_w_0.build [.nat m_1, .nat m_2, .ints m_3]) = iterG N (stQ170 N m_1 m_3 (fun r1 => κ.ext 0 (sx0_st_binnacleref00_cut_w_0.build [.nat m_1, .nat r1, .ints m_3]))) m_2 :=
  iter_tr (fun v_ => sh_st_binnacleref00_cut_w_0.build [.nat m_1, .nat v_, .ints m_3]) (fun v_ K_ => by kernel_rfl) N m_2
theorem hk1_st_binnacleref00_cut_w_0 (N : Nat) : HookFor ⟨Pg, ofList [], isref, N⟩ 1 (anQ10 N) (lp Pg 147 0) (sh_st_binnacleref00_cut_w_0, hk_st_binnacleref00_cut_w_0 N) := by
  intro a κ h
  simp only at h
  unfold hk_st_binnacleref00_cut_w_0 at h
  split at h
  · exact (eq_st_binnacleref00_cut_w_0 _ _ _ _ _).trans h
  · cases h
theorem ho_binnacleref00_cut_w_0 (N : Nat) : HookOk ⟨Pg, ofList [], isref, N⟩ 1 (anQ10 N) (lp Pg 147 0) :=
  hooks_ok [(sh_st_binnacleref00_cut_w_0, hk_st_binnacleref00_cut_w_0 N)] (by kernel_rfl) ⟨hk1_st_binnacleref00_cut_w_0 _, trivial⟩
theorem eqQ10 (N : Nat) (b : List Int) (c_ : V -> List Blk -> Bool) : bodyZ ⟨Pg, ofList [], isref, N⟩ (anQ10 N) 147 (shFQ10.args [.ints b]) [⟨87, 1, .ints .u32 b⟩] c_ = GQ10 N b (fun r0 r1 => c_ (.sl 0 r0 r1) [⟨87, 1, .ints .u32 b⟩]) := by kernel_rfl
theorem goodQ10 (N : Nat) : GoodF Pg 147 (FQ10 (GQ10 N)) := by
  refine good_fsZ (cx := ⟨Pg, ofList [], isref, N⟩) (ofList_nil _) shFQ10 (spQ10 (GQ10 N)) (anQ10 N) 1 1 (by kernel_rfl) (fun i_ hi_ => by
    match i_, hi_ with
    | 0, _ => exact ho_binnacleref00_cut_w_0 _
    | (q + 1), h => omega) ?_
  intro a k h
  unfold spQ10 at h
  split at h
  · exact ⟨[_], rfl, rfl, (eqQ10 _ _ _).trans h⟩
  · cases h

def anQ100 (N : Nat) (SQ10 : TSQ10) : Nat -> Option Ann := fun b_ => none
theorem eqQ100 (N : Nat) (SQ10 : TSQ10) (n : Int) (c_ : V -> List Blk -> Bool) : bodyZ ⟨Pg, ofList [(147, (FQ10 SQ10))], isref, N⟩ (anQ100 N SQ10) 117 (shFQ100.args [.int n]) [] c_ = GQ100 N SQ10 n (fun r0 => c_ (.roi .u32 r0) []) := by kernel_rfl
theorem goodQ100 (N : Nat) (SQ10 : TSQ10) (hQ10 : GoodF Pg 147 (FQ10 SQ10)) : GoodF Pg 117 (FQ100 (GQ100 N SQ10)) := by
  refine good_fsZ (cx := ⟨Pg, ofList [(147, (FQ10 SQ10))], isref, N⟩) (ofList_cons hQ10 (ofList_nil _)) shFQ100 (spQ100 (GQ100 N SQ10)) (anQ100 N SQ10) 0 0 (by kernel_rfl) (fun i_ hi_ => by omega) ?_
  intro a k h
  unfold spQ100 at h
  split at h
  · exact ⟨[], rfl, rfl, (eqQ100 _ _ _ _).trans h⟩
  · cases h

def sh_st_binnacleref00_cut_0 : StSh := ⟨(.roi .u32 :: (sqs 20 [])), []⟩
def sx0_st_binnacleref00_cut_0 : StSh := ⟨(.roi .u32 :: (sqs 20 [])), []⟩
def hk_st_binnacleref00_cut_0 (N : Nat) : List Atom -> K -> Bool := fun a_ κ => match a_ with
  | [.ints m_1] => iterG N (st_z00_cut_0 N (fun r0 => κ.ext 0 (sx0_st_binnacleref00_cut_0.build [.ints r0]))) m_1
  | _ => false
def anQ141 (N : Nat) : Nat -> Option Ann := fun b_ => cond (b_ == 0) (some ⟨⟨[0], [], []⟩, [(0, ⟨[0], [], []⟩)], some ⟨[2], [], []⟩, some (mkHooks [(sh_st_binnacleref00_cut_0, hk_st_binnacleref00_cut_0 N)])⟩) (none)
theorem eq_st_binnacleref00_cut_0 (N : Nat) (κ : K) (m_1 : List Int) : iter N (fun s k => codeV ⟨Pg, ofList [], isref, N⟩ 0 (anQ141 N) (lp Pg 147 0).2 (lp Pg 147 0).1 s (roundK Pg 0 ((anQ141 N) (lp Pg 147 0).1) κ k)) (sh_st_binnacleref00_cut_0.build [.ints m_1]) = iterG N (st_z00_cut_0 N (fun r0 => κ.ext 0 (sx0_st_binnacleref00_cut_0.build [.ints r0]))) m_1 :=
  iter_tr (fun v_ => sh_st_binnacleref00_cut_0.build [.ints v_]) (fun v_ K_ => by kernel_rfl) N m_1
theorem hk1_st_binnacleref00_cut_0 (N : Nat) : HookFor ⟨Pg, ofList [], isref, N⟩ 0 (anQ141 N) (lp Pg 147 0) (sh_st_binnacleref00_cut_0, hk_st_binnacleref00_cut_0 N) := by
  intro a κ h
  simp only at h
  unfold hk_st_binnacleref00_cut_0 at h
  split at h
  · exact (eq_st_binnacleref00_cut_0 _ _ _).trans h
  · cases h
theorem ho_binnacleref00_cut_0 (N : Nat) : HookOk ⟨Pg, ofList [], isref, N⟩ 0 (anQ141 N) (lp Pg 147 0) :=
  hooks_ok [(sh_st_binnacleref00_cut_0, hk_st_binnacleref00_cut_0 N)] (by kernel_rfl) ⟨hk1_st_binnacleref00_cut_0 _, trivial⟩
theorem eqQ141 (N : Nat) (m : List Int) (c_ : V -> List Blk -> Bool) : bodyZ ⟨Pg, ofList [], isref, N⟩ (anQ141 N) 147 (shFQ141.args [.ints m]) [] c_ = GQ141 N m (fun r0 => c_ (.roi .u32 r0) []) := by kernel_rfl
theorem goodQ141 (N : Nat) : GoodF Pg 147 (FQ141 (GQ141 N)) := by
  refine good_fsZ (cx := ⟨Pg, ofList [], isref, N⟩) (ofList_nil _) shFQ141 (spQ141 (GQ141 N)) (anQ141 N) 1 0 (by kernel_rfl) (fun i_ hi_ => by
    match i_, hi_ with
    | 0, _ => exact ho_binnacleref00_cut_0 _
    | (q + 1), h => omega) ?_
  intro a k h
  unfold spQ141 at h
  split at h
  · exact ⟨[], rfl, rfl, (eqQ141 _ _ _).trans h⟩
  · cases h

def anQ37 (N : Nat) (SQ141 : TSQ141) : Nat -> Option Ann := fun b_ => none
theorem eqQ37 (N : Nat) (SQ141 : TSQ141) (neg : Bool) (m : List Int) (b : Bool) (c_ : V -> List Blk -> Bool) : bodyZ ⟨Pg, ofList [(147, (FQ141 SQ141))], isref, N⟩ (anQ37 N SQ141) 99 (shFQ37.args [.bool neg, .ints m, .bool b]) [⟨98, 1, .cells [.bool b, .nil]⟩] c_ = GQ37 N SQ141 neg m b (fun r0 r1 => c_ (.ptr 0 0) [⟨98, 1, .cells [.bool r0, .roi .u32 r1]⟩]) := by kernel_rfl
theorem goodQ37 (N : Nat) (SQ141 : TSQ141) (hQ141 : GoodF Pg 147 (FQ141 SQ141)) : GoodF Pg 99 (FQ37 (GQ37 N SQ141)) := by
  refine good_fsZ (cx := ⟨Pg, ofList [(147, (FQ141 SQ141))], isref, N⟩) (ofList_cons hQ141 (ofList_nil _)) shFQ37 (spQ37 (GQ37 N SQ141)) (anQ37 N SQ141) 0 1 (by kernel_rfl) (fun i_ hi_ => by omega) ?_
  intro a k h
  unfold spQ37 at h
  split at h
  · exact ⟨[_], rfl, rfl, (eqQ37 _ _ _ _ _ _).trans h⟩
  · cases h

def anQ64 (N : Nat) (SQ100 : TSQ100) (SQ37 : TSQ37) : Nat -> Option Ann := fun b_ => none
theorem eqQ64 (N : Nat) (SQ100 : TSQ100) (SQ37 : TSQ37) (n : Int) (b : Bool) (c_ : V -> List Blk -> Bool) : bodyZ ⟨Pg, ofList [(117, (FQ100 SQ100)), (99, (FQ37 SQ37))], isref, N⟩ (anQ64 N SQ100 SQ37) 67 (shFQ64.args [.int n, .bool b]) [⟨98, 1, .cells [.bool b, .nil]⟩] c_ = GQ64 N SQ100 SQ37 n b (fun r0 r1 => c_ (.ptr 0 0) [⟨98, 1, .cells [.bool r0, .roi .u32 r1]⟩]) := by kernel_rfl
theorem goodQ64 (N : Nat) (SQ100 : TSQ100) (SQ37 : TSQ37) (hQ100 : GoodF Pg 117 (FQ100 SQ100)) (hQ37 : GoodF Pg 99 (FQ37 SQ37)) : GoodF Pg 67 (FQ64 (GQ64 N SQ100 SQ37)) := by
  refine good_fsZ (cx := ⟨Pg, ofList [(117, (FQ100 SQ100)), (99, (FQ37 SQ37))], isref, N⟩) (ofList_cons hQ100 (ofList_cons hQ37 (ofList_nil _))) shFQ64 (spQ64 (GQ64 N SQ100 SQ37)) (anQ64 N SQ100 SQ37) 0 1 (by kernel_rfl) (fun i_ hi_ => by omega) ?_
  intro a k h
  unfold spQ64 at h
  split at h
  · exact ⟨[_], rfl, rfl, (eqQ64 _ _ _ _ _ _).trans h⟩
  · cases h

def anQ97 (N : Nat) (SQ10 : TSQ10) : Nat -> Option Ann := fun b_ => none
theorem eqQ97 (N : Nat) (SQ10 : TSQ10) (neg b : Bool) (b_1 b_2 : List Int) (c_ : V -> List Blk -> Bool) : bodyZ ⟨Pg, ofList [(147, (FQ10 SQ10))], isref, N⟩ (anQ97 N SQ10) 99 (shFQ97.args [.bool neg, .bool b, .ints b_1, .ints b_2]) [⟨98, 1, .cells [.bool b, .roi .u32 b_1]⟩, ⟨87, 1, .ints .u32 b_2⟩] c_ = GQ97 N SQ10 neg b b_1 b_2 (fun r0 r1 r2 => c_ (.ptr 0 0) [⟨98, 1, .cells [.bool r0, .sl 1 r1 r2]⟩, ⟨87, 1, .ints .u32 b_2⟩]) := by kernel_rfl
theorem goodQ97 (N : Nat) (SQ10 : TSQ10) (hQ10 : GoodF Pg 147 (FQ10 SQ10)) : GoodF Pg 99 (FQ97 (GQ97 N SQ10)) := by
  refine good_fsZ (cx := ⟨Pg, ofList [(147, (FQ10 SQ10))], isref, N⟩) (ofList_cons hQ10 (ofList_nil _)) shFQ97 (spQ97 (GQ97 N SQ10)) (anQ97 N SQ10) 0 2 (by kernel_rfl) (fun i_ hi_ => by omega) ?_
  intro a k h
  unfold spQ97 at h
  split at h
  · exact ⟨[_, _], rfl, rfl, (eqQ97 _ _ _ _ _ _ _).trans h⟩
  · cases h

def anQ94 (N : Nat) (SQ97 : TSQ97) : Nat -> Option Ann := fun b_ => none
theorem eqQ94 (N : Nat) (SQ97 : TSQ97) (b : Bool) (b_1 : List Int) (c_ : V -> List Blk -> Bool) : bodyZ ⟨Pg, ofList [(99, (FQ97 SQ97))], isref, N⟩ (anQ94 N SQ97) 55 (shFQ94.args [.bool b, .ints b_1]) [⟨98, 1, .cells [.bool b, .roi .u32 b_1]⟩] c_ = GQ94 N SQ97 b b_1 (fun r0 r1 => c_ (.ptr 0 0) [⟨98, 1, .cells [.bool r0, .roi .u32 r1]⟩]) := by kernel_rfl
theorem goodQ94 (N : Nat) (SQ97 : TSQ97) (hQ97 : GoodF Pg 99 (FQ97 SQ97)) : GoodF Pg 55 (FQ94 (GQ94 N SQ97)) := by
  refine good_fsZ (cx := ⟨Pg, ofList [(99, (FQ97 SQ97))], isref, N⟩) (ofList_cons hQ97 (ofList_nil _)) shFQ94 (spQ94 (GQ94 N SQ97)) (anQ94 N SQ97) 0 1 (by kernel_rfl) (fun i_ hi_ => by omega) ?_
  intro a k h
  unfold spQ94 at h
  split at h
  · exact ⟨[_], rfl, rfl, (eqQ94 _ _ _ _ _).trans h⟩
  · cases h

def anQ118 (N : Nat) (SQ120 : TSQ120) (SQ64 : TSQ64) (SQ94 : TSQ94) : Nat -> Option Ann := fun b_ => none
theorem eqQ118 (N : Nat) (SQ120 : TSQ120) (SQ64 : TSQ64) (SQ94 : TSQ94) (x : Fl) (c_ : V -> List Blk -> Bool) : bodyV ⟨Pg, ofList [(66, (FQ120 SQ120)), (67, (FQ64 SQ64)), (55, (FQ94 SQ94))], isref, N⟩ (anQ118 N SQ120 SQ64 SQ94) 28 (shFQ118.args [.fl x]) [] c_ = GQ118 N SQ120 SQ64 SQ94 x (fun r0 r1 r2 => c_ (.agg [.ptr 0 0, .int .i64 r0]) [⟨98, 1, .cells [.bool r1, .roi .u32 r2]⟩]) := by kernel_rfl
theorem goodQ118 (N : Nat) (SQ120 : TSQ120) (SQ64 : TSQ64) (SQ94 : TSQ94) (hQ120 : GoodF Pg 66 (FQ120 SQ120)) (hQ64 : GoodF Pg 67 (FQ64 SQ64)) (hQ94 : GoodF Pg 55 (FQ94 SQ94)) : GoodF Pg 28 (FQ118 (GQ118 N SQ120 SQ64 SQ94)) := by
  refine good_fs (cx := ⟨Pg, ofList [(66, (FQ120 SQ120)), (67, (FQ64 SQ64)), (55, (FQ94 SQ94))], isref, N⟩) (ofList_cons hQ120 (ofList_cons hQ64 (ofList_cons hQ94 (ofList_nil _)))) shFQ118 (spQ118 (GQ118 N SQ120 SQ64 SQ94)) (anQ118 N SQ120 SQ64 SQ94) 0 0 (by kernel_rfl) (fun i_ hi_ => by omega) ?_
  intro a k h
  unfold spQ118 at h
  split at h
  · exact ⟨[], rfl, rfl, (eqQ118 _ _ _ _ _ _).trans h⟩
  · cases h

def sh_st_binnacleref00_times_2 : StSh := ⟨(.roi .u32 :: (.roi .u32 :: (.any :: (.any :: (.any :: (.slw 0 :: (.int .i64 :: (.int .u64 :: (.int .i64 :: (sqs 59 [])))))))))), [some (87, 1, .ints .u32)]⟩
def sx0_st_binnacleref00_times_2 : StSh := ⟨(.roi .u32 :: (.roi .u32 :: (.any :: (.any :: (.any :: (.slw 0 :: (.int .i64 :: (.int .u64 :: (sqs 60 []))))))))), [some (87, 1, .ints .u32)]⟩
def hk_st_binnacleref00_times_2 (N : Nat) (SQ10 : TSQ10) : List Atom -> K -> Bool := fun a_ κ => match a_ with
  | [.ints a_2, .ints b_2, .int i_1, .int carry, .int k_, .ints out_1] => iterG N (st_z00_times_2 N SQ10 a_2 b_2 i_1 (fun r3 r4 => κ.ext 2 (sx0_st_binnacleref00_times_2.build [.ints a_2, .ints b_2, .int i_1, .int r3, .ints r4]))) (carry, k_, out_1)
  | _ => false
def sh_st_binnacleref00_times_0 : StSh := ⟨(.roi .u32 :: (.roi .u32 :: (.any :: (.any :: (.any :: (.slw 0 :: (.int .i64 :: (sqs 61 [])))))))), [some (87, 1, .ints .u32)]⟩
def sx0_st_binnacleref00_times_0 : StSh := ⟨(sqs 5 (.slw 0 :: (sqs 62 []))), [some (87, 1, .ints .u32)]⟩
def hk_st_binnacleref00_times_0 (N : Nat) (SQ10 : TSQ10) : List Atom -> K -> Bool := fun a_ κ => match a_ with
  | [.ints a_1, .ints b_1, .int i, .ints out] => iterG N (st_z00_times_0 N SQ10 a_1 b_1 (fun r0 => κ.ext 0 (sx0_st_binnacleref00_times_0.build [.ints r0]))) (i, out)
  | _ => false
def anQ91 (N : Nat) (SQ10 : TSQ10) : Nat -> Option Ann := fun b_ => cond (b_ == 2) (some ⟨⟨[0, 1, 5, 6, 7, 8], [], []⟩, [(2, ⟨[0, 1, 5, 6, 7], [], []⟩)], some ⟨[4], [], []⟩, some (mkHooks [(sh_st_binnacleref00_times_2, hk_st_binnacleref00_times_2 N SQ10)])⟩) (cond (b_ == 0) (some ⟨⟨[0, 1, 5, 6], [], []⟩, [(0, ⟨[5], [], []⟩)], some ⟨[4], [], []⟩, some (mkHooks [(sh_st_binnacleref00_times_0, hk_st_binnacleref00_times_0 N SQ10)])⟩) (none))
theorem eq_st_binnacleref00_times_2 (N : Nat) (SQ10 : TSQ10) (κ : K) (a_2 b_2 : List Int) (i_1 carry k_ : Int) (out_1 : List Int) : iter N (fun s k => codeV ⟨Pg, ofList [(147, (FQ10 SQ10))], isref, N⟩ 0 (anQ91 N SQ10) (lp Pg 101 1).2 (lp Pg 101 1).1 s (roundK Pg 0 ((anQ91 N SQ10) (lp Pg 101 1).1) κ k)) (sh_st_binnacleref00_times_2.build [.ints a_2, .ints b_2, .int i_1, .int carry, .int k_, .ints out_1]) = iterG N (st_z00_times_2 N SQ10 a_2 b_2 i_1 (fun r3 r4 => κ.ext 2 (sx0_st_binnacleref00_times_2.build [.ints a_2, .ints b_2, .int i_1, .int r3, .ints r4]))) (carry, k_, out_1) :=
  iter_tr (fun (v_ : Int × Int × List Int) => sh_st_binnacleref00_times_2.build [.ints a_2, .ints b_2, .int i_1, .int v_.1, .int v_.2.1, .ints v_.2.2]) (fun v_ K_ => by obtain ⟨carry, k_, out_1⟩ := v_; kernel_rfl) N (carry, k_, out_1)
theorem hk1_st_binnacleref00_times_2 (N : Nat) (SQ10 : TSQ10) : HookFor ⟨Pg, ofList [(147, (FQ10 SQ10))], isref, N⟩ 0 (anQ91 N SQ10) (lp Pg 101 1) (sh_st_binnacleref00_times_2, hk_st_binnacleref00_times_2 N SQ10) := by
  intro a κ h
  simp only at h
  unfold hk_st_binnacleref00_times_2 at h
  split at h
  · exact (eq_st_binnacleref00_times_2 _ _ _ _ _ _ _ _ _).trans h
  · cases h
theorem eq_st_binnacleref00_times_0 (N : Nat) (SQ10 : TSQ10) (κ : K) (a_1 b_1 : List Int) (i : Int) (out : List Int) : iter N (fun s k => codeV ⟨Pg, ofList [(147, (FQ10 SQ10))], isref, N⟩ 0 (anQ91 N SQ10) (lp Pg 101 0).2 (lp Pg 101 0).1 s (roundK Pg 0 ((anQ91 N SQ10) (lp Pg 101 0).1) κ k)) (sh_st_binnacleref00_times_0.build [.ints a_1, .ints b_1, .int i, .ints out]) = iterG N (st_z00_times_0 N SQ10 a_1 b_1 (fun r0 => κ.ext 0 (sx0_st_binnacleref00_times_0.build [.ints r0]))) (i, out) :=
  iter_tr (fun (v_ : Int × List Int) => sh_st_binnacleref00_times_0.build [.ints a_1, .ints b_1, .int v_.1, .ints v_.2]) (fun v_ K_ => by obtain ⟨i, out⟩ := v_; kernel_rfl) N (i, out)
theorem hk1_st_binnacleref00_times_0 (N : Nat) (SQ10 : TSQ10) : HookFor ⟨Pg, ofList [(147, (FQ10 SQ10))], isref, N⟩ 0 (anQ91 N SQ10) (lp Pg 101 0) (sh_st_binnacleref00_times_0, hk_st_binnacleref00_times_0 N SQ10) := by
  intro a κ h
  simp only at h
  unfold hk_st_binnacleref00_times_0 at h
  split at h
  · exact (eq_st_binnacleref00_times_0 _ _ _ _ _ _ _).trans h
  · cases h
theorem ho_binnacleref00_times_2 (N : Nat) (SQ10 : TSQ10) : HookOk ⟨Pg, ofList [(147, (FQ10 SQ10))], isref, N⟩ 0 (anQ91 N SQ10) (lp Pg 101 1) :=
  hooks_ok [(sh_st_binnacleref00_times_2, hk_st_binnacleref00_times_2 N SQ10)] (by kernel_rfl) ⟨hk1_st_binnacleref00_times_2 _ _, trivial⟩
theorem ho_binnacleref00_times_0 (N : Nat) (SQ10 : TSQ10) : HookOk ⟨Pg, ofList [(147, (FQ10 SQ10))], isref, N⟩ 0 (anQ91 N SQ10) (lp Pg 101 0) :=
  hooks_ok [(sh_st_binnacleref00_times_0, hk_st_binnacleref00_times_0 N SQ10)] (by kernel_rfl) ⟨hk1_st_binnacleref00_times_0 _ _, trivial⟩
theorem eqQ91 (N : Nat) (SQ10 : TSQ10) (a b : List Int) (c_ : V -> List Blk -> Bool) : bodyZ ⟨Pg, ofList [(147, (FQ10 SQ10))], isref, N⟩ (anQ91 N SQ10) 101 (shFQ91.args [.ints a, .ints b]) [] c_ = GQ91 N SQ10 a b (fun r0 => c_ (.roi .u32 r0) []) := by kernel_rfl
theorem goodQ91 (N : Nat) (SQ10 : TSQ10) (hQ10 : GoodF Pg 147 (FQ10 SQ10)) : GoodF Pg 101 (FQ91 (GQ91 N SQ10)) := by
  refine good_fsZ (cx := ⟨Pg, ofList [(147, (FQ10 SQ10))], isref, N⟩) (ofList_cons hQ10 (ofList_nil _)) shFQ91 (spQ91 (GQ91 N SQ10)) (anQ91 N SQ10) 2 0 (by kernel_rfl) (fun i_ hi_ => by
    match i_, hi_ with
    | 0, _ => exact ho_binnacleref00_times_0 _ _
    | 1, _ => exact ho_binnacleref00_times_2 _ _
    | (q + 2), h => omega) ?_
  intro a k h
  unfold spQ91 at h
  split at h
  · exact ⟨[], rfl, rfl, (eqQ91 _ _ _ _ _).trans h⟩
  · cases h

def anQ67 (N : Nat) (SQ91 : TSQ91) (SQ37 : TSQ37) : Nat -> Option Ann := fun b_ => none
theorem eqQ67 (N : Nat) (SQ91 : TSQ91) (SQ37 : TSQ37) (b b_1 : Bool) (b_2 : List Int) (b_3 : Bool) (b_4 : List Int) (c_ : V -> List Blk -> Bool) : bodyZ ⟨Pg, ofList [(101, (FQ91 SQ91)), (99, (FQ37 SQ37))], isref, N⟩ (anQ67 N SQ91 SQ37) 57 (shFQ67.args [.bool b, .bool b_1, .ints b_2, .bool b_3, .ints b_4]) [⟨98, 1, .cells [.bool b, .nil]⟩, ⟨98, 1, .cells [.bool b_1, .roi .u32 b_2]⟩, ⟨98, 1, .cells [.bool b_3, .roi .u32 b_4]⟩] c_ = GQ67 N SQ91 SQ37 b b_1 b_2 b_3 b_4 (fun r0 r1 => c_ (.ptr 0 0) [⟨98, 1, .cells [.bool r0, .roi .u32 r1]⟩, ⟨98, 1, .cells [.bool b_1, .roi .u32 b_2]⟩, ⟨98, 1, .cells [.bool b_3, .roi .u32 b_4]⟩]) := by kernel_rfl
theorem goodQ67 (N : Nat) (SQ91 : TSQ91) (SQ37 : TSQ37) (hQ91 : GoodF Pg 101 (FQ91 SQ91)) (hQ37 : GoodF Pg 99 (FQ37 SQ37)) : GoodF Pg 57 (FQ67 (GQ67 N SQ91 SQ37)) := by
  refine good_fsZ (cx := ⟨Pg, ofList [(101, (FQ91 SQ91)), (99, (FQ37 SQ37))], isref, N⟩) (ofList_cons hQ91 (ofList_cons hQ37 (ofList_nil _))) shFQ67 (spQ67 (GQ67 N SQ91 SQ37)) (anQ67 N SQ91 SQ37) 0 3 (by kernel_rfl) (fun i_ hi_ => by omega) ?_
  intro a k h
  unfold spQ67 at h
  split at h
  · exact ⟨[_, _, _], rfl, rfl, (eqQ67 _ _ _ _ _ _ _ _ _).trans h⟩
  · cases h

def anQ2 (N : Nat) (SQ67 : TSQ67) : Nat -> Option Ann := fun b_ => none
theorem eqQ2 (N : Nat) (SQ67 : TSQ67) (x y : Int) (b : Bool) (b_1 : List Int) (b_2 : Bool) (b_3 : List Int) (c_ : V -> List Blk -> Bool) : bodyV ⟨Pg, ofList [(57, (FQ67 SQ67))], isref, N⟩ (anQ2 N SQ67) 19 (shFQ2.args [.int x, .int y, .bool b, .ints b_1, .bool b_2, .ints b_3]) [⟨98, 1, .cells [.bool b, .roi .u32 b_1]⟩, ⟨98, 1, .cells [.bool b_2, .roi .u32 b_3]⟩] c_ = GQ2 N SQ67 x y b b_1 b_2 b_3 (fun r0 r5 r6 => c_ (.agg [.ptr 2 0, .int .i64 r0]) [⟨98, 1, .cells [.bool b, .roi .u32 b_1]⟩, ⟨98, 1, .cells [.bool b_2, .roi .u32 b_3]⟩, ⟨98, 1, .cells [.bool r5, .roi .u32 r6]⟩]) := by kernel_rfl
theorem goodQ2 (N : Nat) (SQ67 : TSQ67) (hQ67 : GoodF Pg 57 (FQ67 SQ67)) : GoodF Pg 19 (FQ2 (GQ2 N SQ67)) := by
  refine good_fs (cx := ⟨Pg, ofList [(57, (FQ67 SQ67))], isref, N⟩) (ofList_cons hQ67 (ofList_nil _)) shFQ2 (spQ2 (GQ2 N SQ67)) (anQ2 N SQ67) 0 2 (by kernel_rfl) (fun i_ hi_ => by omega) ?_
  intro a k h
  unfold spQ2 at h
  split at h
  · exact ⟨[_, _], rfl, rfl, (eqQ2 _ _ _ _ _ _ _ _ _).trans h⟩
  · cases h

def anQ104 (N : Nat) : Nat -> Option Ann := fun b_ => none
theorem eqQ104 (N : Nat) (b : Bool) (c_ : V -> List Blk -> Bool) : bodyZ ⟨Pg, ofList [], isref, N⟩ (anQ104 N) 52 (shFQ104.args [.bool b]) [⟨98, 1, .cells [.bool b, .nil]⟩] c_ = GQ104 N b (fun r0 r2 => c_ (.int .i64 r0) [⟨98, 1, .cells [.bool b, .roi .u32 r2]⟩]) := by kernel_rfl
theorem goodQ104 (N : Nat) : GoodF Pg 52 (FQ104 (GQ104 N)) := by
  refine good_fsZ (cx := ⟨Pg, ofList [], isref, N⟩) (ofList_nil _) shFQ104 (spQ104 (GQ104 N)) (anQ104 N) 0 1 (by kernel_rfl) (fun i_ hi_ => by omega) ?_
  intro a k h
  unfold spQ104 at h
  split at h
  · exact ⟨[_], rfl, rfl, (eqQ104 _ _ _).trans h⟩
  · cases h

def anQ57 (N : Nat) : Nat -> Option Ann := fun b_ => none
theorem eqQ57 (N : Nat) (b : Bool) (b_1 : List Int) (c_ : V -> List Blk -> Bool) : bodyZ ⟨Pg, ofList [], isref, N⟩ (anQ57 N) 52 (shFQ57.args [.bool b, .ints b_1]) [⟨98, 1, .cells [.bool b, .roi .u32 b_1]⟩] c_ = GQ57 N b b_1 (fun r0 => c_ (.int .i64 r0) [⟨98, 1, .cells [.bool b, .roi .u32 b_1]⟩]) := by kernel_rfl
theorem goodQ57 (N : Nat) : GoodF Pg 52 (FQ57 (GQ57 N)) := by
  refine good_fsZ (cx := ⟨Pg, ofList [], isref, N⟩) (ofList_nil _) shFQ57 (spQ57 (GQ57 N)) (anQ57 N) 0 1 (by kernel_rfl) (fun i_ hi_ => by omega) ?_
  intro a k h
  unfold spQ57 at h
  split at h
  · exact ⟨[_], rfl, rfl, (eqQ57 _ _ _ _).trans h⟩
  · cases h

def sh_st_binnacleref00_left_0 : StSh := ⟨(.roi .u32 :: (sqs 4 (.int .i64 :: (.int .u64 :: (.slw 0 :: (.int .i64 :: (sqs 49 []))))))), [some (87, 1, .ints .u32)]⟩
def sx0_st_binnacleref00_left_0 : StSh := ⟨(sqs 7 (.slw 0 :: (sqs 50 []))), [some (87, 1, .ints .u32)]⟩
def hk_st_binnacleref00_left_0 (N : Nat) (SQ10 : TSQ10) : List Atom -> K -> Bool := fun a_ κ => match a_ with
  | [.ints m_1, .int w, .int s, .int i, .ints out] => iterG N (st_z00_left_0 N SQ10 m_1 w s (fun r0 => κ.ext 0 (sx0_st_binnacleref00_left_0.build [.ints r0]))) (i, out)
  | _ => false
def anQ131 (N : Nat) (SQ10 : TSQ10) : Nat -> Option Ann := fun b_ => cond (b_ == 0) (some ⟨⟨[0, 5, 6, 7, 8], [], []⟩, [(0, ⟨[7], [], []⟩)], some ⟨[4], [], []⟩, some (mkHooks [(sh_st_binnacleref00_left_0, hk_st_binnacleref00_left_0 N SQ10)])⟩) (none)
theorem eq_st_binnacleref00_left_0 (N : Nat) (SQ10 : TSQ10) (κ : K) (m_1 : List Int) (w s i : Int) (out : List Int) : iter N (fun s k => codeV ⟨Pg, ofList [(147, (FQ10 SQ10))], isref, N⟩ 0 (anQ131 N SQ10) (lp Pg 146 0).2 (lp Pg 146 0).1 s (roundK Pg 0 ((anQ131 N SQ10) (lp Pg 146 0).1) κ k)) (sh_st_binnacleref00_left_0.build [.ints m_1, .int w, .int s, .int i, .ints out]) = iterG N (st_z00_left_0 N SQ10 m_1 w s (fun r0 => κ.ext 0 (sx0_st_binnacleref00_left_0.build [.ints r0]))) (i, out) :=
  iter_tr (fun (v_ : Int × List Int) => sh_st_binnacleref00_left_0.build [.ints m_1, .int w, .int s, .int v_.1, .ints v_.2]) (fun v_ K_ => by obtain ⟨i, out⟩ := v_; kernel_rfl) N (i, out)
theorem hk1_st_binnacleref00_left_0 (N : Nat) (SQ10 : TSQ10) : HookFor ⟨Pg, ofList [(147, (FQ10 SQ10))], isref, N⟩ 0 (anQ131 N SQ10) (lp Pg 146 0) (sh_st_binnacleref00_left_0, hk_st_binnacleref00_left_0 N SQ10) := by
  intro a κ h
  simp only at h
  unfold hk_st_binnacleref00_left_0 at h
  split at h
  · exact (eq_st_binnacleref00_left_0 _ _ _ _ _ _ _ _).trans h
  · cases h
theorem ho_binnacleref00_left_0 (N : Nat) (SQ10 : TSQ10) : HookOk ⟨Pg, ofList [(147, (FQ10 SQ10))], isref, N⟩ 0 (anQ131 N SQ10) (lp Pg 146 0) :=
  hooks_ok [(sh_st_binnacleref00_left_0, hk_st_binnacleref00_left_0 N SQ10)] (by kernel_rfl) ⟨hk1_st_binnacleref00_left_0 _ _, trivial⟩
theorem eqQ131 (N : Nat) (SQ10 : TSQ10) (m : List Int) (n : Int) (c_ : V -> List Blk -> Bool) : bodyZ ⟨Pg, ofList [(147, (FQ10 SQ10))], isref, N⟩ (anQ131 N SQ10) 146 (shFQ131.args [.ints m, .int n]) [] c_ = GQ131 N SQ10 m n (fun r0 => c_ (.roi .u32 r0) []) := by kernel_rfl
theorem goodQ131 (N : Nat) (SQ10 : TSQ10) (hQ10 : GoodF Pg 147 (FQ10 SQ10)) : GoodF Pg 146 (FQ131 (GQ131 N SQ10)) := by
  refine good_fsZ (cx := ⟨Pg, ofList [(147, (FQ10 SQ10))], isref, N⟩) (ofList_cons hQ10 (ofList_nil _)) shFQ131 (spQ131 (GQ131 N SQ10)) (anQ131 N SQ10) 1 0 (by kernel_rfl) (fun i_ hi_ => by
    match i_, hi_ with
    | 0, _ => exact ho_binnacleref00_left_0 _ _
    | (q + 1), h => omega) ?_
  intro a k h
  unfold spQ131 at h
  split at h
  · exact ⟨[], rfl, rfl, (eqQ131 _ _ _ _ _).trans h⟩
  · cases h

def anQ82 (N : Nat) (SQ131 : TSQ131) (SQ37 : TSQ37) : Nat -> Option Ann := fun b_ => none
theorem eqQ82 (N : Nat) (SQ131 : TSQ131) (SQ37 : TSQ37) (n : Int) (b b_1 : Bool) (b_2 : List Int) (c_ : V -> List Blk -> Bool) : bodyZ ⟨Pg, ofList [(146, (FQ131 SQ131)), (99, (FQ37 SQ37))], isref, N⟩ (anQ82 N SQ131 SQ37) 98 (shFQ82.args [.int n, .bool b, .bool b_1, .ints b_2]) [⟨98, 1, .cells [.bool b, .nil]⟩, ⟨98, 1, .cells [.bool b_1, .roi .u32 b_2]⟩] c_ = GQ82 N SQ131 SQ37 n b b_1 b_2 (fun r0 r1 => c_ (.ptr 0 0) [⟨98, 1, .cells [.bool r0, .roi .u32 r1]⟩, ⟨98, 1, .cells [.bool b_1, .roi .u32 b_2]⟩]) := by kernel_rfl
theorem goodQ82 (N : Nat) (SQ131 : TSQ131) (SQ37 : TSQ37) (hQ131 : GoodF Pg 146 (FQ131 SQ131)) (hQ37 : GoodF Pg 99 (FQ37 SQ37)) : GoodF Pg 98 (FQ82 (GQ82 N SQ131 SQ37)) := by
  refine good_fsZ (cx := ⟨Pg, ofList [(146, (FQ131 SQ131)), (99, (FQ37 SQ37))], isref, N⟩) (ofList_cons hQ131 (ofList_cons hQ37 (ofList_nil _))) shFQ82 (spQ82 (GQ82 N SQ131 SQ37)) (anQ82 N SQ131 SQ37) 0 2 (by kernel_rfl) (fun i_ hi_ => by omega) ?_
  intro a k h
  unfold spQ82 at h
  split at h
  · exact ⟨[_, _], rfl, rfl, (eqQ82 _ _ _ _ _ _ _ _).trans h⟩
  · cases h

def anQ27 (N : Nat) (SQ82 : TSQ82) : Nat -> Option Ann := fun b_ => none
theorem eqQ27 (N : Nat) (SQ82 : TSQ82) (x e : Int) (b : Bool) (b_1 : List Int) (c_ : V -> List Blk -> Bool) : bodyV ⟨Pg, ofList [(98, (FQ82 SQ82))], isref, N⟩ (anQ27 N SQ82) 54 (shFQ27.args [.int x, .int e, .bool b, .ints b_1]) [⟨98, 1, .cells [.bool b, .roi .u32 b_1]⟩] c_ = GQ27 N SQ82 x e b b_1 (c_ (.agg [.ptr 0 0, .int .i64 x]) [⟨98, 1, .cells [.bool b, .roi .u32 b_1]⟩]) (fun r3 r4 => c_ (.agg [.ptr 1 0, .int .i64 e]) [⟨98, 1, .cells [.bool b, .roi .u32 b_1]⟩, ⟨98, 1, .cells [.bool r3, .roi .u32 r4]⟩]) := by kernel_rfl
theorem goodQ27 (N : Nat) (SQ82 : TSQ82) (hQ82 : GoodF Pg 98 (FQ82 SQ82)) : GoodF Pg 54 (FQ27 (GQ27 N SQ82)) := by
  refine good_fs (cx := ⟨Pg, ofList [(98, (FQ82 SQ82))], isref, N⟩) (ofList_cons hQ82 (ofList_nil _)) shFQ27 (spQ27 (GQ27 N SQ82)) (anQ27 N SQ82) 0 1 (by kernel_rfl) (fun i_ hi_ => by omega) ?_
  intro a k h
  unfold spQ27 at h
  split at h
  · exact ⟨[_], rfl, rfl, (eqQ27 _ _ _ _ _ _ _).trans h⟩
  · cases h

def sh_st_binnacleref00_plus_0 : StSh := ⟨(.roi .u32 :: (.roi .u32 :: (sqs 4 (.slw 0 :: (.int .u64 :: (.int .i64 :: (sqs 52 []))))))), [some (87, 1, .ints .u32)]⟩
def sx0_st_binnacleref00_plus_0 : StSh := ⟨(.roi .u32 :: (sqs 5 (.slw 0 :: (.int .u64 :: (sqs 53 []))))), [some (87, 1, .ints .u32)]⟩
def hk_st_binnacleref00_plus_0 (N : Nat) (SQ10 : TSQ10) : List Atom -> K -> Bool := fun a_ κ => match a_ with
  | [.ints a_1, .ints b_1, .int carry, .int i, .ints out] => iterG N (st_z00_plus_0 N SQ10 a_1 b_1 (fun r1 r2 => κ.ext 0 (sx0_st_binnacleref00_plus_0.build [.ints a_1, .int r1, .ints r2]))) (carry, i, out)
  | _ => false
def anQ132 (N : Nat) (SQ10 : TSQ10) : Nat -> Option Ann := fun b_ => cond (b_ == 0) (some ⟨⟨[0, 1, 6, 7, 8], [], []⟩, [(0, ⟨[0, 6, 7], [], []⟩)], some ⟨[4], [], []⟩, some (mkHooks [(sh_st_binnacleref00_plus_0, hk_st_binnacleref00_plus_0 N SQ10)])⟩) (none)
theorem eq_st_binnacleref00_plus_0 (N : Nat) (SQ10 : TSQ10) (κ : K) (a_1 b_1 : List Int) (carry i : Int) (out : List Int) : iter N (fun s k => codeV ⟨Pg, ofList [(147, (FQ10 SQ10))], isref, N⟩ 0 (anQ132 N SQ10) (lp Pg 143 0).2 (lp Pg 143 0).1 s (roundK Pg 0 ((anQ132 N SQ10) (lp Pg 143 0).1) κ k)) (sh_st_binnacleref00_plus_0.build [.ints a_1, .ints b_1, .int carry, .int i, .ints out]) = iterG N (st_z00_plus_0 N SQ10 a_1 b_1 (fun r1 r2 => κ.ext 0 (sx0_st_binnacleref00_plus_0.build [.ints a_1, .int r1, .ints r2]))) (carry, i, out) :=
  iter_tr (fun (v_ : Int × Int × List Int) => sh_st_binnacleref00_plus_0.build [.ints a_1, .ints b_1, .int v_.1, .int v_.2.1, .ints v_.2.2]) (fun v_ K_ => by obtain ⟨carry, i, out⟩ := v_; kernel_rfl) N (carry, i, out)
theorem hk1_st_binnacleref00_plus_0 (N : Nat) (SQ10 : TSQ10) : HookFor ⟨Pg, ofList [(147, (FQ10 SQ10))], isref, N⟩ 0 (anQ132 N SQ10) (lp Pg 143 0) (sh_st_binnacleref00_plus_0, hk_st_binnacleref00_plus_0 N SQ10) := by
  intro a κ h
  simp only at h
  unfold hk_st_binnacleref00_plus_0 at h
  split at h
  · exact (eq_st_binnacleref00_plus_0 _ _ _ _ _ _ _ _).trans h
  · cases h
theorem ho_binnacleref00_plus_0 (N : Nat) (SQ10 : TSQ10) : HookOk ⟨Pg, ofList [(147, (FQ10 SQ10))], isref, N⟩ 0 (anQ132 N SQ10) (lp Pg 143 0) :=
  hooks_ok [(sh_st_binnacleref00_plus_0, hk_st_binnacleref00_plus_0 N SQ10)] (by kernel_rfl) ⟨hk1_st_binnacleref00_plus_0 _ _, trivial⟩
theorem eqQ132 (N : Nat) (SQ10 : TSQ10) (a b : List Int) (c_ : V -> List Blk -> Bool) : bodyZ ⟨Pg, ofList [(147, (FQ10 SQ10))], isref, N⟩ (anQ132 N SQ10) 143 (shFQ132.args [.ints a, .ints b]) [] c_ = GQ132 N SQ10 a b (fun r0 => c_ (.roi .u32 r0) []) := by kernel_rfl
theorem goodQ132 (N : Nat) (SQ10 : TSQ10) (hQ10 : GoodF Pg 147 (FQ10 SQ10)) : GoodF Pg 143 (FQ132 (GQ132 N SQ10)) := by
  refine good_fsZ (cx := ⟨Pg, ofList [(147, (FQ10 SQ10))], isref, N⟩) (ofList_cons hQ10 (ofList_nil _)) shFQ132 (spQ132 (GQ132 N SQ10)) (anQ132 N SQ10) 1 0 (by kernel_rfl) (fun i_ hi_ => by
    match i_, hi_ with
    | 0, _ => exact ho_binnacleref00_plus_0 _ _
    | (q + 1), h => omega) ?_
  intro a k h
  unfold spQ132 at h
  split at h
  · exact ⟨[], rfl, rfl, (eqQ132 _ _ _ _ _).trans h⟩
  · cases h

def sh_st_binnacleref00_compare_0 : StSh := ⟨(.roi .u32 :: (.roi .u32 :: (.any :: (.any :: (.any :: (.int .i64 :: (sqs 35 []))))))), []⟩
def sx0_st_binnacleref00_compare_0 : StSh := ⟨(sqs 4 (.int .i64 :: (sqs 36 []))), []⟩
def sx1_st_binnacleref00_compare_0 : StSh := ⟨(sqs 41 []), []⟩
def hk_st_binnacleref00_compare_0 (N : Nat) : List Atom -> K -> Bool := fun a_ κ => match a_ with
  | [.ints a_1, .ints b_1, .int i] => iterG N (stQ163 N a_1 b_1 (fun r0 => κ.ret (sx0_st_binnacleref00_compare_0.build [.int r0])) (κ.ext 0 (sx1_st_binnacleref00_compare_0.build []))) i
  | _ => false
def anQ99 (N : Nat) : Nat -> Option Ann := fun b_ => cond (b_ == 0) (some ⟨⟨[0, 1, 5], [], []⟩, [(0, ⟨[], [], []⟩)], some ⟨[4], [], []⟩, some (mkHooks [(sh_st_binnacleref00_compare_0, hk_st_binnacleref00_compare_0 N)])⟩) (none)
theorem eq_st_binnacleref00_compare_0 (N : Nat) (κ : K) (a_1 b_1 : List Int) (i : Int) : iter N (fun s k => codeV ⟨Pg, ofList [], isref, N⟩ 0 (anQ99 N) (lp Pg 144 0).2 (lp Pg 144 0).1 s (roundK Pg 0 ((anQ99 N) (lp Pg 144 0).1) κ k)) (sh_st_binnacleref00_compare_0.build [.ints a_1, .ints b_1, .int i]) = iterG N (stQ163 N a_1 b_1 (fun r0 => κ.ret (sx0_st_binnacleref00_compare_0.build [.int r0])) (κ.ext 0 (sx1_st_binnacleref00_compare_0.build []))) i :=
  iter_tr (fun v_ => sh_st_binnacleref00_compare_0.build [.ints a_1, .ints b_1, .int v_]) (fun v_ K_ => by kernel_rfl) N i
theorem hk1_st_binnacleref00_compare_0 (N : Nat) : HookFor ⟨Pg, ofList [], isref, N⟩ 0 (anQ99 N) (lp Pg 144 0) (sh_st_binnacleref00_compare_0, hk_st_binnacleref00_compare_0 N) := by
  intro a κ h
  simp only at h
  unfold hk_st_binnacleref00_compare_0 at h
  split at h
  · exact (eq_st_binnacleref00_compare_0 _ _ _ _ _).trans h
  · cases h
theorem ho_binnacleref00_compare_0 (N : Nat) : HookOk ⟨Pg, ofList [], isref, N⟩ 0 (anQ99 N) (lp Pg 144 0) :=
  hooks_ok [(sh_st_binnacleref00_compare_0, hk_st_binnacleref00_compare_0 N)] (by kernel_rfl) ⟨hk1_st_binnacleref00_compare_0 _, trivial⟩
theorem eqQ99 (N : Nat) (a b : List Int) (c_ : V -> List Blk -> Bool) : bodyZ ⟨Pg, ofList [], isref, N⟩ (anQ99 N) 144 (shFQ99.args [.ints a, .ints b]) [] c_ = GQ99 N a b (fun r0 => c_ (.int .i64 r0) []) := by kernel_rfl
theorem goodQ99 (N : Nat) : GoodF Pg 144 (FQ99 (GQ99 N)) := by
  refine good_fsZ (cx := ⟨Pg, ofList [], isref, N⟩) (ofList_nil _) shFQ99 (spQ99 (GQ99 N)) (anQ99 N) 1 0 (by kernel_rfl) (fun i_ hi_ => by
    match i_, hi_ with
    | 0, _ => exact ho_binnacleref00_compare_0 _
    | (q + 1), h => omega) ?_
  intro a k h
  unfold spQ99 at h
  split at h
  · exact ⟨[], rfl, rfl, (eqQ99 _ _ _ _).trans h⟩
  · cases h

def sh_st_binnacleref00_minus_0 : StSh := ⟨(.roi .u32 :: (.roi .u32 :: (.any :: (.any :: (.any :: (.slw 0 :: (.int .u64 :: (.int .i64 :: (sqs 48 []))))))))), [some (87, 1, .ints .u32)]⟩
def sx0_st_binnacleref00_minus_0 : StSh := ⟨(sqs 5 (.slw 0 :: (sqs 50 []))), [some (87, 1, .ints .u32)]⟩
def hk_st_binnacleref00_minus_0 (N : Nat) (SQ10 : TSQ10) : List Atom -> K -> Bool := fun a_ κ => match a_ with
  | [.ints a_1, .ints b_1, .int borrow, .int i, .ints out] => iterG N (st_z00_minus_0 N SQ10 a_1 b_1 (fun r0 => κ.ext 0 (sx0_st_binnacleref00_minus_0.build [.ints r0]))) (borrow, i, out)
  | _ => false
def anQ121 (N : Nat) (SQ10 : TSQ10) : Nat -> Option Ann := fun b_ => cond (b_ == 0) (some ⟨⟨[0, 1, 5, 6, 7], [], []⟩, [(0, ⟨[5], [], []⟩)], some ⟨[4], [], []⟩, some (mkHooks [(sh_st_binnacleref00_minus_0, hk_st_binnacleref00_minus_0 N SQ10)])⟩) (none)
theorem eq_st_binnacleref00_minus_0 (N : Nat) (SQ10 : TSQ10) (κ : K) (a_1 b_1 : List Int) (borrow i : Int) (out : List Int) : iter N (fun s k => codeV ⟨Pg, ofList [(147, (FQ10 SQ10))], isref, N⟩ 0 (anQ121 N SQ10) (lp Pg 145 0).2 (lp Pg 145 0).1 s (roundK Pg 0 ((anQ121 N SQ10) (lp Pg 145 0).1) κ k)) (sh_st_binnacleref00_minus_0.build [.ints a_1, .ints b_1, .int borrow, .int i, .ints out]) = iterG N (st_z00_minus_0 N SQ10 a_1 b_1 (fun r0 => κ.ext 0 (sx0_st_binnacleref00_minus_0.build [.ints r0]))) (borrow, i, out) :=
  iter_tr (fun (v_ : Int × Int × List Int) => sh_st_binnacleref00_minus_0.build [.ints a_1, .ints b_1, .int v_.1, .int v_.2.1, .ints v_.2.2]) (fun v_ K_ => by obtain ⟨borrow, i, out⟩ := v_; kernel_rfl) N (borrow, i, out)
theorem hk1_st_binnacleref00_minus_0 (N : Nat) (SQ10 : TSQ10) : HookFor ⟨Pg, ofList [(147, (FQ10 SQ10))], isref, N⟩ 0 (anQ121 N SQ10) (lp Pg 145 0) (sh_st_binnacleref00_minus_0, hk_st_binnacleref00_minus_0 N SQ10) := by
  intro a κ h
  simp only at h
  unfold hk_st_binnacleref00_minus_0 at h
  split at h
  · exact (eq_st_binnacleref00_minus_0 _ _ _ _ _ _ _ _).trans h
  · cases h
theorem ho_binnacleref00_minus_0 (N : Nat) (SQ10 : TSQ10) : HookOk ⟨Pg, ofList [(147, (FQ10 SQ10))], isref, N⟩ 0 (anQ121 N SQ10) (lp Pg 145 0) :=
  hooks_ok [(sh_st_binnacleref00_minus_0, hk_st_binnacleref00_minus_0 N SQ10)] (by kernel_rfl) ⟨hk1_st_binnacleref00_minus_0 _ _, trivial⟩
theorem eqQ121 (N : Nat) (SQ10 : TSQ10) (a b : List Int) (c_ : V -> List Blk -> Bool) : bodyZ ⟨Pg, ofList [(147, (FQ10 SQ10))], isref, N⟩ (anQ121 N SQ10) 145 (shFQ121.args [.ints a, .ints b]) [] c_ = GQ121 N SQ10 a b (fun r0 => c_ (.roi .u32 r0) []) := by kernel_rfl
theorem goodQ121 (N : Nat) (SQ10 : TSQ10) (hQ10 : GoodF Pg 147 (FQ10 SQ10)) : GoodF Pg 145 (FQ121 (GQ121 N SQ10)) := by
  refine good_fsZ (cx := ⟨Pg, ofList [(147, (FQ10 SQ10))], isref, N⟩) (ofList_cons hQ10 (ofList_nil _)) shFQ121 (spQ121 (GQ121 N SQ10)) (anQ121 N SQ10) 1 0 (by kernel_rfl) (fun i_ hi_ => by
    match i_, hi_ with
    | 0, _ => exact ho_binnacleref00_minus_0 _ _
    | (q + 1), h => omega) ?_
  intro a k h
  unfold spQ121 at h
  split at h
  · exact ⟨[], rfl, rfl, (eqQ121 _ _ _ _ _).trans h⟩
  · cases h

def anQ68 (N : Nat) (SQ132 : TSQ132) (SQ37 : TSQ37) (SQ99 : TSQ99) (SQ121 : TSQ121) : Nat -> Option Ann := fun b_ => none
theorem eqQ68 (N : Nat) (SQ132 : TSQ132) (SQ37 : TSQ37) (SQ99 : TSQ99) (SQ121 : TSQ121) (turn b b_1 : Bool) (b_2 : List Int) (b_3 : Bool) (b_4 : List Int) (c_ : V -> List Blk -> Bool) : bodyZ ⟨Pg, ofList [(143, (FQ132 SQ132)), (99, (FQ37 SQ37)), (144, (FQ99 SQ99)), (145, (FQ121 SQ121))], isref, N⟩ (anQ68 N SQ132 SQ37 SQ99 SQ121) 97 (shFQ68.args [.bool turn, .bool b, .bool b_1, .ints b_2, .bool b_3, .ints b_4]) [⟨98, 1, .cells [.bool b, .nil]⟩, ⟨98, 1, .cells [.bool b_1, .roi .u32 b_2]⟩, ⟨98, 1, .cells [.bool b_3, .roi .u32 b_4]⟩] c_ = GQ68 N SQ132 SQ37 SQ99 SQ121 turn b b_1 b_2 b_3 b_4 (fun r0 r1 => c_ (.ptr 0 0) [⟨98, 1, .cells [.bool r0, .roi .u32 r1]⟩, ⟨98, 1, .cells [.bool b_1, .roi .u32 b_2]⟩, ⟨98, 1, .cells [.bool b_3, .roi .u32 b_4]⟩]) := by kernel_rfl
theorem goodQ68 (N : Nat) (SQ132 : TSQ132) (SQ37 : TSQ37) (SQ99 : TSQ99) (SQ121 : TSQ121) (hQ132 : GoodF Pg 143 (FQ132 SQ132)) (hQ37 : GoodF Pg 99 (FQ37 SQ37)) (hQ99 : GoodF Pg 144 (FQ99 SQ99)) (hQ121 : GoodF Pg 145 (FQ121 SQ121)) : GoodF Pg 97 (FQ68 (GQ68 N SQ132 SQ37 SQ99 SQ121)) := by
  refine good_fsZ (cx := ⟨Pg, ofList [(143, (FQ132 SQ132)), (99, (FQ37 SQ37)), (144, (FQ99 SQ99)), (145, (FQ121 SQ121))], isref, N⟩) (ofList_cons hQ132 (ofList_cons hQ37 (ofList_cons hQ99 (ofList_cons hQ121 (ofList_nil _))))) shFQ68 (spQ68 (GQ68 N SQ132 SQ37 SQ99 SQ121)) (anQ68 N SQ132 SQ37 SQ99 SQ121) 0 3 (by kernel_rfl) (fun i_ hi_ => by omega) ?_
  intro a k h
  unfold spQ68 at h
  split at h
  · exact ⟨[_, _, _], rfl, rfl, (eqQ68 _ _ _ _ _ _ _ _ _ _ _ _).trans h⟩
  · cases h

def anQ44 (N : Nat) (SQ68 : TSQ68) : Nat -> Option Ann := fun b_ => none
theorem eqQ44 (N : Nat) (SQ68 : TSQ68) (b b_1 : Bool) (b_2 : List Int) (b_3 : Bool) (b_4 : List Int) (c_ : V -> List Blk -> Bool) : bodyZ ⟨Pg, ofList [(97, (FQ68 SQ68))], isref, N⟩ (anQ44 N SQ68) 53 (shFQ44.args [.bool b, .bool b_1, .ints b_2, .bool b_3, .ints b_4]) [⟨98, 1, .cells [.bool b, .nil]⟩, ⟨98, 1, .cells [.bool b_1, .roi .u32 b_2]⟩, ⟨98, 1, .cells [.bool b_3, .roi .u32 b_4]⟩] c_ = GQ44 N SQ68 b b_1 b_2 b_3 b_4 (fun r0 r1 => c_ (.ptr 0 0) [⟨98, 1, .cells [.bool r0, .roi .u32 r1]⟩, ⟨98, 1, .cells [.bool b_1, .roi .u32 b_2]⟩, ⟨98, 1, .cells [.bool b_3, .roi .u32 b_4]⟩]) := by kernel_rfl
theorem goodQ44 (N : Nat) (SQ68 : TSQ68) (hQ68 : GoodF Pg 97 (FQ68 SQ68)) : GoodF Pg 53 (FQ44 (GQ44 N SQ68)) := by
  refine good_fsZ (cx := ⟨Pg, ofList [(97, (FQ68 SQ68))], isref, N⟩) (ofList_cons hQ68 (ofList_nil _)) shFQ44 (spQ44 (GQ44 N SQ68)) (anQ44 N SQ68) 0 3 (by kernel_rfl) (fun i_ hi_ => by omega) ?_
  intro a k h
  unfold spQ44 at h
  split at h
  · exact ⟨[_, _, _], rfl, rfl, (eqQ44 _ _ _ _ _ _ _ _).trans h⟩
  · cases h

def anQ18 (N : Nat) (SQ104 : TSQ104) (SQ57 : TSQ57) (SQ27 : TSQ27) (SQ44 : TSQ44) : Nat -> Option Ann := fun b_ => none
theorem eqQ18 (N : Nat) (SQ104 : TSQ104) (SQ57 : TSQ57) (SQ27 : TSQ27) (SQ44 : TSQ44) (x y : Int) (b b_1 : Bool) (b_2 : List Int) (c_ : V -> List Blk -> Bool) : bodyV ⟨Pg, ofList [(52, (orFs (FQ104 SQ104) (FQ57 SQ57) shFQ104)), (54, (FQ27 SQ27)), (53, (FQ44 SQ44))], isref, N⟩ (anQ18 N SQ104 SQ57 SQ27 SQ44) 15 (shFQ18.args [.int x, .int y, .bool b, .bool b_1, .ints b_2]) [⟨98, 1, .cells [.bool b, .nil]⟩, ⟨98, 1, .cells [.bool b_1, .roi .u32 b_2]⟩] c_ = GQ18 N SQ104 SQ57 SQ27 SQ44 x y b b_1 b_2 (fun r2 => c_ (.agg [.ptr 1 0, .int .i64 y]) [⟨98, 1, .cells [.bool b, .roi .u32 r2]⟩, ⟨98, 1, .cells [.bool b_1, .roi .u32 b_2]⟩]) (fun r2 => c_ (.agg [.ptr 0 0, .int .i64 x]) [⟨98, 1, .cells [.bool b, .roi .u32 r2]⟩, ⟨98, 1, .cells [.bool b_1, .roi .u32 b_2]⟩]) (fun r0 r2 r5 r6 => c_ (.agg [.ptr 2 0, .int .i64 r0]) [⟨98, 1, .cells [.bool b, .roi .u32 r2]⟩, ⟨98, 1, .cells [.bool b_1, .roi .u32 b_2]⟩, ⟨98, 1, .cells [.bool r5, .roi .u32 r6]⟩]) := by kernel_rfl
theorem goodQ18 (N : Nat) (SQ104 : TSQ104) (SQ57 : TSQ57) (SQ27 : TSQ27) (SQ44 : TSQ44) (hQ104 : GoodF Pg 52 (FQ104 SQ104)) (hQ57 : GoodF Pg 52 (FQ57 SQ57)) (hQ27 : GoodF Pg 54 (FQ27 SQ27)) (hQ44 : GoodF Pg 53 (FQ44 SQ44)) : GoodF Pg 15 (FQ18 (GQ18 N SQ104 SQ57 SQ27 SQ44)) := by
  refine good_fs (cx := ⟨Pg, ofList [(52, (orFs (FQ104 SQ104) (FQ57 SQ57) shFQ104)), (54, (FQ27 SQ27)), (53, (FQ44 SQ44))], isref, N⟩) (ofList_cons (good_or hQ104 hQ57) (ofList_cons hQ27 (ofList_cons hQ44 (ofList_nil _)))) shFQ18 (spQ18 (GQ18 N SQ104 SQ57 SQ27 SQ44)) (anQ18 N SQ104 SQ57 SQ27 SQ44) 0 2 (by kernel_rfl) (fun i_ hi_ => by omega) ?_
  intro a k h
  unfold spQ18 at h
  split at h
  · exact ⟨[_, _], rfl, rfl, (eqQ18 _ _ _ _ _ _ _ _ _ _ _).trans h⟩
  · cases h

def anQ3 (N : Nat) (SQ57 : TSQ57) (SQ27 : TSQ27) (SQ44 : TSQ44) : Nat -> Option Ann := fun b_ => none
theorem eqQ3 (N : Nat) (SQ57 : TSQ57) (SQ27 : TSQ27) (SQ44 : TSQ44) (x y : Int) (b : Bool) (b_1 : List Int) (b_2 : Bool) (b_3 : List Int) (c_ : V -> List Blk -> Bool) : bodyV ⟨Pg, ofList [(52, (FQ57 SQ57)), (54, (FQ27 SQ27)), (53, (FQ44 SQ44))], isref, N⟩ (anQ3 N SQ57 SQ27 SQ44) 15 (shFQ3.args [.int x, .int y, .bool b, .ints b_1, .bool b_2, .ints b_3]) [⟨98, 1, .cells [.bool b, .roi .u32 b_1]⟩, ⟨98, 1, .cells [.bool b_2, .roi .u32 b_3]⟩] c_ = GQ3 N SQ57 SQ27 SQ44 x y b b_1 b_2 b_3 (c_ (.agg [.ptr 1 0, .int .i64 y]) [⟨98, 1, .cells [.bool b, .roi .u32 b_1]⟩, ⟨98, 1, .cells [.bool b_2, .roi .u32 b_3]⟩]) (c_ (.agg [.ptr 0 0, .int .i64 x]) [⟨98, 1, .cells [.bool b, .roi .u32 b_1]⟩, ⟨98, 1, .cells [.bool b_2, .roi .u32 b_3]⟩]) (fun r0 r5 r6 => c_ (.agg [.ptr 2 0, .int .i64 r0]) [⟨98, 1, .cells [.bool b, .roi .u32 b_1]⟩, ⟨98, 1, .cells [.bool b_2, .roi .u32 b_3]⟩, ⟨98, 1, .cells [.bool r5, .roi .u32 r6]⟩]) := by kernel_rfl
theorem goodQ3 (N : Nat) (SQ57 : TSQ57) (SQ27 : TSQ27) (SQ44 : TSQ44) (hQ57 : GoodF Pg 52 (FQ57 SQ57)) (hQ27 : GoodF Pg 54 (FQ27 SQ27)) (hQ44 : GoodF Pg 53 (FQ44 SQ44)) : GoodF Pg 15 (FQ3 (GQ3 N SQ57 SQ27 SQ44)) := by
  refine good_fs (cx := ⟨Pg, ofList [(52, (FQ57 SQ57)), (54, (FQ27 SQ27)), (53, (FQ44 SQ44))], isref, N⟩) (ofList_cons hQ57 (ofList_cons hQ27 (ofList_cons hQ44 (ofList_nil _)))) shFQ3 (spQ3 (GQ3 N SQ57 SQ27 SQ44)) (anQ3 N SQ57 SQ27 SQ44) 0 2 (by kernel_rfl) (fun i_ hi_ => by omega) ?_
  intro a k h
  unfold spQ3 at h
  split at h
  · exact ⟨[_, _], rfl, rfl, (eqQ3 _ _ _ _ _ _ _ _ _ _ _).trans h⟩
  · cases h

def sh_st_binnacleref03_Dot_0 : StSh := ⟨(.rof :: (.rof :: (.any :: (.any :: (.ptr 0 0 :: (.ptr 1 0 :: (.any :: (.any :: (.any :: (.int .i64 :: (.int .i64 :: (sqs 17 [])))))))))))), [some (42, 1, .cells [.val, .int .i64]), some (42, 1, .cells [.ptr 2 0, .int .i64]), some (98, 1, .cells [.bool, .roi .u32])]⟩
def sx0_st_binnacleref03_Dot_0 : StSh := ⟨(sqs 4 (.ptr 0 0 :: (.ptr 1 0 :: (sqs 22 [])))), [some (42, 1, .cells [.val, .int .i64]), some (42, 1, .cells [.ptr 2 0, .int .i64]), some (98, 1, .cells [.bool, .roi .u32])]⟩
def hk_st_binnacleref03_Dot_0 (N : Nat) (SQ113 : TSQ113) (SQ118 : TSQ118) (SQ2 : TSQ2) (SQ18 : TSQ18) (SQ3 : TSQ3) : List Atom -> K -> Bool := fun a_ κ => match a_ with
  | [.fls a_2, .fls b_2, .int t9_1, .int t10_1, .val t4_2, .int t4_3, .int s_1, .bool b2_1, .ints b2_2] => iterG N (st_z03_Dot_0 N SQ113 SQ118 SQ2 SQ18 SQ3 a_2 b_2 t9_1 t4_2 t4_3 (fun r2 r3 r4 => κ.ext 0 (sx0_st_binnacleref03_Dot_0.build [.val t4_2, .int t4_3, .int r2, .bool r3, .ints r4]))) (t10_1, s_1, b2_1, b2_2)
  | _ => false
def anQ142 (N : Nat) (SQ113 : TSQ113) (SQ118 : TSQ118) (SQ2 : TSQ2) (SQ18 : TSQ18) (SQ3 : TSQ3) : Nat -> Option Ann := fun b_ => cond (b_ == 0) (some ⟨⟨[0, 1, 4, 5, 9, 10], [], [(2, 1, some .u32)]⟩, [(0, ⟨[4, 5], [], []⟩)], some ⟨[4], [], []⟩, some (mkHooks [(sh_st_binnacleref03_Dot_0, hk_st_binnacleref03_Dot_0 N SQ113 SQ118 SQ2 SQ18 SQ3)])⟩) (none)
theorem eq_st_binnacleref03_Dot_0 (N : Nat) (SQ113 : TSQ113) (SQ118 : TSQ118) (SQ2 : TSQ2) (SQ18 : TSQ18) (SQ3 : TSQ3) (κ : K) (a_2 b_2 : List Fl) (t9_1 t10_1 : Int) (t4_2 : Value) (t4_3 s_1 : Int) (b2_1 : Bool) (b2_2 : List Int) : iter N (fun s k => codeV ⟨Pg, ofList [(100, (FQ113 SQ113)), (28, (FQ118 SQ118)), (19, (FQ2 SQ2)), (15, (orFs (FQ18 SQ18) (FQ3 SQ3) shFQ18))], isref, N⟩ 0 (anQ142 N SQ113 SQ118 SQ2 SQ18 SQ3) (lp Pg 56 0).2 (lp Pg 56 0).1 s (roundK Pg 0 ((anQ142 N SQ113 SQ118 SQ2 SQ18 SQ3) (lp Pg 56 0).1) κ k)) (sh_st_binnacleref03_Dot_0.build [.fls a_2, .fls b_2, .int t9_1, .int t10_1, .val t4_2, .int t4_3, .int s_1, .bool b2_1, .ints b2_2]) = iterG N (st_z03_Dot_0 N SQ113 SQ118 SQ2 SQ18 SQ3 a_2 b_2 t9_1 t4_2 t4_3 (fun r2 r3 r4 => κ.ext 0 (sx0_st_binnacleref03_Dot_0.build [.val t4_2, .int t4_3, .int r2, .bool r3, .ints r4]))) (t10_1, s_1, b2_1, b2_2) :=
  iter_tr (fun (v_ : Int × Int × Bool × List Int) => sh_st_binnacleref03_Dot_0.build [.fls a_2, .fls b_2, .int t9_1, .int v_.1, .val t4_2, .int t4_3, .int v_.2.1, .bool v_.2.2.1, .ints v_.2.2.2]) (fun v_ K_ => by obtain ⟨t10_1, s_1, b2_1, b2_2⟩ := v_; kernel_rfl) N (t10_1, s_1, b2_1, b2_2)
theorem hk1_st_binnacleref03_Dot_0 (N : Nat) (SQ113 : TSQ113) (SQ118 : TSQ118) (SQ2 : TSQ2) (SQ18 : TSQ18) (SQ3 : TSQ3) : HookFor ⟨Pg, ofList [(100, (FQ113 SQ113)), (28, (FQ118 SQ118)), (19, (FQ2 SQ2)), (15, (orFs (FQ18 SQ18) (FQ3 SQ3) shFQ18))], isref, N⟩ 0 (anQ142 N SQ113 SQ118 SQ2 SQ18 SQ3) (lp Pg 56 0) (sh_st_binnacleref03_Dot_0, hk_st_binnacleref03_Dot_0 N SQ113 SQ118 SQ2 SQ18 SQ3) := by
  intro a κ h
  simp only at h
  unfold hk_st_binnacleref03_Dot_0 at h
  split at h
  · exact (eq_st_binnacleref03_Dot_0 _ _ _ _ _ _ _ _ _ _ _ _ _ _ _ _).trans h
  · cases h
theorem ho_binnacleref03_Dot_0 (N : Nat) (SQ113 : TSQ113) (SQ118 : TSQ118) (SQ2 : TSQ2) (SQ18 : TSQ18) (SQ3 : TSQ3) : HookOk ⟨Pg, ofList [(100, (FQ113 SQ113)), (28, (FQ118 SQ118)), (19, (FQ2 SQ2)), (15, (orFs (FQ18 SQ18) (FQ3 SQ3) shFQ18))], isref, N⟩ 0 (anQ142 N SQ113 SQ118 SQ2 SQ18 SQ3) (lp Pg 56 0) :=
  hooks_ok [(sh_st_binnacleref03_Dot_0, hk_st_binnacleref03_Dot_0 N SQ113 SQ118 SQ2 SQ18 SQ3)] (by kernel_rfl) ⟨hk1_st_binnacleref03_Dot_0 _ _ _ _ _ _, trivial⟩
theorem eqQ142 (N : Nat) (SQ113 : TSQ113) (SQ118 : TSQ118) (SQ2 : TSQ2) (SQ18 : TSQ18) (SQ3 : TSQ3) (a b : List Fl) (c_ : V -> List Blk -> Bool) : bodyV ⟨Pg, ofList [(100, (FQ113 SQ113)), (28, (FQ118 SQ118)), (19, (FQ2 SQ2)), (15, (orFs (FQ18 SQ18) (FQ3 SQ3) shFQ18))], isref, N⟩ (anQ142 N SQ113 SQ118 SQ2 SQ18 SQ3) 56 (shFQ142.args [.fls a, .fls b]) [] c_ = GQ142 N SQ113 SQ118 SQ2 SQ18 SQ3 a b (fun r0 r1 r2 => c_ (.agg [.ptr 0 0, .int .i64 r0]) [⟨98, 1, .cells [.bool r1, .roi .u32 r2]⟩]) := by kernel_rfl
theorem goodQ142 (N : Nat) (SQ113 : TSQ113) (SQ118 : TSQ118) (SQ2 : TSQ2) (SQ18 : TSQ18) (SQ3 : TSQ3) (hQ113 : GoodF Pg 100 (FQ113 SQ113)) (hQ118 : GoodF Pg 28 (FQ118 SQ118)) (hQ2 : GoodF Pg 19 (FQ2 SQ2)) (hQ18 : GoodF Pg 15 (FQ18 SQ18)) (hQ3 : GoodF Pg 15 (FQ3 SQ3)) : GoodF Pg 56 (FQ142 (GQ142 N SQ113 SQ118 SQ2 SQ18 SQ3)) := by
  refine good_fs (cx := ⟨Pg, ofList [(100, (FQ113 SQ113)), (28, (FQ118 SQ118)), (19, (FQ2 SQ2)), (15, (orFs (FQ18 SQ18) (FQ3 SQ3) shFQ18))], isref, N⟩) (ofList_cons hQ113 (ofList_cons hQ118 (ofList_cons hQ2 (ofList_cons (good_or hQ18 hQ3) (ofList_nil _))))) shFQ142 (spQ142 (GQ142 N SQ113 SQ118 SQ2 SQ18 SQ3)) (anQ142 N SQ113 SQ118 SQ2 SQ18 SQ3) 1 0 (by kernel_rfl) (fun i_ hi_ => by
    match i_, hi_ with
    | 0, _ => exact ho_binnacleref03_Dot_0 _ _ _ _ _ _
    | (q + 1), h => omega) ?_
  intro a k h
  unfold spQ142 at h
  split at h
  · exact ⟨[], rfl, rfl, (eqQ142 _ _ _ _ _ _ _ _ _).trans h⟩
  · cases h

def anQ31 (N : Nat) (SQ142 : TSQ142) : Nat -> Option Ann := fun b_ => none
theorem eqQ31 (N : Nat) (SQ142 : TSQ142) (v_0 v_1 v_2 : Fl) (c_ : V -> List Blk -> Bool) : bodyV ⟨Pg, ofList [(56, (FQ142 SQ142))], isref, N⟩ (anQ31 N SQ142) 18 (shFQ31.args [.fl v_0, .fl v_1, .fl v_2]) [] c_ = GQ31 N SQ142 v_0 v_1 v_2 (fun r0 r1 r2 => c_ (.agg [.ptr 0 0, .int .i64 r0]) [⟨98, 1, .cells [.bool r1, .roi .u32 r2]⟩]) := by kernel_rfl
theorem goodQ31 (N : Nat) (SQ142 : TSQ142) (hQ142 : GoodF Pg 56 (FQ142 SQ142)) : GoodF Pg 18 (FQ31 (GQ31 N SQ142)) := by
  refine good_fs (cx := ⟨Pg, ofList [(56, (FQ142 SQ142))], isref, N⟩) (ofList_cons hQ142 (ofList_nil _)) shFQ31 (spQ31 (GQ31 N SQ142)) (anQ31 N SQ142) 0 0 (by kernel_rfl) (fun i_ hi_ => by omega) ?_
  intro a k h
  unfold spQ31 at h
  split at h
  · exact ⟨[], rfl, rfl, (eqQ31 _ _ _ _ _ _).trans h⟩
  · cases h

def anQ105 (N : Nat) (SQ110 : TSQ110) (SQ85 : TSQ85) : Nat -> Option Ann := fun b_ => none
theorem eqQ105 (N : Nat) (SQ110 : TSQ110) (SQ85 : TSQ85) (a_0 a_1 a_2 a_3 b_0 b_1 b_2 b_3 : Fl) (c_ : V -> List Blk -> Bool) : bodyV ⟨Pg, ofList [(40, (FQ110 SQ110)), (35, (FQ85 SQ85))], isref, N⟩ (anQ105 N SQ110 SQ85) 21 (shFQ105.args [.fl a_0, .fl a_1, .fl a_2, .fl a_3, .fl b_0, .fl b_1, .fl b_2, .fl b_3]) [] c_ = GQ105 N SQ110 SQ85 a_0 a_1 a_2 a_3 b_0 b_1 b_2 b_3 (fun r0 r1 r2 r3 r4 => c_ (.tup [.agg [.flt r0, .flt r1, .flt r2, .flt r3], .int .i64 r4]) []) := by kernel_rfl
theorem goodQ105 (N : Nat) (SQ110 : TSQ110) (SQ85 : TSQ85) (hQ110 : GoodF Pg 40 (FQ110 SQ110)) (hQ85 : GoodF Pg 35 (FQ85 SQ85)) : GoodF Pg 21 (FQ105 (GQ105 N SQ110 SQ85)) := by
  refine good_fs (cx := ⟨Pg, ofList [(40, (FQ110 SQ110)), (35, (FQ85 SQ85))], isref, N⟩) (ofList_cons hQ110 (ofList_cons hQ85 (ofList_nil _))) shFQ105 (spQ105 (GQ105 N SQ110 SQ85)) (anQ105 N SQ110 SQ85) 0 0 (by kernel_rfl) (fun i_ hi_ => by omega) ?_
  intro a k h
  unfold spQ105 at h
  split at h
  · exact ⟨[], rfl, rfl, (eqQ105 _ _ _ _ _ _ _ _ _ _ _ _).trans h⟩
  · cases h

def anQ96 (N : Nat) (SQ10 : TSQ10) : Nat -> Option Ann := fun b_ => none
theorem eqQ96 (N : Nat) (SQ10 : TSQ10) (neg b : Bool) (b_1 : List Int) (c_ : V -> List Blk -> Bool) : bodyZ ⟨Pg, ofList [(147, (FQ10 SQ10))], isref, N⟩ (anQ96 N SQ10) 99 (shFQ96.args [.bool neg, .bool b, .ints b_1]) [⟨98, 1, .cells [.bool b, .nil]⟩, ⟨87, 1, .ints .u32 b_1⟩] c_ = GQ96 N SQ10 neg b b_1 (fun r0 r1 r2 => c_ (.ptr 0 0) [⟨98, 1, .cells [.bool r0, .sl 1 r1 r2]⟩, ⟨87, 1, .ints .u32 b_1⟩]) := by kernel_rfl
theorem goodQ96 (N : Nat) (SQ10 : TSQ10) (hQ10 : GoodF Pg 147 (FQ10 SQ10)) : GoodF Pg 99 (FQ96 (GQ96 N SQ10)) := by
  refine good_fsZ (cx := ⟨Pg, ofList [(147, (FQ10 SQ10))], isref, N⟩) (ofList_cons hQ10 (ofList_nil _)) shFQ96 (spQ96 (GQ96 N SQ10)) (anQ96 N SQ10) 0 2 (by kernel_rfl) (fun i_ hi_ => by omega) ?_
  intro a k h
  unfold spQ96 at h
  split at h
  · exact ⟨[_, _], rfl, rfl, (eqQ96 _ _ _ _ _ _).trans h⟩
  · cases h

def anQ83 (N : Nat) (SQ96 : TSQ96) : Nat -> Option Ann := fun b_ => none
theorem eqQ83 (N : Nat) (SQ96 : TSQ96) (b b_1 : Bool) (b_2 : List Int) (c_ : V -> List Blk -> Bool) : bodyZ ⟨Pg, ofList [(99, (FQ96 SQ96))], isref, N⟩ (anQ83 N SQ96) 55 (shFQ83.args [.bool b, .bool b_1, .ints b_2]) [⟨98, 1, .cells [.bool b, .nil]⟩, ⟨98, 1, .cells [.bool b_1, .roi .u32 b_2]⟩] c_ = GQ83 N SQ96 b b_1 b_2 (fun r0 r1 => c_ (.ptr 0 0) [⟨98, 1, .cells [.bool r0, .roi .u32 r1]⟩, ⟨98, 1, .cells [.bool b_1, .roi .u32 b_2]⟩]) := by kernel_rfl
theorem goodQ83 (N : Nat) (SQ96 : TSQ96) (hQ96 : GoodF Pg 99 (FQ96 SQ96)) : GoodF Pg 55 (FQ83 (GQ83 N SQ96)) := by
  refine good_fsZ (cx := ⟨Pg, ofList [(99, (FQ96 SQ96))], isref, N⟩) (ofList_cons hQ96 (ofList_nil _)) shFQ83 (spQ83 (GQ83 N SQ96)) (anQ83 N SQ96) 0 2 (by kernel_rfl) (fun i_ hi_ => by omega) ?_
  intro a k h
  unfold spQ83 at h
  split at h
  · exact ⟨[_, _], rfl, rfl, (eqQ83 _ _ _ _ _ _).trans h⟩
  · cases h

def anQ20 (N : Nat) (SQ83 : TSQ83) : Nat -> Option Ann := fun b_ => none
theorem eqQ20 (N : Nat) (SQ83 : TSQ83) (x : Int) (b : Bool) (b_1 : List Int) (c_ : V -> List Blk -> Bool) : bodyV ⟨Pg, ofList [(55, (FQ83 SQ83))], isref, N⟩ (anQ20 N SQ83) 17 (shFQ20.args [.int x, .bool b, .ints b_1]) [⟨98, 1, .cells [.bool b, .roi .u32 b_1]⟩] c_ = GQ20 N SQ83 x b b_1 (fun r3 r4 => c_ (.agg [.ptr 1 0, .int .i64 x]) [⟨98, 1, .cells [.bool b, .roi .u32 b_1]⟩, ⟨98, 1, .cells [.bool r3, .roi .u32 r4]⟩]) := by kernel_rfl
theorem goodQ20 (N : Nat) (SQ83 : TSQ83) (hQ83 : GoodF Pg 55 (FQ83 SQ83)) : GoodF Pg 17 (FQ20 (GQ20 N SQ83)) := by
  refine good_fs (cx := ⟨Pg, ofList [(55, (FQ83 SQ83))], isref, N⟩) (ofList_cons hQ83 (ofList_nil _)) shFQ20 (spQ20 (GQ20 N SQ83)) (anQ20 N SQ83) 0 1 (by kernel_rfl) (fun i_ hi_ => by omega) ?_
  intro a k h
  unfold spQ20 at h
  split at h
  · exact ⟨[_], rfl, rfl, (eqQ20 _ _ _ _ _ _).trans h⟩
  · cases h

def anQ75 (N : Nat) (SQ91 : TSQ91) (SQ37 : TSQ37) : Nat -> Option Ann := fun b_ => none
theorem eqQ75 (N : Nat) (SQ91 : TSQ91) (SQ37 : TSQ37) (b b_1 : Bool) (b_2 : List Int) (c_ : V -> List Blk -> Bool) : bodyZ ⟨Pg, ofList [(101, (FQ91 SQ91)), (99, (FQ37 SQ37))], isref, N⟩ (anQ75 N SQ91 SQ37) 57 (shFQ75.args [.bool b, .bool b_1, .ints b_2]) [⟨98, 1, .cells [.bool b, .nil]⟩, ⟨98, 1, .cells [.bool b_1, .roi .u32 b_2]⟩] c_ = GQ75 N SQ91 SQ37 b b_1 b_2 (fun r0 r1 => c_ (.ptr 0 0) [⟨98, 1, .cells [.bool r0, .roi .u32 r1]⟩, ⟨98, 1, .cells [.bool b_1, .roi .u32 b_2]⟩]) := by kernel_rfl
theorem goodQ75 (N : Nat) (SQ91 : TSQ91) (SQ37 : TSQ37) (hQ91 : GoodF Pg 101 (FQ91 SQ91)) (hQ37 : GoodF Pg 99 (FQ37 SQ37)) : GoodF Pg 57 (FQ75 (GQ75 N SQ91 SQ37)) := by
  refine good_fsZ (cx := ⟨Pg, ofList [(101, (FQ91 SQ91)), (99, (FQ37 SQ37))], isref, N⟩) (ofList_cons hQ91 (ofList_cons hQ37 (ofList_nil _))) shFQ75 (spQ75 (GQ75 N SQ91 SQ37)) (anQ75 N SQ91 SQ37) 0 2 (by kernel_rfl) (fun i_ hi_ => by omega) ?_
  intro a k h
  unfold spQ75 at h
  split at h
  · exact ⟨[_, _], rfl, rfl, (eqQ75 _ _ _ _ _ _ _).trans h⟩
  · cases h

def anQ16 (N : Nat) (SQ75 : TSQ75) : Nat -> Option Ann := fun b_ => none
theorem eqQ16 (N : Nat) (SQ75 : TSQ75) (x y : Int) (b : Bool) (b_1 : List Int) (c_ : V -> List Blk -> Bool) : bodyV ⟨Pg, ofList [(57, (FQ75 SQ75))], isref, N⟩ (anQ16 N SQ75) 19 (shFQ16.args [.int x, .int y, .bool b, .ints b_1]) [⟨98, 1, .cells [.bool b, .roi .u32 b_1]⟩] c_ = GQ16 N SQ75 x y b b_1 (fun r0 r3 r4 => c_ (.agg [.ptr 1 0, .int .i64 r0]) [⟨98, 1, .cells [.bool b, .roi .u32 b_1]⟩, ⟨98, 1, .cells [.bool r3, .roi .u32 r4]⟩]) := by kernel_rfl
theorem goodQ16 (N : Nat) (SQ75 : TSQ75) (hQ75 : GoodF Pg 57 (FQ75 SQ75)) : GoodF Pg 19 (FQ16 (GQ16 N SQ75)) := by
  refine good_fs (cx := ⟨Pg, ofList [(57, (FQ75 SQ75))], isref, N⟩) (ofList_cons hQ75 (ofList_nil _)) shFQ16 (spQ16 (GQ16 N SQ75)) (anQ16 N SQ75) 0 1 (by kernel_rfl) (fun i_ hi_ => by omega) ?_
  intro a k h
  unfold spQ16 at h
  split at h
  · exact ⟨[_], rfl, rfl, (eqQ16 _ _ _ _ _ _ _).trans h⟩
  · cases h

end Go.Proofs.YtnfgnjciliapaaaGreatDoor
