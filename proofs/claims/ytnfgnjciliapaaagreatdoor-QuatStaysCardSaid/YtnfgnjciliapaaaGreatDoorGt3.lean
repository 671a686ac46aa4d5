/-
  THE TIES: each printed meaning is what the program does (written by program).
  Conditions: none.
-/
import Derived.Test.YtnfgnjciliapaaaGreatDoorGs
namespace Go.Proofs.YtnfgnjciliapaaaGreatDoor
open Go Go.Mach Go.Proofs
set_option linter.unusedVariables false
set_option maxRecDepth 50000

def anQ125 (N : Nat) : Nat -> Option Ann := fun b_ => none
theorem eqQ125 (N : Nat) (c_ : V -> List Blk -> Bool) : bodyV ⟨Pg, ofList [], isref, N⟩ (anQ125 N) 100 (shFQ125.args []) [] c_ = GQ125 N (fun r0 r1 => c_ (.agg [.ptr 0 0, .int .i64 r0]) [⟨98, 1, .cells [.bool r1, .nil]⟩]) := by kernel_rfl
theorem goodQ125 (N : Nat) : GoodF Pg 100 (FQ125 (GQ125 N)) := by
  refine good_fs (cx := ⟨Pg, ofList [], isref, N⟩) (ofList_nil _) shFQ125 (spQ125 (GQ125 N)) (anQ125 N) 0 0 (by kernel_rfl) (fun i_ hi_ => by omega) ?_
  intro a k h
  unfold spQ125 at h
  split at h
  · exact ⟨[], rfl, rfl, (eqQ125 _ _).trans h⟩
  · cases h

def sh_st_binnacleref01_odd_0 : StSh := ⟨(.int .u64 :: (.int .i64 :: (sqs 15 []))), []⟩
def sx0_st_binnacleref01_odd_0 : StSh := ⟨(.int .u64 :: (.int .i64 :: (sqs 15 []))), []⟩
def hk_st_binnacleref01_odd_0 (N : Nat) : List Atom -> K -> Bool := fun a_ κ => match a_ with
  | [.int m_1, .int e_1] => iterG N (st_z01_odd_0 N (fun r0 r1 => κ.ext 0 (sx0_st_binnacleref01_odd_0.build [.int r0, .int r1]))) (m_1, e_1)
  | _ => false
def anQ139 (N : Nat) : Nat -> Option Ann := fun b_ => cond (b_ == 0) (some ⟨⟨[0, 1], [], []⟩, [(0, ⟨[0, 1], [], []⟩)], some ⟨[4, 5], [], []⟩, some (mkHooks [(sh_st_binnacleref01_odd_0, hk_st_binnacleref01_odd_0 N)])⟩) (none)
theorem eq_st_binnacleref01_odd_0 (N : Nat) (κ : K) (m_1 e_1 : Int) : iter N (fun s k => codeV ⟨Pg, ofList [], isref, N⟩ 0 (anQ139 N) (lp Pg 116 0).2 (lp Pg 116 0).1 s (roundK Pg 0 ((anQ139 N) (lp Pg 116 0).1) κ k)) (sh_st_binnacleref01_odd_0.build [.int m_1, .int e_1]) = iterG N (st_z01_odd_0 N (fun r0 r1 => κ.ext 0 (sx0_st_binnacleref01_odd_0.build [.int r0, .int r1]))) (m_1, e_1) :=
  iter_tr (fun (v_ : Int × Int) => sh_st_binnacleref01_odd_0.build [.int v_.1, .int v_.2]) (fun v_ K_ => by obtain ⟨m_1, e_1⟩ := v_; kernel_rfl) N (m_1, e_1)
theorem hk1_st_binnacleref01_odd_0 (N : Nat) : HookFor ⟨Pg, ofList [], isref, N⟩ 0 (anQ139 N) (lp Pg 116 0) (sh_st_binnacleref01_odd_0, hk_st_binnacleref01_odd_0 N) := by
  intro a κ h
  simp only at h
  unfold hk_st_binnacleref01_odd_0 at h
  split at h
  · exact (eq_st_binnacleref01_odd_0 _ _ _ _).trans h
  · cases h
theorem ho_binnacleref01_odd_0 (N : Nat) : HookOk ⟨Pg, ofList [], isref, N⟩ 0 (anQ139 N) (lp Pg 116 0) :=
  hooks_ok [(sh_st_binnacleref01_odd_0, hk_st_binnacleref01_odd_0 N)] (by kernel_rfl) ⟨hk1_st_binnacleref01_odd_0 _, trivial⟩
theorem eqQ139 (N : Nat) (m e : Int) (c_ : V -> List Blk -> Bool) : bodyV ⟨Pg, ofList [], isref, N⟩ (anQ139 N) 116 (shFQ139.args [.int m, .int e]) [] c_ = GQ139 N m e (fun r0 r1 => c_ (.tup [.int .u64 r0, .int .i64 r1]) []) := by kernel_rfl
theorem goodQ139 (N : Nat) : GoodF Pg 116 (FQ139 (GQ139 N)) := by
  refine good_fs (cx := ⟨Pg, ofList [], isref, N⟩) (ofList_nil _) shFQ139 (spQ139 (GQ139 N)) (anQ139 N) 1 0 (by kernel_rfl) (fun i_ hi_ => by
    match i_, hi_ with
    | 0, _ => exact ho_binnacleref01_odd_0 _
    | (q + 1), h => omega) ?_
  intro a k h
  unfold spQ139 at h
  split at h
  · exact ⟨[], rfl, rfl, (eqQ139 _ _ _ _).trans h⟩
  · cases h

def anQ134 (N : Nat) (SQ90 : TSQ90) (SQ139 : TSQ139) : Nat -> Option Ann := fun b_ => none
def lsQ191 (d_ : List V) (u_ : List (Option Blk)) (x : Fl) (neg : Bool) (e f : Int) : St := ⟨((dq d_ 0) :: ((dq d_ 1) :: (.ptr 0 0 :: ((dq d_ 2) :: (.bool neg :: (.int .i64 e :: (.int .u64 f :: (dqs d_ 3 28 [])))))))), [some ⟨108, 1, .cells [.bool false, .int .u64 0, .int .i64 0]⟩]⟩
theorem jnQ191 (N : Nat) (SQ90 : TSQ90) (SQ139 : TSQ139) (d_ : List V) (u_ : List (Option Blk)) (x : Fl) (neg : Bool) (e f : Int) (c_ : V -> List Blk -> Bool) : codesV ⟨Pg, ofList [(115, (FQ90 SQ90)), (116, (FQ139 SQ139))], isref, N⟩ 0 (anQ134 N SQ90 SQ139) ((cds Pg 66).drop 6) 0 (lsQ191 d_ u_ x neg e f) (finV Pg 66 0 c_) = JQ191 N SQ90 SQ139 x neg e f (fun r0 r1 r2 r3 => c_ (.tup [.agg [.bool r0, .int .u64 r1, .int .i64 r2], .int .i64 r3]) []) := by kernel_rfl
theorem hd_z01_Parts_w (N : Nat) (SQ90 : TSQ90) (SQ139 : TSQ139) (x : Fl) (c_ : V -> List Blk -> Bool) (κn_ : St -> Bool) : codesV ⟨Pg, ofList [(115, (FQ90 SQ90)), (116, (FQ139 SQ139))], isref, N⟩ 0 (anQ134 N SQ90 SQ139) (sg Pg 66 0 6) 0 (st0 Pg 66 (shFQ134.args [.fl x]) []) { (finV Pg 66 0 c_) with nrm := κn_ } = (SQ90 x (fun cr nr nr_1 => (cond (nr == 2047) (c_ (.tup [.agg [.bool false, .int .u64 0, .int .i64 0], .int .i64 4]) []) (cond (decide (nr > 0)) ((fits .i64 (nr - 1)) && (κn_ (lsQ191 [.flt x, .any, .int .i64 0, .any, .any, .tup [.bool cr, .int .i64 nr, .int .u64 nr_1], .flt x, .tup [.bool cr, .int .i64 nr, .int .u64 nr_1], .bool cr, .int .i64 nr, .int .u64 nr_1, .int .i64 nr, .bool false, .any, .int .i64 nr, .bool true, .int .u64 nr_1, .int .u64 (IntKind.wrap .u64 (nr_1 + 4503599627370496)), .int .i64 nr, .int .i64 (nr - 1), .any, .any, .any, .any, .any, .any, .any, .any, .any, .any, .any] [] x cr (nr - 1) (IntKind.wrap .u64 (nr_1 + 4503599627370496))))) (κn_ (lsQ191 [.flt x, .any, .int .i64 0, .any, .any, .tup [.bool cr, .int .i64 nr, .int .u64 nr_1], .flt x, .tup [.bool cr, .int .i64 nr, .int .u64 nr_1], .bool cr, .int .i64 nr, .int .u64 nr_1, .int .i64 nr, .bool false, .any, .int .i64 nr, .bool false, .any, .any, .any, .any, .any, .any, .any, .any, .any, .any, .any, .any, .any, .any, .any] [] x cr nr nr_1)))))) := by kernel_rfl
theorem jn_z01_Parts_w (N : Nat) (SQ90 : TSQ90) (SQ139 : TSQ139) (x : Fl) (c_ : V -> List Blk -> Bool) : codesV ⟨Pg, ofList [(115, (FQ90 SQ90)), (116, (FQ139 SQ139))], isref, N⟩ 0 (anQ134 N SQ90 SQ139) ((cds Pg 66).drop 0) 0 (st0 Pg 66 (shFQ134.args [.fl x]) []) (finV Pg 66 0 c_) = GQ134 N SQ90 SQ139 x (fun r0 r1 r2 r3 => c_ (.tup [.agg [.bool r0, .int .u64 r1, .int .i64 r2], .int .i64 r3]) []) := by
  rw [codesV_cut 0 6 6 rfl]
  refine (hd_z01_Parts_w N SQ90 SQ139 x c_ _).trans ?_
  simp only [jnQ191]
  kernel_rfl
theorem eqQ134 (N : Nat) (SQ90 : TSQ90) (SQ139 : TSQ139) (x : Fl) (c_ : V -> List Blk -> Bool) : bodyV ⟨Pg, ofList [(115, (FQ90 SQ90)), (116, (FQ139 SQ139))], isref, N⟩ (anQ134 N SQ90 SQ139) 66 (shFQ134.args [.fl x]) [] c_ = GQ134 N SQ90 SQ139 x (fun r0 r1 r2 r3 => c_ (.tup [.agg [.bool r0, .int .u64 r1, .int .i64 r2], .int .i64 r3]) []) :=
  (bodyV_codes (by kernel_rfl)).trans (jn_z01_Parts_w N SQ90 SQ139 x c_)
theorem goodQ134 (N : Nat) (SQ90 : TSQ90) (SQ139 : TSQ139) (hQ90 : GoodF Pg 115 (FQ90 SQ90)) (hQ139 : GoodF Pg 116 (FQ139 SQ139)) : GoodF Pg 66 (FQ134 (GQ134 N SQ90 SQ139)) := by
  refine good_fs (cx := ⟨Pg, ofList [(115, (FQ90 SQ90)), (116, (FQ139 SQ139))], isref, N⟩) (ofList_cons hQ90 (ofList_cons hQ139 (ofList_nil _))) shFQ134 (spQ134 (GQ134 N SQ90 SQ139)) (anQ134 N SQ90 SQ139) 0 0 (by kernel_rfl) (fun i_ hi_ => by omega) ?_
  intro a k h
  unfold spQ134 at h
  split at h
  · exact ⟨[], rfl, rfl, (eqQ134 _ _ _ _ _).trans h⟩
  · cases h

def sh_st_binnacleref00_cut_w_0 : StSh := ⟨(.sl 0 :: (sqs 20 [])), [some (87, 1, .ints .u32)]⟩
def sx0_st_binnacleref00_cut_w_0 : StSh := ⟨(.sl 0 :: (sqs 20 [])), [some (87, 1, .ints .u32)]⟩
def hk_st_binnacleref00_cut_w_0 (N : Nat) : List Atom -> K -> Bool := fun a_ κ => match a_ with
  | [.nat m_1, .nat m_2, .ints m_3] => iterG N (stQ201 N m_1 m_3 (fun r1 => κ.ext 0 (sx0_st_binnacleref00_cut_w_0.build [.nat m_1, .nat r1, .ints m_3]))) m_2
  | _ => false
def anQ16 (N : Nat) : Nat -> Option Ann := fun b_ => cond (b_ == 0) (some ⟨⟨[0], [(0, some 0, 0)], []⟩, [(0, ⟨[0], [], []⟩)], some ⟨[2], [], []⟩, some (mkHooks [(sh_st_binnacleref00_cut_w_0, hk_st_binnacleref00_cut_w_0 N)])⟩) (none)
theorem eq_st_binnacleref00_cut_w_0 (N : Nat) (κ : K) (m_1 m_2 : Nat) (m_3 : List Int) : iter N (fun s k => codeV ⟨Pg, ofList [], isref, N⟩ 1 (anQ16 N) (lp Pg 147 0).2 (lp Pg 147 0).1 s (roundK Pg 1 ((anQ16 N) (lp Pg 147 0).1) κ k)) (sh_st_binnacleref00_cut_w_0.build [.nat m_1, .nat m_2, .ints m_3]) = iterG N (stQ201 N m_1 m_3 (fun r1 => κ.ext 0 (sx0_st_binnacleref00_cut_w_0.build [.nat m_1, .nat r1, .ints m_3]))) m_2 :=
  iter_tr (fun v_ => sh_st_binnacleref00_cut_w_0.build [.nat m_1, .nat v_, .ints m_3]) (fun v_ K_ => by kernel_rfl) N m_2
theorem hk1_st_binnacleref00_cut_w_0 (N : Nat) : HookFor ⟨Pg, ofList [], isref, N⟩ 1 (anQ16 N) (lp Pg 147 0) (sh_st_binnacleref00_cut_w_0, hk_st_binnacleref00_cut_w_0 N) := by
  intro a κ h
  simp only at h
  unfold hk_st_binnacleref00_cut_w_0 at h
  split at h
  · exact (eq_st_binnacleref00_cut_w_0 _ _ _ _ _).trans h
  · cases h
theorem ho_binnacleref00_cut_w_0 (N : Nat) : HookOk ⟨Pg, ofList [], isref, N⟩ 1 (anQ16 N) (lp Pg 147 0) :=
  hooks_ok [(sh_st_binnacleref00_cut_w_0, hk_st_binnacleref00_cut_w_0 N)] (by kernel_rfl) ⟨hk1_st_binnacleref00_cut_w_0 _, trivial⟩
theorem eqQ16 (N : Nat) (b : List Int) (c_ : V -> List Blk -> Bool) : bodyZ ⟨Pg, ofList [], isref, N⟩ (anQ16 N) 147 (shFQ16.args [.ints b]) [⟨87, 1, .ints .u32 b⟩] c_ = GQ16 N b (fun r0 r1 => c_ (.sl 0 r0 r1) [⟨87, 1, .ints .u32 b⟩]) := by kernel_rfl
theorem goodQ16 (N : Nat) : GoodF Pg 147 (FQ16 (GQ16 N)) := by
  refine good_fsZ (cx := ⟨Pg, ofList [], isref, N⟩) (ofList_nil _) shFQ16 (spQ16 (GQ16 N)) (anQ16 N) 1 1 (by kernel_rfl) (fun i_ hi_ => by
    match i_, hi_ with
    | 0, _ => exact ho_binnacleref00_cut_w_0 _
    | (q + 1), h => omega) ?_
  intro a k h
  unfold spQ16 at h
  split at h
  · exact ⟨[_], rfl, rfl, (eqQ16 _ _ _).trans h⟩
  · cases h

def anQ113 (N : Nat) (SQ16 : TSQ16) : Nat -> Option Ann := fun b_ => none
theorem eqQ113 (N : Nat) (SQ16 : TSQ16) (n : Int) (c_ : V -> List Blk -> Bool) : bodyZ ⟨Pg, ofList [(147, (FQ16 SQ16))], isref, N⟩ (anQ113 N SQ16) 117 (shFQ113.args [.int n]) [] c_ = GQ113 N SQ16 n (fun r0 => c_ (.roi .u32 r0) []) := by kernel_rfl
theorem goodQ113 (N : Nat) (SQ16 : TSQ16) (hQ16 : GoodF Pg 147 (FQ16 SQ16)) : GoodF Pg 117 (FQ113 (GQ113 N SQ16)) := by
  refine good_fsZ (cx := ⟨Pg, ofList [(147, (FQ16 SQ16))], isref, N⟩) (ofList_cons hQ16 (ofList_nil _)) shFQ113 (spQ113 (GQ113 N SQ16)) (anQ113 N SQ16) 0 0 (by kernel_rfl) (fun i_ hi_ => by omega) ?_
  intro a k h
  unfold spQ113 at h
  split at h
  · exact ⟨[], rfl, rfl, (eqQ113 _ _ _ _).trans h⟩
  · cases h

def sh_st_binnacleref00_cut_0 : StSh := ⟨(.roi .u32 :: (sqs 20 [])), []⟩
def sx0_st_binnacleref00_cut_0 : StSh := ⟨(.roi .u32 :: (sqs 20 [])), []⟩
def hk_st_binnacleref00_cut_0 (N : Nat) : List Atom -> K -> Bool := fun a_ κ => match a_ with
  | [.ints m_1] => iterG N (st_z00_cut_0 N (fun r0 => κ.ext 0 (sx0_st_binnacleref00_cut_0.build [.ints r0]))) m_1
  | _ => false
def anQ167 (N : Nat) : Nat -> Option Ann := fun b_ => cond (b_ == 0) (some ⟨⟨[0], [], []⟩, [(0, ⟨[0], [], []⟩)], some ⟨[2], [], []⟩, some (mkHooks [(sh_st_binnacleref00_cut_0, hk_st_binnacleref00_cut_0 N)])⟩) (none)
theorem eq_st_binnacleref00_cut_0 (N : Nat) (κ : K) (m_1 : List Int) : iter N (fun s k => codeV ⟨Pg, ofList [], isref, N⟩ 0 (anQ167 N) (lp Pg 147 0).2 (lp Pg 147 0).1 s (roundK Pg 0 ((anQ167 N) (lp Pg 147 0).1) κ k)) (sh_st_binnacleref00_cut_0.build [.ints m_1]) = iterG N (st_z00_cut_0 N (fun r0 => κ.ext 0 (sx0_st_binnacleref00_cut_0.build [.ints r0]))) m_1 :=
  iter_tr (fun v_ => sh_st_binnacleref00_cut_0.build [.ints v_]) (fun v_ K_ => by kernel_rfl) N m_1
theorem hk1_st_binnacleref00_cut_0 (N : Nat) : HookFor ⟨Pg, ofList [], isref, N⟩ 0 (anQ167 N) (lp Pg 147 0) (sh_st_binnacleref00_cut_0, hk_st_binnacleref00_cut_0 N) := by
  intro a κ h
  simp only at h
  unfold hk_st_binnacleref00_cut_0 at h
  split at h
  · exact (eq_st_binnacleref00_cut_0 _ _ _).trans h
  · cases h
theorem ho_binnacleref00_cut_0 (N : Nat) : HookOk ⟨Pg, ofList [], isref, N⟩ 0 (anQ167 N) (lp Pg 147 0) :=
  hooks_ok [(sh_st_binnacleref00_cut_0, hk_st_binnacleref00_cut_0 N)] (by kernel_rfl) ⟨hk1_st_binnacleref00_cut_0 _, trivial⟩
theorem eqQ167 (N : Nat) (m : List Int) (c_ : V -> List Blk -> Bool) : bodyZ ⟨Pg, ofList [], isref, N⟩ (anQ167 N) 147 (shFQ167.args [.ints m]) [] c_ = GQ167 N m (fun r0 => c_ (.roi .u32 r0) []) := by kernel_rfl
theorem goodQ167 (N : Nat) : GoodF Pg 147 (FQ167 (GQ167 N)) := by
  refine good_fsZ (cx := ⟨Pg, ofList [], isref, N⟩) (ofList_nil _) shFQ167 (spQ167 (GQ167 N)) (anQ167 N) 1 0 (by kernel_rfl) (fun i_ hi_ => by
    match i_, hi_ with
    | 0, _ => exact ho_binnacleref00_cut_0 _
    | (q + 1), h => omega) ?_
  intro a k h
  unfold spQ167 at h
  split at h
  · exact ⟨[], rfl, rfl, (eqQ167 _ _ _).trans h⟩
  · cases h

def anQ51 (N : Nat) (SQ167 : TSQ167) : Nat -> Option Ann := fun b_ => none
theorem eqQ51 (N : Nat) (SQ167 : TSQ167) (neg : Bool) (m : List Int) (b : Bool) (c_ : V -> List Blk -> Bool) : bodyZ ⟨Pg, ofList [(147, (FQ167 SQ167))], isref, N⟩ (anQ51 N SQ167) 99 (shFQ51.args [.bool neg, .ints m, .bool b]) [⟨98, 1, .cells [.bool b, .nil]⟩] c_ = GQ51 N SQ167 neg m b (fun r0 r1 => c_ (.ptr 0 0) [⟨98, 1, .cells [.bool r0, .roi .u32 r1]⟩]) := by kernel_rfl
theorem goodQ51 (N : Nat) (SQ167 : TSQ167) (hQ167 : GoodF Pg 147 (FQ167 SQ167)) : GoodF Pg 99 (FQ51 (GQ51 N SQ167)) := by
  refine good_fsZ (cx := ⟨Pg, ofList [(147, (FQ167 SQ167))], isref, N⟩) (ofList_cons hQ167 (ofList_nil _)) shFQ51 (spQ51 (GQ51 N SQ167)) (anQ51 N SQ167) 0 1 (by kernel_rfl) (fun i_ hi_ => by omega) ?_
  intro a k h
  unfold spQ51 at h
  split at h
  · exact ⟨[_], rfl, rfl, (eqQ51 _ _ _ _ _ _).trans h⟩
  · cases h

def anQ75 (N : Nat) (SQ113 : TSQ113) (SQ51 : TSQ51) : Nat -> Option Ann := fun b_ => none
theorem eqQ75 (N : Nat) (SQ113 : TSQ113) (SQ51 : TSQ51) (n : Int) (b : Bool) (c_ : V -> List Blk -> Bool) : bodyZ ⟨Pg, ofList [(117, (FQ113 SQ113)), (99, (FQ51 SQ51))], isref, N⟩ (anQ75 N SQ113 SQ51) 67 (shFQ75.args [.int n, .bool b]) [⟨98, 1, .cells [.bool b, .nil]⟩] c_ = GQ75 N SQ113 SQ51 n b (fun r0 r1 => c_ (.ptr 0 0) [⟨98, 1, .cells [.bool r0, .roi .u32 r1]⟩]) := by kernel_rfl
theorem goodQ75 (N : Nat) (SQ113 : TSQ113) (SQ51 : TSQ51) (hQ113 : GoodF Pg 117 (FQ113 SQ113)) (hQ51 : GoodF Pg 99 (FQ51 SQ51)) : GoodF Pg 67 (FQ75 (GQ75 N SQ113 SQ51)) := by
  refine good_fsZ (cx := ⟨Pg, ofList [(117, (FQ113 SQ113)), (99, (FQ51 SQ51))], isref, N⟩) (ofList_cons hQ113 (ofList_cons hQ51 (ofList_nil _))) shFQ75 (spQ75 (GQ75 N SQ113 SQ51)) (anQ75 N SQ113 SQ51) 0 1 (by kernel_rfl) (fun i_ hi_ => by omega) ?_
  intro a k h
  unfold spQ75 at h
  split at h
  · exact ⟨[_], rfl, rfl, (eqQ75 _ _ _ _ _ _).trans h⟩
  · cases h

def anQ110 (N : Nat) (SQ16 : TSQ16) : Nat -> Option Ann := fun b_ => none
theorem eqQ110 (N : Nat) (SQ16 : TSQ16) (neg b : Bool) (b_1 b_2 : List Int) (c_ : V -> List Blk -> Bool) : bodyZ ⟨Pg, ofList [(147, (FQ16 SQ16))], isref, N⟩ (anQ110 N SQ16) 99 (shFQ110.args [.bool neg, .bool b, .ints b_1, .ints b_2]) [⟨98, 1, .cells [.bool b, .roi .u32 b_1]⟩, ⟨87, 1, .ints .u32 b_2⟩] c_ = GQ110 N SQ16 neg b b_1 b_2 (fun r0 r1 r2 => c_ (.ptr 0 0) [⟨98, 1, .cells [.bool r0, .sl 1 r1 r2]⟩, ⟨87, 1, .ints .u32 b_2⟩]) := by kernel_rfl
theorem goodQ110 (N : Nat) (SQ16 : TSQ16) (hQ16 : GoodF Pg 147 (FQ16 SQ16)) : GoodF Pg 99 (FQ110 (GQ110 N SQ16)) := by
  refine good_fsZ (cx := ⟨Pg, ofList [(147, (FQ16 SQ16))], isref, N⟩) (ofList_cons hQ16 (ofList_nil _)) shFQ110 (spQ110 (GQ110 N SQ16)) (anQ110 N SQ16) 0 2 (by kernel_rfl) (fun i_ hi_ => by omega) ?_
  intro a k h
  unfold spQ110 at h
  split at h
  · exact ⟨[_, _], rfl, rfl, (eqQ110 _ _ _ _ _ _ _).trans h⟩
  · cases h

def anQ106 (N : Nat) (SQ110 : TSQ110) : Nat -> Option Ann := fun b_ => none
theorem eqQ106 (N : Nat) (SQ110 : TSQ110) (b : Bool) (b_1 : List Int) (c_ : V -> List Blk -> Bool) : bodyZ ⟨Pg, ofList [(99, (FQ110 SQ110))], isref, N⟩ (anQ106 N SQ110) 55 (shFQ106.args [.bool b, .ints b_1]) [⟨98, 1, .cells [.bool b, .roi .u32 b_1]⟩] c_ = GQ106 N SQ110 b b_1 (fun r0 r1 => c_ (.ptr 0 0) [⟨98, 1, .cells [.bool r0, .roi .u32 r1]⟩]) := by kernel_rfl
theorem goodQ106 (N : Nat) (SQ110 : TSQ110) (hQ110 : GoodF Pg 99 (FQ110 SQ110)) : GoodF Pg 55 (FQ106 (GQ106 N SQ110)) := by
  refine good_fsZ (cx := ⟨Pg, ofList [(99, (FQ110 SQ110))], isref, N⟩) (ofList_cons hQ110 (ofList_nil _)) shFQ106 (spQ106 (GQ106 N SQ110)) (anQ106 N SQ110) 0 1 (by kernel_rfl) (fun i_ hi_ => by omega) ?_
  intro a k h
  unfold spQ106 at h
  split at h
  · exact ⟨[_], rfl, rfl, (eqQ106 _ _ _ _ _).trans h⟩
  · cases h

def anQ166 (N : Nat) (SQ134 : TSQ134) (SQ75 : TSQ75) (SQ106 : TSQ106) : Nat -> Option Ann := fun b_ => none
theorem eqQ166 (N : Nat) (SQ134 : TSQ134) (SQ75 : TSQ75) (SQ106 : TSQ106) (x : Fl) (c_ : V -> List Blk -> Bool) : bodyV ⟨Pg, ofList [(66, (FQ134 SQ134)), (67, (FQ75 SQ75)), (55, (FQ106 SQ106))], isref, N⟩ (anQ166 N SQ134 SQ75 SQ106) 28 (shFQ166.args [.fl x]) [] c_ = GQ166 N SQ134 SQ75 SQ106 x (fun r0 r1 r2 => c_ (.agg [.ptr 0 0, .int .i64 r0]) [⟨98, 1, .cells [.bool r1, .roi .u32 r2]⟩]) := by kernel_rfl
theorem goodQ166 (N : Nat) (SQ134 : TSQ134) (SQ75 : TSQ75) (SQ106 : TSQ106) (hQ134 : GoodF Pg 66 (FQ134 SQ134)) (hQ75 : GoodF Pg 67 (FQ75 SQ75)) (hQ106 : GoodF Pg 55 (FQ106 SQ106)) : GoodF Pg 28 (FQ166 (GQ166 N SQ134 SQ75 SQ106)) := by
  refine good_fs (cx := ⟨Pg, ofList [(66, (FQ134 SQ134)), (67, (FQ75 SQ75)), (55, (FQ106 SQ106))], isref, N⟩) (ofList_cons hQ134 (ofList_cons hQ75 (ofList_cons hQ106 (ofList_nil _)))) shFQ166 (spQ166 (GQ166 N SQ134 SQ75 SQ106)) (anQ166 N SQ134 SQ75 SQ106) 0 0 (by kernel_rfl) (fun i_ hi_ => by omega) ?_
  intro a k h
  unfold spQ166 at h
  split at h
  · exact ⟨[], rfl, rfl, (eqQ166 _ _ _ _ _ _).trans h⟩
  · cases h

def sh_st_binnacleref00_times_2 : StSh := ⟨(.roi .u32 :: (.roi .u32 :: (.any :: (.any :: (.any :: (.slw 0 :: (.int .i64 :: (.int .u64 :: (.int .i64 :: (sqs 59 [])))))))))), [some (87, 1, .ints .u32)]⟩
def sx0_st_binnacleref00_times_2 : StSh := ⟨(.roi .u32 :: (.roi .u32 :: (.any :: (.any :: (.any :: (.slw 0 :: (.int .i64 :: (.int .u64 :: (sqs 60 []))))))))), [some (87, 1, .ints .u32)]⟩
def hk_st_binnacleref00_times_2 (N : Nat) (SQ16 : TSQ16) : List Atom -> K -> Bool := fun a_ κ => match a_ with
  | [.ints a_2, .ints b_2, .int i_1, .int carry, .int k_, .ints out_1] => iterG N (st_z00_times_2 N SQ16 a_2 b_2 i_1 (fun r3 r4 => κ.ext 2 (sx0_st_binnacleref00_times_2.build [.ints a_2, .ints b_2, .int i_1, .int r3, .ints r4]))) (carry, k_, out_1)
  | _ => false
def sh_st_binnacleref00_times_0 : StSh := ⟨(.roi .u32 :: (.roi .u32 :: (.any :: (.any :: (.any :: (.slw 0 :: (.int .i64 :: (sqs 61 [])))))))), [some (87, 1, .ints .u32)]⟩
def sx0_st_binnacleref00_times_0 : StSh := ⟨(sqs 5 (.slw 0 :: (sqs 62 []))), [some (87, 1, .ints .u32)]⟩
def hk_st_binnacleref00_times_0 (N : Nat) (SQ16 : TSQ16) : List Atom -> K -> Bool := fun a_ κ => match a_ with
  | [.ints a_1, .ints b_1, .int i, .ints out] => iterG N (st_z00_times_0 N SQ16 a_1 b_1 (fun r0 => κ.ext 0 (sx0_st_binnacleref00_times_0.build [.ints r0]))) (i, out)
  | _ => false
def anQ131 (N : Nat) (SQ16 : TSQ16) : Nat -> Option Ann := fun b_ => cond (b_ == 2) (some ⟨⟨[0, 1, 5, 6, 7, 8], [], []⟩, [(2, ⟨[0, 1, 5, 6, 7], [], []⟩)], some ⟨[4], [], []⟩, some (mkHooks [(sh_st_binnacleref00_times_2, hk_st_binnacleref00_times_2 N SQ16)])⟩) (cond (b_ == 0) (some ⟨⟨[0, 1, 5, 6], [], []⟩, [(0, ⟨[5], [], []⟩)], some ⟨[4], [], []⟩, some (mkHooks [(sh_st_binnacleref00_times_0, hk_st_binnacleref00_times_0 N SQ16)])⟩) (none))
theorem eq_st_binnacleref00_times_2 (N : Nat) (SQ16 : TSQ16) (κ : K) (a_2 b_2 : List Int) (i_1 carry k_ : Int) (out_1 : List Int) : iter N (fun s k => codeV ⟨Pg, ofList [(147, (FQ16 SQ16))], isref, N⟩ 0 (anQ131 N SQ16) (lp Pg 101 1).2 (lp Pg 101 1).1 s (roundK Pg 0 ((anQ131 N SQ16) (lp Pg 101 1).1) κ k)) (sh_st_binnacleref00_times_2.build [.ints a_2, .ints b_2, .int i_1, .int carry, .int k_, .ints out_1]) = iterG N (st_z00_times_2 N SQ16 a_2 b_2 i_1 (fun r3 r4 => κ.ext 2 (sx0_st_binnacleref00_times_2.build [.ints a_2, .ints b_2, .int i_1, .int r3, .ints r4]))) (carry, k_, out_1) :=
  iter_tr (fun (v_ : Int × Int × List Int) => sh_st_binnacleref00_times_2.build [.ints a_2, .ints b_2, .int i_1, .int v_.1, .int v_.2.1, .ints v_.2.2]) (fun v_ K_ => by obtain ⟨carry, k_, out_1⟩ := v_; kernel_rfl) N (carry, k_, out_1)
theorem hk1_st_binnacleref00_times_2 (N : Nat) (SQ16 : TSQ16) : HookFor ⟨Pg, ofList [(147, (FQ16 SQ16))], isref, N⟩ 0 (anQ131 N SQ16) (lp Pg 101 1) (sh_st_binnacleref00_times_2, hk_st_binnacleref00_times_2 N SQ16) := by
  intro a κ h
  simp only at h
  unfold hk_st_binnacleref00_times_2 at h
  split at h
  · exact (eq_st_binnacleref00_times_2 _ _ _ _ _ _ _ _ _).trans h
  · cases h
theorem eq_st_binnacleref00_times_0 (N : Nat) (SQ16 : TSQ16) (κ : K) (a_1 b_1 : List Int) (i : Int) (out : List Int) : iter N (fun s k => codeV ⟨Pg, ofList [(147, (FQ16 SQ16))], isref, N⟩ 0 (anQ131 N SQ16) (lp Pg 101 0).2 (lp Pg 101 0).1 s (roundK Pg 0 ((anQ131 N SQ16) (lp Pg 101 0).1) κ k)) (sh_st_binnacleref00_times_0.build [.ints a_1, .ints b_1, .int i, .ints out]) = iterG N (st_z00_times_0 N SQ16 a_1 b_1 (fun r0 => κ.ext 0 (sx0_st_binnacleref00_times_0.build [.ints r0]))) (i, out) :=
  iter_tr (fun (v_ : Int × List Int) => sh_st_binnacleref00_times_0.build [.ints a_1, .ints b_1, .int v_.1, .ints v_.2]) (fun v_ K_ => by obtain ⟨i, out⟩ := v_; kernel_rfl) N (i, out)
theorem hk1_st_binnacleref00_times_0 (N : Nat) (SQ16 : TSQ16) : HookFor ⟨Pg, ofList [(147, (FQ16 SQ16))], isref, N⟩ 0 (anQ131 N SQ16) (lp Pg 101 0) (sh_st_binnacleref00_times_0, hk_st_binnacleref00_times_0 N SQ16) := by
  intro a κ h
  simp only at h
  unfold hk_st_binnacleref00_times_0 at h
  split at h
  · exact (eq_st_binnacleref00_times_0 _ _ _ _ _ _ _).trans h
  · cases h
theorem ho_binnacleref00_times_2 (N : Nat) (SQ16 : TSQ16) : HookOk ⟨Pg, ofList [(147, (FQ16 SQ16))], isref, N⟩ 0 (anQ131 N SQ16) (lp Pg 101 1) :=
  hooks_ok [(sh_st_binnacleref00_times_2, hk_st_binnacleref00_times_2 N SQ16)] (by kernel_rfl) ⟨hk1_st_binnacleref00_times_2 _ _, trivial⟩
theorem ho_binnacleref00_times_0 (N : Nat) (SQ16 : TSQ16) : HookOk ⟨Pg, ofList [(147, (FQ16 SQ16))], isref, N⟩ 0 (anQ131 N SQ16) (lp Pg 101 0) :=
  hooks_ok [(sh_st_binnacleref00_times_0, hk_st_binnacleref00_times_0 N SQ16)] (by kernel_rfl) ⟨hk1_st_binnacleref00_times_0 _ _, trivial⟩
theorem eqQ131 (N : Nat) (SQ16 : TSQ16) (a b : List Int) (c_ : V -> List Blk -> Bool) : bodyZ ⟨Pg, ofList [(147, (FQ16 SQ16))], isref, N⟩ (anQ131 N SQ16) 101 (shFQ131.args [.ints a, .ints b]) [] c_ = GQ131 N SQ16 a b (fun r0 => c_ (.roi .u32 r0) []) := by kernel_rfl
theorem goodQ131 (N : Nat) (SQ16 : TSQ16) (hQ16 : GoodF Pg 147 (FQ16 SQ16)) : GoodF Pg 101 (FQ131 (GQ131 N SQ16)) := by
  refine good_fsZ (cx := ⟨Pg, ofList [(147, (FQ16 SQ16))], isref, N⟩) (ofList_cons hQ16 (ofList_nil _)) shFQ131 (spQ131 (GQ131 N SQ16)) (anQ131 N SQ16) 2 0 (by kernel_rfl) (fun i_ hi_ => by
    match i_, hi_ with
    | 0, _ => exact ho_binnacleref00_times_0 _ _
    | 1, _ => exact ho_binnacleref00_times_2 _ _
    | (q + 2), h => omega) ?_
  intro a k h
  unfold spQ131 at h
  split at h
  · exact ⟨[], rfl, rfl, (eqQ131 _ _ _ _ _).trans h⟩
  · cases h

def anQ79 (N : Nat) (SQ131 : TSQ131) (SQ51 : TSQ51) : Nat -> Option Ann := fun b_ => none
theorem eqQ79 (N : Nat) (SQ131 : TSQ131) (SQ51 : TSQ51) (b b_1 : Bool) (b_2 : List Int) (b_3 : Bool) (b_4 : List Int) (c_ : V -> List Blk -> Bool) : bodyZ ⟨Pg, ofList [(101, (FQ131 SQ131)), (99, (FQ51 SQ51))], isref, N⟩ (anQ79 N SQ131 SQ51) 57 (shFQ79.args [.bool b, .bool b_1, .ints b_2, .bool b_3, .ints b_4]) [⟨98, 1, .cells [.bool b, .nil]⟩, ⟨98, 1, .cells [.bool b_1, .roi .u32 b_2]⟩, ⟨98, 1, .cells [.bool b_3, .roi .u32 b_4]⟩] c_ = GQ79 N SQ131 SQ51 b b_1 b_2 b_3 b_4 (fun r0 r1 => c_ (.ptr 0 0) [⟨98, 1, .cells [.bool r0, .roi .u32 r1]⟩, ⟨98, 1, .cells [.bool b_1, .roi .u32 b_2]⟩, ⟨98, 1, .cells [.bool b_3, .roi .u32 b_4]⟩]) := by kernel_rfl
theorem goodQ79 (N : Nat) (SQ131 : TSQ131) (SQ51 : TSQ51) (hQ131 : GoodF Pg 101 (FQ131 SQ131)) (hQ51 : GoodF Pg 99 (FQ51 SQ51)) : GoodF Pg 57 (FQ79 (GQ79 N SQ131 SQ51)) := by
  refine good_fsZ (cx := ⟨Pg, ofList [(101, (FQ131 SQ131)), (99, (FQ51 SQ51))], isref, N⟩) (ofList_cons hQ131 (ofList_cons hQ51 (ofList_nil _))) shFQ79 (spQ79 (GQ79 N SQ131 SQ51)) (anQ79 N SQ131 SQ51) 0 3 (by kernel_rfl) (fun i_ hi_ => by omega) ?_
  intro a k h
  unfold spQ79 at h
  split at h
  · exact ⟨[_, _, _], rfl, rfl, (eqQ79 _ _ _ _ _ _ _ _ _).trans h⟩
  · cases h

def anQ24 (N : Nat) (SQ79 : TSQ79) : Nat -> Option Ann := fun b_ => none
theorem eqQ24 (N : Nat) (SQ79 : TSQ79) (x y : Int) (b : Bool) (b_1 : List Int) (b_2 : Bool) (b_3 : List Int) (c_ : V -> List Blk -> Bool) : bodyV ⟨Pg, ofList [(57, (FQ79 SQ79))], isref, N⟩ (anQ24 N SQ79) 19 (shFQ24.args [.int x, .int y, .bool b, .ints b_1, .bool b_2, .ints b_3]) [⟨98, 1, .cells [.bool b, .roi .u32 b_1]⟩, ⟨98, 1, .cells [.bool b_2, .roi .u32 b_3]⟩] c_ = GQ24 N SQ79 x y b b_1 b_2 b_3 (fun r0 r5 r6 => c_ (.agg [.ptr 2 0, .int .i64 r0]) [⟨98, 1, .cells [.bool b, .roi .u32 b_1]⟩, ⟨98, 1, .cells [.bool b_2, .roi .u32 b_3]⟩, ⟨98, 1, .cells [.bool r5, .roi .u32 r6]⟩]) := by kernel_rfl
theorem goodQ24 (N : Nat) (SQ79 : TSQ79) (hQ79 : GoodF Pg 57 (FQ79 SQ79)) : GoodF Pg 19 (FQ24 (GQ24 N SQ79)) := by
  refine good_fs (cx := ⟨Pg, ofList [(57, (FQ79 SQ79))], isref, N⟩) (ofList_cons hQ79 (ofList_nil _)) shFQ24 (spQ24 (GQ24 N SQ79)) (anQ24 N SQ79) 0 2 (by kernel_rfl) (fun i_ hi_ => by omega) ?_
  intro a k h
  unfold spQ24 at h
  split at h
  · exact ⟨[_, _], rfl, rfl, (eqQ24 _ _ _ _ _ _ _ _ _).trans h⟩
  · cases h

def anQ119 (N : Nat) : Nat -> Option Ann := fun b_ => none
theorem eqQ119 (N : Nat) (b : Bool) (c_ : V -> List Blk -> Bool) : bodyZ ⟨Pg, ofList [], isref, N⟩ (anQ119 N) 52 (shFQ119.args [.bool b]) [⟨98, 1, .cells [.bool b, .nil]⟩] c_ = GQ119 N b (fun r0 r2 => c_ (.int .i64 r0) [⟨98, 1, .cells [.bool b, .roi .u32 r2]⟩]) := by kernel_rfl
theorem goodQ119 (N : Nat) : GoodF Pg 52 (FQ119 (GQ119 N)) := by
  refine good_fsZ (cx := ⟨Pg, ofList [], isref, N⟩) (ofList_nil _) shFQ119 (spQ119 (GQ119 N)) (anQ119 N) 0 1 (by kernel_rfl) (fun i_ hi_ => by omega) ?_
  intro a k h
  unfold spQ119 at h
  split at h
  · exact ⟨[_], rfl, rfl, (eqQ119 _ _ _).trans h⟩
  · cases h

def anQ64 (N : Nat) : Nat -> Option Ann := fun b_ => none
theorem eqQ64 (N : Nat) (b : Bool) (b_1 : List Int) (c_ : V -> List Blk -> Bool) : bodyZ ⟨Pg, ofList [], isref, N⟩ (anQ64 N) 52 (shFQ64.args [.bool b, .ints b_1]) [⟨98, 1, .cells [.bool b, .roi .u32 b_1]⟩] c_ = GQ64 N b b_1 (fun r0 => c_ (.int .i64 r0) [⟨98, 1, .cells [.bool b, .roi .u32 b_1]⟩]) := by kernel_rfl
theorem goodQ64 (N : Nat) : GoodF Pg 52 (FQ64 (GQ64 N)) := by
  refine good_fsZ (cx := ⟨Pg, ofList [], isref, N⟩) (ofList_nil _) shFQ64 (spQ64 (GQ64 N)) (anQ64 N) 0 1 (by kernel_rfl) (fun i_ hi_ => by omega) ?_
  intro a k h
  unfold spQ64 at h
  split at h
  · exact ⟨[_], rfl, rfl, (eqQ64 _ _ _ _).trans h⟩
  · cases h

def sh_st_binnacleref00_left_0 : StSh := ⟨(.roi .u32 :: (sqs 4 (.int .i64 :: (.int .u64 :: (.slw 0 :: (.int .i64 :: (sqs 49 []))))))), [some (87, 1, .ints .u32)]⟩
def sx0_st_binnacleref00_left_0 : StSh := ⟨(sqs 7 (.slw 0 :: (sqs 50 []))), [some (87, 1, .ints .u32)]⟩
def hk_st_binnacleref00_left_0 (N : Nat) (SQ16 : TSQ16) : List Atom -> K -> Bool := fun a_ κ => match a_ with
  | [.ints m_1, .int w, .int s, .int i, .ints out] => iterG N (st_z00_left_0 N SQ16 m_1 w s (fun r0 => κ.ext 0 (sx0_st_binnacleref00_left_0.build [.ints r0]))) (i, out)
  | _ => false
def anQ152 (N : Nat) (SQ16 : TSQ16) : Nat -> Option Ann := fun b_ => cond (b_ == 0) (some ⟨⟨[0, 5, 6, 7, 8], [], []⟩, [(0, ⟨[7], [], []⟩)], some ⟨[4], [], []⟩, some (mkHooks [(sh_st_binnacleref00_left_0, hk_st_binnacleref00_left_0 N SQ16)])⟩) (none)
theorem eq_st_binnacleref00_left_0 (N : Nat) (SQ16 : TSQ16) (κ : K) (m_1 : List Int) (w s i : Int) (out : List Int) : iter N (fun s k => codeV ⟨Pg, ofList [(147, (FQ16 SQ16))], isref, N⟩ 0 (anQ152 N SQ16) (lp Pg 146 0).2 (lp Pg 146 0).1 s (roundK Pg 0 ((anQ152 N SQ16) (lp Pg 146 0).1) κ k)) (sh_st_binnacleref00_left_0.build [.ints m_1, .int w, .int s, .int i, .ints out]) = iterG N (st_z00_left_0 N SQ16 m_1 w s (fun r0 => κ.ext 0 (sx0_st_binnacleref00_left_0.build [.ints r0]))) (i, out) :=
  iter_tr (fun (v_ : Int × List Int) => sh_st_binnacleref00_left_0.build [.ints m_1, .int w, .int s, .int v_.1, .ints v_.2]) (fun v_ K_ => by obtain ⟨i, out⟩ := v_; kernel_rfl) N (i, out)
theorem hk1_st_binnacleref00_left_0 (N : Nat) (SQ16 : TSQ16) : HookFor ⟨Pg, ofList [(147, (FQ16 SQ16))], isref, N⟩ 0 (anQ152 N SQ16) (lp Pg 146 0) (sh_st_binnacleref00_left_0, hk_st_binnacleref00_left_0 N SQ16) := by
  intro a κ h
  simp only at h
  unfold hk_st_binnacleref00_left_0 at h
  split at h
  · exact (eq_st_binnacleref00_left_0 _ _ _ _ _ _ _ _).trans h
  · cases h
theorem ho_binnacleref00_left_0 (N : Nat) (SQ16 : TSQ16) : HookOk ⟨Pg, ofList [(147, (FQ16 SQ16))], isref, N⟩ 0 (anQ152 N SQ16) (lp Pg 146 0) :=
  hooks_ok [(sh_st_binnacleref00_left_0, hk_st_binnacleref00_left_0 N SQ16)] (by kernel_rfl) ⟨hk1_st_binnacleref00_left_0 _ _, trivial⟩
theorem eqQ152 (N : Nat) (SQ16 : TSQ16) (m : List Int) (n : Int) (c_ : V -> List Blk -> Bool) : bodyZ ⟨Pg, ofList [(147, (FQ16 SQ16))], isref, N⟩ (anQ152 N SQ16) 146 (shFQ152.args [.ints m, .int n]) [] c_ = GQ152 N SQ16 m n (fun r0 => c_ (.roi .u32 r0) []) := by kernel_rfl
theorem goodQ152 (N : Nat) (SQ16 : TSQ16) (hQ16 : GoodF Pg 147 (FQ16 SQ16)) : GoodF Pg 146 (FQ152 (GQ152 N SQ16)) := by
  refine good_fsZ (cx := ⟨Pg, ofList [(147, (FQ16 SQ16))], isref, N⟩) (ofList_cons hQ16 (ofList_nil _)) shFQ152 (spQ152 (GQ152 N SQ16)) (anQ152 N SQ16) 1 0 (by kernel_rfl) (fun i_ hi_ => by
    match i_, hi_ with
    | 0, _ => exact ho_binnacleref00_left_0 _ _
    | (q + 1), h => omega) ?_
  intro a k h
  unfold spQ152 at h
  split at h
  · exact ⟨[], rfl, rfl, (eqQ152 _ _ _ _ _).trans h⟩
  · cases h

def anQ97 (N : Nat) (SQ152 : TSQ152) (SQ51 : TSQ51) : Nat -> Option Ann := fun b_ => none
theorem eqQ97 (N : Nat) (SQ152 : TSQ152) (SQ51 : TSQ51) (n : Int) (b b_1 : Bool) (b_2 : List Int) (c_ : V -> List Blk -> Bool) : bodyZ ⟨Pg, ofList [(146, (FQ152 SQ152)), (99, (FQ51 SQ51))], isref, N⟩ (anQ97 N SQ152 SQ51) 98 (shFQ97.args [.int n, .bool b, .bool b_1, .ints b_2]) [⟨98, 1, .cells [.bool b, .nil]⟩, ⟨98, 1, .cells [.bool b_1, .roi .u32 b_2]⟩] c_ = GQ97 N SQ152 SQ51 n b b_1 b_2 (fun r0 r1 => c_ (.ptr 0 0) [⟨98, 1, .cells [.bool r0, .roi .u32 r1]⟩, ⟨98, 1, .cells [.bool b_1, .roi .u32 b_2]⟩]) := by kernel_rfl
theorem goodQ97 (N : Nat) (SQ152 : TSQ152) (SQ51 : TSQ51) (hQ152 : GoodF Pg 146 (FQ152 SQ152)) (hQ51 : GoodF Pg 99 (FQ51 SQ51)) : GoodF Pg 98 (FQ97 (GQ97 N SQ152 SQ51)) := by
  refine good_fsZ (cx := ⟨Pg, ofList [(146, (FQ152 SQ152)), (99, (FQ51 SQ51))], isref, N⟩) (ofList_cons hQ152 (ofList_cons hQ51 (ofList_nil _))) shFQ97 (spQ97 (GQ97 N SQ152 SQ51)) (anQ97 N SQ152 SQ51) 0 2 (by kernel_rfl) (fun i_ hi_ => by omega) ?_
  intro a k h
  unfold spQ97 at h
  split at h
  · exact ⟨[_, _], rfl, rfl, (eqQ97 _ _ _ _ _ _ _ _).trans h⟩
  · cases h

def anQ34 (N : Nat) (SQ97 : TSQ97) : Nat -> Option Ann := fun b_ => none
theorem eqQ34 (N : Nat) (SQ97 : TSQ97) (x e : Int) (b : Bool) (b_1 : List Int) (c_ : V -> List Blk -> Bool) : bodyV ⟨Pg, ofList [(98, (FQ97 SQ97))], isref, N⟩ (anQ34 N SQ97) 54 (shFQ34.args [.int x, .int e, .bool b, .ints b_1]) [⟨98, 1, .cells [.bool b, .roi .u32 b_1]⟩] c_ = GQ34 N SQ97 x e b b_1 (c_ (.agg [.ptr 0 0, .int .i64 x]) [⟨98, 1, .cells [.bool b, .roi .u32 b_1]⟩]) (fun r3 r4 => c_ (.agg [.ptr 1 0, .int .i64 e]) [⟨98, 1, .cells [.bool b, .roi .u32 b_1]⟩, ⟨98, 1, .cells [.bool r3, .roi .u32 r4]⟩]) := by kernel_rfl
theorem goodQ34 (N : Nat) (SQ97 : TSQ97) (hQ97 : GoodF Pg 98 (FQ97 SQ97)) : GoodF Pg 54 (FQ34 (GQ34 N SQ97)) := by
  refine good_fs (cx := ⟨Pg, ofList [(98, (FQ97 SQ97))], isref, N⟩) (ofList_cons hQ97 (ofList_nil _)) shFQ34 (spQ34 (GQ34 N SQ97)) (anQ34 N SQ97) 0 1 (by kernel_rfl) (fun i_ hi_ => by omega) ?_
  intro a k h
  unfold spQ34 at h
  split at h
  · exact ⟨[_], rfl, rfl, (eqQ34 _ _ _ _ _ _ _).trans h⟩
  · cases h

def sh_st_binnacleref00_plus_0 : StSh := ⟨(.roi .u32 :: (.roi .u32 :: (sqs 4 (.slw 0 :: (.int .u64 :: (.int .i64 :: (sqs 52 []))))))), [some (87, 1, .ints .u32)]⟩
def sx0_st_binnacleref00_plus_0 : StSh := ⟨(.roi .u32 :: (sqs 5 (.slw 0 :: (.int .u64 :: (sqs 53 []))))), [some (87, 1, .ints .u32)]⟩
def hk_st_binnacleref00_plus_0 (N : Nat) (SQ16 : TSQ16) : List Atom -> K -> Bool := fun a_ κ => match a_ with
  | [.ints a_1, .ints b_1, .int carry, .int i, .ints out] => iterG N (st_z00_plus_0 N SQ16 a_1 b_1 (fun r1 r2 => κ.ext 0 (sx0_st_binnacleref00_plus_0.build [.ints a_1, .int r1, .ints r2]))) (carry, i, out)
  | _ => false
def anQ153 (N : Nat) (SQ16 : TSQ16) : Nat -> Option Ann := fun b_ => cond (b_ == 0) (some ⟨⟨[0, 1, 6, 7, 8], [], []⟩, [(0, ⟨[0, 6, 7], [], []⟩)], some ⟨[4], [], []⟩, some (mkHooks [(sh_st_binnacleref00_plus_0, hk_st_binnacleref00_plus_0 N SQ16)])⟩) (none)
theorem eq_st_binnacleref00_plus_0 (N : Nat) (SQ16 : TSQ16) (κ : K) (a_1 b_1 : List Int) (carry i : Int) (out : List Int) : iter N (fun s k => codeV ⟨Pg, ofList [(147, (FQ16 SQ16))], isref, N⟩ 0 (anQ153 N SQ16) (lp Pg 143 0).2 (lp Pg 143 0).1 s (roundK Pg 0 ((anQ153 N SQ16) (lp Pg 143 0).1) κ k)) (sh_st_binnacleref00_plus_0.build [.ints a_1, .ints b_1, .int carry, .int i, .ints out]) = iterG N (st_z00_plus_0 N SQ16 a_1 b_1 (fun r1 r2 => κ.ext 0 (sx0_st_binnacleref00_plus_0.build [.ints a_1, .int r1, .ints r2]))) (carry, i, out) :=
  iter_tr (fun (v_ : Int × Int × List Int) => sh_st_binnacleref00_plus_0.build [.ints a_1, .ints b_1, .int v_.1, .int v_.2.1, .ints v_.2.2]) (fun v_ K_ => by obtain ⟨carry, i, out⟩ := v_; kernel_rfl) N (carry, i, out)
theorem hk1_st_binnacleref00_plus_0 (N : Nat) (SQ16 : TSQ16) : HookFor ⟨Pg, ofList [(147, (FQ16 SQ16))], isref, N⟩ 0 (anQ153 N SQ16) (lp Pg 143 0) (sh_st_binnacleref00_plus_0, hk_st_binnacleref00_plus_0 N SQ16) := by
  intro a κ h
  simp only at h
  unfold hk_st_binnacleref00_plus_0 at h
  split at h
  · exact (eq_st_binnacleref00_plus_0 _ _ _ _ _ _ _ _).trans h
  · cases h
theorem ho_binnacleref00_plus_0 (N : Nat) (SQ16 : TSQ16) : HookOk ⟨Pg, ofList [(147, (FQ16 SQ16))], isref, N⟩ 0 (anQ153 N SQ16) (lp Pg 143 0) :=
  hooks_ok [(sh_st_binnacleref00_plus_0, hk_st_binnacleref00_plus_0 N SQ16)] (by kernel_rfl) ⟨hk1_st_binnacleref00_plus_0 _ _, trivial⟩
theorem eqQ153 (N : Nat) (SQ16 : TSQ16) (a b : List Int) (c_ : V -> List Blk -> Bool) : bodyZ ⟨Pg, ofList [(147, (FQ16 SQ16))], isref, N⟩ (anQ153 N SQ16) 143 (shFQ153.args [.ints a, .ints b]) [] c_ = GQ153 N SQ16 a b (fun r0 => c_ (.roi .u32 r0) []) := by kernel_rfl
theorem goodQ153 (N : Nat) (SQ16 : TSQ16) (hQ16 : GoodF Pg 147 (FQ16 SQ16)) : GoodF Pg 143 (FQ153 (GQ153 N SQ16)) := by
  refine good_fsZ (cx := ⟨Pg, ofList [(147, (FQ16 SQ16))], isref, N⟩) (ofList_cons hQ16 (ofList_nil _)) shFQ153 (spQ153 (GQ153 N SQ16)) (anQ153 N SQ16) 1 0 (by kernel_rfl) (fun i_ hi_ => by
    match i_, hi_ with
    | 0, _ => exact ho_binnacleref00_plus_0 _ _
    | (q + 1), h => omega) ?_
  intro a k h
  unfold spQ153 at h
  split at h
  · exact ⟨[], rfl, rfl, (eqQ153 _ _ _ _ _).trans h⟩
  · cases h

def sh_st_binnacleref00_compare_0 : StSh := ⟨(.roi .u32 :: (.roi .u32 :: (.any :: (.any :: (.any :: (.int .i64 :: (sqs 35 []))))))), []⟩
def sx0_st_binnacleref00_compare_0 : StSh := ⟨(sqs 4 (.int .i64 :: (sqs 36 []))), []⟩
def sx1_st_binnacleref00_compare_0 : StSh := ⟨(sqs 41 []), []⟩
def hk_st_binnacleref00_compare_0 (N : Nat) : List Atom -> K -> Bool := fun a_ κ => match a_ with
  | [.ints a_1, .ints b_1, .int i] => iterG N (stQ193 N a_1 b_1 (fun r0 => κ.ret (sx0_st_binnacleref00_compare_0.build [.int r0])) (κ.ext 0 (sx1_st_binnacleref00_compare_0.build []))) i
  | _ => false
def anQ112 (N : Nat) : Nat -> Option Ann := fun b_ => cond (b_ == 0) (some ⟨⟨[0, 1, 5], [], []⟩, [(0, ⟨[], [], []⟩)], some ⟨[4], [], []⟩, some (mkHooks [(sh_st_binnacleref00_compare_0, hk_st_binnacleref00_compare_0 N)])⟩) (none)
theorem eq_st_binnacleref00_compare_0 (N : Nat) (κ : K) (a_1 b_1 : List Int) (i : Int) : iter N (fun s k => codeV ⟨Pg, ofList [], isref, N⟩ 0 (anQ112 N) (lp Pg 144 0).2 (lp Pg 144 0).1 s (roundK Pg 0 ((anQ112 N) (lp Pg 144 0).1) κ k)) (sh_st_binnacleref00_compare_0.build [.ints a_1, .ints b_1, .int i]) = iterG N (stQ193 N a_1 b_1 (fun r0 => κ.ret (sx0_st_binnacleref00_compare_0.build [.int r0])) (κ.ext 0 (sx1_st_binnacleref00_compare_0.build []))) i :=
  iter_tr (fun v_ => sh_st_binnacleref00_compare_0.build [.ints a_1, .ints b_1, .int v_]) (fun v_ K_ => by kernel_rfl) N i
theorem hk1_st_binnacleref00_compare_0 (N : Nat) : HookFor ⟨Pg, ofList [], isref, N⟩ 0 (anQ112 N) (lp Pg 144 0) (sh_st_binnacleref00_compare_0, hk_st_binnacleref00_compare_0 N) := by
  intro a κ h
  simp only at h
  unfold hk_st_binnacleref00_compare_0 at h
  split at h
  · exact (eq_st_binnacleref00_compare_0 _ _ _ _ _).trans h
  · cases h
theorem ho_binnacleref00_compare_0 (N : Nat) : HookOk ⟨Pg, ofList [], isref, N⟩ 0 (anQ112 N) (lp Pg 144 0) :=
  hooks_ok [(sh_st_binnacleref00_compare_0, hk_st_binnacleref00_compare_0 N)] (by kernel_rfl) ⟨hk1_st_binnacleref00_compare_0 _, trivial⟩
theorem eqQ112 (N : Nat) (a b : List Int) (c_ : V -> List Blk -> Bool) : bodyZ ⟨Pg, ofList [], isref, N⟩ (anQ112 N) 144 (shFQ112.args [.ints a, .ints b]) [] c_ = GQ112 N a b (fun r0 => c_ (.int .i64 r0) []) := by kernel_rfl
theorem goodQ112 (N : Nat) : GoodF Pg 144 (FQ112 (GQ112 N)) := by
  refine good_fsZ (cx := ⟨Pg, ofList [], isref, N⟩) (ofList_nil _) shFQ112 (spQ112 (GQ112 N)) (anQ112 N) 1 0 (by kernel_rfl) (fun i_ hi_ => by
    match i_, hi_ with
    | 0, _ => exact ho_binnacleref00_compare_0 _
    | (q + 1), h => omega) ?_
  intro a k h
  unfold spQ112 at h
  split at h
  · exact ⟨[], rfl, rfl, (eqQ112 _ _ _ _).trans h⟩
  · cases h

def sh_st_binnacleref00_minus_0 : StSh := ⟨(.roi .u32 :: (.roi .u32 :: (.any :: (.any :: (.any :: (.slw 0 :: (.int .u64 :: (.int .i64 :: (sqs 48 []))))))))), [some (87, 1, .ints .u32)]⟩
def sx0_st_binnacleref00_minus_0 : StSh := ⟨(sqs 5 (.slw 0 :: (sqs 50 []))), [some (87, 1, .ints .u32)]⟩
def hk_st_binnacleref00_minus_0 (N : Nat) (SQ16 : TSQ16) : List Atom -> K -> Bool := fun a_ κ => match a_ with
  | [.ints a_1, .ints b_1, .int borrow, .int i, .ints out] => iterG N (st_z00_minus_0 N SQ16 a_1 b_1 (fun r0 => κ.ext 0 (sx0_st_binnacleref00_minus_0.build [.ints r0]))) (borrow, i, out)
  | _ => false
def anQ135 (N : Nat) (SQ16 : TSQ16) : Nat -> Option Ann := fun b_ => cond (b_ == 0) (some ⟨⟨[0, 1, 5, 6, 7], [], []⟩, [(0, ⟨[5], [], []⟩)], some ⟨[4], [], []⟩, some (mkHooks [(sh_st_binnacleref00_minus_0, hk_st_binnacleref00_minus_0 N SQ16)])⟩) (none)
theorem eq_st_binnacleref00_minus_0 (N : Nat) (SQ16 : TSQ16) (κ : K) (a_1 b_1 : List Int) (borrow i : Int) (out : List Int) : iter N (fun s k => codeV ⟨Pg, ofList [(147, (FQ16 SQ16))], isref, N⟩ 0 (anQ135 N SQ16) (lp Pg 145 0).2 (lp Pg 145 0).1 s (roundK Pg 0 ((anQ135 N SQ16) (lp Pg 145 0).1) κ k)) (sh_st_binnacleref00_minus_0.build [.ints a_1, .ints b_1, .int borrow, .int i, .ints out]) = iterG N (st_z00_minus_0 N SQ16 a_1 b_1 (fun r0 => κ.ext 0 (sx0_st_binnacleref00_minus_0.build [.ints r0]))) (borrow, i, out) :=
  iter_tr (fun (v_ : Int × Int × List Int) => sh_st_binnacleref00_minus_0.build [.ints a_1, .ints b_1, .int v_.1, .int v_.2.1, .ints v_.2.2]) (fun v_ K_ => by obtain ⟨borrow, i, out⟩ := v_; kernel_rfl) N (borrow, i, out)
theorem hk1_st_binnacleref00_minus_0 (N : Nat) (SQ16 : TSQ16) : HookFor ⟨Pg, ofList [(147, (FQ16 SQ16))], isref, N⟩ 0 (anQ135 N SQ16) (lp Pg 145 0) (sh_st_binnacleref00_minus_0, hk_st_binnacleref00_minus_0 N SQ16) := by
  intro a κ h
  simp only at h
  unfold hk_st_binnacleref00_minus_0 at h
  split at h
  · exact (eq_st_binnacleref00_minus_0 _ _ _ _ _ _ _ _).trans h
  · cases h
theorem ho_binnacleref00_minus_0 (N : Nat) (SQ16 : TSQ16) : HookOk ⟨Pg, ofList [(147, (FQ16 SQ16))], isref, N⟩ 0 (anQ135 N SQ16) (lp Pg 145 0) :=
  hooks_ok [(sh_st_binnacleref00_minus_0, hk_st_binnacleref00_minus_0 N SQ16)] (by kernel_rfl) ⟨hk1_st_binnacleref00_minus_0 _ _, trivial⟩
theorem eqQ135 (N : Nat) (SQ16 : TSQ16) (a b : List Int) (c_ : V -> List Blk -> Bool) : bodyZ ⟨Pg, ofList [(147, (FQ16 SQ16))], isref, N⟩ (anQ135 N SQ16) 145 (shFQ135.args [.ints a, .ints b]) [] c_ = GQ135 N SQ16 a b (fun r0 => c_ (.roi .u32 r0) []) := by kernel_rfl
theorem goodQ135 (N : Nat) (SQ16 : TSQ16) (hQ16 : GoodF Pg 147 (FQ16 SQ16)) : GoodF Pg 145 (FQ135 (GQ135 N SQ16)) := by
  refine good_fsZ (cx := ⟨Pg, ofList [(147, (FQ16 SQ16))], isref, N⟩) (ofList_cons hQ16 (ofList_nil _)) shFQ135 (spQ135 (GQ135 N SQ16)) (anQ135 N SQ16) 1 0 (by kernel_rfl) (fun i_ hi_ => by
    match i_, hi_ with
    | 0, _ => exact ho_binnacleref00_minus_0 _ _
    | (q + 1), h => omega) ?_
  intro a k h
  unfold spQ135 at h
  split at h
  · exact ⟨[], rfl, rfl, (eqQ135 _ _ _ _ _).trans h⟩
  · cases h

def anQ80 (N : Nat) (SQ153 : TSQ153) (SQ51 : TSQ51) (SQ112 : TSQ112) (SQ135 : TSQ135) : Nat -> Option Ann := fun b_ => none
theorem eqQ80 (N : Nat) (SQ153 : TSQ153) (SQ51 : TSQ51) (SQ112 : TSQ112) (SQ135 : TSQ135) (turn b b_1 : Bool) (b_2 : List Int) (b_3 : Bool) (b_4 : List Int) (c_ : V -> List Blk -> Bool) : bodyZ ⟨Pg, ofList [(143, (FQ153 SQ153)), (99, (FQ51 SQ51)), (144, (FQ112 SQ112)), (145, (FQ135 SQ135))], isref, N⟩ (anQ80 N SQ153 SQ51 SQ112 SQ135) 97 (shFQ80.args [.bool turn, .bool b, .bool b_1, .ints b_2, .bool b_3, .ints b_4]) [⟨98, 1, .cells [.bool b, .nil]⟩, ⟨98, 1, .cells [.bool b_1, .roi .u32 b_2]⟩, ⟨98, 1, .cells [.bool b_3, .roi .u32 b_4]⟩] c_ = GQ80 N SQ153 SQ51 SQ112 SQ135 turn b b_1 b_2 b_3 b_4 (fun r0 r1 => c_ (.ptr 0 0) [⟨98, 1, .cells [.bool r0, .roi .u32 r1]⟩, ⟨98, 1, .cells [.bool b_1, .roi .u32 b_2]⟩, ⟨98, 1, .cells [.bool b_3, .roi .u32 b_4]⟩]) := by kernel_rfl
theorem goodQ80 (N : Nat) (SQ153 : TSQ153) (SQ51 : TSQ51) (SQ112 : TSQ112) (SQ135 : TSQ135) (hQ153 : GoodF Pg 143 (FQ153 SQ153)) (hQ51 : GoodF Pg 99 (FQ51 SQ51)) (hQ112 : GoodF Pg 144 (FQ112 SQ112)) (hQ135 : GoodF Pg 145 (FQ135 SQ135)) : GoodF Pg 97 (FQ80 (GQ80 N SQ153 SQ51 SQ112 SQ135)) := by
  refine good_fsZ (cx := ⟨Pg, ofList [(143, (FQ153 SQ153)), (99, (FQ51 SQ51)), (144, (FQ112 SQ112)), (145, (FQ135 SQ135))], isref, N⟩) (ofList_cons hQ153 (ofList_cons hQ51 (ofList_cons hQ112 (ofList_cons hQ135 (ofList_nil _))))) shFQ80 (spQ80 (GQ80 N SQ153 SQ51 SQ112 SQ135)) (anQ80 N SQ153 SQ51 SQ112 SQ135) 0 3 (by kernel_rfl) (fun i_ hi_ => by omega) ?_
  intro a k h
  unfold spQ80 at h
  split at h
  · exact ⟨[_, _, _], rfl, rfl, (eqQ80 _ _ _ _ _ _ _ _ _ _ _ _).trans h⟩
  · cases h

def anQ49 (N : Nat) (SQ80 : TSQ80) : Nat -> Option Ann := fun b_ => none
theorem eqQ49 (N : Nat) (SQ80 : TSQ80) (b b_1 : Bool) (b_2 : List Int) (b_3 : Bool) (b_4 : List Int) (c_ : V -> List Blk -> Bool) : bodyZ ⟨Pg, ofList [(97, (FQ80 SQ80))], isref, N⟩ (anQ49 N SQ80) 53 (shFQ49.args [.bool b, .bool b_1, .ints b_2, .bool b_3, .ints b_4]) [⟨98, 1, .cells [.bool b, .nil]⟩, ⟨98, 1, .cells [.bool b_1, .roi .u32 b_2]⟩, ⟨98, 1, .cells [.bool b_3, .roi .u32 b_4]⟩] c_ = GQ49 N SQ80 b b_1 b_2 b_3 b_4 (fun r0 r1 => c_ (.ptr 0 0) [⟨98, 1, .cells [.bool r0, .roi .u32 r1]⟩, ⟨98, 1, .cells [.bool b_1, .roi .u32 b_2]⟩, ⟨98, 1, .cells [.bool b_3, .roi .u32 b_4]⟩]) := by kernel_rfl
theorem goodQ49 (N : Nat) (SQ80 : TSQ80) (hQ80 : GoodF Pg 97 (FQ80 SQ80)) : GoodF Pg 53 (FQ49 (GQ49 N SQ80)) := by
  refine good_fsZ (cx := ⟨Pg, ofList [(97, (FQ80 SQ80))], isref, N⟩) (ofList_cons hQ80 (ofList_nil _)) shFQ49 (spQ49 (GQ49 N SQ80)) (anQ49 N SQ80) 0 3 (by kernel_rfl) (fun i_ hi_ => by omega) ?_
  intro a k h
  unfold spQ49 at h
  split at h
  · exact ⟨[_, _, _], rfl, rfl, (eqQ49 _ _ _ _ _ _ _ _).trans h⟩
  · cases h

def anQ23 (N : Nat) (SQ119 : TSQ119) (SQ64 : TSQ64) (SQ34 : TSQ34) (SQ49 : TSQ49) : Nat -> Option Ann := fun b_ => none
theorem eqQ23 (N : Nat) (SQ119 : TSQ119) (SQ64 : TSQ64) (SQ34 : TSQ34) (SQ49 : TSQ49) (x y : Int) (b b_1 : Bool) (b_2 : List Int) (c_ : V -> List Blk -> Bool) : bodyV ⟨Pg, ofList [(52, (orFs (FQ119 SQ119) (FQ64 SQ64) shFQ119)), (54, (FQ34 SQ34)), (53, (FQ49 SQ49))], isref, N⟩ (anQ23 N SQ119 SQ64 SQ34 SQ49) 15 (shFQ23.args [.int x, .int y, .bool b, .bool b_1, .ints b_2]) [⟨98, 1, .cells [.bool b, .nil]⟩, ⟨98, 1, .cells [.bool b_1, .roi .u32 b_2]⟩] c_ = GQ23 N SQ119 SQ64 SQ34 SQ49 x y b b_1 b_2 (fun r2 => c_ (.agg [.ptr 1 0, .int .i64 y]) [⟨98, 1, .cells [.bool b, .roi .u32 r2]⟩, ⟨98, 1, .cells [.bool b_1, .roi .u32 b_2]⟩]) (fun r2 => c_ (.agg [.ptr 0 0, .int .i64 x]) [⟨98, 1, .cells [.bool b, .roi .u32 r2]⟩, ⟨98, 1, .cells [.bool b_1, .roi .u32 b_2]⟩]) (fun r0 r2 r5 r6 => c_ (.agg [.ptr 2 0, .int .i64 r0]) [⟨98, 1, .cells [.bool b, .roi .u32 r2]⟩, ⟨98, 1, .cells [.bool b_1, .roi .u32 b_2]⟩, ⟨98, 1, .cells [.bool r5, .roi .u32 r6]⟩]) := by kernel_rfl
theorem goodQ23 (N : Nat) (SQ119 : TSQ119) (SQ64 : TSQ64) (SQ34 : TSQ34) (SQ49 : TSQ49) (hQ119 : GoodF Pg 52 (FQ119 SQ119)) (hQ64 : GoodF Pg 52 (FQ64 SQ64)) (hQ34 : GoodF Pg 54 (FQ34 SQ34)) (hQ49 : GoodF Pg 53 (FQ49 SQ49)) : GoodF Pg 15 (FQ23 (GQ23 N SQ119 SQ64 SQ34 SQ49)) := by
  refine good_fs (cx := ⟨Pg, ofList [(52, (orFs (FQ119 SQ119) (FQ64 SQ64) shFQ119)), (54, (FQ34 SQ34)), (53, (FQ49 SQ49))], isref, N⟩) (ofList_cons (good_or hQ119 hQ64) (ofList_cons hQ34 (ofList_cons hQ49 (ofList_nil _)))) shFQ23 (spQ23 (GQ23 N SQ119 SQ64 SQ34 SQ49)) (anQ23 N SQ119 SQ64 SQ34 SQ49) 0 2 (by kernel_rfl) (fun i_ hi_ => by omega) ?_
  intro a k h
  unfold spQ23 at h
  split at h
  · exact ⟨[_, _], rfl, rfl, (eqQ23 _ _ _ _ _ _ _ _ _ _ _).trans h⟩
  · cases h

def anQ8 (N : Nat) (SQ64 : TSQ64) (SQ34 : TSQ34) (SQ49 : TSQ49) : Nat -> Option Ann := fun b_ => none
theorem eqQ8 (N : Nat) (SQ64 : TSQ64) (SQ34 : TSQ34) (SQ49 : TSQ49) (x y : Int) (b : Bool) (b_1 : List Int) (b_2 : Bool) (b_3 : List Int) (c_ : V -> List Blk -> Bool) : bodyV ⟨Pg, ofList [(52, (FQ64 SQ64)), (54, (FQ34 SQ34)), (53, (FQ49 SQ49))], isref, N⟩ (anQ8 N SQ64 SQ34 SQ49) 15 (shFQ8.args [.int x, .int y, .bool b, .ints b_1, .bool b_2, .ints b_3]) [⟨98, 1, .cells [.bool b, .roi .u32 b_1]⟩, ⟨98, 1, .cells [.bool b_2, .roi .u32 b_3]⟩] c_ = GQ8 N SQ64 SQ34 SQ49 x y b b_1 b_2 b_3 (c_ (.agg [.ptr 1 0, .int .i64 y]) [⟨98, 1, .cells [.bool b, .roi .u32 b_1]⟩, ⟨98, 1, .cells [.bool b_2, .roi .u32 b_3]⟩]) (c_ (.agg [.ptr 0 0, .int .i64 x]) [⟨98, 1, .cells [.bool b, .roi .u32 b_1]⟩, ⟨98, 1, .cells [.bool b_2, .roi .u32 b_3]⟩]) (fun r0 r5 r6 => c_ (.agg [.ptr 2 0, .int .i64 r0]) [⟨98, 1, .cells [.bool b, .roi .u32 b_1]⟩, ⟨98, 1, .cells [.bool b_2, .roi .u32 b_3]⟩, ⟨98, 1, .cells [.bool r5, .roi .u32 r6]⟩]) := by kernel_rfl
theorem goodQ8 (N : Nat) (SQ64 : TSQ64) (SQ34 : TSQ34) (SQ49 : TSQ49) (hQ64 : GoodF Pg 52 (FQ64 SQ64)) (hQ34 : GoodF Pg 54 (FQ34 SQ34)) (hQ49 : GoodF Pg 53 (FQ49 SQ49)) : GoodF Pg 15 (FQ8 (GQ8 N SQ64 SQ34 SQ49)) := by
  refine good_fs (cx := ⟨Pg, ofList [(52, (FQ64 SQ64)), (54, (FQ34 SQ34)), (53, (FQ49 SQ49))], isref, N⟩) (ofList_cons hQ64 (ofList_cons hQ34 (ofList_cons hQ49 (ofList_nil _)))) shFQ8 (spQ8 (GQ8 N SQ64 SQ34 SQ49)) (anQ8 N SQ64 SQ34 SQ49) 0 2 (by kernel_rfl) (fun i_ hi_ => by omega) ?_
  intro a k h
  unfold spQ8 at h
  split at h
  · exact ⟨[_, _], rfl, rfl, (eqQ8 _ _ _ _ _ _ _ _ _ _ _).trans h⟩
  · cases h

def sh_st_binnacleref03_Dot_0 : StSh := ⟨(.rof :: (.rof :: (.any :: (.any :: (.ptr 0 0 :: (.ptr 1 0 :: (.any :: (.any :: (.any :: (.int .i64 :: (.int .i64 :: (sqs 17 [])))))))))))), [some (42, 1, .cells [.val, .int .i64]), some (42, 1, .cells [.ptr 2 0, .int .i64]), some (98, 1, .cells [.bool, .roi .u32])]⟩
def sx0_st_binnacleref03_Dot_0 : StSh := ⟨(sqs 4 (.ptr 0 0 :: (.ptr 1 0 :: (sqs 22 [])))), [some (42, 1, .cells [.val, .int .i64]), some (42, 1, .cells [.ptr 2 0, .int .i64]), some (98, 1, .cells [.bool, .roi .u32])]⟩
def hk_st_binnacleref03_Dot_0 (N : Nat) (SQ125 : TSQ125) (SQ166 : TSQ166) (SQ24 : TSQ24) (SQ23 : TSQ23) (SQ8 : TSQ8) : List Atom -> K -> Bool := fun a_ κ => match a_ with
  | [.fls a_2, .fls b_2, .int t9_1, .int t10_1, .val t4_2, .int t4_3, .int s_1, .bool b2_1, .ints b2_2] => iterG N (st_z03_Dot_0 N SQ125 SQ166 SQ24 SQ23 SQ8 a_2 b_2 t9_1 t4_2 t4_3 (fun r2 r3 r4 => κ.ext 0 (sx0_st_binnacleref03_Dot_0.build [.val t4_2, .int t4_3, .int r2, .bool r3, .ints r4]))) (t10_1, s_1, b2_1, b2_2)
  | _ => false
def anQ168 (N : Nat) (SQ125 : TSQ125) (SQ166 : TSQ166) (SQ24 : TSQ24) (SQ23 : TSQ23) (SQ8 : TSQ8) : Nat -> Option Ann := fun b_ => cond (b_ == 0) (some ⟨⟨[0, 1, 4, 5, 9, 10], [], [(2, 1, some .u32)]⟩, [(0, ⟨[4, 5], [], []⟩)], some ⟨[4], [], []⟩, some (mkHooks [(sh_st_binnacleref03_Dot_0, hk_st_binnacleref03_Dot_0 N SQ125 SQ166 SQ24 SQ23 SQ8)])⟩) (none)
theorem eq_st_binnacleref03_Dot_0 (N : Nat) (SQ125 : TSQ125) (SQ166 : TSQ166) (SQ24 : TSQ24) (SQ23 : TSQ23) (SQ8 : TSQ8) (κ : K) (a_2 b_2 : List Fl) (t9_1 t10_1 : Int) (t4_2 : Value) (t4_3 s_1 : Int) (b2_1 : Bool) (b2_2 : List Int) : iter N (fun s k => codeV ⟨Pg, ofList [(100, (FQ125 SQ125)), (28, (FQ166 SQ166)), (19, (FQ24 SQ24)), (15, (orFs (FQ23 SQ23) (FQ8 SQ8) shFQ23))], isref, N⟩ 0 (anQ168 N SQ125 SQ166 SQ24 SQ23 SQ8) (lp Pg 56 0).2 (lp Pg 56 0).1 s (roundK Pg 0 ((anQ168 N SQ125 SQ166 SQ24 SQ23 SQ8) (lp Pg 56 0).1) κ k)) (sh_st_binnacleref03_Dot_0.build [.fls a_2, .fls b_2, .int t9_1, .int t10_1, .val t4_2, .int t4_3, .int s_1, .bool b2_1, .ints b2_2]) = iterG N (st_z03_Dot_0 N SQ125 SQ166 SQ24 SQ23 SQ8 a_2 b_2 t9_1 t4_2 t4_3 (fun r2 r3 r4 => κ.ext 0 (sx0_st_binnacleref03_Dot_0.build [.val t4_2, .int t4_3, .int r2, .bool r3, .ints r4]))) (t10_1, s_1, b2_1, b2_2) :=
  iter_tr (fun (v_ : Int × Int × Bool × List Int) => sh_st_binnacleref03_Dot_0.build [.fls a_2, .fls b_2, .int t9_1, .int v_.1, .val t4_2, .int t4_3, .int v_.2.1, .bool v_.2.2.1, .ints v_.2.2.2]) (fun v_ K_ => by obtain ⟨t10_1, s_1, b2_1, b2_2⟩ := v_; kernel_rfl) N (t10_1, s_1, b2_1, b2_2)
theorem hk1_st_binnacleref03_Dot_0 (N : Nat) (SQ125 : TSQ125) (SQ166 : TSQ166) (SQ24 : TSQ24) (SQ23 : TSQ23) (SQ8 : TSQ8) : HookFor ⟨Pg, ofList [(100, (FQ125 SQ125)), (28, (FQ166 SQ166)), (19, (FQ24 SQ24)), (15, (orFs (FQ23 SQ23) (FQ8 SQ8) shFQ23))], isref, N⟩ 0 (anQ168 N SQ125 SQ166 SQ24 SQ23 SQ8) (lp Pg 56 0) (sh_st_binnacleref03_Dot_0, hk_st_binnacleref03_Dot_0 N SQ125 SQ166 SQ24 SQ23 SQ8) := by
  intro a κ h
  simp only at h
  unfold hk_st_binnacleref03_Dot_0 at h
  split at h
  · exact (eq_st_binnacleref03_Dot_0 _ _ _ _ _ _ _ _ _ _ _ _ _ _ _ _).trans h
  · cases h
theorem ho_binnacleref03_Dot_0 (N : Nat) (SQ125 : TSQ125) (SQ166 : TSQ166) (SQ24 : TSQ24) (SQ23 : TSQ23) (SQ8 : TSQ8) : HookOk ⟨Pg, ofList [(100, (FQ125 SQ125)), (28, (FQ166 SQ166)), (19, (FQ24 SQ24)), (15, (orFs (FQ23 SQ23) (FQ8 SQ8) shFQ23))], isref, N⟩ 0 (anQ168 N SQ125 SQ166 SQ24 SQ23 SQ8) (lp Pg 56 0) :=
  hooks_ok [(sh_st_binnacleref03_Dot_0, hk_st_binnacleref03_Dot_0 N SQ125 SQ166 SQ24 SQ23 SQ8)] (by kernel_rfl) ⟨hk1_st_binnacleref03_Dot_0 _ _ _ _ _ _, trivial⟩
theorem eqQ168 (N : Nat) (SQ125 : TSQ125) (SQ166 : TSQ166) (SQ24 : TSQ24) (SQ23 : TSQ23) (SQ8 : TSQ8) (a b : List Fl) (c_ : V -> List Blk -> Bool) : bodyV ⟨Pg, ofList [(100, (FQ125 SQ125)), (28, (FQ166 SQ166)), (19, (FQ24 SQ24)), (15, (orFs (FQ23 SQ23) (FQ8 SQ8) shFQ23))], isref, N⟩ (anQ168 N SQ125 SQ166 SQ24 SQ23 SQ8) 56 (shFQ168.args [.fls a, .fls b]) [] c_ = GQ168 N SQ125 SQ166 SQ24 SQ23 SQ8 a b (fun r0 r1 r2 => c_ (.agg [.ptr 0 0, .int .i64 r0]) [⟨98, 1, .cells [.bool r1, .roi .u32 r2]⟩]) := by kernel_rfl
theorem goodQ168 (N : Nat) (SQ125 : TSQ125) (SQ166 : TSQ166) (SQ24 : TSQ24) (SQ23 : TSQ23) (SQ8 : TSQ8) (hQ125 : GoodF Pg 100 (FQ125 SQ125)) (hQ166 : GoodF Pg 28 (FQ166 SQ166)) (hQ24 : GoodF Pg 19 (FQ24 SQ24)) (hQ23 : GoodF Pg 15 (FQ23 SQ23)) (hQ8 : GoodF Pg 15 (FQ8 SQ8)) : GoodF Pg 56 (FQ168 (GQ168 N SQ125 SQ166 SQ24 SQ23 SQ8)) := by
  refine good_fs (cx := ⟨Pg, ofList [(100, (FQ125 SQ125)), (28, (FQ166 SQ166)), (19, (FQ24 SQ24)), (15, (orFs (FQ23 SQ23) (FQ8 SQ8) shFQ23))], isref, N⟩) (ofList_cons hQ125 (ofList_cons hQ166 (ofList_cons hQ24 (ofList_cons (good_or hQ23 hQ8) (ofList_nil _))))) shFQ168 (spQ168 (GQ168 N SQ125 SQ166 SQ24 SQ23 SQ8)) (anQ168 N SQ125 SQ166 SQ24 SQ23 SQ8) 1 0 (by kernel_rfl) (fun i_ hi_ => by
    match i_, hi_ with
    | 0, _ => exact ho_binnacleref03_Dot_0 _ _ _ _ _ _
    | (q + 1), h => omega) ?_
  intro a k h
  unfold spQ168 at h
  split at h
  · exact ⟨[], rfl, rfl, (eqQ168 _ _ _ _ _ _ _ _ _).trans h⟩
  · cases h

def anQ87 (N : Nat) (SQ113 : TSQ113) (SQ51 : TSQ51) : Nat -> Option Ann := fun b_ => none
theorem eqQ87 (N : Nat) (SQ113 : TSQ113) (SQ51 : TSQ51) (n : Int) (b : Bool) (c_ : V -> List Blk -> Bool) : bodyZ ⟨Pg, ofList [(117, (FQ113 SQ113)), (99, (FQ51 SQ51))], isref, N⟩ (anQ87 N SQ113 SQ51) 96 (shFQ87.args [.int n, .bool b]) [⟨98, 1, .cells [.bool b, .nil]⟩] c_ = GQ87 N SQ113 SQ51 n b (fun r0 r1 => c_ (.ptr 0 0) [⟨98, 1, .cells [.bool r0, .roi .u32 r1]⟩]) := by kernel_rfl
theorem goodQ87 (N : Nat) (SQ113 : TSQ113) (SQ51 : TSQ51) (hQ113 : GoodF Pg 117 (FQ113 SQ113)) (hQ51 : GoodF Pg 99 (FQ51 SQ51)) : GoodF Pg 96 (FQ87 (GQ87 N SQ113 SQ51)) := by
  refine good_fsZ (cx := ⟨Pg, ofList [(117, (FQ113 SQ113)), (99, (FQ51 SQ51))], isref, N⟩) (ofList_cons hQ113 (ofList_cons hQ51 (ofList_nil _))) shFQ87 (spQ87 (GQ87 N SQ113 SQ51)) (anQ87 N SQ113 SQ51) 0 1 (by kernel_rfl) (fun i_ hi_ => by omega) ?_
  intro a k h
  unfold spQ87 at h
  split at h
  · exact ⟨[_], rfl, rfl, (eqQ87 _ _ _ _ _ _).trans h⟩
  · cases h

def anQ93 (N : Nat) (SQ87 : TSQ87) : Nat -> Option Ann := fun b_ => none
theorem eqQ93 (N : Nat) (SQ87 : TSQ87) (n : Int) (c_ : V -> List Blk -> Bool) : bodyZ ⟨Pg, ofList [(96, (FQ87 SQ87))], isref, N⟩ (anQ93 N SQ87) 51 (shFQ93.args [.int n]) [] c_ = GQ93 N SQ87 n (fun r0 r1 => c_ (.ptr 0 0) [⟨98, 1, .cells [.bool r0, .roi .u32 r1]⟩]) := by kernel_rfl
theorem goodQ93 (N : Nat) (SQ87 : TSQ87) (hQ87 : GoodF Pg 96 (FQ87 SQ87)) : GoodF Pg 51 (FQ93 (GQ93 N SQ87)) := by
  refine good_fsZ (cx := ⟨Pg, ofList [(96, (FQ87 SQ87))], isref, N⟩) (ofList_cons hQ87 (ofList_nil _)) shFQ93 (spQ93 (GQ93 N SQ87)) (anQ93 N SQ87) 0 0 (by kernel_rfl) (fun i_ hi_ => by omega) ?_
  intro a k h
  unfold spQ93 at h
  split at h
  · exact ⟨[], rfl, rfl, (eqQ93 _ _ _ _).trans h⟩
  · cases h

def anQ144 (N : Nat) (SQ93 : TSQ93) : Nat -> Option Ann := fun b_ => none
theorem eqQ144 (N : Nat) (SQ93 : TSQ93) (n : Int) (c_ : V -> List Blk -> Bool) : bodyV ⟨Pg, ofList [(51, (FQ93 SQ93))], isref, N⟩ (anQ144 N SQ93) 14 (shFQ144.args [.int n]) [] c_ = GQ144 N SQ93 n (fun r0 r1 r2 => c_ (.agg [.ptr 0 0, .int .i64 r0]) [⟨98, 1, .cells [.bool r1, .roi .u32 r2]⟩]) := by kernel_rfl
theorem goodQ144 (N : Nat) (SQ93 : TSQ93) (hQ93 : GoodF Pg 51 (FQ93 SQ93)) : GoodF Pg 14 (FQ144 (GQ144 N SQ93)) := by
  refine good_fs (cx := ⟨Pg, ofList [(51, (FQ93 SQ93))], isref, N⟩) (ofList_cons hQ93 (ofList_nil _)) shFQ144 (spQ144 (GQ144 N SQ93)) (anQ144 N SQ93) 0 0 (by kernel_rfl) (fun i_ hi_ => by omega) ?_
  intro a k h
  unfold spQ144 at h
  split at h
  · exact ⟨[], rfl, rfl, (eqQ144 _ _ _ _).trans h⟩
  · cases h

def anQ83 (N : Nat) (SQ16 : TSQ16) : Nat -> Option Ann := fun b_ => none
theorem eqQ83 (N : Nat) (SQ16 : TSQ16) (neg b : Bool) (b_1 : List Int) (c_ : V -> List Blk -> Bool) : bodyZ ⟨Pg, ofList [(147, (FQ16 SQ16))], isref, N⟩ (anQ83 N SQ16) 99 (shFQ83.args [.bool neg, .bool b, .ints b_1]) [⟨98, 1, .cells [.bool b, .nil]⟩, ⟨87, 1, .ints .u32 b_1⟩] c_ = GQ83 N SQ16 neg b b_1 (fun r0 r1 r2 => c_ (.ptr 0 0) [⟨98, 1, .cells [.bool r0, .sl 1 r1 r2]⟩, ⟨87, 1, .ints .u32 b_1⟩]) := by kernel_rfl
theorem goodQ83 (N : Nat) (SQ16 : TSQ16) (hQ16 : GoodF Pg 147 (FQ16 SQ16)) : GoodF Pg 99 (FQ83 (GQ83 N SQ16)) := by
  refine good_fsZ (cx := ⟨Pg, ofList [(147, (FQ16 SQ16))], isref, N⟩) (ofList_cons hQ16 (ofList_nil _)) shFQ83 (spQ83 (GQ83 N SQ16)) (anQ83 N SQ16) 0 2 (by kernel_rfl) (fun i_ hi_ => by omega) ?_
  intro a k h
  unfold spQ83 at h
  split at h
  · exact ⟨[_, _], rfl, rfl, (eqQ83 _ _ _ _ _ _).trans h⟩
  · cases h

def anQ96 (N : Nat) (SQ83 : TSQ83) : Nat -> Option Ann := fun b_ => none
theorem eqQ96 (N : Nat) (SQ83 : TSQ83) (b b_1 : Bool) (b_2 : List Int) (c_ : V -> List Blk -> Bool) : bodyZ ⟨Pg, ofList [(99, (FQ83 SQ83))], isref, N⟩ (anQ96 N SQ83) 74 (shFQ96.args [.bool b, .bool b_1, .ints b_2]) [⟨98, 1, .cells [.bool b, .nil]⟩, ⟨98, 1, .cells [.bool b_1, .roi .u32 b_2]⟩] c_ = GQ96 N SQ83 b b_1 b_2 (fun r0 r1 => c_ (.ptr 0 0) [⟨98, 1, .cells [.bool r0, .roi .u32 r1]⟩, ⟨98, 1, .cells [.bool b_1, .roi .u32 b_2]⟩]) := by kernel_rfl
theorem goodQ96 (N : Nat) (SQ83 : TSQ83) (hQ83 : GoodF Pg 99 (FQ83 SQ83)) : GoodF Pg 74 (FQ96 (GQ96 N SQ83)) := by
  refine good_fsZ (cx := ⟨Pg, ofList [(99, (FQ83 SQ83))], isref, N⟩) (ofList_cons hQ83 (ofList_nil _)) shFQ96 (spQ96 (GQ96 N SQ83)) (anQ96 N SQ83) 0 2 (by kernel_rfl) (fun i_ hi_ => by omega) ?_
  intro a k h
  unfold spQ96 at h
  split at h
  · exact ⟨[_, _], rfl, rfl, (eqQ96 _ _ _ _ _ _).trans h⟩
  · cases h

end Go.Proofs.YtnfgnjciliapaaaGreatDoor
