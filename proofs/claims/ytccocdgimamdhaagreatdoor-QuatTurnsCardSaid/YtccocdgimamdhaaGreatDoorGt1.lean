/-
  THE TIES: each printed meaning is what the program does (written by program).
  Conditions: none.
-/
import Derived.Test.YtccocdgimamdhaaGreatDoorGs
namespace Go.Proofs.YtccocdgimamdhaaGreatDoor
open Go Go.Mach Go.Proofs
set_option linter.unusedVariables false
set_option maxRecDepth 50000

def an_q7 (N_ : Nat) : Nat -> Option Ann := fun b_ => none
theorem eq_q7 (N_ : Nat) (x : Int) (c_ : V -> List Blk -> Bool) : bodyV ⟨Pg, ofList [], isref, N_⟩ (an_q7 N_) 218 (shF_q7.args [.int x]) [] c_ = G_q7 N_ x (fun r0 => c_ (.int .i64 r0) []) := by
  have key : ∀ L_ : Int, codesV ⟨Pg, ofList [], isref, N_⟩ 0 (an_q7 N_) (((cds Pg 218).drop 0).map (subC 285870213051353865 L_)) 0 (st0 Pg 218 (shF_q7.args [.int x]) []) (finV Pg 218 0 c_) = (fun (k0 : Int -> Bool) => (cond (x == 0) (k0 64) ((inR (Int.fdiv (IntKind.wrap .u64 ((bitsN .and .u64 x (IntKind.wrap .u64 (0 - x))) * L_)) (2 ^ 58)) 64) && ((fits .i64 (List.getD tab64 (Int.toNat (Int.fdiv (IntKind.wrap .u64 ((bitsN .and .u64 x (IntKind.wrap .u64 (0 - x))) * L_)) (2 ^ 58))) 0)) && (k0 (List.getD tab64 (Int.toNat (Int.fdiv (IntKind.wrap .u64 ((bitsN .and .u64 x (IntKind.wrap .u64 (0 - x))) * L_)) (2 ^ 58))) 0)))))) (fun r0 => c_ (.int .i64 r0) []) := fun L_ => by kernel_rfl
  have hc : (cds Pg 218).drop 0 = ((cds Pg 218).drop 0).map (subC 285870213051353865 285870213051353865) := by kernel_rfl
  refine (bodyV_codes (by kernel_rfl)).trans ?_
  rw [hc]
  exact key 285870213051353865
theorem good_q7 (N_ : Nat) : GoodF Pg 218 (F_q7 (G_q7 N_)) := by
  refine good_fs (cx := ⟨Pg, ofList [], isref, N_⟩) (ofList_nil _) shF_q7 (sp_q7 (G_q7 N_)) (an_q7 N_) 0 0 (by kernel_rfl) (fun i_ hi_ => by omega) ?_
  intro a k h
  unfold sp_q7 at h
  split at h
  · exact ⟨[], rfl, rfl, (eq_q7 _ _ _).trans h⟩
  · cases h

def an_q75 (N_ : Nat) (S_q29 : TS_q29) (S_q28 : TS_q28) (S_q83 : TS_q83) (S_q7 : TS_q7) : Nat -> Option Ann := fun b_ => none
def ls_q192 (d_ : List V) (u_ : List (Option Blk)) (b : Int) (f_0 : Int) (f_1 : Int) (f_2 : Int) (p : Bool) (p_1 : Int) (p_2 : Int) : St := ⟨(dqs d_ 0 4 [.ptr 1 0, (dq d_ 4), (dq d_ 5), (dq d_ 6), (dq d_ 7), .ptr 2 0, (dq d_ 8), (dq d_ 9), (dq d_ 10), (dq d_ 11), (dq d_ 12), (dq d_ 13), (dq d_ 14), (dq d_ 15), (dq d_ 16), (dq d_ 17), (dq d_ 18), (dq d_ 19), (dq d_ 20), (dq d_ 21), (dq d_ 22), (dq d_ 23), (dq d_ 24), (dq d_ 25), (dq d_ 26), (dq d_ 27), (dq d_ 28), (dq d_ 29), (dq d_ 30), (dq d_ 31), (dq d_ 32), (dq d_ 33), (dq d_ 34), (dq d_ 35), (dq d_ 36), (dq d_ 37), (dq d_ 38), (dq d_ 39), (dq d_ 40), (dq d_ 41), (dq d_ 42), (dq d_ 43), (dq d_ 44), (dq d_ 45), (dq d_ 46), (dq d_ 47), (dq d_ 48), (dq d_ 49), (dq d_ 50), (dq d_ 51), (dq d_ 52), (dq d_ 53), (dq d_ 54), (dq d_ 55), (dq d_ 56), (dq d_ 57), (dq d_ 58), (dq d_ 59)]), [(u_.getD 0 none), some ⟨108, 1, .cells [.bool false, .int .u64 0, .int .i64 0]⟩, some ⟨108, 1, .cells [.bool p, .int .u64 p_1, .int .i64 p_2]⟩]⟩
theorem jn_q192 (N_ : Nat) (S_q29 : TS_q29) (S_q28 : TS_q28) (S_q83 : TS_q83) (S_q7 : TS_q7) (d_ : List V) (u_ : List (Option Blk)) (b : Int) (f_0 : Int) (f_1 : Int) (f_2 : Int) (p : Bool) (p_1 : Int) (p_2 : Int) (c_ : V -> List Blk -> Bool) : codesV ⟨Pg, ofList [(214, (F_q29 S_q29)), (189, (F_q28 S_q28)), (217, (F_q83 S_q83)), (218, (F_q7 S_q7))], isref, N_⟩ 0 (an_q75 N_ S_q29 S_q28 S_q83 S_q7) ((cds Pg 192).drop 5) 0 (ls_q192 d_ u_ b f_0 f_1 f_2 p p_1 p_2) (finV Pg 192 0 c_) = J_q192 N_ S_q29 S_q28 S_q83 S_q7 b f_0 f_1 f_2 p p_1 p_2 (fun r0 r1 r2 r3 => c_ (.tup [.agg [.bool r0, .int .u64 r1, .int .i64 r2], .int .i64 r3]) []) := by kernel_rfl
theorem hd_an_parts_uint64__w (N_ : Nat) (S_q29 : TS_q29) (S_q28 : TS_q28) (S_q83 : TS_q83) (S_q7 : TS_q7) (b : Int) (f_0 : Int) (f_1 : Int) (f_2 : Int) (c_ : V -> List Blk -> Bool) (κn_ : St -> Bool) : codesV ⟨Pg, ofList [(214, (F_q29 S_q29)), (189, (F_q28 S_q28)), (217, (F_q83 S_q83)), (218, (F_q7 S_q7))], isref, N_⟩ 0 (an_q75 N_ S_q29 S_q28 S_q83 S_q7) (sg Pg 192 0 5) 0 (st0 Pg 192 (shF_q75.args [.int b, .int f_0, .int f_1, .int f_2]) []) { (finV Pg 192 0 c_) with nrm := κn_ } = (S_q29 b f_0 f_1 f_2 (fun cr nr nr_1 => ((fits .i64 (nr - f_2)) && (S_q28 b f_0 f_1 f_2 (fun nr_2 => (cond (nr_2 == 1) (c_ (.tup [.agg [.bool false, .int .u64 0, .int .i64 0], .int .i64 4]) []) (cond (nr_2 == 2) (c_ (.tup [.agg [.bool false, .int .u64 0, .int .i64 0], .int .i64 4]) []) (cond (nr_2 == 3) (c_ (.tup [.agg [.bool cr, .int .u64 0, .int .i64 0], .int .i64 0]) []) (cond (nr_2 == 4) ((fits .i64 ((nr - f_2) + 1)) && (κn_ (ls_q192 [.int .u64 b, .agg [.int .u64 f_0, .int .i64 f_1, .int .i64 f_2], .any, .ptr 0 0, .int .i64 0, .bool cr, .int .i64 nr, .int .u64 nr_1, .any, .tup [.bool cr, .int .i64 nr, .int .u64 nr_1], .int .u64 b, .agg [.int .u64 f_0, .int .i64 f_1, .int .i64 f_2], .tup [.bool cr, .int .i64 nr, .int .u64 nr_1], .bool cr, .int .i64 nr, .int .u64 nr_1, .bool cr, .int .u64 nr_1, .int .i64 nr, .ptr 0 2, .int .i64 f_2, .int .i64 (nr - f_2), .agg [.bool cr, .int .u64 nr_1, .int .i64 (nr - f_2)], .int .u64 b, .agg [.int .u64 f_0, .int .i64 f_1, .int .i64 f_2], .int .i64 nr_2, .any, .any, .any, .any, .any, .any, .bool false, .bool (nr_2 == 1), .bool (nr_2 == 2), .any, .bool false, .bool (nr_2 == 3), .any, .any, .bool true, .bool (nr_2 == 4), .ptr 2 2, .int .i64 (nr - f_2), .int .i64 ((nr - f_2) + 1), .ptr 2 2, .any, .any, .any, .any, .any, .any, .any, .any, .any, .any, .any, .any, .any, .any] [some ⟨217, 1, .cells [.int .u64 f_0, .int .i64 f_1, .int .i64 f_2]⟩] b f_0 f_1 f_2 cr nr_1 ((nr - f_2) + 1)))) (S_q83 f_0 f_1 f_2 (fun nr_3 => (κn_ (ls_q192 [.int .u64 b, .agg [.int .u64 f_0, .int .i64 f_1, .int .i64 f_2], .any, .ptr 0 0, .int .i64 0, .bool cr, .int .i64 nr, .int .u64 nr_1, .any, .tup [.bool cr, .int .i64 nr, .int .u64 nr_1], .int .u64 b, .agg [.int .u64 f_0, .int .i64 f_1, .int .i64 f_2], .tup [.bool cr, .int .i64 nr, .int .u64 nr_1], .bool cr, .int .i64 nr, .int .u64 nr_1, .bool cr, .int .u64 nr_1, .int .i64 nr, .ptr 0 2, .int .i64 f_2, .int .i64 (nr - f_2), .agg [.bool cr, .int .u64 nr_1, .int .i64 (nr - f_2)], .int .u64 b, .agg [.int .u64 f_0, .int .i64 f_1, .int .i64 f_2], .int .i64 nr_2, .ptr 2 1, .int .u64 nr_1, .agg [.int .u64 f_0, .int .i64 f_1, .int .i64 f_2], .int .u64 nr_3, .int .u64 (bitsN .or .u64 nr_1 nr_3), .ptr 2 1, .bool false, .bool (nr_2 == 1), .bool (nr_2 == 2), .any, .bool false, .bool (nr_2 == 3), .any, .any, .bool false, .bool (nr_2 == 4), .any, .any, .any, .any, .any, .any, .any, .any, .any, .any, .any, .any, .any, .any, .any, .any, .any, .any] [some ⟨217, 1, .cells [.int .u64 f_0, .int .i64 f_1, .int .i64 f_2]⟩] b f_0 f_1 f_2 cr (bitsN .or .u64 nr_1 nr_3) (nr - f_2)))))))))))))) := by kernel_rfl
theorem jn_an_parts_uint64__w (N_ : Nat) (S_q29 : TS_q29) (S_q28 : TS_q28) (S_q83 : TS_q83) (S_q7 : TS_q7) (b : Int) (f_0 : Int) (f_1 : Int) (f_2 : Int) (c_ : V -> List Blk -> Bool) : codesV ⟨Pg, ofList [(214, (F_q29 S_q29)), (189, (F_q28 S_q28)), (217, (F_q83 S_q83)), (218, (F_q7 S_q7))], isref, N_⟩ 0 (an_q75 N_ S_q29 S_q28 S_q83 S_q7) ((cds Pg 192).drop 0) 0 (st0 Pg 192 (shF_q75.args [.int b, .int f_0, .int f_1, .int f_2]) []) (finV Pg 192 0 c_) = G_q75 N_ S_q29 S_q28 S_q83 S_q7 b f_0 f_1 f_2 (fun r0 r1 r2 r3 => c_ (.tup [.agg [.bool r0, .int .u64 r1, .int .i64 r2], .int .i64 r3]) []) := by
  rw [codesV_cut 0 5 5 rfl]
  refine (hd_an_parts_uint64__w N_ S_q29 S_q28 S_q83 S_q7 b f_0 f_1 f_2 c_ _).trans ?_
  simp only [jn_q192]
  kernel_rfl
theorem eq_q75 (N_ : Nat) (S_q29 : TS_q29) (S_q28 : TS_q28) (S_q83 : TS_q83) (S_q7 : TS_q7) (b : Int) (f_0 : Int) (f_1 : Int) (f_2 : Int) (c_ : V -> List Blk -> Bool) : bodyV ⟨Pg, ofList [(214, (F_q29 S_q29)), (189, (F_q28 S_q28)), (217, (F_q83 S_q83)), (218, (F_q7 S_q7))], isref, N_⟩ (an_q75 N_ S_q29 S_q28 S_q83 S_q7) 192 (shF_q75.args [.int b, .int f_0, .int f_1, .int f_2]) [] c_ = G_q75 N_ S_q29 S_q28 S_q83 S_q7 b f_0 f_1 f_2 (fun r0 r1 r2 r3 => c_ (.tup [.agg [.bool r0, .int .u64 r1, .int .i64 r2], .int .i64 r3]) []) :=
  (bodyV_codes (by kernel_rfl)).trans (jn_an_parts_uint64__w N_ S_q29 S_q28 S_q83 S_q7 b f_0 f_1 f_2 c_)
theorem good_q75 (N_ : Nat) (S_q29 : TS_q29) (S_q28 : TS_q28) (S_q83 : TS_q83) (S_q7 : TS_q7) (h_q29 : GoodF Pg 214 (F_q29 S_q29)) (h_q28 : GoodF Pg 189 (F_q28 S_q28)) (h_q83 : GoodF Pg 217 (F_q83 S_q83)) (h_q7 : GoodF Pg 218 (F_q7 S_q7)) : GoodF Pg 192 (F_q75 (G_q75 N_ S_q29 S_q28 S_q83 S_q7)) := by
  refine good_fs (cx := ⟨Pg, ofList [(214, (F_q29 S_q29)), (189, (F_q28 S_q28)), (217, (F_q83 S_q83)), (218, (F_q7 S_q7))], isref, N_⟩) (ofList_cons h_q29 (ofList_cons h_q28 (ofList_cons h_q83 (ofList_cons h_q7 (ofList_nil _))))) shF_q75 (sp_q75 (G_q75 N_ S_q29 S_q28 S_q83 S_q7)) (an_q75 N_ S_q29 S_q28 S_q83 S_q7) 0 0 (by kernel_rfl) (fun i_ hi_ => by omega) ?_
  intro a k h
  unfold sp_q75 at h
  split at h
  · exact ⟨[], rfl, rfl, (eq_q75 _ _ _ _ _ _ _ _ _ _).trans h⟩
  · cases h

def an_q179 (N_ : Nat) (S_q108 : TS_q108) (S_an_of : TS_an_of) (S_q75 : TS_q75) : Nat -> Option Ann := fun b_ => none
theorem eq_q179 (N_ : Nat) (S_q108 : TS_q108) (S_an_of : TS_an_of) (S_q75 : TS_q75) (x : Fl) (c_ : V -> List Blk -> Bool) : bodyV ⟨Pg, ofList [(88, (F_q108 S_q108)), (190, (F_an_of S_an_of)), (192, (F_q75 S_q75))], isref, N_⟩ (an_q179 N_ S_q108 S_an_of S_q75) 160 (shF_q179.args [.fl x]) [] c_ = G_q179 N_ S_q108 S_an_of S_q75 x (fun r0 r1 r2 r3 => c_ (.tup [.agg [.bool r0, .int .u64 r1, .int .i64 r2], .int .i64 r3]) []) := by kernel_rfl
theorem good_q179 (N_ : Nat) (S_q108 : TS_q108) (S_an_of : TS_an_of) (S_q75 : TS_q75) (h_q108 : GoodF Pg 88 (F_q108 S_q108)) (h_an_of : GoodF Pg 190 (F_an_of S_an_of)) (h_q75 : GoodF Pg 192 (F_q75 S_q75)) : GoodF Pg 160 (F_q179 (G_q179 N_ S_q108 S_an_of S_q75)) := by
  refine good_fs (cx := ⟨Pg, ofList [(88, (F_q108 S_q108)), (190, (F_an_of S_an_of)), (192, (F_q75 S_q75))], isref, N_⟩) (ofList_cons h_q108 (ofList_cons h_an_of (ofList_cons h_q75 (ofList_nil _)))) shF_q179 (sp_q179 (G_q179 N_ S_q108 S_an_of S_q75)) (an_q179 N_ S_q108 S_an_of S_q75) 0 0 (by kernel_rfl) (fun i_ hi_ => by omega) ?_
  intro a k h
  unfold sp_q179 at h
  split at h
  · exact ⟨[], rfl, rfl, (eq_q179 _ _ _ _ _ _).trans h⟩
  · cases h

def sh_st_big_norm_w_0 : StSh := ⟨[.slw 0, .any, .any, .int .i64, .any, .any, .any, .any, .any, .any, .any, .any, .any, .any, .any, .any, .any, .any, .any, .any, .any], [some (41, 1, .ints .u64)]⟩
def sx0_st_big_norm_w_0 : StSh := ⟨[.slw 0, .any, .any, .int .i64, .any, .any, .any, .any, .any, .any, .any, .any, .any, .any, .any, .any, .any, .any, .any, .any, .any], [some (41, 1, .ints .u64)]⟩
def hk_st_big_norm_w_0 (N_ : Nat) : List Atom -> K -> Bool := fun a_ κ => match a_ with
  | [.int n, .ints x] => iterG N_ (st_big_norm_w_0 N_ x (fun r0 => κ.ext 0 (sx0_st_big_norm_w_0.build [.int r0, .ints x]))) n
  | _ => false
def an_q1 (N_ : Nat) : Nat -> Option Ann := fun b_ => cond (b_ == 0) (some ⟨⟨[0, 3], [], []⟩, [(0, ⟨[0, 3], [], []⟩)], some ⟨[2], [], []⟩, some (mkHooks [(sh_st_big_norm_w_0, hk_st_big_norm_w_0 N_)])⟩) (none)
theorem eq_st_big_norm_w_0 (N_ : Nat) (κ : K) (n : Int) (x : List Int) : iter N_ (fun s k => codeV ⟨Pg, ofList [], isref, N_⟩ 1 (an_q1 N_) (lp Pg 202 0).2 (lp Pg 202 0).1 s (roundK Pg 1 ((an_q1 N_) (lp Pg 202 0).1) κ k)) (sh_st_big_norm_w_0.build [.int n, .ints x]) = iterG N_ (st_big_norm_w_0 N_ x (fun r0 => κ.ext 0 (sx0_st_big_norm_w_0.build [.int r0, .ints x]))) n :=
  iter_tr (fun v_ => sh_st_big_norm_w_0.build [.int v_, .ints x]) (fun v_ K_ => by kernel_rfl) N_ n
theorem hk1_st_big_norm_w_0 (N_ : Nat) : HookFor ⟨Pg, ofList [], isref, N_⟩ 1 (an_q1 N_) (lp Pg 202 0) (sh_st_big_norm_w_0, hk_st_big_norm_w_0 N_) := by
  intro a κ h
  simp only at h
  unfold hk_st_big_norm_w_0 at h
  split at h
  · exact (eq_st_big_norm_w_0 _ _ _ _).trans h
  · cases h
theorem ho_big_norm_w_0 (N_ : Nat) : HookOk ⟨Pg, ofList [], isref, N_⟩ 1 (an_q1 N_) (lp Pg 202 0) :=
  hooks_ok [(sh_st_big_norm_w_0, hk_st_big_norm_w_0 N_)] (by kernel_rfl) ⟨hk1_st_big_norm_w_0 _, trivial⟩
theorem eq_q1 (N_ : Nat) (b : List Int) (c_ : V -> List Blk -> Bool) : bodyZ ⟨Pg, ofList [], isref, N_⟩ (an_q1 N_) 202 (shF_q1.args [.ints b]) [⟨41, 1, .ints .u64 b⟩] c_ = G_q1 N_ b (fun r0 r1 => c_ (.sl 0 r0 r1) [⟨41, 1, .ints .u64 b⟩]) := by kernel_rfl
theorem good_q1 (N_ : Nat) : GoodF Pg 202 (F_q1 (G_q1 N_)) := by
  refine good_fsZ (cx := ⟨Pg, ofList [], isref, N_⟩) (ofList_nil _) shF_q1 (sp_q1 (G_q1 N_)) (an_q1 N_) 1 1 (by kernel_rfl) (fun i_ hi_ => by
    match i_, hi_ with
    | 0, _ => exact ho_big_norm_w_0 _
    | (q + 1), h => omega) ?_
  intro a k h
  unfold sp_q1 at h
  split at h
  · exact ⟨[_], rfl, rfl, (eq_q1 _ _ _).trans h⟩
  · cases h

def an_q150 (N_ : Nat) (S_q1 : TS_q1) : Nat -> Option Ann := fun b_ => none
theorem eq_q150 (N_ : Nat) (S_q1 : TS_q1) (n : Int) (c_ : V -> List Blk -> Bool) : bodyZ ⟨Pg, ofList [(202, (F_q1 S_q1))], isref, N_⟩ (an_q150 N_ S_q1) 193 (shF_q150.args [.int n]) [] c_ = G_q150 N_ S_q1 n (fun r0 => c_ (.roi .u64 r0) []) := by kernel_rfl
theorem good_q150 (N_ : Nat) (S_q1 : TS_q1) (h_q1 : GoodF Pg 202 (F_q1 S_q1)) : GoodF Pg 193 (F_q150 (G_q150 N_ S_q1)) := by
  refine good_fsZ (cx := ⟨Pg, ofList [(202, (F_q1 S_q1))], isref, N_⟩) (ofList_cons h_q1 (ofList_nil _)) shF_q150 (sp_q150 (G_q150 N_ S_q1)) (an_q150 N_ S_q1) 0 0 (by kernel_rfl) (fun i_ hi_ => by omega) ?_
  intro a k h
  unfold sp_q150 at h
  split at h
  · exact ⟨[], rfl, rfl, (eq_q150 _ _ _ _).trans h⟩
  · cases h

def an_q0 (N_ : Nat) : Nat -> Option Ann := fun b_ => none
theorem eq_q0 (N_ : Nat) (neg : Bool) (abs : List Int) (b : Bool) (c_ : V -> List Blk -> Bool) : bodyZ ⟨Pg, ofList [], isref, N_⟩ (an_q0 N_) 170 (shF_q0.args [.bool neg, .ints abs, .bool b]) [⟨164, 1, .cells [.bool b, .nil]⟩] c_ = G_q0 N_ neg abs b (fun r0 => c_ (.ptr 0 0) [⟨164, 1, .cells [.bool r0, .roi .u64 abs]⟩]) := by kernel_rfl
theorem good_q0 (N_ : Nat) : GoodF Pg 170 (F_q0 (G_q0 N_)) := by
  refine good_fsZ (cx := ⟨Pg, ofList [], isref, N_⟩) (ofList_nil _) shF_q0 (sp_q0 (G_q0 N_)) (an_q0 N_) 0 1 (by kernel_rfl) (fun i_ hi_ => by omega) ?_
  intro a k h
  unfold sp_q0 at h
  split at h
  · exact ⟨[_], rfl, rfl, (eq_q0 _ _ _ _ _).trans h⟩
  · cases h

def an_q56 (N_ : Nat) (S_q150 : TS_q150) (S_q0 : TS_q0) : Nat -> Option Ann := fun b_ => none
theorem eq_q56 (N_ : Nat) (S_q150 : TS_q150) (S_q0 : TS_q0) (n : Int) (b : Bool) (c_ : V -> List Blk -> Bool) : bodyZ ⟨Pg, ofList [(193, (F_q150 S_q150)), (170, (F_q0 S_q0))], isref, N_⟩ (an_q56 N_ S_q150 S_q0) 161 (shF_q56.args [.int n, .bool b]) [⟨164, 1, .cells [.bool b, .nil]⟩] c_ = G_q56 N_ S_q150 S_q0 n b (fun r0 r1 => c_ (.ptr 0 0) [⟨164, 1, .cells [.bool r0, .roi .u64 r1]⟩]) := by kernel_rfl
theorem good_q56 (N_ : Nat) (S_q150 : TS_q150) (S_q0 : TS_q0) (h_q150 : GoodF Pg 193 (F_q150 S_q150)) (h_q0 : GoodF Pg 170 (F_q0 S_q0)) : GoodF Pg 161 (F_q56 (G_q56 N_ S_q150 S_q0)) := by
  refine good_fsZ (cx := ⟨Pg, ofList [(193, (F_q150 S_q150)), (170, (F_q0 S_q0))], isref, N_⟩) (ofList_cons h_q150 (ofList_cons h_q0 (ofList_nil _))) shF_q56 (sp_q56 (G_q56 N_ S_q150 S_q0)) (an_q56 N_ S_q150 S_q0) 0 1 (by kernel_rfl) (fun i_ hi_ => by omega) ?_
  intro a k h
  unfold sp_q56 at h
  split at h
  · exact ⟨[_], rfl, rfl, (eq_q56 _ _ _ _ _ _).trans h⟩
  · cases h

def an_q85 (N_ : Nat) : Nat -> Option Ann := fun b_ => none
theorem eq_q85 (N_ : Nat) (x : List Int) (c_ : V -> List Blk -> Bool) : bodyZ ⟨Pg, ofList [], isref, N_⟩ (an_q85 N_) 171 (shF_q85.args [.ints x]) [] c_ = G_q85 N_ x (fun r0 => c_ (.roi .u64 r0) []) := by kernel_rfl
theorem good_q85 (N_ : Nat) : GoodF Pg 171 (F_q85 (G_q85 N_)) := by
  refine good_fsZ (cx := ⟨Pg, ofList [], isref, N_⟩) (ofList_nil _) shF_q85 (sp_q85 (G_q85 N_)) (an_q85 N_) 0 0 (by kernel_rfl) (fun i_ hi_ => by omega) ?_
  intro a k h
  unfold sp_q85 at h
  split at h
  · exact ⟨[], rfl, rfl, (eq_q85 _ _ _).trans h⟩
  · cases h

def an_q32 (N_ : Nat) : Nat -> Option Ann := fun b_ => none
theorem eq_q32 (N_ : Nat) (neg : Bool) (abs : List Int) (b : Bool) (b_1 : List Int) (c_ : V -> List Blk -> Bool) : bodyZ ⟨Pg, ofList [], isref, N_⟩ (an_q32 N_) 170 (shF_q32.args [.bool neg, .ints abs, .bool b, .ints b_1]) [⟨164, 1, .cells [.bool b, .roi .u64 b_1]⟩] c_ = G_q32 N_ neg abs b b_1 (fun r0 => c_ (.ptr 0 0) [⟨164, 1, .cells [.bool r0, .roi .u64 abs]⟩]) := by kernel_rfl
theorem good_q32 (N_ : Nat) : GoodF Pg 170 (F_q32 (G_q32 N_)) := by
  refine good_fsZ (cx := ⟨Pg, ofList [], isref, N_⟩) (ofList_nil _) shF_q32 (sp_q32 (G_q32 N_)) (an_q32 N_) 0 1 (by kernel_rfl) (fun i_ hi_ => by omega) ?_
  intro a k h
  unfold sp_q32 at h
  split at h
  · exact ⟨[_], rfl, rfl, (eq_q32 _ _ _ _ _ _).trans h⟩
  · cases h

def an_q26 (N_ : Nat) (S_q85 : TS_q85) (S_q32 : TS_q32) : Nat -> Option Ann := fun b_ => none
theorem eq_q26 (N_ : Nat) (S_q85 : TS_q85) (S_q32 : TS_q32) (b : Bool) (b_1 : List Int) (c_ : V -> List Blk -> Bool) : bodyZ ⟨Pg, ofList [(171, (F_q85 S_q85)), (170, (F_q32 S_q32))], isref, N_⟩ (an_q26 N_ S_q85 S_q32) 131 (shF_q26.args [.bool b, .ints b_1]) [⟨164, 1, .cells [.bool b, .roi .u64 b_1]⟩] c_ = G_q26 N_ S_q85 S_q32 b b_1 (fun r0 r1 => c_ (.ptr 0 0) [⟨164, 1, .cells [.bool r0, .roi .u64 r1]⟩]) := by kernel_rfl
theorem good_q26 (N_ : Nat) (S_q85 : TS_q85) (S_q32 : TS_q32) (h_q85 : GoodF Pg 171 (F_q85 S_q85)) (h_q32 : GoodF Pg 170 (F_q32 S_q32)) : GoodF Pg 131 (F_q26 (G_q26 N_ S_q85 S_q32)) := by
  refine good_fsZ (cx := ⟨Pg, ofList [(171, (F_q85 S_q85)), (170, (F_q32 S_q32))], isref, N_⟩) (ofList_cons h_q85 (ofList_cons h_q32 (ofList_nil _))) shF_q26 (sp_q26 (G_q26 N_ S_q85 S_q32)) (an_q26 N_ S_q85 S_q32) 0 1 (by kernel_rfl) (fun i_ hi_ => by omega) ?_
  intro a k h
  unfold sp_q26 at h
  split at h
  · exact ⟨[_], rfl, rfl, (eq_q26 _ _ _ _ _ _).trans h⟩
  · cases h

def an_q171 (N_ : Nat) (S_q179 : TS_q179) (S_q56 : TS_q56) (S_q26 : TS_q26) : Nat -> Option Ann := fun b_ => none
theorem eq_q171 (N_ : Nat) (S_q179 : TS_q179) (S_q56 : TS_q56) (S_q26 : TS_q26) (x : Fl) (c_ : V -> List Blk -> Bool) : bodyV ⟨Pg, ofList [(160, (F_q179 S_q179)), (161, (F_q56 S_q56)), (131, (F_q26 S_q26))], isref, N_⟩ (an_q171 N_ S_q179 S_q56 S_q26) 126 (shF_q171.args [.fl x]) [] c_ = G_q171 N_ S_q179 S_q56 S_q26 x (fun r0 r1 r2 => c_ (.agg [.ptr 0 0, .int .i64 r0]) [⟨164, 1, .cells [.bool r1, .roi .u64 r2]⟩]) := by kernel_rfl
theorem good_q171 (N_ : Nat) (S_q179 : TS_q179) (S_q56 : TS_q56) (S_q26 : TS_q26) (h_q179 : GoodF Pg 160 (F_q179 S_q179)) (h_q56 : GoodF Pg 161 (F_q56 S_q56)) (h_q26 : GoodF Pg 131 (F_q26 S_q26)) : GoodF Pg 126 (F_q171 (G_q171 N_ S_q179 S_q56 S_q26)) := by
  refine good_fs (cx := ⟨Pg, ofList [(160, (F_q179 S_q179)), (161, (F_q56 S_q56)), (131, (F_q26 S_q26))], isref, N_⟩) (ofList_cons h_q179 (ofList_cons h_q56 (ofList_cons h_q26 (ofList_nil _)))) shF_q171 (sp_q171 (G_q171 N_ S_q179 S_q56 S_q26)) (an_q171 N_ S_q179 S_q56 S_q26) 0 0 (by kernel_rfl) (fun i_ hi_ => by omega) ?_
  intro a k h
  unfold sp_q171 at h
  split at h
  · exact ⟨[], rfl, rfl, (eq_q171 _ _ _ _ _ _).trans h⟩
  · cases h

def an_q131 (N_ : Nat) : Nat -> Option Ann := fun b_ => none
theorem eq_q131 (N_ : Nat) (x : Int) (y : Int) (c_ : V -> List Blk -> Bool) : bodyV ⟨Pg, ofList [], isref, N_⟩ (an_q131 N_) 231 (shF_q131.args [.int x, .int y]) [] c_ = G_q131 N_ x y (fun r0 r1 => c_ (.tup [.int .u64 r0, .int .u64 r1]) []) := by kernel_rfl
theorem good_q131 (N_ : Nat) : GoodF Pg 231 (F_q131 (G_q131 N_)) := by
  refine good_fs (cx := ⟨Pg, ofList [], isref, N_⟩) (ofList_nil _) shF_q131 (sp_q131 (G_q131 N_)) (an_q131 N_) 0 0 (by kernel_rfl) (fun i_ hi_ => by omega) ?_
  intro a k h
  unfold sp_q131 at h
  split at h
  · exact ⟨[], rfl, rfl, (eq_q131 _ _ _ _).trans h⟩
  · cases h


def an_q123 (N_ : Nat) (S_q131 : TS_q131) (S_q74 : TS_q74) : Nat -> Option Ann := fun b_ => none
theorem eq_q123 (N_ : Nat) (S_q131 : TS_q131) (S_q74 : TS_q74) (a : Int) (b : Int) (c : Int) (d : Int) (c_ : V -> List Blk -> Bool) : bodyZ ⟨Pg, ofList [(231, (F_q131 S_q131)), (221, (F_q74 S_q74))], isref, N_⟩ (an_q123 N_ S_q131 S_q74) 219 (shF_q123.args [.int a, .int b, .int c, .int d]) [] c_ = G_q123 N_ S_q131 S_q74 a b c d (fun r0 r1 => c_ (.tup [.int .u64 r0, .int .u64 r1]) []) := by kernel_rfl
theorem good_q123 (N_ : Nat) (S_q131 : TS_q131) (S_q74 : TS_q74) (h_q131 : GoodF Pg 231 (F_q131 S_q131)) (h_q74 : GoodF Pg 221 (F_q74 S_q74)) : GoodF Pg 219 (F_q123 (G_q123 N_ S_q131 S_q74)) := by
  refine good_fsZ (cx := ⟨Pg, ofList [(231, (F_q131 S_q131)), (221, (F_q74 S_q74))], isref, N_⟩) (ofList_cons h_q131 (ofList_cons h_q74 (ofList_nil _))) shF_q123 (sp_q123 (G_q123 N_ S_q131 S_q74)) (an_q123 N_ S_q131 S_q74) 0 0 (by kernel_rfl) (fun i_ hi_ => by omega) ?_
  intro a k h
  unfold sp_q123 at h
  split at h
  · exact ⟨[], rfl, rfl, (eq_q123 _ _ _ _ _ _ _ _).trans h⟩
  · cases h

def sh_st_big_times_2 : StSh := ⟨[.any, .roi .u64, .any, .any, .any, .slw 0, .int .i64, .int .u64, .int .u64, .any, .any, .any, .any, .any, .any, .any, .any, .any, .any, .any, .any, .any, .any, .any, .any, .roi .u64, .int .i64, .int .i64, .any, .any, .any, .any, .roi .u64, .int .i64, .int .i64, .any, .any, .any, .any, .any, .any, .any, .any, .any, .any, .any, .any, .any, .any, .any, .any, .any, .any, .any, .any, .any, .any, .any, .any, .any, .any, .any, .any, .any, .any, .any, .any, .any], [some (41, 1, .ints .u64)]⟩
def sx0_st_big_times_2 : StSh := ⟨[.any, .roi .u64, .any, .any, .any, .slw 0, .int .i64, .any, .int .u64, .any, .any, .any, .any, .any, .any, .any, .any, .any, .any, .any, .any, .any, .any, .any, .any, .roi .u64, .int .i64, .int .i64, .any, .any, .any, .any, .any, .any, .any, .any, .any, .any, .any, .any, .any, .any, .any, .any, .any, .any, .any, .any, .any, .any, .any, .any, .any, .any, .any, .any, .any, .any, .any, .any, .any, .any, .any, .any, .any, .any, .any, .any], [some (41, 1, .ints .u64)]⟩
def hk_st_big_times_2 (N_ : Nat) (S_q123 : TS_q123) (S_q1 : TS_q1) : List Atom -> K -> Bool := fun a_ κ => match a_ with
  | [.ints y_2, .int i, .int a, .int carry, .ints t25_1, .int t26_1, .int t27_1, .ints t32, .int t33, .int t34, .ints z_1] => iterG N_ (st_big_times_2 N_ S_q123 S_q1 y_2 i a t25_1 t26_1 t27_1 t32 t33 (fun r2 r6 => κ.ext 2 (sx0_st_big_times_2.build [.ints y_2, .int i, .int r2, .ints t25_1, .int t26_1, .int t27_1, .ints r6]))) (carry, t34, z_1)
  | _ => false
def sh_st_big_times_0 : StSh := ⟨[.any, .roi .u64, .any, .any, .any, .slw 0, .any, .any, .any, .any, .any, .any, .any, .any, .any, .any, .any, .any, .any, .any, .any, .any, .any, .any, .any, .roi .u64, .int .i64, .int .i64, .any, .any, .any, .any, .any, .any, .any, .any, .any, .any, .any, .any, .any, .any, .any, .any, .any, .any, .any, .any, .any, .any, .any, .any, .any, .any, .any, .any, .any, .any, .any, .any, .any, .any, .any, .any, .any, .any, .any, .any], [some (41, 1, .ints .u64)]⟩
def sx0_st_big_times_0 : StSh := ⟨[.any, .any, .any, .any, .any, .slw 0, .any, .any, .any, .any, .any, .any, .any, .any, .any, .any, .any, .any, .any, .any, .any, .any, .any, .any, .any, .any, .any, .any, .any, .any, .any, .any, .any, .any, .any, .any, .any, .any, .any, .any, .any, .any, .any, .any, .any, .any, .any, .any, .any, .any, .any, .any, .any, .any, .any, .any, .any, .any, .any, .any, .any, .any, .any, .any, .any, .any, .any, .any], [some (41, 1, .ints .u64)]⟩
def hk_st_big_times_0 (N_ : Nat) (S_q123 : TS_q123) (S_q1 : TS_q1) : List Atom -> K -> Bool := fun a_ κ => match a_ with
  | [.ints y_1, .ints t25, .int t26, .int t27, .ints z] => iterG N_ (st_big_times_0 N_ S_q123 S_q1 y_1 t25 t26 (fun r0 => κ.ext 0 (sx0_st_big_times_0.build [.ints r0]))) (t27, z)
  | _ => false
def an_q155 (N_ : Nat) (S_q123 : TS_q123) (S_q1 : TS_q1) : Nat -> Option Ann := fun b_ => cond (b_ == 2) (some ⟨⟨[1, 5, 6, 7, 8, 25, 26, 27, 32, 33, 34], [], []⟩, [(2, ⟨[1, 5, 6, 8, 25, 26, 27], [], []⟩)], some ⟨[4], [], []⟩, some (mkHooks [(sh_st_big_times_2, hk_st_big_times_2 N_ S_q123 S_q1)])⟩) (cond (b_ == 0) (some ⟨⟨[1, 5, 25, 26, 27], [], []⟩, [(0, ⟨[5], [], []⟩)], some ⟨[4], [], []⟩, some (mkHooks [(sh_st_big_times_0, hk_st_big_times_0 N_ S_q123 S_q1)])⟩) (none))
theorem eq_st_big_times_2 (N_ : Nat) (S_q123 : TS_q123) (S_q1 : TS_q1) (κ : K) (y_2 : List Int) (i : Int) (a : Int) (carry : Int) (t25_1 : List Int) (t26_1 : Int) (t27_1 : Int) (t32 : List Int) (t33 : Int) (t34 : Int) (z_1 : List Int) : iter N_ (fun s k => codeV ⟨Pg, ofList [(219, (F_q123 S_q123)), (202, (F_q1 S_q1))], isref, N_⟩ 0 (an_q155 N_ S_q123 S_q1) (lp Pg 194 1).2 (lp Pg 194 1).1 s (roundK Pg 0 ((an_q155 N_ S_q123 S_q1) (lp Pg 194 1).1) κ k)) (sh_st_big_times_2.build [.ints y_2, .int i, .int a, .int carry, .ints t25_1, .int t26_1, .int t27_1, .ints t32, .int t33, .int t34, .ints z_1]) = iterG N_ (st_big_times_2 N_ S_q123 S_q1 y_2 i a t25_1 t26_1 t27_1 t32 t33 (fun r2 r6 => κ.ext 2 (sx0_st_big_times_2.build [.ints y_2, .int i, .int r2, .ints t25_1, .int t26_1, .int t27_1, .ints r6]))) (carry, t34, z_1) :=
  iter_tr (fun (v_ : Int × Int × List Int) => sh_st_big_times_2.build [.ints y_2, .int i, .int a, .int v_.1, .ints t25_1, .int t26_1, .int t27_1, .ints t32, .int t33, .int v_.2.1, .ints v_.2.2]) (fun v_ K_ => by obtain ⟨carry, t34, z_1⟩ := v_; kernel_rfl) N_ (carry, t34, z_1)
theorem hk1_st_big_times_2 (N_ : Nat) (S_q123 : TS_q123) (S_q1 : TS_q1) : HookFor ⟨Pg, ofList [(219, (F_q123 S_q123)), (202, (F_q1 S_q1))], isref, N_⟩ 0 (an_q155 N_ S_q123 S_q1) (lp Pg 194 1) (sh_st_big_times_2, hk_st_big_times_2 N_ S_q123 S_q1) := by
  intro a κ h
  simp only at h
  unfold hk_st_big_times_2 at h
  split at h
  · exact (eq_st_big_times_2 _ _ _ _ _ _ _ _ _ _ _ _ _ _ _).trans h
  · cases h
theorem eq_st_big_times_0 (N_ : Nat) (S_q123 : TS_q123) (S_q1 : TS_q1) (κ : K) (y_1 : List Int) (t25 : List Int) (t26 : Int) (t27 : Int) (z : List Int) : iter N_ (fun s k => codeV ⟨Pg, ofList [(219, (F_q123 S_q123)), (202, (F_q1 S_q1))], isref, N_⟩ 0 (an_q155 N_ S_q123 S_q1) (lp Pg 194 0).2 (lp Pg 194 0).1 s (roundK Pg 0 ((an_q155 N_ S_q123 S_q1) (lp Pg 194 0).1) κ k)) (sh_st_big_times_0.build [.ints y_1, .ints t25, .int t26, .int t27, .ints z]) = iterG N_ (st_big_times_0 N_ S_q123 S_q1 y_1 t25 t26 (fun r0 => κ.ext 0 (sx0_st_big_times_0.build [.ints r0]))) (t27, z) :=
  iter_tr (fun (v_ : Int × List Int) => sh_st_big_times_0.build [.ints y_1, .ints t25, .int t26, .int v_.1, .ints v_.2]) (fun v_ K_ => by obtain ⟨t27, z⟩ := v_; kernel_rfl) N_ (t27, z)
theorem hk1_st_big_times_0 (N_ : Nat) (S_q123 : TS_q123) (S_q1 : TS_q1) : HookFor ⟨Pg, ofList [(219, (F_q123 S_q123)), (202, (F_q1 S_q1))], isref, N_⟩ 0 (an_q155 N_ S_q123 S_q1) (lp Pg 194 0) (sh_st_big_times_0, hk_st_big_times_0 N_ S_q123 S_q1) := by
  intro a κ h
  simp only at h
  unfold hk_st_big_times_0 at h
  split at h
  · exact (eq_st_big_times_0 _ _ _ _ _ _ _ _ _).trans h
  · cases h
theorem ho_big_times_2 (N_ : Nat) (S_q123 : TS_q123) (S_q1 : TS_q1) : HookOk ⟨Pg, ofList [(219, (F_q123 S_q123)), (202, (F_q1 S_q1))], isref, N_⟩ 0 (an_q155 N_ S_q123 S_q1) (lp Pg 194 1) :=
  hooks_ok [(sh_st_big_times_2, hk_st_big_times_2 N_ S_q123 S_q1)] (by kernel_rfl) ⟨hk1_st_big_times_2 _ _ _, trivial⟩
theorem ho_big_times_0 (N_ : Nat) (S_q123 : TS_q123) (S_q1 : TS_q1) : HookOk ⟨Pg, ofList [(219, (F_q123 S_q123)), (202, (F_q1 S_q1))], isref, N_⟩ 0 (an_q155 N_ S_q123 S_q1) (lp Pg 194 0) :=
  hooks_ok [(sh_st_big_times_0, hk_st_big_times_0 N_ S_q123 S_q1)] (by kernel_rfl) ⟨hk1_st_big_times_0 _ _ _, trivial⟩
theorem eq_q155 (N_ : Nat) (S_q123 : TS_q123) (S_q1 : TS_q1) (x : List Int) (y : List Int) (c_ : V -> List Blk -> Bool) : bodyZ ⟨Pg, ofList [(219, (F_q123 S_q123)), (202, (F_q1 S_q1))], isref, N_⟩ (an_q155 N_ S_q123 S_q1) 194 (shF_q155.args [.ints x, .ints y]) [] c_ = G_q155 N_ S_q123 S_q1 x y (fun r0 => c_ (.roi .u64 r0) []) := by kernel_rfl
theorem good_q155 (N_ : Nat) (S_q123 : TS_q123) (S_q1 : TS_q1) (h_q123 : GoodF Pg 219 (F_q123 S_q123)) (h_q1 : GoodF Pg 202 (F_q1 S_q1)) : GoodF Pg 194 (F_q155 (G_q155 N_ S_q123 S_q1)) := by
  refine good_fsZ (cx := ⟨Pg, ofList [(219, (F_q123 S_q123)), (202, (F_q1 S_q1))], isref, N_⟩) (ofList_cons h_q123 (ofList_cons h_q1 (ofList_nil _))) shF_q155 (sp_q155 (G_q155 N_ S_q123 S_q1)) (an_q155 N_ S_q123 S_q1) 2 0 (by kernel_rfl) (fun i_ hi_ => by
    match i_, hi_ with
    | 0, _ => exact ho_big_times_0 _ _ _
    | 1, _ => exact ho_big_times_2 _ _ _
    | (q + 2), h => omega) ?_
  intro a k h
  unfold sp_q155 at h
  split at h
  · exact ⟨[], rfl, rfl, (eq_q155 _ _ _ _ _ _).trans h⟩
  · cases h

def an_q55 (N_ : Nat) (S_q155 : TS_q155) (S_q0 : TS_q0) : Nat -> Option Ann := fun b_ => none
theorem eq_q55 (N_ : Nat) (S_q155 : TS_q155) (S_q0 : TS_q0) (b : Bool) (b_1 : Bool) (b_2 : List Int) (b_3 : Bool) (b_4 : List Int) (c_ : V -> List Blk -> Bool) : bodyZ ⟨Pg, ofList [(194, (F_q155 S_q155)), (170, (F_q0 S_q0))], isref, N_⟩ (an_q55 N_ S_q155 S_q0) 162 (shF_q55.args [.bool b, .bool b_1, .ints b_2, .bool b_3, .ints b_4]) [⟨164, 1, .cells [.bool b, .nil]⟩, ⟨164, 1, .cells [.bool b_1, .roi .u64 b_2]⟩, ⟨164, 1, .cells [.bool b_3, .roi .u64 b_4]⟩] c_ = G_q55 N_ S_q155 S_q0 b b_1 b_2 b_3 b_4 (fun r0 r1 => c_ (.ptr 0 0) [⟨164, 1, .cells [.bool r0, .roi .u64 r1]⟩, ⟨164, 1, .cells [.bool b_1, .roi .u64 b_2]⟩, ⟨164, 1, .cells [.bool b_3, .roi .u64 b_4]⟩]) := by kernel_rfl
theorem good_q55 (N_ : Nat) (S_q155 : TS_q155) (S_q0 : TS_q0) (h_q155 : GoodF Pg 194 (F_q155 S_q155)) (h_q0 : GoodF Pg 170 (F_q0 S_q0)) : GoodF Pg 162 (F_q55 (G_q55 N_ S_q155 S_q0)) := by
  refine good_fsZ (cx := ⟨Pg, ofList [(194, (F_q155 S_q155)), (170, (F_q0 S_q0))], isref, N_⟩) (ofList_cons h_q155 (ofList_cons h_q0 (ofList_nil _))) shF_q55 (sp_q55 (G_q55 N_ S_q155 S_q0)) (an_q55 N_ S_q155 S_q0) 0 3 (by kernel_rfl) (fun i_ hi_ => by omega) ?_
  intro a k h
  unfold sp_q55 at h
  split at h
  · exact ⟨[_, _, _], rfl, rfl, (eq_q55 _ _ _ _ _ _ _ _ _).trans h⟩
  · cases h

def an_q20 (N_ : Nat) (S_q55 : TS_q55) : Nat -> Option Ann := fun b_ => none
theorem eq_q20 (N_ : Nat) (S_q55 : TS_q55) (x : Int) (y : Int) (b : Bool) (b_1 : List Int) (b_2 : Bool) (b_3 : List Int) (c_ : V -> List Blk -> Bool) : bodyV ⟨Pg, ofList [(162, (F_q55 S_q55))], isref, N_⟩ (an_q20 N_ S_q55) 127 (shF_q20.args [.int x, .int y, .bool b, .ints b_1, .bool b_2, .ints b_3]) [⟨164, 1, .cells [.bool b, .roi .u64 b_1]⟩, ⟨164, 1, .cells [.bool b_2, .roi .u64 b_3]⟩] c_ = G_q20 N_ S_q55 x y b b_1 b_2 b_3 (fun r0 r5 r6 => c_ (.agg [.ptr 2 0, .int .i64 r0]) [⟨164, 1, .cells [.bool b, .roi .u64 b_1]⟩, ⟨164, 1, .cells [.bool b_2, .roi .u64 b_3]⟩, ⟨164, 1, .cells [.bool r5, .roi .u64 r6]⟩]) := by kernel_rfl
theorem good_q20 (N_ : Nat) (S_q55 : TS_q55) (h_q55 : GoodF Pg 162 (F_q55 S_q55)) : GoodF Pg 127 (F_q20 (G_q20 N_ S_q55)) := by
  refine good_fs (cx := ⟨Pg, ofList [(162, (F_q55 S_q55))], isref, N_⟩) (ofList_cons h_q55 (ofList_nil _)) shF_q20 (sp_q20 (G_q20 N_ S_q55)) (an_q20 N_ S_q55) 0 2 (by kernel_rfl) (fun i_ hi_ => by omega) ?_
  intro a k h
  unfold sp_q20 at h
  split at h
  · exact ⟨[_, _], rfl, rfl, (eq_q20 _ _ _ _ _ _ _ _ _).trans h⟩
  · cases h

def an_q84 (N_ : Nat) : Nat -> Option Ann := fun b_ => none
theorem eq_q84 (N_ : Nat) (b : Bool) (c_ : V -> List Blk -> Bool) : bodyZ ⟨Pg, ofList [], isref, N_⟩ (an_q84 N_) 134 (shF_q84.args [.bool b]) [⟨164, 1, .cells [.bool b, .nil]⟩] c_ = G_q84 N_ b (fun r0 r2 => c_ (.int .i64 r0) [⟨164, 1, .cells [.bool b, .roi .u64 r2]⟩]) := by kernel_rfl
theorem good_q84 (N_ : Nat) : GoodF Pg 134 (F_q84 (G_q84 N_)) := by
  refine good_fsZ (cx := ⟨Pg, ofList [], isref, N_⟩) (ofList_nil _) shF_q84 (sp_q84 (G_q84 N_)) (an_q84 N_) 0 1 (by kernel_rfl) (fun i_ hi_ => by omega) ?_
  intro a k h
  unfold sp_q84 at h
  split at h
  · exact ⟨[_], rfl, rfl, (eq_q84 _ _ _).trans h⟩
  · cases h

def an_q4 (N_ : Nat) : Nat -> Option Ann := fun b_ => none
theorem eq_q4 (N_ : Nat) (b : Bool) (b_1 : List Int) (c_ : V -> List Blk -> Bool) : bodyZ ⟨Pg, ofList [], isref, N_⟩ (an_q4 N_) 134 (shF_q4.args [.bool b, .ints b_1]) [⟨164, 1, .cells [.bool b, .roi .u64 b_1]⟩] c_ = G_q4 N_ b b_1 (fun r0 => c_ (.int .i64 r0) [⟨164, 1, .cells [.bool b, .roi .u64 b_1]⟩]) := by kernel_rfl
theorem good_q4 (N_ : Nat) : GoodF Pg 134 (F_q4 (G_q4 N_)) := by
  refine good_fsZ (cx := ⟨Pg, ofList [], isref, N_⟩) (ofList_nil _) shF_q4 (sp_q4 (G_q4 N_)) (an_q4 N_) 0 1 (by kernel_rfl) (fun i_ hi_ => by omega) ?_
  intro a k h
  unfold sp_q4 at h
  split at h
  · exact ⟨[_], rfl, rfl, (eq_q4 _ _ _ _).trans h⟩
  · cases h

def sh_st_big_left_0 : StSh := ⟨[.any, .any, .any, .any, .any, .int .i64, .int .u64, .slw 0, .any, .any, .any, .any, .any, .any, .any, .any, .any, .any, .any, .any, .any, .any, .any, .any, .roi .u64, .int .i64, .int .i64, .any, .any, .any, .any, .any, .any, .any, .any, .any, .any, .any, .any, .any, .any, .any, .any, .any, .any, .any, .any, .any, .any, .any, .any, .any, .any, .any, .any], [some (41, 1, .ints .u64)]⟩
def sx0_st_big_left_0 : StSh := ⟨[.any, .any, .any, .any, .any, .any, .any, .slw 0, .any, .any, .any, .any, .any, .any, .any, .any, .any, .any, .any, .any, .any, .any, .any, .any, .any, .any, .any, .any, .any, .any, .any, .any, .any, .any, .any, .any, .any, .any, .any, .any, .any, .any, .any, .any, .any, .any, .any, .any, .any, .any, .any, .any, .any, .any, .any], [some (41, 1, .ints .u64)]⟩
def hk_st_big_left_0 (N_ : Nat) (S_q1 : TS_q1) : List Atom -> K -> Bool := fun a_ κ => match a_ with
  | [.int words, .int rest, .ints t24, .int t25, .int t26, .ints z] => iterG N_ (st_big_left_0 N_ S_q1 words rest t24 t25 (fun r0 => κ.ext 0 (sx0_st_big_left_0.build [.ints r0]))) (t26, z)
  | _ => false
def an_q124 (N_ : Nat) (S_q1 : TS_q1) : Nat -> Option Ann := fun b_ => cond (b_ == 0) (some ⟨⟨[5, 6, 7, 24, 25, 26], [], []⟩, [(0, ⟨[7], [], []⟩)], some ⟨[4], [], []⟩, some (mkHooks [(sh_st_big_left_0, hk_st_big_left_0 N_ S_q1)])⟩) (none)
theorem eq_st_big_left_0 (N_ : Nat) (S_q1 : TS_q1) (κ : K) (words : Int) (rest : Int) (t24 : List Int) (t25 : Int) (t26 : Int) (z : List Int) : iter N_ (fun s k => codeV ⟨Pg, ofList [(202, (F_q1 S_q1))], isref, N_⟩ 0 (an_q124 N_ S_q1) (lp Pg 204 0).2 (lp Pg 204 0).1 s (roundK Pg 0 ((an_q124 N_ S_q1) (lp Pg 204 0).1) κ k)) (sh_st_big_left_0.build [.int words, .int rest, .ints t24, .int t25, .int t26, .ints z]) = iterG N_ (st_big_left_0 N_ S_q1 words rest t24 t25 (fun r0 => κ.ext 0 (sx0_st_big_left_0.build [.ints r0]))) (t26, z) :=
  iter_tr (fun (v_ : Int × List Int) => sh_st_big_left_0.build [.int words, .int rest, .ints t24, .int t25, .int v_.1, .ints v_.2]) (fun v_ K_ => by obtain ⟨t26, z⟩ := v_; kernel_rfl) N_ (t26, z)
theorem hk1_st_big_left_0 (N_ : Nat) (S_q1 : TS_q1) : HookFor ⟨Pg, ofList [(202, (F_q1 S_q1))], isref, N_⟩ 0 (an_q124 N_ S_q1) (lp Pg 204 0) (sh_st_big_left_0, hk_st_big_left_0 N_ S_q1) := by
  intro a κ h
  simp only at h
  unfold hk_st_big_left_0 at h
  split at h
  · exact (eq_st_big_left_0 _ _ _ _ _ _ _ _ _).trans h
  · cases h
theorem ho_big_left_0 (N_ : Nat) (S_q1 : TS_q1) : HookOk ⟨Pg, ofList [(202, (F_q1 S_q1))], isref, N_⟩ 0 (an_q124 N_ S_q1) (lp Pg 204 0) :=
  hooks_ok [(sh_st_big_left_0, hk_st_big_left_0 N_ S_q1)] (by kernel_rfl) ⟨hk1_st_big_left_0 _ _, trivial⟩
theorem eq_q124 (N_ : Nat) (S_q1 : TS_q1) (x : List Int) (n : Int) (c_ : V -> List Blk -> Bool) : bodyZ ⟨Pg, ofList [(202, (F_q1 S_q1))], isref, N_⟩ (an_q124 N_ S_q1) 204 (shF_q124.args [.ints x, .int n]) [] c_ = G_q124 N_ S_q1 x n (fun r0 => c_ (.roi .u64 r0) []) := by kernel_rfl
theorem good_q124 (N_ : Nat) (S_q1 : TS_q1) (h_q1 : GoodF Pg 202 (F_q1 S_q1)) : GoodF Pg 204 (F_q124 (G_q124 N_ S_q1)) := by
  refine good_fsZ (cx := ⟨Pg, ofList [(202, (F_q1 S_q1))], isref, N_⟩) (ofList_cons h_q1 (ofList_nil _)) shF_q124 (sp_q124 (G_q124 N_ S_q1)) (an_q124 N_ S_q1) 1 0 (by kernel_rfl) (fun i_ hi_ => by
    match i_, hi_ with
    | 0, _ => exact ho_big_left_0 _ _
    | (q + 1), h => omega) ?_
  intro a k h
  unfold sp_q124 at h
  split at h
  · exact ⟨[], rfl, rfl, (eq_q124 _ _ _ _ _).trans h⟩
  · cases h

def an_q72 (N_ : Nat) (S_q124 : TS_q124) (S_q0 : TS_q0) : Nat -> Option Ann := fun b_ => none
theorem eq_q72 (N_ : Nat) (S_q124 : TS_q124) (S_q0 : TS_q0) (n : Int) (b : Bool) (b_1 : Bool) (b_2 : List Int) (c_ : V -> List Blk -> Bool) : bodyZ ⟨Pg, ofList [(204, (F_q124 S_q124)), (170, (F_q0 S_q0))], isref, N_⟩ (an_q72 N_ S_q124 S_q0) 172 (shF_q72.args [.int n, .bool b, .bool b_1, .ints b_2]) [⟨164, 1, .cells [.bool b, .nil]⟩, ⟨164, 1, .cells [.bool b_1, .roi .u64 b_2]⟩] c_ = G_q72 N_ S_q124 S_q0 n b b_1 b_2 (fun r0 r1 => c_ (.ptr 0 0) [⟨164, 1, .cells [.bool r0, .roi .u64 r1]⟩, ⟨164, 1, .cells [.bool b_1, .roi .u64 b_2]⟩]) := by kernel_rfl
theorem good_q72 (N_ : Nat) (S_q124 : TS_q124) (S_q0 : TS_q0) (h_q124 : GoodF Pg 204 (F_q124 S_q124)) (h_q0 : GoodF Pg 170 (F_q0 S_q0)) : GoodF Pg 172 (F_q72 (G_q72 N_ S_q124 S_q0)) := by
  refine good_fsZ (cx := ⟨Pg, ofList [(204, (F_q124 S_q124)), (170, (F_q0 S_q0))], isref, N_⟩) (ofList_cons h_q124 (ofList_cons h_q0 (ofList_nil _))) shF_q72 (sp_q72 (G_q72 N_ S_q124 S_q0)) (an_q72 N_ S_q124 S_q0) 0 2 (by kernel_rfl) (fun i_ hi_ => by omega) ?_
  intro a k h
  unfold sp_q72 at h
  split at h
  · exact ⟨[_, _], rfl, rfl, (eq_q72 _ _ _ _ _ _ _ _).trans h⟩
  · cases h

def an_q35 (N_ : Nat) (S_q72 : TS_q72) : Nat -> Option Ann := fun b_ => none
theorem eq_q35 (N_ : Nat) (S_q72 : TS_q72) (x : Int) (e : Int) (b : Bool) (b_1 : List Int) (c_ : V -> List Blk -> Bool) : bodyV ⟨Pg, ofList [(172, (F_q72 S_q72))], isref, N_⟩ (an_q35 N_ S_q72) 159 (shF_q35.args [.int x, .int e, .bool b, .ints b_1]) [⟨164, 1, .cells [.bool b, .roi .u64 b_1]⟩] c_ = G_q35 N_ S_q72 x e b b_1 (fun r2 r3 => c_ (.ptr 1 0) [⟨164, 1, .cells [.bool b, .roi .u64 b_1]⟩, ⟨164, 1, .cells [.bool r2, .roi .u64 r3]⟩]) := by kernel_rfl
theorem good_q35 (N_ : Nat) (S_q72 : TS_q72) (h_q72 : GoodF Pg 172 (F_q72 S_q72)) : GoodF Pg 159 (F_q35 (G_q35 N_ S_q72)) := by
  refine good_fs (cx := ⟨Pg, ofList [(172, (F_q72 S_q72))], isref, N_⟩) (ofList_cons h_q72 (ofList_nil _)) shF_q35 (sp_q35 (G_q35 N_ S_q72)) (an_q35 N_ S_q72) 0 1 (by kernel_rfl) (fun i_ hi_ => by omega) ?_
  intro a k h
  unfold sp_q35 at h
  split at h
  · exact ⟨[_], rfl, rfl, (eq_q35 _ _ _ _ _ _ _).trans h⟩
  · cases h

def an_q18 (N_ : Nat) : Nat -> Option Ann := fun b_ => none
theorem eq_q18 (N_ : Nat) (x : List Int) (i : Int) (c_ : V -> List Blk -> Bool) : bodyZ ⟨Pg, ofList [], isref, N_⟩ (an_q18 N_) 205 (shF_q18.args [.ints x, .int i]) [] c_ = G_q18 N_ x i (fun r0 => c_ (.int .u64 r0) []) := by kernel_rfl
theorem good_q18 (N_ : Nat) : GoodF Pg 205 (F_q18 (G_q18 N_)) := by
  refine good_fsZ (cx := ⟨Pg, ofList [], isref, N_⟩) (ofList_nil _) shF_q18 (sp_q18 (G_q18 N_)) (an_q18 N_) 0 0 (by kernel_rfl) (fun i_ hi_ => by omega) ?_
  intro a k h
  unfold sp_q18 at h
  split at h
  · exact ⟨[], rfl, rfl, (eq_q18 _ _ _ _).trans h⟩
  · cases h

def sh_st_big_sum_0 : StSh := ⟨[.roi .u64, .roi .u64, .any, .any, .any, .int .i64, .slw 0, .int .u64, .any, .any, .any, .any, .any, .any, .any, .any, .any, .int .i64, .int .i64, .any, .any, .any, .any, .any, .any, .any, .any, .any, .any, .any, .any, .any, .any, .any, .any, .any, .any, .any, .any, .any, .any, .any], [some (41, 1, .ints .u64)]⟩
def sx0_st_big_sum_0 : StSh := ⟨[.any, .any, .any, .any, .any, .int .i64, .slw 0, .int .u64, .any, .any, .any, .any, .any, .any, .any, .any, .any, .any, .any, .any, .any, .any, .any, .any, .any, .any, .any, .any, .any, .any, .any, .any, .any, .any, .any, .any, .any, .any, .any, .any, .any, .any], [some (41, 1, .ints .u64)]⟩
def hk_st_big_sum_0 (N_ : Nat) (S_q18 : TS_q18) (S_q74 : TS_q74) (S_q1 : TS_q1) : List Atom -> K -> Bool := fun a_ κ => match a_ with
  | [.ints x_1, .ints y_1, .int n, .int carry, .int t17, .int t18, .ints z] => iterG N_ (st_big_sum_0 N_ S_q18 S_q74 S_q1 x_1 y_1 n t17 (fun r1 r2 => κ.ext 0 (sx0_st_big_sum_0.build [.int n, .int r1, .ints r2]))) (carry, t18, z)
  | _ => false
def an_q170 (N_ : Nat) (S_q18 : TS_q18) (S_q74 : TS_q74) (S_q1 : TS_q1) : Nat -> Option Ann := fun b_ => cond (b_ == 0) (some ⟨⟨[0, 1, 5, 6, 7, 17, 18], [], []⟩, [(0, ⟨[5, 6, 7], [], []⟩)], some ⟨[4], [], []⟩, some (mkHooks [(sh_st_big_sum_0, hk_st_big_sum_0 N_ S_q18 S_q74 S_q1)])⟩) (none)
theorem eq_st_big_sum_0 (N_ : Nat) (S_q18 : TS_q18) (S_q74 : TS_q74) (S_q1 : TS_q1) (κ : K) (x_1 : List Int) (y_1 : List Int) (n : Int) (carry : Int) (t17 : Int) (t18 : Int) (z : List Int) : iter N_ (fun s k => codeV ⟨Pg, ofList [(205, (F_q18 S_q18)), (221, (F_q74 S_q74)), (202, (F_q1 S_q1))], isref, N_⟩ 0 (an_q170 N_ S_q18 S_q74 S_q1) (lp Pg 201 0).2 (lp Pg 201 0).1 s (roundK Pg 0 ((an_q170 N_ S_q18 S_q74 S_q1) (lp Pg 201 0).1) κ k)) (sh_st_big_sum_0.build [.ints x_1, .ints y_1, .int n, .int carry, .int t17, .int t18, .ints z]) = iterG N_ (st_big_sum_0 N_ S_q18 S_q74 S_q1 x_1 y_1 n t17 (fun r1 r2 => κ.ext 0 (sx0_st_big_sum_0.build [.int n, .int r1, .ints r2]))) (carry, t18, z) :=
  iter_tr (fun (v_ : Int × Int × List Int) => sh_st_big_sum_0.build [.ints x_1, .ints y_1, .int n, .int v_.1, .int t17, .int v_.2.1, .ints v_.2.2]) (fun v_ K_ => by obtain ⟨carry, t18, z⟩ := v_; kernel_rfl) N_ (carry, t18, z)
theorem hk1_st_big_sum_0 (N_ : Nat) (S_q18 : TS_q18) (S_q74 : TS_q74) (S_q1 : TS_q1) : HookFor ⟨Pg, ofList [(205, (F_q18 S_q18)), (221, (F_q74 S_q74)), (202, (F_q1 S_q1))], isref, N_⟩ 0 (an_q170 N_ S_q18 S_q74 S_q1) (lp Pg 201 0) (sh_st_big_sum_0, hk_st_big_sum_0 N_ S_q18 S_q74 S_q1) := by
  intro a κ h
  simp only at h
  unfold hk_st_big_sum_0 at h
  split at h
  · exact (eq_st_big_sum_0 _ _ _ _ _ _ _ _ _ _ _ _).trans h
  · cases h
theorem ho_big_sum_0 (N_ : Nat) (S_q18 : TS_q18) (S_q74 : TS_q74) (S_q1 : TS_q1) : HookOk ⟨Pg, ofList [(205, (F_q18 S_q18)), (221, (F_q74 S_q74)), (202, (F_q1 S_q1))], isref, N_⟩ 0 (an_q170 N_ S_q18 S_q74 S_q1) (lp Pg 201 0) :=
  hooks_ok [(sh_st_big_sum_0, hk_st_big_sum_0 N_ S_q18 S_q74 S_q1)] (by kernel_rfl) ⟨hk1_st_big_sum_0 _ _ _ _, trivial⟩
theorem eq_q170 (N_ : Nat) (S_q18 : TS_q18) (S_q74 : TS_q74) (S_q1 : TS_q1) (x : List Int) (y : List Int) (c_ : V -> List Blk -> Bool) : bodyZ ⟨Pg, ofList [(205, (F_q18 S_q18)), (221, (F_q74 S_q74)), (202, (F_q1 S_q1))], isref, N_⟩ (an_q170 N_ S_q18 S_q74 S_q1) 201 (shF_q170.args [.ints x, .ints y]) [] c_ = G_q170 N_ S_q18 S_q74 S_q1 x y (fun r0 => c_ (.roi .u64 r0) []) := by kernel_rfl
theorem good_q170 (N_ : Nat) (S_q18 : TS_q18) (S_q74 : TS_q74) (S_q1 : TS_q1) (h_q18 : GoodF Pg 205 (F_q18 S_q18)) (h_q74 : GoodF Pg 221 (F_q74 S_q74)) (h_q1 : GoodF Pg 202 (F_q1 S_q1)) : GoodF Pg 201 (F_q170 (G_q170 N_ S_q18 S_q74 S_q1)) := by
  refine good_fsZ (cx := ⟨Pg, ofList [(205, (F_q18 S_q18)), (221, (F_q74 S_q74)), (202, (F_q1 S_q1))], isref, N_⟩) (ofList_cons h_q18 (ofList_cons h_q74 (ofList_cons h_q1 (ofList_nil _)))) shF_q170 (sp_q170 (G_q170 N_ S_q18 S_q74 S_q1)) (an_q170 N_ S_q18 S_q74 S_q1) 1 0 (by kernel_rfl) (fun i_ hi_ => by
    match i_, hi_ with
    | 0, _ => exact ho_big_sum_0 _ _ _ _
    | (q + 1), h => omega) ?_
  intro a k h
  unfold sp_q170 at h
  split at h
  · exact ⟨[], rfl, rfl, (eq_q170 _ _ _ _ _ _ _).trans h⟩
  · cases h

def sh_st_big_compare_0 : StSh := ⟨[.roi .u64, .roi .u64, .any, .any, .any, .int .i64, .any, .any, .any, .any, .any, .any, .any, .any, .any, .any, .any, .any, .any, .any, .any, .any, .any, .any, .any, .any, .any, .any, .any, .any, .any, .any, .any, .any, .any, .any, .any, .any, .any, .any, .any], []⟩
def sx0_st_big_compare_0 : StSh := ⟨[.any, .any, .any, .any, .int .i64, .any, .any, .any, .any, .any, .any, .any, .any, .any, .any, .any, .any, .any, .any, .any, .any, .any, .any, .any, .any, .any, .any, .any, .any, .any, .any, .any, .any, .any, .any, .any, .any, .any, .any, .any, .any], []⟩
def sx1_st_big_compare_0 : StSh := ⟨[.any, .any, .any, .any, .any, .any, .any, .any, .any, .any, .any, .any, .any, .any, .any, .any, .any, .any, .any, .any, .any, .any, .any, .any, .any, .any, .any, .any, .any, .any, .any, .any, .any, .any, .any, .any, .any, .any, .any, .any, .any], []⟩
def hk_st_big_compare_0 (N_ : Nat) : List Atom -> K -> Bool := fun a_ κ => match a_ with
  | [.ints x_1, .ints y_1, .int i] => iterG N_ (st_big_compare_0 N_ x_1 y_1 (fun r0 => κ.ret (sx0_st_big_compare_0.build [.int r0])) (κ.ext 0 (sx1_st_big_compare_0.build []))) i
  | _ => false
def an_q136 (N_ : Nat) : Nat -> Option Ann := fun b_ => cond (b_ == 0) (some ⟨⟨[0, 1, 5], [], []⟩, [(0, ⟨[], [], []⟩)], some ⟨[4], [], []⟩, some (mkHooks [(sh_st_big_compare_0, hk_st_big_compare_0 N_)])⟩) (none)
theorem eq_st_big_compare_0 (N_ : Nat) (κ : K) (x_1 : List Int) (y_1 : List Int) (i : Int) : iter N_ (fun s k => codeV ⟨Pg, ofList [], isref, N_⟩ 0 (an_q136 N_) (lp Pg 215 0).2 (lp Pg 215 0).1 s (roundK Pg 0 ((an_q136 N_) (lp Pg 215 0).1) κ k)) (sh_st_big_compare_0.build [.ints x_1, .ints y_1, .int i]) = iterG N_ (st_big_compare_0 N_ x_1 y_1 (fun r0 => κ.ret (sx0_st_big_compare_0.build [.int r0])) (κ.ext 0 (sx1_st_big_compare_0.build []))) i :=
  iter_tr (fun v_ => sh_st_big_compare_0.build [.ints x_1, .ints y_1, .int v_]) (fun v_ K_ => by kernel_rfl) N_ i
theorem hk1_st_big_compare_0 (N_ : Nat) : HookFor ⟨Pg, ofList [], isref, N_⟩ 0 (an_q136 N_) (lp Pg 215 0) (sh_st_big_compare_0, hk_st_big_compare_0 N_) := by
  intro a κ h
  simp only at h
  unfold hk_st_big_compare_0 at h
  split at h
  · exact (eq_st_big_compare_0 _ _ _ _ _).trans h
  · cases h
theorem ho_big_compare_0 (N_ : Nat) : HookOk ⟨Pg, ofList [], isref, N_⟩ 0 (an_q136 N_) (lp Pg 215 0) :=
  hooks_ok [(sh_st_big_compare_0, hk_st_big_compare_0 N_)] (by kernel_rfl) ⟨hk1_st_big_compare_0 _, trivial⟩
theorem eq_q136 (N_ : Nat) (x : List Int) (y : List Int) (c_ : V -> List Blk -> Bool) : bodyZ ⟨Pg, ofList [], isref, N_⟩ (an_q136 N_) 215 (shF_q136.args [.ints x, .ints y]) [] c_ = G_q136 N_ x y (fun r0 => c_ (.int .i64 r0) []) := by kernel_rfl
theorem good_q136 (N_ : Nat) : GoodF Pg 215 (F_q136 (G_q136 N_)) := by
  refine good_fsZ (cx := ⟨Pg, ofList [], isref, N_⟩) (ofList_nil _) shF_q136 (sp_q136 (G_q136 N_)) (an_q136 N_) 1 0 (by kernel_rfl) (fun i_ hi_ => by
    match i_, hi_ with
    | 0, _ => exact ho_big_compare_0 _
    | (q + 1), h => omega) ?_
  intro a k h
  unfold sp_q136 at h
  split at h
  · exact ⟨[], rfl, rfl, (eq_q136 _ _ _ _).trans h⟩
  · cases h


def sh_st_big_less_0 : StSh := ⟨[.roi .u64, .roi .u64, .any, .any, .any, .slw 0, .int .u64, .any, .any, .any, .any, .any, .int .i64, .int .i64, .any, .any, .any, .any, .any, .any, .any, .any, .any, .any, .any, .any, .any, .any, .any, .any, .any, .any, .any, .any], [some (41, 1, .ints .u64)]⟩
def sx0_st_big_less_0 : StSh := ⟨[.any, .any, .any, .any, .any, .slw 0, .any, .any, .any, .any, .any, .any, .any, .any, .any, .any, .any, .any, .any, .any, .any, .any, .any, .any, .any, .any, .any, .any, .any, .any, .any, .any, .any, .any], [some (41, 1, .ints .u64)]⟩
def hk_st_big_less_0 (N_ : Nat) (S_q18 : TS_q18) (S_q110 : TS_q110) (S_q1 : TS_q1) : List Atom -> K -> Bool := fun a_ κ => match a_ with
  | [.ints x_1, .ints y_1, .int borrow, .int t12, .int t13, .ints z] => iterG N_ (st_big_less_0 N_ S_q18 S_q110 S_q1 x_1 y_1 t12 (fun r0 => κ.ext 0 (sx0_st_big_less_0.build [.ints r0]))) (borrow, t13, z)
  | _ => false
def an_q176 (N_ : Nat) (S_q18 : TS_q18) (S_q110 : TS_q110) (S_q1 : TS_q1) : Nat -> Option Ann := fun b_ => cond (b_ == 0) (some ⟨⟨[0, 1, 5, 6, 12, 13], [], []⟩, [(0, ⟨[5], [], []⟩)], some ⟨[4], [], []⟩, some (mkHooks [(sh_st_big_less_0, hk_st_big_less_0 N_ S_q18 S_q110 S_q1)])⟩) (none)
theorem eq_st_big_less_0 (N_ : Nat) (S_q18 : TS_q18) (S_q110 : TS_q110) (S_q1 : TS_q1) (κ : K) (x_1 : List Int) (y_1 : List Int) (borrow : Int) (t12 : Int) (t13 : Int) (z : List Int) : iter N_ (fun s k => codeV ⟨Pg, ofList [(205, (F_q18 S_q18)), (230, (F_q110 S_q110)), (202, (F_q1 S_q1))], isref, N_⟩ 0 (an_q176 N_ S_q18 S_q110 S_q1) (lp Pg 216 0).2 (lp Pg 216 0).1 s (roundK Pg 0 ((an_q176 N_ S_q18 S_q110 S_q1) (lp Pg 216 0).1) κ k)) (sh_st_big_less_0.build [.ints x_1, .ints y_1, .int borrow, .int t12, .int t13, .ints z]) = iterG N_ (st_big_less_0 N_ S_q18 S_q110 S_q1 x_1 y_1 t12 (fun r0 => κ.ext 0 (sx0_st_big_less_0.build [.ints r0]))) (borrow, t13, z) :=
  iter_tr (fun (v_ : Int × Int × List Int) => sh_st_big_less_0.build [.ints x_1, .ints y_1, .int v_.1, .int t12, .int v_.2.1, .ints v_.2.2]) (fun v_ K_ => by obtain ⟨borrow, t13, z⟩ := v_; kernel_rfl) N_ (borrow, t13, z)
theorem hk1_st_big_less_0 (N_ : Nat) (S_q18 : TS_q18) (S_q110 : TS_q110) (S_q1 : TS_q1) : HookFor ⟨Pg, ofList [(205, (F_q18 S_q18)), (230, (F_q110 S_q110)), (202, (F_q1 S_q1))], isref, N_⟩ 0 (an_q176 N_ S_q18 S_q110 S_q1) (lp Pg 216 0) (sh_st_big_less_0, hk_st_big_less_0 N_ S_q18 S_q110 S_q1) := by
  intro a κ h
  simp only at h
  unfold hk_st_big_less_0 at h
  split at h
  · exact (eq_st_big_less_0 _ _ _ _ _ _ _ _ _ _ _).trans h
  · cases h
theorem ho_big_less_0 (N_ : Nat) (S_q18 : TS_q18) (S_q110 : TS_q110) (S_q1 : TS_q1) : HookOk ⟨Pg, ofList [(205, (F_q18 S_q18)), (230, (F_q110 S_q110)), (202, (F_q1 S_q1))], isref, N_⟩ 0 (an_q176 N_ S_q18 S_q110 S_q1) (lp Pg 216 0) :=
  hooks_ok [(sh_st_big_less_0, hk_st_big_less_0 N_ S_q18 S_q110 S_q1)] (by kernel_rfl) ⟨hk1_st_big_less_0 _ _ _ _, trivial⟩
theorem eq_q176 (N_ : Nat) (S_q18 : TS_q18) (S_q110 : TS_q110) (S_q1 : TS_q1) (x : List Int) (y : List Int) (c_ : V -> List Blk -> Bool) : bodyZ ⟨Pg, ofList [(205, (F_q18 S_q18)), (230, (F_q110 S_q110)), (202, (F_q1 S_q1))], isref, N_⟩ (an_q176 N_ S_q18 S_q110 S_q1) 216 (shF_q176.args [.ints x, .ints y]) [] c_ = G_q176 N_ S_q18 S_q110 S_q1 x y (fun r0 => c_ (.roi .u64 r0) []) := by kernel_rfl
theorem good_q176 (N_ : Nat) (S_q18 : TS_q18) (S_q110 : TS_q110) (S_q1 : TS_q1) (h_q18 : GoodF Pg 205 (F_q18 S_q18)) (h_q110 : GoodF Pg 230 (F_q110 S_q110)) (h_q1 : GoodF Pg 202 (F_q1 S_q1)) : GoodF Pg 216 (F_q176 (G_q176 N_ S_q18 S_q110 S_q1)) := by
  refine good_fsZ (cx := ⟨Pg, ofList [(205, (F_q18 S_q18)), (230, (F_q110 S_q110)), (202, (F_q1 S_q1))], isref, N_⟩) (ofList_cons h_q18 (ofList_cons h_q110 (ofList_cons h_q1 (ofList_nil _)))) shF_q176 (sp_q176 (G_q176 N_ S_q18 S_q110 S_q1)) (an_q176 N_ S_q18 S_q110 S_q1) 1 0 (by kernel_rfl) (fun i_ hi_ => by
    match i_, hi_ with
    | 0, _ => exact ho_big_less_0 _ _ _ _
    | (q + 1), h => omega) ?_
  intro a k h
  unfold sp_q176 at h
  split at h
  · exact ⟨[], rfl, rfl, (eq_q176 _ _ _ _ _ _ _).trans h⟩
  · cases h

def an_q67 (N_ : Nat) (S_q170 : TS_q170) (S_q0 : TS_q0) (S_q136 : TS_q136) (S_q176 : TS_q176) : Nat -> Option Ann := fun b_ => none
theorem eq_q67 (N_ : Nat) (S_q170 : TS_q170) (S_q0 : TS_q0) (S_q136 : TS_q136) (S_q176 : TS_q176) (neg : Bool) (y : List Int) (b : Bool) (b_1 : Bool) (b_2 : List Int) (c_ : V -> List Blk -> Bool) : bodyZ ⟨Pg, ofList [(201, (F_q170 S_q170)), (170, (F_q0 S_q0)), (215, (F_q136 S_q136)), (216, (F_q176 S_q176))], isref, N_⟩ (an_q67 N_ S_q170 S_q0 S_q136 S_q176) 191 (shF_q67.args [.bool neg, .ints y, .bool b, .bool b_1, .ints b_2]) [⟨164, 1, .cells [.bool b, .nil]⟩, ⟨164, 1, .cells [.bool b_1, .roi .u64 b_2]⟩] c_ = G_q67 N_ S_q170 S_q0 S_q136 S_q176 neg y b b_1 b_2 (fun r0 r1 => c_ (.ptr 0 0) [⟨164, 1, .cells [.bool r0, .roi .u64 r1]⟩, ⟨164, 1, .cells [.bool b_1, .roi .u64 b_2]⟩]) := by kernel_rfl
theorem good_q67 (N_ : Nat) (S_q170 : TS_q170) (S_q0 : TS_q0) (S_q136 : TS_q136) (S_q176 : TS_q176) (h_q170 : GoodF Pg 201 (F_q170 S_q170)) (h_q0 : GoodF Pg 170 (F_q0 S_q0)) (h_q136 : GoodF Pg 215 (F_q136 S_q136)) (h_q176 : GoodF Pg 216 (F_q176 S_q176)) : GoodF Pg 191 (F_q67 (G_q67 N_ S_q170 S_q0 S_q136 S_q176)) := by
  refine good_fsZ (cx := ⟨Pg, ofList [(201, (F_q170 S_q170)), (170, (F_q0 S_q0)), (215, (F_q136 S_q136)), (216, (F_q176 S_q176))], isref, N_⟩) (ofList_cons h_q170 (ofList_cons h_q0 (ofList_cons h_q136 (ofList_cons h_q176 (ofList_nil _))))) shF_q67 (sp_q67 (G_q67 N_ S_q170 S_q0 S_q136 S_q176)) (an_q67 N_ S_q170 S_q0 S_q136 S_q176) 0 2 (by kernel_rfl) (fun i_ hi_ => by omega) ?_
  intro a k h
  unfold sp_q67 at h
  split at h
  · exact ⟨[_, _], rfl, rfl, (eq_q67 _ _ _ _ _ _ _ _ _ _ _).trans h⟩
  · cases h

def an_q27 (N_ : Nat) (S_q67 : TS_q67) : Nat -> Option Ann := fun b_ => none
theorem eq_q27 (N_ : Nat) (S_q67 : TS_q67) (b : Bool) (b_1 : Bool) (b_2 : List Int) (b_3 : Bool) (b_4 : List Int) (c_ : V -> List Blk -> Bool) : bodyZ ⟨Pg, ofList [(191, (F_q67 S_q67))], isref, N_⟩ (an_q27 N_ S_q67) 158 (shF_q27.args [.bool b, .bool b_1, .ints b_2, .bool b_3, .ints b_4]) [⟨164, 1, .cells [.bool b, .nil]⟩, ⟨164, 1, .cells [.bool b_1, .roi .u64 b_2]⟩, ⟨164, 1, .cells [.bool b_3, .roi .u64 b_4]⟩] c_ = G_q27 N_ S_q67 b b_1 b_2 b_3 b_4 (fun r0 r1 => c_ (.ptr 0 0) [⟨164, 1, .cells [.bool r0, .roi .u64 r1]⟩, ⟨164, 1, .cells [.bool b_1, .roi .u64 b_2]⟩, ⟨164, 1, .cells [.bool b_3, .roi .u64 b_4]⟩]) := by kernel_rfl
theorem good_q27 (N_ : Nat) (S_q67 : TS_q67) (h_q67 : GoodF Pg 191 (F_q67 S_q67)) : GoodF Pg 158 (F_q27 (G_q27 N_ S_q67)) := by
  refine good_fsZ (cx := ⟨Pg, ofList [(191, (F_q67 S_q67))], isref, N_⟩) (ofList_cons h_q67 (ofList_nil _)) shF_q27 (sp_q27 (G_q27 N_ S_q67)) (an_q27 N_ S_q67) 0 3 (by kernel_rfl) (fun i_ hi_ => by omega) ?_
  intro a k h
  unfold sp_q27 at h
  split at h
  · exact ⟨[_, _, _], rfl, rfl, (eq_q27 _ _ _ _ _ _ _ _).trans h⟩
  · cases h

def an_q19 (N_ : Nat) (S_q84 : TS_q84) (S_q4 : TS_q4) (S_q35 : TS_q35) (S_q27 : TS_q27) : Nat -> Option Ann := fun b_ => none
theorem eq_q19 (N_ : Nat) (S_q84 : TS_q84) (S_q4 : TS_q4) (S_q35 : TS_q35) (S_q27 : TS_q27) (x : Int) (y : Int) (b : Bool) (b_1 : Bool) (b_2 : List Int) (c_ : V -> List Blk -> Bool) : bodyV ⟨Pg, ofList [(134, (orFs (F_q84 S_q84) (F_q4 S_q4) shF_q84)), (159, (F_q35 S_q35)), (158, (F_q27 S_q27))], isref, N_⟩ (an_q19 N_ S_q84 S_q4 S_q35 S_q27) 125 (shF_q19.args [.int x, .int y, .bool b, .bool b_1, .ints b_2]) [⟨164, 1, .cells [.bool b, .nil]⟩, ⟨164, 1, .cells [.bool b_1, .roi .u64 b_2]⟩] c_ = G_q19 N_ S_q84 S_q4 S_q35 S_q27 x y b b_1 b_2 (fun r2 => c_ (.agg [.ptr 1 0, .int .i64 y]) [⟨164, 1, .cells [.bool b, .roi .u64 r2]⟩, ⟨164, 1, .cells [.bool b_1, .roi .u64 b_2]⟩]) (fun r2 => c_ (.agg [.ptr 0 0, .int .i64 x]) [⟨164, 1, .cells [.bool b, .roi .u64 r2]⟩, ⟨164, 1, .cells [.bool b_1, .roi .u64 b_2]⟩]) (fun r0 r2 r5 r6 => c_ (.agg [.ptr 2 0, .int .i64 r0]) [⟨164, 1, .cells [.bool b, .roi .u64 r2]⟩, ⟨164, 1, .cells [.bool b_1, .roi .u64 b_2]⟩, ⟨164, 1, .cells [.bool r5, .roi .u64 r6]⟩]) := by kernel_rfl
theorem good_q19 (N_ : Nat) (S_q84 : TS_q84) (S_q4 : TS_q4) (S_q35 : TS_q35) (S_q27 : TS_q27) (h_q84 : GoodF Pg 134 (F_q84 S_q84)) (h_q4 : GoodF Pg 134 (F_q4 S_q4)) (h_q35 : GoodF Pg 159 (F_q35 S_q35)) (h_q27 : GoodF Pg 158 (F_q27 S_q27)) : GoodF Pg 125 (F_q19 (G_q19 N_ S_q84 S_q4 S_q35 S_q27)) := by
  refine good_fs (cx := ⟨Pg, ofList [(134, (orFs (F_q84 S_q84) (F_q4 S_q4) shF_q84)), (159, (F_q35 S_q35)), (158, (F_q27 S_q27))], isref, N_⟩) (ofList_cons (good_or h_q84 h_q4) (ofList_cons h_q35 (ofList_cons h_q27 (ofList_nil _)))) shF_q19 (sp_q19 (G_q19 N_ S_q84 S_q4 S_q35 S_q27)) (an_q19 N_ S_q84 S_q4 S_q35 S_q27) 0 2 (by kernel_rfl) (fun i_ hi_ => by omega) ?_
  intro a k h
  unfold sp_q19 at h
  split at h
  · exact ⟨[_, _], rfl, rfl, (eq_q19 _ _ _ _ _ _ _ _ _ _ _).trans h⟩
  · cases h

def an_q3 (N_ : Nat) (S_q4 : TS_q4) (S_q35 : TS_q35) (S_q27 : TS_q27) : Nat -> Option Ann := fun b_ => none
theorem eq_q3 (N_ : Nat) (S_q4 : TS_q4) (S_q35 : TS_q35) (S_q27 : TS_q27) (x : Int) (y : Int) (b : Bool) (b_1 : List Int) (b_2 : Bool) (b_3 : List Int) (c_ : V -> List Blk -> Bool) : bodyV ⟨Pg, ofList [(134, (F_q4 S_q4)), (159, (F_q35 S_q35)), (158, (F_q27 S_q27))], isref, N_⟩ (an_q3 N_ S_q4 S_q35 S_q27) 125 (shF_q3.args [.int x, .int y, .bool b, .ints b_1, .bool b_2, .ints b_3]) [⟨164, 1, .cells [.bool b, .roi .u64 b_1]⟩, ⟨164, 1, .cells [.bool b_2, .roi .u64 b_3]⟩] c_ = G_q3 N_ S_q4 S_q35 S_q27 x y b b_1 b_2 b_3 (c_ (.agg [.ptr 1 0, .int .i64 y]) [⟨164, 1, .cells [.bool b, .roi .u64 b_1]⟩, ⟨164, 1, .cells [.bool b_2, .roi .u64 b_3]⟩]) (c_ (.agg [.ptr 0 0, .int .i64 x]) [⟨164, 1, .cells [.bool b, .roi .u64 b_1]⟩, ⟨164, 1, .cells [.bool b_2, .roi .u64 b_3]⟩]) (fun r0 r5 r6 => c_ (.agg [.ptr 2 0, .int .i64 r0]) [⟨164, 1, .cells [.bool b, .roi .u64 b_1]⟩, ⟨164, 1, .cells [.bool b_2, .roi .u64 b_3]⟩, ⟨164, 1, .cells [.bool r5, .roi .u64 r6]⟩]) := by kernel_rfl
theorem good_q3 (N_ : Nat) (S_q4 : TS_q4) (S_q35 : TS_q35) (S_q27 : TS_q27) (h_q4 : GoodF Pg 134 (F_q4 S_q4)) (h_q35 : GoodF Pg 159 (F_q35 S_q35)) (h_q27 : GoodF Pg 158 (F_q27 S_q27)) : GoodF Pg 125 (F_q3 (G_q3 N_ S_q4 S_q35 S_q27)) := by
  refine good_fs (cx := ⟨Pg, ofList [(134, (F_q4 S_q4)), (159, (F_q35 S_q35)), (158, (F_q27 S_q27))], isref, N_⟩) (ofList_cons h_q4 (ofList_cons h_q35 (ofList_cons h_q27 (ofList_nil _)))) shF_q3 (sp_q3 (G_q3 N_ S_q4 S_q35 S_q27)) (an_q3 N_ S_q4 S_q35 S_q27) 0 2 (by kernel_rfl) (fun i_ hi_ => by omega) ?_
  intro a k h
  unfold sp_q3 at h
  split at h
  · exact ⟨[_, _], rfl, rfl, (eq_q3 _ _ _ _ _ _ _ _ _ _ _).trans h⟩
  · cases h

def an_q39 (N_ : Nat) (S_q85 : TS_q85) (S_q0 : TS_q0) : Nat -> Option Ann := fun b_ => none
theorem eq_q39 (N_ : Nat) (S_q85 : TS_q85) (S_q0 : TS_q0) (b : Bool) (b_1 : Bool) (b_2 : List Int) (c_ : V -> List Blk -> Bool) : bodyZ ⟨Pg, ofList [(171, (F_q85 S_q85)), (170, (F_q0 S_q0))], isref, N_⟩ (an_q39 N_ S_q85 S_q0) 195 (shF_q39.args [.bool b, .bool b_1, .ints b_2]) [⟨164, 1, .cells [.bool b, .nil]⟩, ⟨164, 1, .cells [.bool b_1, .roi .u64 b_2]⟩] c_ = G_q39 N_ S_q85 S_q0 b b_1 b_2 (fun r0 r1 => c_ (.ptr 0 0) [⟨164, 1, .cells [.bool r0, .roi .u64 r1]⟩, ⟨164, 1, .cells [.bool b_1, .roi .u64 b_2]⟩]) := by kernel_rfl
theorem good_q39 (N_ : Nat) (S_q85 : TS_q85) (S_q0 : TS_q0) (h_q85 : GoodF Pg 171 (F_q85 S_q85)) (h_q0 : GoodF Pg 170 (F_q0 S_q0)) : GoodF Pg 195 (F_q39 (G_q39 N_ S_q85 S_q0)) := by
  refine good_fsZ (cx := ⟨Pg, ofList [(171, (F_q85 S_q85)), (170, (F_q0 S_q0))], isref, N_⟩) (ofList_cons h_q85 (ofList_cons h_q0 (ofList_nil _))) shF_q39 (sp_q39 (G_q39 N_ S_q85 S_q0)) (an_q39 N_ S_q85 S_q0) 0 2 (by kernel_rfl) (fun i_ hi_ => by omega) ?_
  intro a k h
  unfold sp_q39 at h
  split at h
  · exact ⟨[_, _], rfl, rfl, (eq_q39 _ _ _ _ _ _ _).trans h⟩
  · cases h

def an_q58 (N_ : Nat) (S_q18 : TS_q18) : Nat -> Option Ann := fun b_ => none
theorem eq_q58 (N_ : Nat) (S_q18 : TS_q18) (i : Int) (b : Bool) (b_1 : List Int) (c_ : V -> List Blk -> Bool) : bodyZ ⟨Pg, ofList [(205, (F_q18 S_q18))], isref, N_⟩ (an_q58 N_ S_q18) 196 (shF_q58.args [.int i, .bool b, .ints b_1]) [⟨164, 1, .cells [.bool b, .roi .u64 b_1]⟩] c_ = G_q58 N_ S_q18 i b b_1 (fun r0 => c_ (.int .u64 r0) [⟨164, 1, .cells [.bool b, .roi .u64 b_1]⟩]) := by kernel_rfl
theorem good_q58 (N_ : Nat) (S_q18 : TS_q18) (h_q18 : GoodF Pg 205 (F_q18 S_q18)) : GoodF Pg 196 (F_q58 (G_q58 N_ S_q18)) := by
  refine good_fsZ (cx := ⟨Pg, ofList [(205, (F_q18 S_q18))], isref, N_⟩) (ofList_cons h_q18 (ofList_nil _)) shF_q58 (sp_q58 (G_q58 N_ S_q18)) (an_q58 N_ S_q18) 0 1 (by kernel_rfl) (fun i_ hi_ => by omega) ?_
  intro a k h
  unfold sp_q58 at h
  split at h
  · exact ⟨[_], rfl, rfl, (eq_q58 _ _ _ _ _ _).trans h⟩
  · cases h

def sh_st_big_Int_TrailingZeroBits_p0r_0 : StSh := ⟨[.any, .any, .any, .any, .any, .any, .any, .any, .roi .u64, .int .i64, .int .i64, .any, .any, .any, .any, .any, .any, .any, .any, .any, .any, .any, .any, .any], [some (164, 1, .cells [.bool, .roi .u64])]⟩
def sx0_st_big_Int_TrailingZeroBits_p0r_0 : StSh := ⟨[.any, .any, .int .u64, .any, .any, .any, .any, .any, .any, .any, .any, .any, .any, .any, .any, .any, .any, .any, .any, .any, .any, .any, .any, .any], [some (164, 1, .cells [.bool, .roi .u64])]⟩
def sx1_st_big_Int_TrailingZeroBits_p0r_0 : StSh := ⟨[.any, .any, .any, .any, .any, .any, .any, .any, .any, .any, .any, .any, .any, .any, .any, .any, .any, .any, .any, .any, .any, .any, .any, .any], [some (164, 1, .cells [.bool, .roi .u64])]⟩
def hk_st_big_Int_TrailingZeroBits_p0r_0 (N_ : Nat) (S_q7 : TS_q7) : List Atom -> K -> Bool := fun a_ κ => match a_ with
  | [.ints t8, .int t9, .int t10, .bool b0, .ints b0_1] => iterG N_ (st_q202 N_ S_q7 t8 t9 b0 b0_1 (fun r0 => κ.ret (sx0_st_big_Int_TrailingZeroBits_p0r_0.build [.int r0, .bool b0, .ints b0_1])) (κ.ext 0 (sx1_st_big_Int_TrailingZeroBits_p0r_0.build [.bool b0, .ints b0_1]))) t10
  | _ => false
def an_q11 (N_ : Nat) (S_q7 : TS_q7) : Nat -> Option Ann := fun b_ => cond (b_ == 0) (some ⟨⟨[8, 9, 10], [], []⟩, [(0, ⟨[], [], []⟩)], some ⟨[2], [], []⟩, some (mkHooks [(sh_st_big_Int_TrailingZeroBits_p0r_0, hk_st_big_Int_TrailingZeroBits_p0r_0 N_ S_q7)])⟩) (none)
theorem eq_st_big_Int_TrailingZeroBits_p0r_0 (N_ : Nat) (S_q7 : TS_q7) (κ : K) (t8 : List Int) (t9 : Int) (t10 : Int) (b0 : Bool) (b0_1 : List Int) : iter N_ (fun s k => codeV ⟨Pg, ofList [(218, (F_q7 S_q7))], isref, N_⟩ 1 (an_q11 N_ S_q7) (lp Pg 197 0).2 (lp Pg 197 0).1 s (roundK Pg 1 ((an_q11 N_ S_q7) (lp Pg 197 0).1) κ k)) (sh_st_big_Int_TrailingZeroBits_p0r_0.build [.ints t8, .int t9, .int t10, .bool b0, .ints b0_1]) = iterG N_ (st_q202 N_ S_q7 t8 t9 b0 b0_1 (fun r0 => κ.ret (sx0_st_big_Int_TrailingZeroBits_p0r_0.build [.int r0, .bool b0, .ints b0_1])) (κ.ext 0 (sx1_st_big_Int_TrailingZeroBits_p0r_0.build [.bool b0, .ints b0_1]))) t10 :=
  iter_tr (fun v_ => sh_st_big_Int_TrailingZeroBits_p0r_0.build [.ints t8, .int t9, .int v_, .bool b0, .ints b0_1]) (fun v_ K_ => by kernel_rfl) N_ t10
theorem hk1_st_big_Int_TrailingZeroBits_p0r_0 (N_ : Nat) (S_q7 : TS_q7) : HookFor ⟨Pg, ofList [(218, (F_q7 S_q7))], isref, N_⟩ 1 (an_q11 N_ S_q7) (lp Pg 197 0) (sh_st_big_Int_TrailingZeroBits_p0r_0, hk_st_big_Int_TrailingZeroBits_p0r_0 N_ S_q7) := by
  intro a κ h
  simp only at h
  unfold hk_st_big_Int_TrailingZeroBits_p0r_0 at h
  split at h
  · exact (eq_st_big_Int_TrailingZeroBits_p0r_0 _ _ _ _ _ _ _ _).trans h
  · cases h
theorem ho_big_Int_TrailingZeroBits_p0r_0 (N_ : Nat) (S_q7 : TS_q7) : HookOk ⟨Pg, ofList [(218, (F_q7 S_q7))], isref, N_⟩ 1 (an_q11 N_ S_q7) (lp Pg 197 0) :=
  hooks_ok [(sh_st_big_Int_TrailingZeroBits_p0r_0, hk_st_big_Int_TrailingZeroBits_p0r_0 N_ S_q7)] (by kernel_rfl) ⟨hk1_st_big_Int_TrailingZeroBits_p0r_0 _ _, trivial⟩
theorem eq_q11 (N_ : Nat) (S_q7 : TS_q7) (b : Bool) (b_1 : List Int) (c_ : V -> List Blk -> Bool) : bodyZ ⟨Pg, ofList [(218, (F_q7 S_q7))], isref, N_⟩ (an_q11 N_ S_q7) 197 (shF_q11.args [.bool b, .ints b_1]) [⟨164, 1, .cells [.bool b, .roi .u64 b_1]⟩] c_ = G_q11 N_ S_q7 b b_1 (fun r0 => c_ (.int .u64 r0) [⟨164, 1, .cells [.bool b, .roi .u64 b_1]⟩]) := by kernel_rfl
theorem good_q11 (N_ : Nat) (S_q7 : TS_q7) (h_q7 : GoodF Pg 218 (F_q7 S_q7)) : GoodF Pg 197 (F_q11 (G_q11 N_ S_q7)) := by
  refine good_fsZ (cx := ⟨Pg, ofList [(218, (F_q7 S_q7))], isref, N_⟩) (ofList_cons h_q7 (ofList_nil _)) shF_q11 (sp_q11 (G_q11 N_ S_q7)) (an_q11 N_ S_q7) 1 1 (by kernel_rfl) (fun i_ hi_ => by
    match i_, hi_ with
    | 0, _ => exact ho_big_Int_TrailingZeroBits_p0r_0 _ _
    | (q + 1), h => omega) ?_
  intro a k h
  unfold sp_q11 at h
  split at h
  · exact ⟨[_], rfl, rfl, (eq_q11 _ _ _ _ _).trans h⟩
  · cases h

def sh_st_big_right_0 : StSh := ⟨[.roi .u64, .any, .any, .any, .any, .any, .int .i64, .int .u64, .int .u64, .any, .any, .any, .any, .any, .any, .any, .any, .any, .any, .any, .any, .any, .any, .any, .any, .any, .any, .any, .any, .any, .any, .any, .any, .any, .any, .any, .any, .roi .u64, .int .i64, .int .i64, .any, .any, .any, .any, .any, .any, .any, .any, .any, .any, .any, .any, .any, .any, .any, .any, .any, .any, .any, .any, .any, .any, .any, .any, .any, .any, .any, .any, .any, .any, .any, .any, .any, .any, .any, .any, .any, .any, .any, .any, .any, .any], []⟩
def sx0_st_big_right_0 : StSh := ⟨[.roi .u64, .any, .any, .any, .any, .any, .int .i64, .int .u64, .int .u64, .any, .any, .any, .any, .any, .any, .any, .any, .any, .any, .any, .any, .any, .any, .any, .any, .any, .any, .any, .any, .any, .any, .any, .any, .any, .any, .any, .any, .any, .any, .any, .any, .any, .any, .any, .any, .any, .any, .any, .any, .any, .any, .any, .any, .any, .any, .any, .any, .any, .any, .any, .any, .any, .any, .any, .any, .any, .any, .any, .any, .any, .any, .any, .any, .any, .any, .any, .any, .any, .any, .any, .any, .any], []⟩
def hk_st_big_right_0 (N_ : Nat) (S_q18 : TS_q18) (S_q1 : TS_q1) : List Atom -> K -> Bool := fun a_ κ => match a_ with
  | [.ints x_1, .int words, .int rest, .int lost, .ints t37, .int t38, .int t39] => iterG N_ (st_big_right_0 N_ S_q18 S_q1 x_1 words rest t37 t38 (fun r3 => κ.ext 0 (sx0_st_big_right_0.build [.ints x_1, .int words, .int rest, .int r3]))) (lost, t39)
  | _ => false
def sh_st_big_right_2 : StSh := ⟨[.roi .u64, .any, .any, .any, .any, .any, .int .i64, .int .u64, .int .u64, .any, .any, .slw 0, .any, .any, .any, .any, .any, .any, .any, .any, .any, .any, .any, .any, .any, .any, .any, .any, .any, .any, .any, .any, .any, .any, .any, .any, .any, .any, .any, .any, .any, .any, .any, .any, .any, .any, .any, .any, .any, .any, .any, .any, .any, .int .i64, .int .i64, .any, .any, .any, .any, .any, .any, .any, .any, .any, .any, .any, .any, .any, .any, .any, .any, .any, .any, .any, .any, .any, .any, .any, .any, .any, .any, .any], [some (41, 1, .ints .u64)]⟩
def sx0_st_big_right_2 : StSh := ⟨[.any, .any, .any, .any, .any, .any, .any, .any, .int .u64, .any, .any, .slw 0, .any, .any, .any, .any, .any, .any, .any, .any, .any, .any, .any, .any, .any, .any, .any, .any, .any, .any, .any, .any, .any, .any, .any, .any, .any, .any, .any, .any, .any, .any, .any, .any, .any, .any, .any, .any, .any, .any, .any, .any, .any, .any, .any, .any, .any, .any, .any, .any, .any, .any, .any, .any, .any, .any, .any, .any, .any, .any, .any, .any, .any, .any, .any, .any, .any, .any, .any, .any, .any, .any], [some (41, 1, .ints .u64)]⟩
def hk_st_big_right_2 (N_ : Nat) (S_q18 : TS_q18) (S_q1 : TS_q1) : List Atom -> K -> Bool := fun a_ κ => match a_ with
  | [.ints x_2, .int words_1, .int rest_1, .int lost_2, .int t53, .int t54, .ints z] => iterG N_ (st_big_right_2 N_ S_q18 S_q1 x_2 words_1 rest_1 lost_2 t53 (fun r1 => κ.ext 2 (sx0_st_big_right_2.build [.int lost_2, .ints r1]))) (t54, z)
  | _ => false
def an_q154 (N_ : Nat) (S_q18 : TS_q18) (S_q1 : TS_q1) : Nat -> Option Ann := fun b_ => cond (b_ == 0) (some ⟨⟨[0, 6, 7, 8, 37, 38, 39], [], []⟩, [(0, ⟨[0, 6, 7, 8], [], []⟩)], some ⟨[4, 5], [], []⟩, some (mkHooks [(sh_st_big_right_0, hk_st_big_right_0 N_ S_q18 S_q1)])⟩) (cond (b_ == 2) (some ⟨⟨[0, 6, 7, 8, 11, 53, 54], [], []⟩, [(2, ⟨[8, 11], [], []⟩)], some ⟨[4, 5], [], []⟩, some (mkHooks [(sh_st_big_right_2, hk_st_big_right_2 N_ S_q18 S_q1)])⟩) (none))
theorem eq_st_big_right_0 (N_ : Nat) (S_q18 : TS_q18) (S_q1 : TS_q1) (κ : K) (x_1 : List Int) (words : Int) (rest : Int) (lost : Int) (t37 : List Int) (t38 : Int) (t39 : Int) : iter N_ (fun s k => codeV ⟨Pg, ofList [(205, (F_q18 S_q18)), (202, (F_q1 S_q1))], isref, N_⟩ 0 (an_q154 N_ S_q18 S_q1) (lp Pg 200 0).2 (lp Pg 200 0).1 s (roundK Pg 0 ((an_q154 N_ S_q18 S_q1) (lp Pg 200 0).1) κ k)) (sh_st_big_right_0.build [.ints x_1, .int words, .int rest, .int lost, .ints t37, .int t38, .int t39]) = iterG N_ (st_big_right_0 N_ S_q18 S_q1 x_1 words rest t37 t38 (fun r3 => κ.ext 0 (sx0_st_big_right_0.build [.ints x_1, .int words, .int rest, .int r3]))) (lost, t39) :=
  iter_tr (fun (v_ : Int × Int) => sh_st_big_right_0.build [.ints x_1, .int words, .int rest, .int v_.1, .ints t37, .int t38, .int v_.2]) (fun v_ K_ => by obtain ⟨lost, t39⟩ := v_; kernel_rfl) N_ (lost, t39)
theorem hk1_st_big_right_0 (N_ : Nat) (S_q18 : TS_q18) (S_q1 : TS_q1) : HookFor ⟨Pg, ofList [(205, (F_q18 S_q18)), (202, (F_q1 S_q1))], isref, N_⟩ 0 (an_q154 N_ S_q18 S_q1) (lp Pg 200 0) (sh_st_big_right_0, hk_st_big_right_0 N_ S_q18 S_q1) := by
  intro a κ h
  simp only at h
  unfold hk_st_big_right_0 at h
  split at h
  · exact (eq_st_big_right_0 _ _ _ _ _ _ _ _ _ _ _).trans h
  · cases h
theorem eq_st_big_right_2 (N_ : Nat) (S_q18 : TS_q18) (S_q1 : TS_q1) (κ : K) (x_2 : List Int) (words_1 : Int) (rest_1 : Int) (lost_2 : Int) (t53 : Int) (t54 : Int) (z : List Int) : iter N_ (fun s k => codeV ⟨Pg, ofList [(205, (F_q18 S_q18)), (202, (F_q1 S_q1))], isref, N_⟩ 0 (an_q154 N_ S_q18 S_q1) (lp Pg 200 1).2 (lp Pg 200 1).1 s (roundK Pg 0 ((an_q154 N_ S_q18 S_q1) (lp Pg 200 1).1) κ k)) (sh_st_big_right_2.build [.ints x_2, .int words_1, .int rest_1, .int lost_2, .int t53, .int t54, .ints z]) = iterG N_ (st_big_right_2 N_ S_q18 S_q1 x_2 words_1 rest_1 lost_2 t53 (fun r1 => κ.ext 2 (sx0_st_big_right_2.build [.int lost_2, .ints r1]))) (t54, z) :=
  iter_tr (fun (v_ : Int × List Int) => sh_st_big_right_2.build [.ints x_2, .int words_1, .int rest_1, .int lost_2, .int t53, .int v_.1, .ints v_.2]) (fun v_ K_ => by obtain ⟨t54, z⟩ := v_; kernel_rfl) N_ (t54, z)
theorem hk1_st_big_right_2 (N_ : Nat) (S_q18 : TS_q18) (S_q1 : TS_q1) : HookFor ⟨Pg, ofList [(205, (F_q18 S_q18)), (202, (F_q1 S_q1))], isref, N_⟩ 0 (an_q154 N_ S_q18 S_q1) (lp Pg 200 1) (sh_st_big_right_2, hk_st_big_right_2 N_ S_q18 S_q1) := by
  intro a κ h
  simp only at h
  unfold hk_st_big_right_2 at h
  split at h
  · exact (eq_st_big_right_2 _ _ _ _ _ _ _ _ _ _ _).trans h
  · cases h
theorem ho_big_right_0 (N_ : Nat) (S_q18 : TS_q18) (S_q1 : TS_q1) : HookOk ⟨Pg, ofList [(205, (F_q18 S_q18)), (202, (F_q1 S_q1))], isref, N_⟩ 0 (an_q154 N_ S_q18 S_q1) (lp Pg 200 0) :=
  hooks_ok [(sh_st_big_right_0, hk_st_big_right_0 N_ S_q18 S_q1)] (by kernel_rfl) ⟨hk1_st_big_right_0 _ _ _, trivial⟩
theorem ho_big_right_2 (N_ : Nat) (S_q18 : TS_q18) (S_q1 : TS_q1) : HookOk ⟨Pg, ofList [(205, (F_q18 S_q18)), (202, (F_q1 S_q1))], isref, N_⟩ 0 (an_q154 N_ S_q18 S_q1) (lp Pg 200 1) :=
  hooks_ok [(sh_st_big_right_2, hk_st_big_right_2 N_ S_q18 S_q1)] (by kernel_rfl) ⟨hk1_st_big_right_2 _ _ _, trivial⟩
theorem eq_q154 (N_ : Nat) (S_q18 : TS_q18) (S_q1 : TS_q1) (x : List Int) (n : Int) (c_ : V -> List Blk -> Bool) : bodyZ ⟨Pg, ofList [(205, (F_q18 S_q18)), (202, (F_q1 S_q1))], isref, N_⟩ (an_q154 N_ S_q18 S_q1) 200 (shF_q154.args [.ints x, .int n]) [] c_ = G_q154 N_ S_q18 S_q1 x n (fun r0 r1 => c_ (.tup [.roi .u64 r0, .bool r1]) []) := by kernel_rfl
theorem good_q154 (N_ : Nat) (S_q18 : TS_q18) (S_q1 : TS_q1) (h_q18 : GoodF Pg 205 (F_q18 S_q18)) (h_q1 : GoodF Pg 202 (F_q1 S_q1)) : GoodF Pg 200 (F_q154 (G_q154 N_ S_q18 S_q1)) := by
  refine good_fsZ (cx := ⟨Pg, ofList [(205, (F_q18 S_q18)), (202, (F_q1 S_q1))], isref, N_⟩) (ofList_cons h_q18 (ofList_cons h_q1 (ofList_nil _))) shF_q154 (sp_q154 (G_q154 N_ S_q18 S_q1)) (an_q154 N_ S_q18 S_q1) 2 0 (by kernel_rfl) (fun i_ hi_ => by
    match i_, hi_ with
    | 0, _ => exact ho_big_right_0 _ _ _
    | 1, _ => exact ho_big_right_2 _ _ _
    | (q + 2), h => omega) ?_
  intro a k h
  unfold sp_q154 at h
  split at h
  · exact ⟨[], rfl, rfl, (eq_q154 _ _ _ _ _ _).trans h⟩
  · cases h

def an_q17 (N_ : Nat) (S_q154 : TS_q154) (S_q170 : TS_q170) (S_q32 : TS_q32) : Nat -> Option Ann := fun b_ => none
theorem eq_q17 (N_ : Nat) (S_q154 : TS_q154) (S_q170 : TS_q170) (S_q32 : TS_q32) (n : Int) (b : Bool) (b_1 : List Int) (c_ : V -> List Blk -> Bool) : bodyZ ⟨Pg, ofList [(200, (F_q154 S_q154)), (201, (F_q170 S_q170)), (170, (F_q32 S_q32))], isref, N_⟩ (an_q17 N_ S_q154 S_q170 S_q32) 167 (shF_q17.args [.int n, .bool b, .ints b_1]) [⟨164, 1, .cells [.bool b, .roi .u64 b_1]⟩] c_ = G_q17 N_ S_q154 S_q170 S_q32 n b b_1 (fun r0 r1 => c_ (.ptr 0 0) [⟨164, 1, .cells [.bool r0, .roi .u64 r1]⟩]) := by kernel_rfl
theorem good_q17 (N_ : Nat) (S_q154 : TS_q154) (S_q170 : TS_q170) (S_q32 : TS_q32) (h_q154 : GoodF Pg 200 (F_q154 S_q154)) (h_q170 : GoodF Pg 201 (F_q170 S_q170)) (h_q32 : GoodF Pg 170 (F_q32 S_q32)) : GoodF Pg 167 (F_q17 (G_q17 N_ S_q154 S_q170 S_q32)) := by
  refine good_fsZ (cx := ⟨Pg, ofList [(200, (F_q154 S_q154)), (201, (F_q170 S_q170)), (170, (F_q32 S_q32))], isref, N_⟩) (ofList_cons h_q154 (ofList_cons h_q170 (ofList_cons h_q32 (ofList_nil _)))) shF_q17 (sp_q17 (G_q17 N_ S_q154 S_q170 S_q32)) (an_q17 N_ S_q154 S_q170 S_q32) 0 1 (by kernel_rfl) (fun i_ hi_ => by omega) ?_
  intro a k h
  unfold sp_q17 at h
  split at h
  · exact ⟨[_], rfl, rfl, (eq_q17 _ _ _ _ _ _ _ _).trans h⟩
  · cases h

end Go.Proofs.YtccocdgimamdhaaGreatDoor
