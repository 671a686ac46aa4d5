/-
  THE TIES: each printed meaning is what the program does (written by program).
  Conditions: none.
-/
import Derived.Test.YtccocdgimamdhaaGreatDoorGs
namespace Go.Proofs.YtccocdgimamdhaaGreatDoor
open Go Go.Mach Go.Proofs
set_option linter.unusedVariables false
set_option maxRecDepth 50000

def sh_st_anatomy_Finite_0 : StSh := ⟨[.any, .any, .any, .any, .any, .any, .rof, .int .i64, .int .i64, .any, .any, .any, .any, .any, .any, .any, .any, .any, .any, .any, .any], []⟩
def sx0_st_anatomy_Finite_0 : StSh := ⟨[.any, .any, .bool, .any, .any, .any, .any, .any, .any, .any, .any, .any, .any, .any, .any, .any, .any, .any, .any, .any, .any], []⟩
def sx1_st_anatomy_Finite_0 : StSh := ⟨[.any, .any, .any, .any, .any, .any, .any, .any, .any, .any, .any, .any, .any, .any, .any, .any, .any, .any, .any, .any, .any], []⟩
def hk_st_anatomy_Finite_0 (N_ : Nat) (S_q147 : TS_q147) : List Atom -> K -> Bool := fun a_ κ => match a_ with
  | [.fls t6, .int t7, .int t8] => iterG N_ (st_an_Finite_0 N_ S_q147 t6 t7 (fun r0 => κ.ret (sx0_st_anatomy_Finite_0.build [.bool r0])) (κ.ext 0 (sx1_st_anatomy_Finite_0.build []))) t8
  | _ => false
def an_q93 (N_ : Nat) (S_q147 : TS_q147) : Nat -> Option Ann := fun b_ => cond (b_ == 0) (some ⟨⟨[6, 7, 8], [], []⟩, [(0, ⟨[], [], []⟩)], some ⟨[2], [], []⟩, some (mkHooks [(sh_st_anatomy_Finite_0, hk_st_anatomy_Finite_0 N_ S_q147)])⟩) (none)
theorem eq_st_anatomy_Finite_0 (N_ : Nat) (S_q147 : TS_q147) (κ : K) (t6 : List Fl) (t7 : Int) (t8 : Int) : iter N_ (fun s k => codeV ⟨Pg, ofList [(157, (F_q147 S_q147))], isref, N_⟩ 0 (an_q93 N_ S_q147) (lp Pg 124 0).2 (lp Pg 124 0).1 s (roundK Pg 0 ((an_q93 N_ S_q147) (lp Pg 124 0).1) κ k)) (sh_st_anatomy_Finite_0.build [.fls t6, .int t7, .int t8]) = iterG N_ (st_an_Finite_0 N_ S_q147 t6 t7 (fun r0 => κ.ret (sx0_st_anatomy_Finite_0.build [.bool r0])) (κ.ext 0 (sx1_st_anatomy_Finite_0.build []))) t8 :=
  iter_tr (fun v_ => sh_st_anatomy_Finite_0.build [.fls t6, .int t7, .int v_]) (fun v_ K_ => by kernel_rfl) N_ t8
theorem hk1_st_anatomy_Finite_0 (N_ : Nat) (S_q147 : TS_q147) : HookFor ⟨Pg, ofList [(157, (F_q147 S_q147))], isref, N_⟩ 0 (an_q93 N_ S_q147) (lp Pg 124 0) (sh_st_anatomy_Finite_0, hk_st_anatomy_Finite_0 N_ S_q147) := by
  intro a κ h
  simp only at h
  unfold hk_st_anatomy_Finite_0 at h
  split at h
  · exact (eq_st_anatomy_Finite_0 _ _ _ _ _ _).trans h
  · cases h
theorem ho_anatomy_Finite_0 (N_ : Nat) (S_q147 : TS_q147) : HookOk ⟨Pg, ofList [(157, (F_q147 S_q147))], isref, N_⟩ 0 (an_q93 N_ S_q147) (lp Pg 124 0) :=
  hooks_ok [(sh_st_anatomy_Finite_0, hk_st_anatomy_Finite_0 N_ S_q147)] (by kernel_rfl) ⟨hk1_st_anatomy_Finite_0 _ _, trivial⟩
theorem eq_q93 (N_ : Nat) (S_q147 : TS_q147) (l : List Fl) (c_ : V -> List Blk -> Bool) : bodyV ⟨Pg, ofList [(157, (F_q147 S_q147))], isref, N_⟩ (an_q93 N_ S_q147) 124 (shF_q93.args [.fls l]) [] c_ = G_q93 N_ S_q147 l (fun r0 => c_ (.bool r0) []) := by kernel_rfl
theorem good_q93 (N_ : Nat) (S_q147 : TS_q147) (h_q147 : GoodF Pg 157 (F_q147 S_q147)) : GoodF Pg 124 (F_q93 (G_q93 N_ S_q147)) := by
  refine good_fs (cx := ⟨Pg, ofList [(157, (F_q147 S_q147))], isref, N_⟩) (ofList_cons h_q147 (ofList_nil _)) shF_q93 (sp_q93 (G_q93 N_ S_q147)) (an_q93 N_ S_q147) 1 0 (by kernel_rfl) (fun i_ hi_ => by
    match i_, hi_ with
    | 0, _ => exact ho_anatomy_Finite_0 _ _
    | (q + 1), h => omega) ?_
  intro a k h
  unfold sp_q93 at h
  split at h
  · exact ⟨[], rfl, rfl, (eq_q93 _ _ _ _).trans h⟩
  · cases h

def an_q7 (N_ : Nat) : Nat -> Option Ann := fun b_ => none
theorem eq_q7 (N_ : Nat) (x : Int) (c_ : V -> List Blk -> Bool) : bodyV ⟨Pg, ofList [], isref, N_⟩ (an_q7 N_) 218 (shF_q7.args [.int x]) [] c_ = G_q7 N_ x (fun r0 => c_ (.int .i64 r0) []) := by
  have key : ∀ L_ : Int, codesV ⟨Pg, ofList [], isref, N_⟩ 0 (an_q7 N_) (((cds Pg 218).drop 0).map (subC 285870213051353865 L_)) 0 (st0 Pg 218 (shF_q7.args [.int x]) []) (finV Pg 218 0 c_) = (fun (k0 : Int -> Bool) => (cond (x == 0) (k0 64) ((inR (Int.fdiv (IntKind.wrap .u64 ((bitsN .and .u64 x (IntKind.wrap .u64 (0 - x))) * L_)) (2 ^ 58)) 64) && ((fits .i64 (List.getD tab64 (Int.toNat (Int.fdiv (IntKind.wrap .u64 ((bitsN .and .u64 x (IntKind.wrap .u64 (0 - x))) * L_)) (2 ^ 58))) 0)) && (k0 (List.getD tab64 (Int.toNat (Int.fdiv (IntKind.wrap .u64 ((bitsN .and .u64 x (IntKind.wrap .u64 (0 - x))) * L_)) (2 ^ 58))) 0)))))) (fun r0 => c_ (.int .i64 r0) []) := fun L_ => by kernel_rfl
  have hc : (cds Pg 218).drop 0 = ((cds Pg 218).drop 0).map (subC 285870213051353865 285870213051353865) := by kernel_rfl
  refine (bodyV_codes (by kernel_rfl)).trans ?_
  rw [hc]
  exact key 285870213051353865
theorem good_q7 (N_ : Nat) : GoodF Pg 218 (F_q7 (G_q7 N_)) := by
  refine good_fs (cx := ⟨Pg, ofList [], isref, N_⟩) (ofList_nil _) shF_q7 (sp_q7 (G_q7 N_)) (an_q7 N_) 0 0 (by kernel_rfl) (fun i_ hi_ => by omega) ?_
  intro a k h
  unfold sp_q7 at h
  split at h
  · exact ⟨[], rfl, rfl, (eq_q7 _ _ _).trans h⟩
  · cases h

def an_q72 (N_ : Nat) (S_q32 : TS_q32) (S_q31 : TS_q31) (S_q80 : TS_q80) (S_q7 : TS_q7) : Nat -> Option Ann := fun b_ => none
def ls_q184 (d_ : List V) (u_ : List (Option Blk)) (b : Int) (f_0 : Int) (f_1 : Int) (f_2 : Int) (p : Bool) (p_1 : Int) (p_2 : Int) : St := ⟨(dqs d_ 0 4 [.ptr 1 0, (dq d_ 4), (dq d_ 5), (dq d_ 6), (dq d_ 7), .ptr 2 0, (dq d_ 8), (dq d_ 9), (dq d_ 10), (dq d_ 11), (dq d_ 12), (dq d_ 13), (dq d_ 14), (dq d_ 15), (dq d_ 16), (dq d_ 17), (dq d_ 18), (dq d_ 19), (dq d_ 20), (dq d_ 21), (dq d_ 22), (dq d_ 23), (dq d_ 24), (dq d_ 25), (dq d_ 26), (dq d_ 27), (dq d_ 28), (dq d_ 29), (dq d_ 30), (dq d_ 31), (dq d_ 32), (dq d_ 33), (dq d_ 34), (dq d_ 35), (dq d_ 36), (dq d_ 37), (dq d_ 38), (dq d_ 39), (dq d_ 40), (dq d_ 41), (dq d_ 42), (dq d_ 43), (dq d_ 44), (dq d_ 45), (dq d_ 46), (dq d_ 47), (dq d_ 48), (dq d_ 49), (dq d_ 50), (dq d_ 51), (dq d_ 52), (dq d_ 53), (dq d_ 54), (dq d_ 55), (dq d_ 56), (dq d_ 57), (dq d_ 58), (dq d_ 59)]), [(u_.getD 0 none), some ⟨108, 1, .cells [.bool false, .int .u64 0, .int .i64 0]⟩, some ⟨108, 1, .cells [.bool p, .int .u64 p_1, .int .i64 p_2]⟩]⟩
theorem jn_q184 (N_ : Nat) (S_q32 : TS_q32) (S_q31 : TS_q31) (S_q80 : TS_q80) (S_q7 : TS_q7) (d_ : List V) (u_ : List (Option Blk)) (b : Int) (f_0 : Int) (f_1 : Int) (f_2 : Int) (p : Bool) (p_1 : Int) (p_2 : Int) (c_ : V -> List Blk -> Bool) : codesV ⟨Pg, ofList [(214, (F_q32 S_q32)), (189, (F_q31 S_q31)), (217, (F_q80 S_q80)), (218, (F_q7 S_q7))], isref, N_⟩ 0 (an_q72 N_ S_q32 S_q31 S_q80 S_q7) ((cds Pg 192).drop 5) 0 (ls_q184 d_ u_ b f_0 f_1 f_2 p p_1 p_2) (finV Pg 192 0 c_) = J_q184 N_ S_q32 S_q31 S_q80 S_q7 b f_0 f_1 f_2 p p_1 p_2 (fun r0 r1 r2 r3 => c_ (.tup [.agg [.bool r0, .int .u64 r1, .int .i64 r2], .int .i64 r3]) []) := by kernel_rfl
theorem hd_an_parts_uint64__w (N_ : Nat) (S_q32 : TS_q32) (S_q31 : TS_q31) (S_q80 : TS_q80) (S_q7 : TS_q7) (b : Int) (f_0 : Int) (f_1 : Int) (f_2 : Int) (c_ : V -> List Blk -> Bool) (κn_ : St -> Bool) : codesV ⟨Pg, ofList [(214, (F_q32 S_q32)), (189, (F_q31 S_q31)), (217, (F_q80 S_q80)), (218, (F_q7 S_q7))], isref, N_⟩ 0 (an_q72 N_ S_q32 S_q31 S_q80 S_q7) (sg Pg 192 0 5) 0 (st0 Pg 192 (shF_q72.args [.int b, .int f_0, .int f_1, .int f_2]) []) { (finV Pg 192 0 c_) with nrm := κn_ } = (S_q32 b f_0 f_1 f_2 (fun cr nr nr_1 => ((fits .i64 (nr - f_2)) && (S_q31 b f_0 f_1 f_2 (fun nr_2 => (cond (nr_2 == 1) (c_ (.tup [.agg [.bool false, .int .u64 0, .int .i64 0], .int .i64 4]) []) (cond (nr_2 == 2) (c_ (.tup [.agg [.bool false, .int .u64 0, .int .i64 0], .int .i64 4]) []) (cond (nr_2 == 3) (c_ (.tup [.agg [.bool cr, .int .u64 0, .int .i64 0], .int .i64 0]) []) (cond (nr_2 == 4) ((fits .i64 ((nr - f_2) + 1)) && (κn_ (ls_q184 [.int .u64 b, .agg [.int .u64 f_0, .int .i64 f_1, .int .i64 f_2], .any, .ptr 0 0, .int .i64 0, .bool cr, .int .i64 nr, .int .u64 nr_1, .any, .tup [.bool cr, .int .i64 nr, .int .u64 nr_1], .int .u64 b, .agg [.int .u64 f_0, .int .i64 f_1, .int .i64 f_2], .tup [.bool cr, .int .i64 nr, .int .u64 nr_1], .bool cr, .int .i64 nr, .int .u64 nr_1, .bool cr, .int .u64 nr_1, .int .i64 nr, .ptr 0 2, .int .i64 f_2, .int .i64 (nr - f_2), .agg [.bool cr, .int .u64 nr_1, .int .i64 (nr - f_2)], .int .u64 b, .agg [.int .u64 f_0, .int .i64 f_1, .int .i64 f_2], .int .i64 nr_2, .any, .any, .any, .any, .any, .any, .bool false, .bool (nr_2 == 1), .bool (nr_2 == 2), .any, .bool false, .bool (nr_2 == 3), .any, .any, .bool true, .bool (nr_2 == 4), .ptr 2 2, .int .i64 (nr - f_2), .int .i64 ((nr - f_2) + 1), .ptr 2 2, .any, .any, .any, .any, .any, .any, .any, .any, .any, .any, .any, .any, .any, .any] [some ⟨217, 1, .cells [.int .u64 f_0, .int .i64 f_1, .int .i64 f_2]⟩] b f_0 f_1 f_2 cr nr_1 ((nr - f_2) + 1)))) (S_q80 f_0 f_1 f_2 (fun nr_3 => (κn_ (ls_q184 [.int .u64 b, .agg [.int .u64 f_0, .int .i64 f_1, .int .i64 f_2], .any, .ptr 0 0, .int .i64 0, .bool cr, .int .i64 nr, .int .u64 nr_1, .any, .tup [.bool cr, .int .i64 nr, .int .u64 nr_1], .int .u64 b, .agg [.int .u64 f_0, .int .i64 f_1, .int .i64 f_2], .tup [.bool cr, .int .i64 nr, .int .u64 nr_1], .bool cr, .int .i64 nr, .int .u64 nr_1, .bool cr, .int .u64 nr_1, .int .i64 nr, .ptr 0 2, .int .i64 f_2, .int .i64 (nr - f_2), .agg [.bool cr, .int .u64 nr_1, .int .i64 (nr - f_2)], .int .u64 b, .agg [.int .u64 f_0, .int .i64 f_1, .int .i64 f_2], .int .i64 nr_2, .ptr 2 1, .int .u64 nr_1, .agg [.int .u64 f_0, .int .i64 f_1, .int .i64 f_2], .int .u64 nr_3, .int .u64 (bitsN .or .u64 nr_1 nr_3), .ptr 2 1, .bool false, .bool (nr_2 == 1), .bool (nr_2 == 2), .any, .bool false, .bool (nr_2 == 3), .any, .any, .bool false, .bool (nr_2 == 4), .any, .any, .any, .any, .any, .any, .any, .any, .any, .any, .any, .any, .any, .any, .any, .any, .any, .any] [some ⟨217, 1, .cells [.int .u64 f_0, .int .i64 f_1, .int .i64 f_2]⟩] b f_0 f_1 f_2 cr (bitsN .or .u64 nr_1 nr_3) (nr - f_2)))))))))))))) := by kernel_rfl
theorem jn_an_parts_uint64__w (N_ : Nat) (S_q32 : TS_q32) (S_q31 : TS_q31) (S_q80 : TS_q80) (S_q7 : TS_q7) (b : Int) (f_0 : Int) (f_1 : Int) (f_2 : Int) (c_ : V -> List Blk -> Bool) : codesV ⟨Pg, ofList [(214, (F_q32 S_q32)), (189, (F_q31 S_q31)), (217, (F_q80 S_q80)), (218, (F_q7 S_q7))], isref, N_⟩ 0 (an_q72 N_ S_q32 S_q31 S_q80 S_q7) ((cds Pg 192).drop 0) 0 (st0 Pg 192 (shF_q72.args [.int b, .int f_0, .int f_1, .int f_2]) []) (finV Pg 192 0 c_) = G_q72 N_ S_q32 S_q31 S_q80 S_q7 b f_0 f_1 f_2 (fun r0 r1 r2 r3 => c_ (.tup [.agg [.bool r0, .int .u64 r1, .int .i64 r2], .int .i64 r3]) []) := by
  rw [codesV_cut 0 5 5 rfl]
  refine (hd_an_parts_uint64__w N_ S_q32 S_q31 S_q80 S_q7 b f_0 f_1 f_2 c_ _).trans ?_
  simp only [jn_q184]
  kernel_rfl
theorem eq_q72 (N_ : Nat) (S_q32 : TS_q32) (S_q31 : TS_q31) (S_q80 : TS_q80) (S_q7 : TS_q7) (b : Int) (f_0 : Int) (f_1 : Int) (f_2 : Int) (c_ : V -> List Blk -> Bool) : bodyV ⟨Pg, ofList [(214, (F_q32 S_q32)), (189, (F_q31 S_q31)), (217, (F_q80 S_q80)), (218, (F_q7 S_q7))], isref, N_⟩ (an_q72 N_ S_q32 S_q31 S_q80 S_q7) 192 (shF_q72.args [.int b, .int f_0, .int f_1, .int f_2]) [] c_ = G_q72 N_ S_q32 S_q31 S_q80 S_q7 b f_0 f_1 f_2 (fun r0 r1 r2 r3 => c_ (.tup [.agg [.bool r0, .int .u64 r1, .int .i64 r2], .int .i64 r3]) []) :=
  (bodyV_codes (by kernel_rfl)).trans (jn_an_parts_uint64__w N_ S_q32 S_q31 S_q80 S_q7 b f_0 f_1 f_2 c_)
theorem good_q72 (N_ : Nat) (S_q32 : TS_q32) (S_q31 : TS_q31) (S_q80 : TS_q80) (S_q7 : TS_q7) (h_q32 : GoodF Pg 214 (F_q32 S_q32)) (h_q31 : GoodF Pg 189 (F_q31 S_q31)) (h_q80 : GoodF Pg 217 (F_q80 S_q80)) (h_q7 : GoodF Pg 218 (F_q7 S_q7)) : GoodF Pg 192 (F_q72 (G_q72 N_ S_q32 S_q31 S_q80 S_q7)) := by
  refine good_fs (cx := ⟨Pg, ofList [(214, (F_q32 S_q32)), (189, (F_q31 S_q31)), (217, (F_q80 S_q80)), (218, (F_q7 S_q7))], isref, N_⟩) (ofList_cons h_q32 (ofList_cons h_q31 (ofList_cons h_q80 (ofList_cons h_q7 (ofList_nil _))))) shF_q72 (sp_q72 (G_q72 N_ S_q32 S_q31 S_q80 S_q7)) (an_q72 N_ S_q32 S_q31 S_q80 S_q7) 0 0 (by kernel_rfl) (fun i_ hi_ => by omega) ?_
  intro a k h
  unfold sp_q72 at h
  split at h
  · exact ⟨[], rfl, rfl, (eq_q72 _ _ _ _ _ _ _ _ _ _).trans h⟩
  · cases h

def an_q169 (N_ : Nat) (S_q103 : TS_q103) (S_an_of : TS_an_of) (S_q72 : TS_q72) : Nat -> Option Ann := fun b_ => none
theorem eq_q169 (N_ : Nat) (S_q103 : TS_q103) (S_an_of : TS_an_of) (S_q72 : TS_q72) (x : Fl) (c_ : V -> List Blk -> Bool) : bodyV ⟨Pg, ofList [(88, (F_q103 S_q103)), (190, (F_an_of S_an_of)), (192, (F_q72 S_q72))], isref, N_⟩ (an_q169 N_ S_q103 S_an_of S_q72) 160 (shF_q169.args [.fl x]) [] c_ = G_q169 N_ S_q103 S_an_of S_q72 x (fun r0 r1 r2 r3 => c_ (.tup [.agg [.bool r0, .int .u64 r1, .int .i64 r2], .int .i64 r3]) []) := by kernel_rfl
theorem good_q169 (N_ : Nat) (S_q103 : TS_q103) (S_an_of : TS_an_of) (S_q72 : TS_q72) (h_q103 : GoodF Pg 88 (F_q103 S_q103)) (h_an_of : GoodF Pg 190 (F_an_of S_an_of)) (h_q72 : GoodF Pg 192 (F_q72 S_q72)) : GoodF Pg 160 (F_q169 (G_q169 N_ S_q103 S_an_of S_q72)) := by
  refine good_fs (cx := ⟨Pg, ofList [(88, (F_q103 S_q103)), (190, (F_an_of S_an_of)), (192, (F_q72 S_q72))], isref, N_⟩) (ofList_cons h_q103 (ofList_cons h_an_of (ofList_cons h_q72 (ofList_nil _)))) shF_q169 (sp_q169 (G_q169 N_ S_q103 S_an_of S_q72)) (an_q169 N_ S_q103 S_an_of S_q72) 0 0 (by kernel_rfl) (fun i_ hi_ => by omega) ?_
  intro a k h
  unfold sp_q169 at h
  split at h
  · exact ⟨[], rfl, rfl, (eq_q169 _ _ _ _ _ _).trans h⟩
  · cases h

def sh_st_big_norm_w_0 : StSh := ⟨[.slw 0, .any, .any, .int .i64, .any, .any, .any, .any, .any, .any, .any, .any, .any, .any, .any, .any, .any, .any, .any, .any, .any], [some (41, 1, .ints .u64)]⟩
def sx0_st_big_norm_w_0 : StSh := ⟨[.slw 0, .any, .any, .int .i64, .any, .any, .any, .any, .any, .any, .any, .any, .any, .any, .any, .any, .any, .any, .any, .any, .any], [some (41, 1, .ints .u64)]⟩
def hk_st_big_norm_w_0 (N_ : Nat) : List Atom -> K -> Bool := fun a_ κ => match a_ with
  | [.int n, .ints x] => iterG N_ (st_big_norm_w_0 N_ x (fun r0 => κ.ext 0 (sx0_st_big_norm_w_0.build [.int r0, .ints x]))) n
  | _ => false
def an_q1 (N_ : Nat) : Nat -> Option Ann := fun b_ => cond (b_ == 0) (some ⟨⟨[0, 3], [], []⟩, [(0, ⟨[0, 3], [], []⟩)], some ⟨[2], [], []⟩, some (mkHooks [(sh_st_big_norm_w_0, hk_st_big_norm_w_0 N_)])⟩) (none)
theorem eq_st_big_norm_w_0 (N_ : Nat) (κ : K) (n : Int) (x : List Int) : iter N_ (fun s k => codeV ⟨Pg, ofList [], isref, N_⟩ 1 (an_q1 N_) (lp Pg 202 0).2 (lp Pg 202 0).1 s (roundK Pg 1 ((an_q1 N_) (lp Pg 202 0).1) κ k)) (sh_st_big_norm_w_0.build [.int n, .ints x]) = iterG N_ (st_big_norm_w_0 N_ x (fun r0 => κ.ext 0 (sx0_st_big_norm_w_0.build [.int r0, .ints x]))) n :=
  iter_tr (fun v_ => sh_st_big_norm_w_0.build [.int v_, .ints x]) (fun v_ K_ => by kernel_rfl) N_ n
theorem hk1_st_big_norm_w_0 (N_ : Nat) : HookFor ⟨Pg, ofList [], isref, N_⟩ 1 (an_q1 N_) (lp Pg 202 0) (sh_st_big_norm_w_0, hk_st_big_norm_w_0 N_) := by
  intro a κ h
  simp only at h
  unfold hk_st_big_norm_w_0 at h
  split at h
  · exact (eq_st_big_norm_w_0 _ _ _ _).trans h
  · cases h
theorem ho_big_norm_w_0 (N_ : Nat) : HookOk ⟨Pg, ofList [], isref, N_⟩ 1 (an_q1 N_) (lp Pg 202 0) :=
  hooks_ok [(sh_st_big_norm_w_0, hk_st_big_norm_w_0 N_)] (by kernel_rfl) ⟨hk1_st_big_norm_w_0 _, trivial⟩
theorem eq_q1 (N_ : Nat) (b : List Int) (c_ : V -> List Blk -> Bool) : bodyZ ⟨Pg, ofList [], isref, N_⟩ (an_q1 N_) 202 (shF_q1.args [.ints b]) [⟨41, 1, .ints .u64 b⟩] c_ = G_q1 N_ b (fun r0 r1 => c_ (.sl 0 r0 r1) [⟨41, 1, .ints .u64 b⟩]) := by kernel_rfl
theorem good_q1 (N_ : Nat) : GoodF Pg 202 (F_q1 (G_q1 N_)) := by
  refine good_fsZ (cx := ⟨Pg, ofList [], isref, N_⟩) (ofList_nil _) shF_q1 (sp_q1 (G_q1 N_)) (an_q1 N_) 1 1 (by kernel_rfl) (fun i_ hi_ => by
    match i_, hi_ with
    | 0, _ => exact ho_big_norm_w_0 _
    | (q + 1), h => omega) ?_
  intro a k h
  unfold sp_q1 at h
  split at h
  · exact ⟨[_], rfl, rfl, (eq_q1 _ _ _).trans h⟩
  · cases h

def an_q141 (N_ : Nat) (S_q1 : TS_q1) : Nat -> Option Ann := fun b_ => none
theorem eq_q141 (N_ : Nat) (S_q1 : TS_q1) (n : Int) (c_ : V -> List Blk -> Bool) : bodyZ ⟨Pg, ofList [(202, (F_q1 S_q1))], isref, N_⟩ (an_q141 N_ S_q1) 193 (shF_q141.args [.int n]) [] c_ = G_q141 N_ S_q1 n (fun r0 => c_ (.roi .u64 r0) []) := by kernel_rfl
theorem good_q141 (N_ : Nat) (S_q1 : TS_q1) (h_q1 : GoodF Pg 202 (F_q1 S_q1)) : GoodF Pg 193 (F_q141 (G_q141 N_ S_q1)) := by
  refine good_fsZ (cx := ⟨Pg, ofList [(202, (F_q1 S_q1))], isref, N_⟩) (ofList_cons h_q1 (ofList_nil _)) shF_q141 (sp_q141 (G_q141 N_ S_q1)) (an_q141 N_ S_q1) 0 0 (by kernel_rfl) (fun i_ hi_ => by omega) ?_
  intro a k h
  unfold sp_q141 at h
  split at h
  · exact ⟨[], rfl, rfl, (eq_q141 _ _ _ _).trans h⟩
  · cases h

def an_q0 (N_ : Nat) : Nat -> Option Ann := fun b_ => none
theorem eq_q0 (N_ : Nat) (neg : Bool) (abs : List Int) (b : Bool) (c_ : V -> List Blk -> Bool) : bodyZ ⟨Pg, ofList [], isref, N_⟩ (an_q0 N_) 170 (shF_q0.args [.bool neg, .ints abs, .bool b]) [⟨164, 1, .cells [.bool b, .nil]⟩] c_ = G_q0 N_ neg abs b (fun r0 => c_ (.ptr 0 0) [⟨164, 1, .cells [.bool r0, .roi .u64 abs]⟩]) := by kernel_rfl
theorem good_q0 (N_ : Nat) : GoodF Pg 170 (F_q0 (G_q0 N_)) := by
  refine good_fsZ (cx := ⟨Pg, ofList [], isref, N_⟩) (ofList_nil _) shF_q0 (sp_q0 (G_q0 N_)) (an_q0 N_) 0 1 (by kernel_rfl) (fun i_ hi_ => by omega) ?_
  intro a k h
  unfold sp_q0 at h
  split at h
  · exact ⟨[_], rfl, rfl, (eq_q0 _ _ _ _ _).trans h⟩
  · cases h

def an_q54 (N_ : Nat) (S_q141 : TS_q141) (S_q0 : TS_q0) : Nat -> Option Ann := fun b_ => none
theorem eq_q54 (N_ : Nat) (S_q141 : TS_q141) (S_q0 : TS_q0) (n : Int) (b : Bool) (c_ : V -> List Blk -> Bool) : bodyZ ⟨Pg, ofList [(193, (F_q141 S_q141)), (170, (F_q0 S_q0))], isref, N_⟩ (an_q54 N_ S_q141 S_q0) 161 (shF_q54.args [.int n, .bool b]) [⟨164, 1, .cells [.bool b, .nil]⟩] c_ = G_q54 N_ S_q141 S_q0 n b (fun r0 r1 => c_ (.ptr 0 0) [⟨164, 1, .cells [.bool r0, .roi .u64 r1]⟩]) := by kernel_rfl
theorem good_q54 (N_ : Nat) (S_q141 : TS_q141) (S_q0 : TS_q0) (h_q141 : GoodF Pg 193 (F_q141 S_q141)) (h_q0 : GoodF Pg 170 (F_q0 S_q0)) : GoodF Pg 161 (F_q54 (G_q54 N_ S_q141 S_q0)) := by
  refine good_fsZ (cx := ⟨Pg, ofList [(193, (F_q141 S_q141)), (170, (F_q0 S_q0))], isref, N_⟩) (ofList_cons h_q141 (ofList_cons h_q0 (ofList_nil _))) shF_q54 (sp_q54 (G_q54 N_ S_q141 S_q0)) (an_q54 N_ S_q141 S_q0) 0 1 (by kernel_rfl) (fun i_ hi_ => by omega) ?_
  intro a k h
  unfold sp_q54 at h
  split at h
  · exact ⟨[_], rfl, rfl, (eq_q54 _ _ _ _ _ _).trans h⟩
  · cases h

def an_q82 (N_ : Nat) : Nat -> Option Ann := fun b_ => none
theorem eq_q82 (N_ : Nat) (x : List Int) (c_ : V -> List Blk -> Bool) : bodyZ ⟨Pg, ofList [], isref, N_⟩ (an_q82 N_) 171 (shF_q82.args [.ints x]) [] c_ = G_q82 N_ x (fun r0 => c_ (.roi .u64 r0) []) := by kernel_rfl
theorem good_q82 (N_ : Nat) : GoodF Pg 171 (F_q82 (G_q82 N_)) := by
  refine good_fsZ (cx := ⟨Pg, ofList [], isref, N_⟩) (ofList_nil _) shF_q82 (sp_q82 (G_q82 N_)) (an_q82 N_) 0 0 (by kernel_rfl) (fun i_ hi_ => by omega) ?_
  intro a k h
  unfold sp_q82 at h
  split at h
  · exact ⟨[], rfl, rfl, (eq_q82 _ _ _).trans h⟩
  · cases h

def an_q34 (N_ : Nat) : Nat -> Option Ann := fun b_ => none
theorem eq_q34 (N_ : Nat) (neg : Bool) (abs : List Int) (b : Bool) (b_1 : List Int) (c_ : V -> List Blk -> Bool) : bodyZ ⟨Pg, ofList [], isref, N_⟩ (an_q34 N_) 170 (shF_q34.args [.bool neg, .ints abs, .bool b, .ints b_1]) [⟨164, 1, .cells [.bool b, .roi .u64 b_1]⟩] c_ = G_q34 N_ neg abs b b_1 (fun r0 => c_ (.ptr 0 0) [⟨164, 1, .cells [.bool r0, .roi .u64 abs]⟩]) := by kernel_rfl
theorem good_q34 (N_ : Nat) : GoodF Pg 170 (F_q34 (G_q34 N_)) := by
  refine good_fsZ (cx := ⟨Pg, ofList [], isref, N_⟩) (ofList_nil _) shF_q34 (sp_q34 (G_q34 N_)) (an_q34 N_) 0 1 (by kernel_rfl) (fun i_ hi_ => by omega) ?_
  intro a k h
  unfold sp_q34 at h
  split at h
  · exact ⟨[_], rfl, rfl, (eq_q34 _ _ _ _ _ _).trans h⟩
  · cases h

def an_q28 (N_ : Nat) (S_q82 : TS_q82) (S_q34 : TS_q34) : Nat -> Option Ann := fun b_ => none
theorem eq_q28 (N_ : Nat) (S_q82 : TS_q82) (S_q34 : TS_q34) (b : Bool) (b_1 : List Int) (c_ : V -> List Blk -> Bool) : bodyZ ⟨Pg, ofList [(171, (F_q82 S_q82)), (170, (F_q34 S_q34))], isref, N_⟩ (an_q28 N_ S_q82 S_q34) 131 (shF_q28.args [.bool b, .ints b_1]) [⟨164, 1, .cells [.bool b, .roi .u64 b_1]⟩] c_ = G_q28 N_ S_q82 S_q34 b b_1 (fun r0 r1 => c_ (.ptr 0 0) [⟨164, 1, .cells [.bool r0, .roi .u64 r1]⟩]) := by kernel_rfl
theorem good_q28 (N_ : Nat) (S_q82 : TS_q82) (S_q34 : TS_q34) (h_q82 : GoodF Pg 171 (F_q82 S_q82)) (h_q34 : GoodF Pg 170 (F_q34 S_q34)) : GoodF Pg 131 (F_q28 (G_q28 N_ S_q82 S_q34)) := by
  refine good_fsZ (cx := ⟨Pg, ofList [(171, (F_q82 S_q82)), (170, (F_q34 S_q34))], isref, N_⟩) (ofList_cons h_q82 (ofList_cons h_q34 (ofList_nil _))) shF_q28 (sp_q28 (G_q28 N_ S_q82 S_q34)) (an_q28 N_ S_q82 S_q34) 0 1 (by kernel_rfl) (fun i_ hi_ => by omega) ?_
  intro a k h
  unfold sp_q28 at h
  split at h
  · exact ⟨[_], rfl, rfl, (eq_q28 _ _ _ _ _ _).trans h⟩
  · cases h

def an_q158 (N_ : Nat) (S_q169 : TS_q169) (S_q54 : TS_q54) (S_q28 : TS_q28) : Nat -> Option Ann := fun b_ => none
theorem eq_q158 (N_ : Nat) (S_q169 : TS_q169) (S_q54 : TS_q54) (S_q28 : TS_q28) (x : Fl) (c_ : V -> List Blk -> Bool) : bodyV ⟨Pg, ofList [(160, (F_q169 S_q169)), (161, (F_q54 S_q54)), (131, (F_q28 S_q28))], isref, N_⟩ (an_q158 N_ S_q169 S_q54 S_q28) 126 (shF_q158.args [.fl x]) [] c_ = G_q158 N_ S_q169 S_q54 S_q28 x (fun r0 r1 r2 => c_ (.agg [.ptr 0 0, .int .i64 r0]) [⟨164, 1, .cells [.bool r1, .roi .u64 r2]⟩]) := by kernel_rfl
theorem good_q158 (N_ : Nat) (S_q169 : TS_q169) (S_q54 : TS_q54) (S_q28 : TS_q28) (h_q169 : GoodF Pg 160 (F_q169 S_q169)) (h_q54 : GoodF Pg 161 (F_q54 S_q54)) (h_q28 : GoodF Pg 131 (F_q28 S_q28)) : GoodF Pg 126 (F_q158 (G_q158 N_ S_q169 S_q54 S_q28)) := by
  refine good_fs (cx := ⟨Pg, ofList [(160, (F_q169 S_q169)), (161, (F_q54 S_q54)), (131, (F_q28 S_q28))], isref, N_⟩) (ofList_cons h_q169 (ofList_cons h_q54 (ofList_cons h_q28 (ofList_nil _)))) shF_q158 (sp_q158 (G_q158 N_ S_q169 S_q54 S_q28)) (an_q158 N_ S_q169 S_q54 S_q28) 0 0 (by kernel_rfl) (fun i_ hi_ => by omega) ?_
  intro a k h
  unfold sp_q158 at h
  split at h
  · exact ⟨[], rfl, rfl, (eq_q158 _ _ _ _ _ _).trans h⟩
  · cases h

def an_q123 (N_ : Nat) : Nat -> Option Ann := fun b_ => none
theorem eq_q123 (N_ : Nat) (x : Int) (y : Int) (c_ : V -> List Blk -> Bool) : bodyV ⟨Pg, ofList [], isref, N_⟩ (an_q123 N_) 231 (shF_q123.args [.int x, .int y]) [] c_ = G_q123 N_ x y (fun r0 r1 => c_ (.tup [.int .u64 r0, .int .u64 r1]) []) := by kernel_rfl
theorem good_q123 (N_ : Nat) : GoodF Pg 231 (F_q123 (G_q123 N_)) := by
  refine good_fs (cx := ⟨Pg, ofList [], isref, N_⟩) (ofList_nil _) shF_q123 (sp_q123 (G_q123 N_)) (an_q123 N_) 0 0 (by kernel_rfl) (fun i_ hi_ => by omega) ?_
  intro a k h
  unfold sp_q123 at h
  split at h
  · exact ⟨[], rfl, rfl, (eq_q123 _ _ _ _).trans h⟩
  · cases h


def an_q115 (N_ : Nat) (S_q123 : TS_q123) (S_q71 : TS_q71) : Nat -> Option Ann := fun b_ => none
theorem eq_q115 (N_ : Nat) (S_q123 : TS_q123) (S_q71 : TS_q71) (a : Int) (b : Int) (c : Int) (d : Int) (c_ : V -> List Blk -> Bool) : bodyZ ⟨Pg, ofList [(231, (F_q123 S_q123)), (221, (F_q71 S_q71))], isref, N_⟩ (an_q115 N_ S_q123 S_q71) 219 (shF_q115.args [.int a, .int b, .int c, .int d]) [] c_ = G_q115 N_ S_q123 S_q71 a b c d (fun r0 r1 => c_ (.tup [.int .u64 r0, .int .u64 r1]) []) := by kernel_rfl
theorem good_q115 (N_ : Nat) (S_q123 : TS_q123) (S_q71 : TS_q71) (h_q123 : GoodF Pg 231 (F_q123 S_q123)) (h_q71 : GoodF Pg 221 (F_q71 S_q71)) : GoodF Pg 219 (F_q115 (G_q115 N_ S_q123 S_q71)) := by
  refine good_fsZ (cx := ⟨Pg, ofList [(231, (F_q123 S_q123)), (221, (F_q71 S_q71))], isref, N_⟩) (ofList_cons h_q123 (ofList_cons h_q71 (ofList_nil _))) shF_q115 (sp_q115 (G_q115 N_ S_q123 S_q71)) (an_q115 N_ S_q123 S_q71) 0 0 (by kernel_rfl) (fun i_ hi_ => by omega) ?_
  intro a k h
  unfold sp_q115 at h
  split at h
  · exact ⟨[], rfl, rfl, (eq_q115 _ _ _ _ _ _ _ _).trans h⟩
  · cases h

def sh_st_big_times_2 : StSh := ⟨[.any, .roi .u64, .any, .any, .any, .slw 0, .int .i64, .int .u64, .int .u64, .any, .any, .any, .any, .any, .any, .any, .any, .any, .any, .any, .any, .any, .any, .any, .any, .roi .u64, .int .i64, .int .i64, .any, .any, .any, .any, .roi .u64, .int .i64, .int .i64, .any, .any, .any, .any, .any, .any, .any, .any, .any, .any, .any, .any, .any, .any, .any, .any, .any, .any, .any, .any, .any, .any, .any, .any, .any, .any, .any, .any, .any, .any, .any, .any, .any], [some (41, 1, .ints .u64)]⟩
def sx0_st_big_times_2 : StSh := ⟨[.any, .roi .u64, .any, .any, .any, .slw 0, .int .i64, .any, .int .u64, .any, .any, .any, .any, .any, .any, .any, .any, .any, .any, .any, .any, .any, .any, .any, .any, .roi .u64, .int .i64, .int .i64, .any, .any, .any, .any, .any, .any, .any, .any, .any, .any, .any, .any, .any, .any, .any, .any, .any, .any, .any, .any, .any, .any, .any, .any, .any, .any, .any, .any, .any, .any, .any, .any, .any, .any, .any, .any, .any, .any, .any, .any], [some (41, 1, .ints .u64)]⟩
def hk_st_big_times_2 (N_ : Nat) (S_q115 : TS_q115) (S_q1 : TS_q1) : List Atom -> K -> Bool := fun a_ κ => match a_ with
  | [.ints y_2, .int i, .int a, .int carry, .ints t25_1, .int t26_1, .int t27_1, .ints t32, .int t33, .int t34, .ints z_1] => iterG N_ (st_big_times_2 N_ S_q115 S_q1 y_2 i a t25_1 t26_1 t27_1 t32 t33 (fun r2 r6 => κ.ext 2 (sx0_st_big_times_2.build [.ints y_2, .int i, .int r2, .ints t25_1, .int t26_1, .int t27_1, .ints r6]))) (carry, t34, z_1)
  | _ => false
def sh_st_big_times_0 : StSh := ⟨[.any, .roi .u64, .any, .any, .any, .slw 0, .any, .any, .any, .any, .any, .any, .any, .any, .any, .any, .any, .any, .any, .any, .any, .any, .any, .any, .any, .roi .u64, .int .i64, .int .i64, .any, .any, .any, .any, .any, .any, .any, .any, .any, .any, .any, .any, .any, .any, .any, .any, .any, .any, .any, .any, .any, .any, .any, .any, .any, .any, .any, .any, .any, .any, .any, .any, .any, .any, .any, .any, .any, .any, .any, .any], [some (41, 1, .ints .u64)]⟩
def sx0_st_big_times_0 : StSh := ⟨[.any, .any, .any, .any, .any, .slw 0, .any, .any, .any, .any, .any, .any, .any, .any, .any, .any, .any, .any, .any, .any, .any, .any, .any, .any, .any, .any, .any, .any, .any, .any, .any, .any, .any, .any, .any, .any, .any, .any, .any, .any, .any, .any, .any, .any, .any, .any, .any, .any, .any, .any, .any, .any, .any, .any, .any, .any, .any, .any, .any, .any, .any, .any, .any, .any, .any, .any, .any, .any], [some (41, 1, .ints .u64)]⟩
def hk_st_big_times_0 (N_ : Nat) (S_q115 : TS_q115) (S_q1 : TS_q1) : List Atom -> K -> Bool := fun a_ κ => match a_ with
  | [.ints y_1, .ints t25, .int t26, .int t27, .ints z] => iterG N_ (st_big_times_0 N_ S_q115 S_q1 y_1 t25 t26 (fun r0 => κ.ext 0 (sx0_st_big_times_0.build [.ints r0]))) (t27, z)
  | _ => false
def an_q145 (N_ : Nat) (S_q115 : TS_q115) (S_q1 : TS_q1) : Nat -> Option Ann := fun b_ => cond (b_ == 2) (some ⟨⟨[1, 5, 6, 7, 8, 25, 26, 27, 32, 33, 34], [], []⟩, [(2, ⟨[1, 5, 6, 8, 25, 26, 27], [], []⟩)], some ⟨[4], [], []⟩, some (mkHooks [(sh_st_big_times_2, hk_st_big_times_2 N_ S_q115 S_q1)])⟩) (cond (b_ == 0) (some ⟨⟨[1, 5, 25, 26, 27], [], []⟩, [(0, ⟨[5], [], []⟩)], some ⟨[4], [], []⟩, some (mkHooks [(sh_st_big_times_0, hk_st_big_times_0 N_ S_q115 S_q1)])⟩) (none))
theorem eq_st_big_times_2 (N_ : Nat) (S_q115 : TS_q115) (S_q1 : TS_q1) (κ : K) (y_2 : List Int) (i : Int) (a : Int) (carry : Int) (t25_1 : List Int) (t26_1 : Int) (t27_1 : Int) (t32 : List Int) (t33 : Int) (t34 : Int) (z_1 : List Int) : iter N_ (fun s k => codeV ⟨Pg, ofList [(219, (F_q115 S_q115)), (202, (F_q1 S_q1))], isref, N_⟩ 0 (an_q145 N_ S_q115 S_q1) (lp Pg 194 1).2 (lp Pg 194 1).1 s (roundK Pg 0 ((an_q145 N_ S_q115 S_q1) (lp Pg 194 1).1) κ k)) (sh_st_big_times_2.build [.ints y_2, .int i, .int a, .int carry, .ints t25_1, .int t26_1, .int t27_1, .ints t32, .int t33, .int t34, .ints z_1]) = iterG N_ (st_big_times_2 N_ S_q115 S_q1 y_2 i a t25_1 t26_1 t27_1 t32 t33 (fun r2 r6 => κ.ext 2 (sx0_st_big_times_2.build [.ints y_2, .int i, .int r2, .ints t25_1, .int t26_1, .int t27_1, .ints r6]))) (carry, t34, z_1) :=
  iter_tr (fun (v_ : Int × Int × List Int) => sh_st_big_times_2.build [.ints y_2, .int i, .int a, .int v_.1, .ints t25_1, .int t26_1, .int t27_1, .ints t32, .int t33, .int v_.2.1, .ints v_.2.2]) (fun v_ K_ => by obtain ⟨carry, t34, z_1⟩ := v_; kernel_rfl) N_ (carry, t34, z_1)
theorem hk1_st_big_times_2 (N_ : Nat) (S_q115 : TS_q115) (S_q1 : TS_q1) : HookFor ⟨Pg, ofList [(219, (F_q115 S_q115)), (202, (F_q1 S_q1))], isref, N_⟩ 0 (an_q145 N_ S_q115 S_q1) (lp Pg 194 1) (sh_st_big_times_2, hk_st_big_times_2 N_ S_q115 S_q1) := by
  intro a κ h
  simp only at h
  unfold hk_st_big_times_2 at h
  split at h
  · exact (eq_st_big_times_2 _ _ _ _ _ _ _ _ _ _ _ _ _ _ _).trans h
  · cases h
theorem eq_st_big_times_0 (N_ : Nat) (S_q115 : TS_q115) (S_q1 : TS_q1) (κ : K) (y_1 : List Int) (t25 : List Int) (t26 : Int) (t27 : Int) (z : List Int) : iter N_ (fun s k => codeV ⟨Pg, ofList [(219, (F_q115 S_q115)), (202, (F_q1 S_q1))], isref, N_⟩ 0 (an_q145 N_ S_q115 S_q1) (lp Pg 194 0).2 (lp Pg 194 0).1 s (roundK Pg 0 ((an_q145 N_ S_q115 S_q1) (lp Pg 194 0).1) κ k)) (sh_st_big_times_0.build [.ints y_1, .ints t25, .int t26, .int t27, .ints z]) = iterG N_ (st_big_times_0 N_ S_q115 S_q1 y_1 t25 t26 (fun r0 => κ.ext 0 (sx0_st_big_times_0.build [.ints r0]))) (t27, z) :=
  iter_tr (fun (v_ : Int × List Int) => sh_st_big_times_0.build [.ints y_1, .ints t25, .int t26, .int v_.1, .ints v_.2]) (fun v_ K_ => by obtain ⟨t27, z⟩ := v_; kernel_rfl) N_ (t27, z)
theorem hk1_st_big_times_0 (N_ : Nat) (S_q115 : TS_q115) (S_q1 : TS_q1) : HookFor ⟨Pg, ofList [(219, (F_q115 S_q115)), (202, (F_q1 S_q1))], isref, N_⟩ 0 (an_q145 N_ S_q115 S_q1) (lp Pg 194 0) (sh_st_big_times_0, hk_st_big_times_0 N_ S_q115 S_q1) := by
  intro a κ h
  simp only at h
  unfold hk_st_big_times_0 at h
  split at h
  · exact (eq_st_big_times_0 _ _ _ _ _ _ _ _ _).trans h
  · cases h
theorem ho_big_times_2 (N_ : Nat) (S_q115 : TS_q115) (S_q1 : TS_q1) : HookOk ⟨Pg, ofList [(219, (F_q115 S_q115)), (202, (F_q1 S_q1))], isref, N_⟩ 0 (an_q145 N_ S_q115 S_q1) (lp Pg 194 1) :=
  hooks_ok [(sh_st_big_times_2, hk_st_big_times_2 N_ S_q115 S_q1)] (by kernel_rfl) ⟨hk1_st_big_times_2 _ _ _, trivial⟩
theorem ho_big_times_0 (N_ : Nat) (S_q115 : TS_q115) (S_q1 : TS_q1) : HookOk ⟨Pg, ofList [(219, (F_q115 S_q115)), (202, (F_q1 S_q1))], isref, N_⟩ 0 (an_q145 N_ S_q115 S_q1) (lp Pg 194 0) :=
  hooks_ok [(sh_st_big_times_0, hk_st_big_times_0 N_ S_q115 S_q1)] (by kernel_rfl) ⟨hk1_st_big_times_0 _ _ _, trivial⟩
theorem eq_q145 (N_ : Nat) (S_q115 : TS_q115) (S_q1 : TS_q1) (x : List Int) (y : List Int) (c_ : V -> List Blk -> Bool) : bodyZ ⟨Pg, ofList [(219, (F_q115 S_q115)), (202, (F_q1 S_q1))], isref, N_⟩ (an_q145 N_ S_q115 S_q1) 194 (shF_q145.args [.ints x, .ints y]) [] c_ = G_q145 N_ S_q115 S_q1 x y (fun r0 => c_ (.roi .u64 r0) []) := by kernel_rfl
theorem good_q145 (N_ : Nat) (S_q115 : TS_q115) (S_q1 : TS_q1) (h_q115 : GoodF Pg 219 (F_q115 S_q115)) (h_q1 : GoodF Pg 202 (F_q1 S_q1)) : GoodF Pg 194 (F_q145 (G_q145 N_ S_q115 S_q1)) := by
  refine good_fsZ (cx := ⟨Pg, ofList [(219, (F_q115 S_q115)), (202, (F_q1 S_q1))], isref, N_⟩) (ofList_cons h_q115 (ofList_cons h_q1 (ofList_nil _))) shF_q145 (sp_q145 (G_q145 N_ S_q115 S_q1)) (an_q145 N_ S_q115 S_q1) 2 0 (by kernel_rfl) (fun i_ hi_ => by
    match i_, hi_ with
    | 0, _ => exact ho_big_times_0 _ _ _
    | 1, _ => exact ho_big_times_2 _ _ _
    | (q + 2), h => omega) ?_
  intro a k h
  unfold sp_q145 at h
  split at h
  · exact ⟨[], rfl, rfl, (eq_q145 _ _ _ _ _ _).trans h⟩
  · cases h

def an_q53 (N_ : Nat) (S_q145 : TS_q145) (S_q0 : TS_q0) : Nat -> Option Ann := fun b_ => none
theorem eq_q53 (N_ : Nat) (S_q145 : TS_q145) (S_q0 : TS_q0) (b : Bool) (b_1 : Bool) (b_2 : List Int) (b_3 : Bool) (b_4 : List Int) (c_ : V -> List Blk -> Bool) : bodyZ ⟨Pg, ofList [(194, (F_q145 S_q145)), (170, (F_q0 S_q0))], isref, N_⟩ (an_q53 N_ S_q145 S_q0) 162 (shF_q53.args [.bool b, .bool b_1, .ints b_2, .bool b_3, .ints b_4]) [⟨164, 1, .cells [.bool b, .nil]⟩, ⟨164, 1, .cells [.bool b_1, .roi .u64 b_2]⟩, ⟨164, 1, .cells [.bool b_3, .roi .u64 b_4]⟩] c_ = G_q53 N_ S_q145 S_q0 b b_1 b_2 b_3 b_4 (fun r0 r1 => c_ (.ptr 0 0) [⟨164, 1, .cells [.bool r0, .roi .u64 r1]⟩, ⟨164, 1, .cells [.bool b_1, .roi .u64 b_2]⟩, ⟨164, 1, .cells [.bool b_3, .roi .u64 b_4]⟩]) := by kernel_rfl
theorem good_q53 (N_ : Nat) (S_q145 : TS_q145) (S_q0 : TS_q0) (h_q145 : GoodF Pg 194 (F_q145 S_q145)) (h_q0 : GoodF Pg 170 (F_q0 S_q0)) : GoodF Pg 162 (F_q53 (G_q53 N_ S_q145 S_q0)) := by
  refine good_fsZ (cx := ⟨Pg, ofList [(194, (F_q145 S_q145)), (170, (F_q0 S_q0))], isref, N_⟩) (ofList_cons h_q145 (ofList_cons h_q0 (ofList_nil _))) shF_q53 (sp_q53 (G_q53 N_ S_q145 S_q0)) (an_q53 N_ S_q145 S_q0) 0 3 (by kernel_rfl) (fun i_ hi_ => by omega) ?_
  intro a k h
  unfold sp_q53 at h
  split at h
  · exact ⟨[_, _, _], rfl, rfl, (eq_q53 _ _ _ _ _ _ _ _ _).trans h⟩
  · cases h

def an_q19 (N_ : Nat) (S_q53 : TS_q53) : Nat -> Option Ann := fun b_ => none
theorem eq_q19 (N_ : Nat) (S_q53 : TS_q53) (x : Int) (y : Int) (b : Bool) (b_1 : List Int) (b_2 : Bool) (b_3 : List Int) (c_ : V -> List Blk -> Bool) : bodyV ⟨Pg, ofList [(162, (F_q53 S_q53))], isref, N_⟩ (an_q19 N_ S_q53) 127 (shF_q19.args [.int x, .int y, .bool b, .ints b_1, .bool b_2, .ints b_3]) [⟨164, 1, .cells [.bool b, .roi .u64 b_1]⟩, ⟨164, 1, .cells [.bool b_2, .roi .u64 b_3]⟩] c_ = G_q19 N_ S_q53 x y b b_1 b_2 b_3 (fun r0 r5 r6 => c_ (.agg [.ptr 2 0, .int .i64 r0]) [⟨164, 1, .cells [.bool b, .roi .u64 b_1]⟩, ⟨164, 1, .cells [.bool b_2, .roi .u64 b_3]⟩, ⟨164, 1, .cells [.bool r5, .roi .u64 r6]⟩]) := by kernel_rfl
theorem good_q19 (N_ : Nat) (S_q53 : TS_q53) (h_q53 : GoodF Pg 162 (F_q53 S_q53)) : GoodF Pg 127 (F_q19 (G_q19 N_ S_q53)) := by
  refine good_fs (cx := ⟨Pg, ofList [(162, (F_q53 S_q53))], isref, N_⟩) (ofList_cons h_q53 (ofList_nil _)) shF_q19 (sp_q19 (G_q19 N_ S_q53)) (an_q19 N_ S_q53) 0 2 (by kernel_rfl) (fun i_ hi_ => by omega) ?_
  intro a k h
  unfold sp_q19 at h
  split at h
  · exact ⟨[_, _], rfl, rfl, (eq_q19 _ _ _ _ _ _ _ _ _).trans h⟩
  · cases h

def an_q81 (N_ : Nat) : Nat -> Option Ann := fun b_ => none
theorem eq_q81 (N_ : Nat) (b : Bool) (c_ : V -> List Blk -> Bool) : bodyZ ⟨Pg, ofList [], isref, N_⟩ (an_q81 N_) 134 (shF_q81.args [.bool b]) [⟨164, 1, .cells [.bool b, .nil]⟩] c_ = G_q81 N_ b (fun r0 r2 => c_ (.int .i64 r0) [⟨164, 1, .cells [.bool b, .roi .u64 r2]⟩]) := by kernel_rfl
theorem good_q81 (N_ : Nat) : GoodF Pg 134 (F_q81 (G_q81 N_)) := by
  refine good_fsZ (cx := ⟨Pg, ofList [], isref, N_⟩) (ofList_nil _) shF_q81 (sp_q81 (G_q81 N_)) (an_q81 N_) 0 1 (by kernel_rfl) (fun i_ hi_ => by omega) ?_
  intro a k h
  unfold sp_q81 at h
  split at h
  · exact ⟨[_], rfl, rfl, (eq_q81 _ _ _).trans h⟩
  · cases h

def an_q4 (N_ : Nat) : Nat -> Option Ann := fun b_ => none
theorem eq_q4 (N_ : Nat) (b : Bool) (b_1 : List Int) (c_ : V -> List Blk -> Bool) : bodyZ ⟨Pg, ofList [], isref, N_⟩ (an_q4 N_) 134 (shF_q4.args [.bool b, .ints b_1]) [⟨164, 1, .cells [.bool b, .roi .u64 b_1]⟩] c_ = G_q4 N_ b b_1 (fun r0 => c_ (.int .i64 r0) [⟨164, 1, .cells [.bool b, .roi .u64 b_1]⟩]) := by kernel_rfl
theorem good_q4 (N_ : Nat) : GoodF Pg 134 (F_q4 (G_q4 N_)) := by
  refine good_fsZ (cx := ⟨Pg, ofList [], isref, N_⟩) (ofList_nil _) shF_q4 (sp_q4 (G_q4 N_)) (an_q4 N_) 0 1 (by kernel_rfl) (fun i_ hi_ => by omega) ?_
  intro a k h
  unfold sp_q4 at h
  split at h
  · exact ⟨[_], rfl, rfl, (eq_q4 _ _ _ _).trans h⟩
  · cases h

def sh_st_big_left_0 : StSh := ⟨[.any, .any, .any, .any, .any, .int .i64, .int .u64, .slw 0, .any, .any, .any, .any, .any, .any, .any, .any, .any, .any, .any, .any, .any, .any, .any, .any, .roi .u64, .int .i64, .int .i64, .any, .any, .any, .any, .any, .any, .any, .any, .any, .any, .any, .any, .any, .any, .any, .any, .any, .any, .any, .any, .any, .any, .any, .any, .any, .any, .any, .any], [some (41, 1, .ints .u64)]⟩
def sx0_st_big_left_0 : StSh := ⟨[.any, .any, .any, .any, .any, .any, .any, .slw 0, .any, .any, .any, .any, .any, .any, .any, .any, .any, .any, .any, .any, .any, .any, .any, .any, .any, .any, .any, .any, .any, .any, .any, .any, .any, .any, .any, .any, .any, .any, .any, .any, .any, .any, .any, .any, .any, .any, .any, .any, .any, .any, .any, .any, .any, .any, .any], [some (41, 1, .ints .u64)]⟩
def hk_st_big_left_0 (N_ : Nat) (S_q1 : TS_q1) : List Atom -> K -> Bool := fun a_ κ => match a_ with
  | [.int words, .int rest, .ints t24, .int t25, .int t26, .ints z] => iterG N_ (st_big_left_0 N_ S_q1 words rest t24 t25 (fun r0 => κ.ext 0 (sx0_st_big_left_0.build [.ints r0]))) (t26, z)
  | _ => false
def an_q116 (N_ : Nat) (S_q1 : TS_q1) : Nat -> Option Ann := fun b_ => cond (b_ == 0) (some ⟨⟨[5, 6, 7, 24, 25, 26], [], []⟩, [(0, ⟨[7], [], []⟩)], some ⟨[4], [], []⟩, some (mkHooks [(sh_st_big_left_0, hk_st_big_left_0 N_ S_q1)])⟩) (none)
theorem eq_st_big_left_0 (N_ : Nat) (S_q1 : TS_q1) (κ : K) (words : Int) (rest : Int) (t24 : List Int) (t25 : Int) (t26 : Int) (z : List Int) : iter N_ (fun s k => codeV ⟨Pg, ofList [(202, (F_q1 S_q1))], isref, N_⟩ 0 (an_q116 N_ S_q1) (lp Pg 204 0).2 (lp Pg 204 0).1 s (roundK Pg 0 ((an_q116 N_ S_q1) (lp Pg 204 0).1) κ k)) (sh_st_big_left_0.build [.int words, .int rest, .ints t24, .int t25, .int t26, .ints z]) = iterG N_ (st_big_left_0 N_ S_q1 words rest t24 t25 (fun r0 => κ.ext 0 (sx0_st_big_left_0.build [.ints r0]))) (t26, z) :=
  iter_tr (fun (v_ : Int × List Int) => sh_st_big_left_0.build [.int words, .int rest, .ints t24, .int t25, .int v_.1, .ints v_.2]) (fun v_ K_ => by obtain ⟨t26, z⟩ := v_; kernel_rfl) N_ (t26, z)
theorem hk1_st_big_left_0 (N_ : Nat) (S_q1 : TS_q1) : HookFor ⟨Pg, ofList [(202, (F_q1 S_q1))], isref, N_⟩ 0 (an_q116 N_ S_q1) (lp Pg 204 0) (sh_st_big_left_0, hk_st_big_left_0 N_ S_q1) := by
  intro a κ h
  simp only at h
  unfold hk_st_big_left_0 at h
  split at h
  · exact (eq_st_big_left_0 _ _ _ _ _ _ _ _ _).trans h
  · cases h
theorem ho_big_left_0 (N_ : Nat) (S_q1 : TS_q1) : HookOk ⟨Pg, ofList [(202, (F_q1 S_q1))], isref, N_⟩ 0 (an_q116 N_ S_q1) (lp Pg 204 0) :=
  hooks_ok [(sh_st_big_left_0, hk_st_big_left_0 N_ S_q1)] (by kernel_rfl) ⟨hk1_st_big_left_0 _ _, trivial⟩
theorem eq_q116 (N_ : Nat) (S_q1 : TS_q1) (x : List Int) (n : Int) (c_ : V -> List Blk -> Bool) : bodyZ ⟨Pg, ofList [(202, (F_q1 S_q1))], isref, N_⟩ (an_q116 N_ S_q1) 204 (shF_q116.args [.ints x, .int n]) [] c_ = G_q116 N_ S_q1 x n (fun r0 => c_ (.roi .u64 r0) []) := by kernel_rfl
theorem good_q116 (N_ : Nat) (S_q1 : TS_q1) (h_q1 : GoodF Pg 202 (F_q1 S_q1)) : GoodF Pg 204 (F_q116 (G_q116 N_ S_q1)) := by
  refine good_fsZ (cx := ⟨Pg, ofList [(202, (F_q1 S_q1))], isref, N_⟩) (ofList_cons h_q1 (ofList_nil _)) shF_q116 (sp_q116 (G_q116 N_ S_q1)) (an_q116 N_ S_q1) 1 0 (by kernel_rfl) (fun i_ hi_ => by
    match i_, hi_ with
    | 0, _ => exact ho_big_left_0 _ _
    | (q + 1), h => omega) ?_
  intro a k h
  unfold sp_q116 at h
  split at h
  · exact ⟨[], rfl, rfl, (eq_q116 _ _ _ _ _).trans h⟩
  · cases h

def an_q69 (N_ : Nat) (S_q116 : TS_q116) (S_q0 : TS_q0) : Nat -> Option Ann := fun b_ => none
theorem eq_q69 (N_ : Nat) (S_q116 : TS_q116) (S_q0 : TS_q0) (n : Int) (b : Bool) (b_1 : Bool) (b_2 : List Int) (c_ : V -> List Blk -> Bool) : bodyZ ⟨Pg, ofList [(204, (F_q116 S_q116)), (170, (F_q0 S_q0))], isref, N_⟩ (an_q69 N_ S_q116 S_q0) 172 (shF_q69.args [.int n, .bool b, .bool b_1, .ints b_2]) [⟨164, 1, .cells [.bool b, .nil]⟩, ⟨164, 1, .cells [.bool b_1, .roi .u64 b_2]⟩] c_ = G_q69 N_ S_q116 S_q0 n b b_1 b_2 (fun r0 r1 => c_ (.ptr 0 0) [⟨164, 1, .cells [.bool r0, .roi .u64 r1]⟩, ⟨164, 1, .cells [.bool b_1, .roi .u64 b_2]⟩]) := by kernel_rfl
theorem good_q69 (N_ : Nat) (S_q116 : TS_q116) (S_q0 : TS_q0) (h_q116 : GoodF Pg 204 (F_q116 S_q116)) (h_q0 : GoodF Pg 170 (F_q0 S_q0)) : GoodF Pg 172 (F_q69 (G_q69 N_ S_q116 S_q0)) := by
  refine good_fsZ (cx := ⟨Pg, ofList [(204, (F_q116 S_q116)), (170, (F_q0 S_q0))], isref, N_⟩) (ofList_cons h_q116 (ofList_cons h_q0 (ofList_nil _))) shF_q69 (sp_q69 (G_q69 N_ S_q116 S_q0)) (an_q69 N_ S_q116 S_q0) 0 2 (by kernel_rfl) (fun i_ hi_ => by omega) ?_
  intro a k h
  unfold sp_q69 at h
  split at h
  · exact ⟨[_, _], rfl, rfl, (eq_q69 _ _ _ _ _ _ _ _).trans h⟩
  · cases h

def an_q36 (N_ : Nat) (S_q69 : TS_q69) : Nat -> Option Ann := fun b_ => none
theorem eq_q36 (N_ : Nat) (S_q69 : TS_q69) (x : Int) (e : Int) (b : Bool) (b_1 : List Int) (c_ : V -> List Blk -> Bool) : bodyV ⟨Pg, ofList [(172, (F_q69 S_q69))], isref, N_⟩ (an_q36 N_ S_q69) 159 (shF_q36.args [.int x, .int e, .bool b, .ints b_1]) [⟨164, 1, .cells [.bool b, .roi .u64 b_1]⟩] c_ = G_q36 N_ S_q69 x e b b_1 (fun r2 r3 => c_ (.ptr 1 0) [⟨164, 1, .cells [.bool b, .roi .u64 b_1]⟩, ⟨164, 1, .cells [.bool r2, .roi .u64 r3]⟩]) := by kernel_rfl
theorem good_q36 (N_ : Nat) (S_q69 : TS_q69) (h_q69 : GoodF Pg 172 (F_q69 S_q69)) : GoodF Pg 159 (F_q36 (G_q36 N_ S_q69)) := by
  refine good_fs (cx := ⟨Pg, ofList [(172, (F_q69 S_q69))], isref, N_⟩) (ofList_cons h_q69 (ofList_nil _)) shF_q36 (sp_q36 (G_q36 N_ S_q69)) (an_q36 N_ S_q69) 0 1 (by kernel_rfl) (fun i_ hi_ => by omega) ?_
  intro a k h
  unfold sp_q36 at h
  split at h
  · exact ⟨[_], rfl, rfl, (eq_q36 _ _ _ _ _ _ _).trans h⟩
  · cases h

def an_q17 (N_ : Nat) : Nat -> Option Ann := fun b_ => none
theorem eq_q17 (N_ : Nat) (x : List Int) (i : Int) (c_ : V -> List Blk -> Bool) : bodyZ ⟨Pg, ofList [], isref, N_⟩ (an_q17 N_) 205 (shF_q17.args [.ints x, .int i]) [] c_ = G_q17 N_ x i (fun r0 => c_ (.int .u64 r0) []) := by kernel_rfl
theorem good_q17 (N_ : Nat) : GoodF Pg 205 (F_q17 (G_q17 N_)) := by
  refine good_fsZ (cx := ⟨Pg, ofList [], isref, N_⟩) (ofList_nil _) shF_q17 (sp_q17 (G_q17 N_)) (an_q17 N_) 0 0 (by kernel_rfl) (fun i_ hi_ => by omega) ?_
  intro a k h
  unfold sp_q17 at h
  split at h
  · exact ⟨[], rfl, rfl, (eq_q17 _ _ _ _).trans h⟩
  · cases h

def sh_st_big_sum_0 : StSh := ⟨[.roi .u64, .roi .u64, .any, .any, .any, .int .i64, .slw 0, .int .u64, .any, .any, .any, .any, .any, .any, .any, .any, .any, .int .i64, .int .i64, .any, .any, .any, .any, .any, .any, .any, .any, .any, .any, .any, .any, .any, .any, .any, .any, .any, .any, .any, .any, .any, .any, .any], [some (41, 1, .ints .u64)]⟩
def sx0_st_big_sum_0 : StSh := ⟨[.any, .any, .any, .any, .any, .int .i64, .slw 0, .int .u64, .any, .any, .any, .any, .any, .any, .any, .any, .any, .any, .any, .any, .any, .any, .any, .any, .any, .any, .any, .any, .any, .any, .any, .any, .any, .any, .any, .any, .any, .any, .any, .any, .any, .any], [some (41, 1, .ints .u64)]⟩
def hk_st_big_sum_0 (N_ : Nat) (S_q17 : TS_q17) (S_q71 : TS_q71) (S_q1 : TS_q1) : List Atom -> K -> Bool := fun a_ κ => match a_ with
  | [.ints x_1, .ints y_1, .int n, .int carry, .int t17, .int t18, .ints z] => iterG N_ (st_big_sum_0 N_ S_q17 S_q71 S_q1 x_1 y_1 n t17 (fun r1 r2 => κ.ext 0 (sx0_st_big_sum_0.build [.int n, .int r1, .ints r2]))) (carry, t18, z)
  | _ => false
def an_q157 (N_ : Nat) (S_q17 : TS_q17) (S_q71 : TS_q71) (S_q1 : TS_q1) : Nat -> Option Ann := fun b_ => cond (b_ == 0) (some ⟨⟨[0, 1, 5, 6, 7, 17, 18], [], []⟩, [(0, ⟨[5, 6, 7], [], []⟩)], some ⟨[4], [], []⟩, some (mkHooks [(sh_st_big_sum_0, hk_st_big_sum_0 N_ S_q17 S_q71 S_q1)])⟩) (none)
theorem eq_st_big_sum_0 (N_ : Nat) (S_q17 : TS_q17) (S_q71 : TS_q71) (S_q1 : TS_q1) (κ : K) (x_1 : List Int) (y_1 : List Int) (n : Int) (carry : Int) (t17 : Int) (t18 : Int) (z : List Int) : iter N_ (fun s k => codeV ⟨Pg, ofList [(205, (F_q17 S_q17)), (221, (F_q71 S_q71)), (202, (F_q1 S_q1))], isref, N_⟩ 0 (an_q157 N_ S_q17 S_q71 S_q1) (lp Pg 201 0).2 (lp Pg 201 0).1 s (roundK Pg 0 ((an_q157 N_ S_q17 S_q71 S_q1) (lp Pg 201 0).1) κ k)) (sh_st_big_sum_0.build [.ints x_1, .ints y_1, .int n, .int carry, .int t17, .int t18, .ints z]) = iterG N_ (st_big_sum_0 N_ S_q17 S_q71 S_q1 x_1 y_1 n t17 (fun r1 r2 => κ.ext 0 (sx0_st_big_sum_0.build [.int n, .int r1, .ints r2]))) (carry, t18, z) :=
  iter_tr (fun (v_ : Int × Int × List Int) => sh_st_big_sum_0.build [.ints x_1, .ints y_1, .int n, .int v_.1, .int t17, .int v_.2.1, .ints v_.2.2]) (fun v_ K_ => by obtain ⟨carry, t18, z⟩ := v_; kernel_rfl) N_ (carry, t18, z)
theorem hk1_st_big_sum_0 (N_ : Nat) (S_q17 : TS_q17) (S_q71 : TS_q71) (S_q1 : TS_q1) : HookFor ⟨Pg, ofList [(205, (F_q17 S_q17)), (221, (F_q71 S_q71)), (202, (F_q1 S_q1))], isref, N_⟩ 0 (an_q157 N_ S_q17 S_q71 S_q1) (lp Pg 201 0) (sh_st_big_sum_0, hk_st_big_sum_0 N_ S_q17 S_q71 S_q1) := by
  intro a κ h
  simp only at h
  unfold hk_st_big_sum_0 at h
  split at h
  · exact (eq_st_big_sum_0 _ _ _ _ _ _ _ _ _ _ _ _).trans h
  · cases h
theorem ho_big_sum_0 (N_ : Nat) (S_q17 : TS_q17) (S_q71 : TS_q71) (S_q1 : TS_q1) : HookOk ⟨Pg, ofList [(205, (F_q17 S_q17)), (221, (F_q71 S_q71)), (202, (F_q1 S_q1))], isref, N_⟩ 0 (an_q157 N_ S_q17 S_q71 S_q1) (lp Pg 201 0) :=
  hooks_ok [(sh_st_big_sum_0, hk_st_big_sum_0 N_ S_q17 S_q71 S_q1)] (by kernel_rfl) ⟨hk1_st_big_sum_0 _ _ _ _, trivial⟩
theorem eq_q157 (N_ : Nat) (S_q17 : TS_q17) (S_q71 : TS_q71) (S_q1 : TS_q1) (x : List Int) (y : List Int) (c_ : V -> List Blk -> Bool) : bodyZ ⟨Pg, ofList [(205, (F_q17 S_q17)), (221, (F_q71 S_q71)), (202, (F_q1 S_q1))], isref, N_⟩ (an_q157 N_ S_q17 S_q71 S_q1) 201 (shF_q157.args [.ints x, .ints y]) [] c_ = G_q157 N_ S_q17 S_q71 S_q1 x y (fun r0 => c_ (.roi .u64 r0) []) := by kernel_rfl
theorem good_q157 (N_ : Nat) (S_q17 : TS_q17) (S_q71 : TS_q71) (S_q1 : TS_q1) (h_q17 : GoodF Pg 205 (F_q17 S_q17)) (h_q71 : GoodF Pg 221 (F_q71 S_q71)) (h_q1 : GoodF Pg 202 (F_q1 S_q1)) : GoodF Pg 201 (F_q157 (G_q157 N_ S_q17 S_q71 S_q1)) := by
  refine good_fsZ (cx := ⟨Pg, ofList [(205, (F_q17 S_q17)), (221, (F_q71 S_q71)), (202, (F_q1 S_q1))], isref, N_⟩) (ofList_cons h_q17 (ofList_cons h_q71 (ofList_cons h_q1 (ofList_nil _)))) shF_q157 (sp_q157 (G_q157 N_ S_q17 S_q71 S_q1)) (an_q157 N_ S_q17 S_q71 S_q1) 1 0 (by kernel_rfl) (fun i_ hi_ => by
    match i_, hi_ with
    | 0, _ => exact ho_big_sum_0 _ _ _ _
    | (q + 1), h => omega) ?_
  intro a k h
  unfold sp_q157 at h
  split at h
  · exact ⟨[], rfl, rfl, (eq_q157 _ _ _ _ _ _ _).trans h⟩
  · cases h

def sh_st_big_compare_0 : StSh := ⟨[.roi .u64, .roi .u64, .any, .any, .any, .int .i64, .any, .any, .any, .any, .any, .any, .any, .any, .any, .any, .any, .any, .any, .any, .any, .any, .any, .any, .any, .any, .any, .any, .any, .any, .any, .any, .any, .any, .any, .any, .any, .any, .any, .any, .any], []⟩
def sx0_st_big_compare_0 : StSh := ⟨[.any, .any, .any, .any, .int .i64, .any, .any, .any, .any, .any, .any, .any, .any, .any, .any, .any, .any, .any, .any, .any, .any, .any, .any, .any, .any, .any, .any, .any, .any, .any, .any, .any, .any, .any, .any, .any, .any, .any, .any, .any, .any], []⟩
def sx1_st_big_compare_0 : StSh := ⟨[.any, .any, .any, .any, .any, .any, .any, .any, .any, .any, .any, .any, .any, .any, .any, .any, .any, .any, .any, .any, .any, .any, .any, .any, .any, .any, .any, .any, .any, .any, .any, .any, .any, .any, .any, .any, .any, .any, .any, .any, .any], []⟩
def hk_st_big_compare_0 (N_ : Nat) : List Atom -> K -> Bool := fun a_ κ => match a_ with
  | [.ints x_1, .ints y_1, .int i] => iterG N_ (st_big_compare_0 N_ x_1 y_1 (fun r0 => κ.ret (sx0_st_big_compare_0.build [.int r0])) (κ.ext 0 (sx1_st_big_compare_0.build []))) i
  | _ => false
def an_q125 (N_ : Nat) : Nat -> Option Ann := fun b_ => cond (b_ == 0) (some ⟨⟨[0, 1, 5], [], []⟩, [(0, ⟨[], [], []⟩)], some ⟨[4], [], []⟩, some (mkHooks [(sh_st_big_compare_0, hk_st_big_compare_0 N_)])⟩) (none)
theorem eq_st_big_compare_0 (N_ : Nat) (κ : K) (x_1 : List Int) (y_1 : List Int) (i : Int) : iter N_ (fun s k => codeV ⟨Pg, ofList [], isref, N_⟩ 0 (an_q125 N_) (lp Pg 215 0).2 (lp Pg 215 0).1 s (roundK Pg 0 ((an_q125 N_) (lp Pg 215 0).1) κ k)) (sh_st_big_compare_0.build [.ints x_1, .ints y_1, .int i]) = iterG N_ (st_big_compare_0 N_ x_1 y_1 (fun r0 => κ.ret (sx0_st_big_compare_0.build [.int r0])) (κ.ext 0 (sx1_st_big_compare_0.build []))) i :=
  iter_tr (fun v_ => sh_st_big_compare_0.build [.ints x_1, .ints y_1, .int v_]) (fun v_ K_ => by kernel_rfl) N_ i
theorem hk1_st_big_compare_0 (N_ : Nat) : HookFor ⟨Pg, ofList [], isref, N_⟩ 0 (an_q125 N_) (lp Pg 215 0) (sh_st_big_compare_0, hk_st_big_compare_0 N_) := by
  intro a κ h
  simp only at h
  unfold hk_st_big_compare_0 at h
  split at h
  · exact (eq_st_big_compare_0 _ _ _ _ _).trans h
  · cases h
theorem ho_big_compare_0 (N_ : Nat) : HookOk ⟨Pg, ofList [], isref, N_⟩ 0 (an_q125 N_) (lp Pg 215 0) :=
  hooks_ok [(sh_st_big_compare_0, hk_st_big_compare_0 N_)] (by kernel_rfl) ⟨hk1_st_big_compare_0 _, trivial⟩
theorem eq_q125 (N_ : Nat) (x : List Int) (y : List Int) (c_ : V -> List Blk -> Bool) : bodyZ ⟨Pg, ofList [], isref, N_⟩ (an_q125 N_) 215 (shF_q125.args [.ints x, .ints y]) [] c_ = G_q125 N_ x y (fun r0 => c_ (.int .i64 r0) []) := by kernel_rfl
theorem good_q125 (N_ : Nat) : GoodF Pg 215 (F_q125 (G_q125 N_)) := by
  refine good_fsZ (cx := ⟨Pg, ofList [], isref, N_⟩) (ofList_nil _) shF_q125 (sp_q125 (G_q125 N_)) (an_q125 N_) 1 0 (by kernel_rfl) (fun i_ hi_ => by
    match i_, hi_ with
    | 0, _ => exact ho_big_compare_0 _
    | (q + 1), h => omega) ?_
  intro a k h
  unfold sp_q125 at h
  split at h
  · exact ⟨[], rfl, rfl, (eq_q125 _ _ _ _).trans h⟩
  · cases h


def sh_st_big_less_0 : StSh := ⟨[.roi .u64, .roi .u64, .any, .any, .any, .slw 0, .int .u64, .any, .any, .any, .any, .any, .int .i64, .int .i64, .any, .any, .any, .any, .any, .any, .any, .any, .any, .any, .any, .any, .any, .any, .any, .any, .any, .any, .any, .any], [some (41, 1, .ints .u64)]⟩
def sx0_st_big_less_0 : StSh := ⟨[.any, .any, .any, .any, .any, .slw 0, .any, .any, .any, .any, .any, .any, .any, .any, .any, .any, .any, .any, .any, .any, .any, .any, .any, .any, .any, .any, .any, .any, .any, .any, .any, .any, .any, .any], [some (41, 1, .ints .u64)]⟩
def hk_st_big_less_0 (N_ : Nat) (S_q17 : TS_q17) (S_q107 : TS_q107) (S_q1 : TS_q1) : List Atom -> K -> Bool := fun a_ κ => match a_ with
  | [.ints x_1, .ints y_1, .int borrow, .int t12, .int t13, .ints z] => iterG N_ (st_big_less_0 N_ S_q17 S_q107 S_q1 x_1 y_1 t12 (fun r0 => κ.ext 0 (sx0_st_big_less_0.build [.ints r0]))) (borrow, t13, z)
  | _ => false
def an_q163 (N_ : Nat) (S_q17 : TS_q17) (S_q107 : TS_q107) (S_q1 : TS_q1) : Nat -> Option Ann := fun b_ => cond (b_ == 0) (some ⟨⟨[0, 1, 5, 6, 12, 13], [], []⟩, [(0, ⟨[5], [], []⟩)], some ⟨[4], [], []⟩, some (mkHooks [(sh_st_big_less_0, hk_st_big_less_0 N_ S_q17 S_q107 S_q1)])⟩) (none)
theorem eq_st_big_less_0 (N_ : Nat) (S_q17 : TS_q17) (S_q107 : TS_q107) (S_q1 : TS_q1) (κ : K) (x_1 : List Int) (y_1 : List Int) (borrow : Int) (t12 : Int) (t13 : Int) (z : List Int) : iter N_ (fun s k => codeV ⟨Pg, ofList [(205, (F_q17 S_q17)), (230, (F_q107 S_q107)), (202, (F_q1 S_q1))], isref, N_⟩ 0 (an_q163 N_ S_q17 S_q107 S_q1) (lp Pg 216 0).2 (lp Pg 216 0).1 s (roundK Pg 0 ((an_q163 N_ S_q17 S_q107 S_q1) (lp Pg 216 0).1) κ k)) (sh_st_big_less_0.build [.ints x_1, .ints y_1, .int borrow, .int t12, .int t13, .ints z]) = iterG N_ (st_big_less_0 N_ S_q17 S_q107 S_q1 x_1 y_1 t12 (fun r0 => κ.ext 0 (sx0_st_big_less_0.build [.ints r0]))) (borrow, t13, z) :=
  iter_tr (fun (v_ : Int × Int × List Int) => sh_st_big_less_0.build [.ints x_1, .ints y_1, .int v_.1, .int t12, .int v_.2.1, .ints v_.2.2]) (fun v_ K_ => by obtain ⟨borrow, t13, z⟩ := v_; kernel_rfl) N_ (borrow, t13, z)
theorem hk1_st_big_less_0 (N_ : Nat) (S_q17 : TS_q17) (S_q107 : TS_q107) (S_q1 : TS_q1) : HookFor ⟨Pg, ofList [(205, (F_q17 S_q17)), (230, (F_q107 S_q107)), (202, (F_q1 S_q1))], isref, N_⟩ 0 (an_q163 N_ S_q17 S_q107 S_q1) (lp Pg 216 0) (sh_st_big_less_0, hk_st_big_less_0 N_ S_q17 S_q107 S_q1) := by
  intro a κ h
  simp only at h
  unfold hk_st_big_less_0 at h
  split at h
  · exact (eq_st_big_less_0 _ _ _ _ _ _ _ _ _ _ _).trans h
  · cases h
theorem ho_big_less_0 (N_ : Nat) (S_q17 : TS_q17) (S_q107 : TS_q107) (S_q1 : TS_q1) : HookOk ⟨Pg, ofList [(205, (F_q17 S_q17)), (230, (F_q107 S_q107)), (202, (F_q1 S_q1))], isref, N_⟩ 0 (an_q163 N_ S_q17 S_q107 S_q1) (lp Pg 216 0) :=
  hooks_ok [(sh_st_big_less_0, hk_st_big_less_0 N_ S_q17 S_q107 S_q1)] (by kernel_rfl) ⟨hk1_st_big_less_0 _ _ _ _, trivial⟩
theorem eq_q163 (N_ : Nat) (S_q17 : TS_q17) (S_q107 : TS_q107) (S_q1 : TS_q1) (x : List Int) (y : List Int) (c_ : V -> List Blk -> Bool) : bodyZ ⟨Pg, ofList [(205, (F_q17 S_q17)), (230, (F_q107 S_q107)), (202, (F_q1 S_q1))], isref, N_⟩ (an_q163 N_ S_q17 S_q107 S_q1) 216 (shF_q163.args [.ints x, .ints y]) [] c_ = G_q163 N_ S_q17 S_q107 S_q1 x y (fun r0 => c_ (.roi .u64 r0) []) := by kernel_rfl
theorem good_q163 (N_ : Nat) (S_q17 : TS_q17) (S_q107 : TS_q107) (S_q1 : TS_q1) (h_q17 : GoodF Pg 205 (F_q17 S_q17)) (h_q107 : GoodF Pg 230 (F_q107 S_q107)) (h_q1 : GoodF Pg 202 (F_q1 S_q1)) : GoodF Pg 216 (F_q163 (G_q163 N_ S_q17 S_q107 S_q1)) := by
  refine good_fsZ (cx := ⟨Pg, ofList [(205, (F_q17 S_q17)), (230, (F_q107 S_q107)), (202, (F_q1 S_q1))], isref, N_⟩) (ofList_cons h_q17 (ofList_cons h_q107 (ofList_cons h_q1 (ofList_nil _)))) shF_q163 (sp_q163 (G_q163 N_ S_q17 S_q107 S_q1)) (an_q163 N_ S_q17 S_q107 S_q1) 1 0 (by kernel_rfl) (fun i_ hi_ => by
    match i_, hi_ with
    | 0, _ => exact ho_big_less_0 _ _ _ _
    | (q + 1), h => omega) ?_
  intro a k h
  unfold sp_q163 at h
  split at h
  · exact ⟨[], rfl, rfl, (eq_q163 _ _ _ _ _ _ _).trans h⟩
  · cases h

def an_q64 (N_ : Nat) (S_q157 : TS_q157) (S_q0 : TS_q0) (S_q125 : TS_q125) (S_q163 : TS_q163) : Nat -> Option Ann := fun b_ => none
theorem eq_q64 (N_ : Nat) (S_q157 : TS_q157) (S_q0 : TS_q0) (S_q125 : TS_q125) (S_q163 : TS_q163) (neg : Bool) (y : List Int) (b : Bool) (b_1 : Bool) (b_2 : List Int) (c_ : V -> List Blk -> Bool) : bodyZ ⟨Pg, ofList [(201, (F_q157 S_q157)), (170, (F_q0 S_q0)), (215, (F_q125 S_q125)), (216, (F_q163 S_q163))], isref, N_⟩ (an_q64 N_ S_q157 S_q0 S_q125 S_q163) 191 (shF_q64.args [.bool neg, .ints y, .bool b, .bool b_1, .ints b_2]) [⟨164, 1, .cells [.bool b, .nil]⟩, ⟨164, 1, .cells [.bool b_1, .roi .u64 b_2]⟩] c_ = G_q64 N_ S_q157 S_q0 S_q125 S_q163 neg y b b_1 b_2 (fun r0 r1 => c_ (.ptr 0 0) [⟨164, 1, .cells [.bool r0, .roi .u64 r1]⟩, ⟨164, 1, .cells [.bool b_1, .roi .u64 b_2]⟩]) := by kernel_rfl
theorem good_q64 (N_ : Nat) (S_q157 : TS_q157) (S_q0 : TS_q0) (S_q125 : TS_q125) (S_q163 : TS_q163) (h_q157 : GoodF Pg 201 (F_q157 S_q157)) (h_q0 : GoodF Pg 170 (F_q0 S_q0)) (h_q125 : GoodF Pg 215 (F_q125 S_q125)) (h_q163 : GoodF Pg 216 (F_q163 S_q163)) : GoodF Pg 191 (F_q64 (G_q64 N_ S_q157 S_q0 S_q125 S_q163)) := by
  refine good_fsZ (cx := ⟨Pg, ofList [(201, (F_q157 S_q157)), (170, (F_q0 S_q0)), (215, (F_q125 S_q125)), (216, (F_q163 S_q163))], isref, N_⟩) (ofList_cons h_q157 (ofList_cons h_q0 (ofList_cons h_q125 (ofList_cons h_q163 (ofList_nil _))))) shF_q64 (sp_q64 (G_q64 N_ S_q157 S_q0 S_q125 S_q163)) (an_q64 N_ S_q157 S_q0 S_q125 S_q163) 0 2 (by kernel_rfl) (fun i_ hi_ => by omega) ?_
  intro a k h
  unfold sp_q64 at h
  split at h
  · exact ⟨[_, _], rfl, rfl, (eq_q64 _ _ _ _ _ _ _ _ _ _ _).trans h⟩
  · cases h

def an_q29 (N_ : Nat) (S_q64 : TS_q64) : Nat -> Option Ann := fun b_ => none
theorem eq_q29 (N_ : Nat) (S_q64 : TS_q64) (b : Bool) (b_1 : Bool) (b_2 : List Int) (b_3 : Bool) (b_4 : List Int) (c_ : V -> List Blk -> Bool) : bodyZ ⟨Pg, ofList [(191, (F_q64 S_q64))], isref, N_⟩ (an_q29 N_ S_q64) 158 (shF_q29.args [.bool b, .bool b_1, .ints b_2, .bool b_3, .ints b_4]) [⟨164, 1, .cells [.bool b, .nil]⟩, ⟨164, 1, .cells [.bool b_1, .roi .u64 b_2]⟩, ⟨164, 1, .cells [.bool b_3, .roi .u64 b_4]⟩] c_ = G_q29 N_ S_q64 b b_1 b_2 b_3 b_4 (fun r0 r1 => c_ (.ptr 0 0) [⟨164, 1, .cells [.bool r0, .roi .u64 r1]⟩, ⟨164, 1, .cells [.bool b_1, .roi .u64 b_2]⟩, ⟨164, 1, .cells [.bool b_3, .roi .u64 b_4]⟩]) := by kernel_rfl
theorem good_q29 (N_ : Nat) (S_q64 : TS_q64) (h_q64 : GoodF Pg 191 (F_q64 S_q64)) : GoodF Pg 158 (F_q29 (G_q29 N_ S_q64)) := by
  refine good_fsZ (cx := ⟨Pg, ofList [(191, (F_q64 S_q64))], isref, N_⟩) (ofList_cons h_q64 (ofList_nil _)) shF_q29 (sp_q29 (G_q29 N_ S_q64)) (an_q29 N_ S_q64) 0 3 (by kernel_rfl) (fun i_ hi_ => by omega) ?_
  intro a k h
  unfold sp_q29 at h
  split at h
  · exact ⟨[_, _, _], rfl, rfl, (eq_q29 _ _ _ _ _ _ _ _).trans h⟩
  · cases h

def an_q18 (N_ : Nat) (S_q81 : TS_q81) (S_q4 : TS_q4) (S_q36 : TS_q36) (S_q29 : TS_q29) : Nat -> Option Ann := fun b_ => none
theorem eq_q18 (N_ : Nat) (S_q81 : TS_q81) (S_q4 : TS_q4) (S_q36 : TS_q36) (S_q29 : TS_q29) (x : Int) (y : Int) (b : Bool) (b_1 : Bool) (b_2 : List Int) (c_ : V -> List Blk -> Bool) : bodyV ⟨Pg, ofList [(134, (orFs (F_q81 S_q81) (F_q4 S_q4) shF_q81)), (159, (F_q36 S_q36)), (158, (F_q29 S_q29))], isref, N_⟩ (an_q18 N_ S_q81 S_q4 S_q36 S_q29) 125 (shF_q18.args [.int x, .int y, .bool b, .bool b_1, .ints b_2]) [⟨164, 1, .cells [.bool b, .nil]⟩, ⟨164, 1, .cells [.bool b_1, .roi .u64 b_2]⟩] c_ = G_q18 N_ S_q81 S_q4 S_q36 S_q29 x y b b_1 b_2 (fun r2 => c_ (.agg [.ptr 1 0, .int .i64 y]) [⟨164, 1, .cells [.bool b, .roi .u64 r2]⟩, ⟨164, 1, .cells [.bool b_1, .roi .u64 b_2]⟩]) (fun r2 => c_ (.agg [.ptr 0 0, .int .i64 x]) [⟨164, 1, .cells [.bool b, .roi .u64 r2]⟩, ⟨164, 1, .cells [.bool b_1, .roi .u64 b_2]⟩]) (fun r0 r2 r5 r6 => c_ (.agg [.ptr 2 0, .int .i64 r0]) [⟨164, 1, .cells [.bool b, .roi .u64 r2]⟩, ⟨164, 1, .cells [.bool b_1, .roi .u64 b_2]⟩, ⟨164, 1, .cells [.bool r5, .roi .u64 r6]⟩]) := by kernel_rfl
theorem good_q18 (N_ : Nat) (S_q81 : TS_q81) (S_q4 : TS_q4) (S_q36 : TS_q36) (S_q29 : TS_q29) (h_q81 : GoodF Pg 134 (F_q81 S_q81)) (h_q4 : GoodF Pg 134 (F_q4 S_q4)) (h_q36 : GoodF Pg 159 (F_q36 S_q36)) (h_q29 : GoodF Pg 158 (F_q29 S_q29)) : GoodF Pg 125 (F_q18 (G_q18 N_ S_q81 S_q4 S_q36 S_q29)) := by
  refine good_fs (cx := ⟨Pg, ofList [(134, (orFs (F_q81 S_q81) (F_q4 S_q4) shF_q81)), (159, (F_q36 S_q36)), (158, (F_q29 S_q29))], isref, N_⟩) (ofList_cons (good_or h_q81 h_q4) (ofList_cons h_q36 (ofList_cons h_q29 (ofList_nil _)))) shF_q18 (sp_q18 (G_q18 N_ S_q81 S_q4 S_q36 S_q29)) (an_q18 N_ S_q81 S_q4 S_q36 S_q29) 0 2 (by kernel_rfl) (fun i_ hi_ => by omega) ?_
  intro a k h
  unfold sp_q18 at h
  split at h
  · exact ⟨[_, _], rfl, rfl, (eq_q18 _ _ _ _ _ _ _ _ _ _ _).trans h⟩
  · cases h

def an_q3 (N_ : Nat) (S_q4 : TS_q4) (S_q36 : TS_q36) (S_q29 : TS_q29) : Nat -> Option Ann := fun b_ => none
theorem eq_q3 (N_ : Nat) (S_q4 : TS_q4) (S_q36 : TS_q36) (S_q29 : TS_q29) (x : Int) (y : Int) (b : Bool) (b_1 : List Int) (b_2 : Bool) (b_3 : List Int) (c_ : V -> List Blk -> Bool) : bodyV ⟨Pg, ofList [(134, (F_q4 S_q4)), (159, (F_q36 S_q36)), (158, (F_q29 S_q29))], isref, N_⟩ (an_q3 N_ S_q4 S_q36 S_q29) 125 (shF_q3.args [.int x, .int y, .bool b, .ints b_1, .bool b_2, .ints b_3]) [⟨164, 1, .cells [.bool b, .roi .u64 b_1]⟩, ⟨164, 1, .cells [.bool b_2, .roi .u64 b_3]⟩] c_ = G_q3 N_ S_q4 S_q36 S_q29 x y b b_1 b_2 b_3 (c_ (.agg [.ptr 1 0, .int .i64 y]) [⟨164, 1, .cells [.bool b, .roi .u64 b_1]⟩, ⟨164, 1, .cells [.bool b_2, .roi .u64 b_3]⟩]) (c_ (.agg [.ptr 0 0, .int .i64 x]) [⟨164, 1, .cells [.bool b, .roi .u64 b_1]⟩, ⟨164, 1, .cells [.bool b_2, .roi .u64 b_3]⟩]) (fun r0 r5 r6 => c_ (.agg [.ptr 2 0, .int .i64 r0]) [⟨164, 1, .cells [.bool b, .roi .u64 b_1]⟩, ⟨164, 1, .cells [.bool b_2, .roi .u64 b_3]⟩, ⟨164, 1, .cells [.bool r5, .roi .u64 r6]⟩]) := by kernel_rfl
theorem good_q3 (N_ : Nat) (S_q4 : TS_q4) (S_q36 : TS_q36) (S_q29 : TS_q29) (h_q4 : GoodF Pg 134 (F_q4 S_q4)) (h_q36 : GoodF Pg 159 (F_q36 S_q36)) (h_q29 : GoodF Pg 158 (F_q29 S_q29)) : GoodF Pg 125 (F_q3 (G_q3 N_ S_q4 S_q36 S_q29)) := by
  refine good_fs (cx := ⟨Pg, ofList [(134, (F_q4 S_q4)), (159, (F_q36 S_q36)), (158, (F_q29 S_q29))], isref, N_⟩) (ofList_cons h_q4 (ofList_cons h_q36 (ofList_cons h_q29 (ofList_nil _)))) shF_q3 (sp_q3 (G_q3 N_ S_q4 S_q36 S_q29)) (an_q3 N_ S_q4 S_q36 S_q29) 0 2 (by kernel_rfl) (fun i_ hi_ => by omega) ?_
  intro a k h
  unfold sp_q3 at h
  split at h
  · exact ⟨[_, _], rfl, rfl, (eq_q3 _ _ _ _ _ _ _ _ _ _ _).trans h⟩
  · cases h

def an_q40 (N_ : Nat) (S_q82 : TS_q82) (S_q0 : TS_q0) : Nat -> Option Ann := fun b_ => none
theorem eq_q40 (N_ : Nat) (S_q82 : TS_q82) (S_q0 : TS_q0) (b : Bool) (b_1 : Bool) (b_2 : List Int) (c_ : V -> List Blk -> Bool) : bodyZ ⟨Pg, ofList [(171, (F_q82 S_q82)), (170, (F_q0 S_q0))], isref, N_⟩ (an_q40 N_ S_q82 S_q0) 195 (shF_q40.args [.bool b, .bool b_1, .ints b_2]) [⟨164, 1, .cells [.bool b, .nil]⟩, ⟨164, 1, .cells [.bool b_1, .roi .u64 b_2]⟩] c_ = G_q40 N_ S_q82 S_q0 b b_1 b_2 (fun r0 r1 => c_ (.ptr 0 0) [⟨164, 1, .cells [.bool r0, .roi .u64 r1]⟩, ⟨164, 1, .cells [.bool b_1, .roi .u64 b_2]⟩]) := by kernel_rfl
theorem good_q40 (N_ : Nat) (S_q82 : TS_q82) (S_q0 : TS_q0) (h_q82 : GoodF Pg 171 (F_q82 S_q82)) (h_q0 : GoodF Pg 170 (F_q0 S_q0)) : GoodF Pg 195 (F_q40 (G_q40 N_ S_q82 S_q0)) := by
  refine good_fsZ (cx := ⟨Pg, ofList [(171, (F_q82 S_q82)), (170, (F_q0 S_q0))], isref, N_⟩) (ofList_cons h_q82 (ofList_cons h_q0 (ofList_nil _))) shF_q40 (sp_q40 (G_q40 N_ S_q82 S_q0)) (an_q40 N_ S_q82 S_q0) 0 2 (by kernel_rfl) (fun i_ hi_ => by omega) ?_
  intro a k h
  unfold sp_q40 at h
  split at h
  · exact ⟨[_, _], rfl, rfl, (eq_q40 _ _ _ _ _ _ _).trans h⟩
  · cases h

def an_q56 (N_ : Nat) (S_q17 : TS_q17) : Nat -> Option Ann := fun b_ => none
theorem eq_q56 (N_ : Nat) (S_q17 : TS_q17) (i : Int) (b : Bool) (b_1 : List Int) (c_ : V -> List Blk -> Bool) : bodyZ ⟨Pg, ofList [(205, (F_q17 S_q17))], isref, N_⟩ (an_q56 N_ S_q17) 196 (shF_q56.args [.int i, .bool b, .ints b_1]) [⟨164, 1, .cells [.bool b, .roi .u64 b_1]⟩] c_ = G_q56 N_ S_q17 i b b_1 (fun r0 => c_ (.int .u64 r0) [⟨164, 1, .cells [.bool b, .roi .u64 b_1]⟩]) := by kernel_rfl
theorem good_q56 (N_ : Nat) (S_q17 : TS_q17) (h_q17 : GoodF Pg 205 (F_q17 S_q17)) : GoodF Pg 196 (F_q56 (G_q56 N_ S_q17)) := by
  refine good_fsZ (cx := ⟨Pg, ofList [(205, (F_q17 S_q17))], isref, N_⟩) (ofList_cons h_q17 (ofList_nil _)) shF_q56 (sp_q56 (G_q56 N_ S_q17)) (an_q56 N_ S_q17) 0 1 (by kernel_rfl) (fun i_ hi_ => by omega) ?_
  intro a k h
  unfold sp_q56 at h
  split at h
  · exact ⟨[_], rfl, rfl, (eq_q56 _ _ _ _ _ _).trans h⟩
  · cases h

def sh_st_big_Int_TrailingZeroBits_p0r_0 : StSh := ⟨[.any, .any, .any, .any, .any, .any, .any, .any, .roi .u64, .int .i64, .int .i64, .any, .any, .any, .any, .any, .any, .any, .any, .any, .any, .any, .any, .any], [some (164, 1, .cells [.bool, .roi .u64])]⟩
def sx0_st_big_Int_TrailingZeroBits_p0r_0 : StSh := ⟨[.any, .any, .int .u64, .any, .any, .any, .any, .any, .any, .any, .any, .any, .any, .any, .any, .any, .any, .any, .any, .any, .any, .any, .any, .any], [some (164, 1, .cells [.bool, .roi .u64])]⟩
def sx1_st_big_Int_TrailingZeroBits_p0r_0 : StSh := ⟨[.any, .any, .any, .any, .any, .any, .any, .any, .any, .any, .any, .any, .any, .any, .any, .any, .any, .any, .any, .any, .any, .any, .any, .any], [some (164, 1, .cells [.bool, .roi .u64])]⟩
def hk_st_big_Int_TrailingZeroBits_p0r_0 (N_ : Nat) (S_q7 : TS_q7) : List Atom -> K -> Bool := fun a_ κ => match a_ with
  | [.ints t8, .int t9, .int t10, .bool b0, .ints b0_1] => iterG N_ (st_q194 N_ S_q7 t8 t9 b0 b0_1 (fun r0 => κ.ret (sx0_st_big_Int_TrailingZeroBits_p0r_0.build [.int r0, .bool b0, .ints b0_1])) (κ.ext 0 (sx1_st_big_Int_TrailingZeroBits_p0r_0.build [.bool b0, .ints b0_1]))) t10
  | _ => false
def an_q11 (N_ : Nat) (S_q7 : TS_q7) : Nat -> Option Ann := fun b_ => cond (b_ == 0) (some ⟨⟨[8, 9, 10], [], []⟩, [(0, ⟨[], [], []⟩)], some ⟨[2], [], []⟩, some (mkHooks [(sh_st_big_Int_TrailingZeroBits_p0r_0, hk_st_big_Int_TrailingZeroBits_p0r_0 N_ S_q7)])⟩) (none)
theorem eq_st_big_Int_TrailingZeroBits_p0r_0 (N_ : Nat) (S_q7 : TS_q7) (κ : K) (t8 : List Int) (t9 : Int) (t10 : Int) (b0 : Bool) (b0_1 : List Int) : iter N_ (fun s k => codeV ⟨Pg, ofList [(218, (F_q7 S_q7))], isref, N_⟩ 1 (an_q11 N_ S_q7) (lp Pg 197 0).2 (lp Pg 197 0).1 s (roundK Pg 1 ((an_q11 N_ S_q7) (lp Pg 197 0).1) κ k)) (sh_st_big_Int_TrailingZeroBits_p0r_0.build [.ints t8, .int t9, .int t10, .bool b0, .ints b0_1]) = iterG N_ (st_q194 N_ S_q7 t8 t9 b0 b0_1 (fun r0 => κ.ret (sx0_st_big_Int_TrailingZeroBits_p0r_0.build [.int r0, .bool b0, .ints b0_1])) (κ.ext 0 (sx1_st_big_Int_TrailingZeroBits_p0r_0.build [.bool b0, .ints b0_1]))) t10 :=
  iter_tr (fun v_ => sh_st_big_Int_TrailingZeroBits_p0r_0.build [.ints t8, .int t9, .int v_, .bool b0, .ints b0_1]) (fun v_ K_ => by kernel_rfl) N_ t10
theorem hk1_st_big_Int_TrailingZeroBits_p0r_0 (N_ : Nat) (S_q7 : TS_q7) : HookFor ⟨Pg, ofList [(218, (F_q7 S_q7))], isref, N_⟩ 1 (an_q11 N_ S_q7) (lp Pg 197 0) (sh_st_big_Int_TrailingZeroBits_p0r_0, hk_st_big_Int_TrailingZeroBits_p0r_0 N_ S_q7) := by
  intro a κ h
  simp only at h
  unfold hk_st_big_Int_TrailingZeroBits_p0r_0 at h
  split at h
  · exact (eq_st_big_Int_TrailingZeroBits_p0r_0 _ _ _ _ _ _ _ _).trans h
  · cases h
theorem ho_big_Int_TrailingZeroBits_p0r_0 (N_ : Nat) (S_q7 : TS_q7) : HookOk ⟨Pg, ofList [(218, (F_q7 S_q7))], isref, N_⟩ 1 (an_q11 N_ S_q7) (lp Pg 197 0) :=
  hooks_ok [(sh_st_big_Int_TrailingZeroBits_p0r_0, hk_st_big_Int_TrailingZeroBits_p0r_0 N_ S_q7)] (by kernel_rfl) ⟨hk1_st_big_Int_TrailingZeroBits_p0r_0 _ _, trivial⟩
theorem eq_q11 (N_ : Nat) (S_q7 : TS_q7) (b : Bool) (b_1 : List Int) (c_ : V -> List Blk -> Bool) : bodyZ ⟨Pg, ofList [(218, (F_q7 S_q7))], isref, N_⟩ (an_q11 N_ S_q7) 197 (shF_q11.args [.bool b, .ints b_1]) [⟨164, 1, .cells [.bool b, .roi .u64 b_1]⟩] c_ = G_q11 N_ S_q7 b b_1 (fun r0 => c_ (.int .u64 r0) [⟨164, 1, .cells [.bool b, .roi .u64 b_1]⟩]) := by kernel_rfl
theorem good_q11 (N_ : Nat) (S_q7 : TS_q7) (h_q7 : GoodF Pg 218 (F_q7 S_q7)) : GoodF Pg 197 (F_q11 (G_q11 N_ S_q7)) := by
  refine good_fsZ (cx := ⟨Pg, ofList [(218, (F_q7 S_q7))], isref, N_⟩) (ofList_cons h_q7 (ofList_nil _)) shF_q11 (sp_q11 (G_q11 N_ S_q7)) (an_q11 N_ S_q7) 1 1 (by kernel_rfl) (fun i_ hi_ => by
    match i_, hi_ with
    | 0, _ => exact ho_big_Int_TrailingZeroBits_p0r_0 _ _
    | (q + 1), h => omega) ?_
  intro a k h
  unfold sp_q11 at h
  split at h
  · exact ⟨[_], rfl, rfl, (eq_q11 _ _ _ _ _).trans h⟩
  · cases h

def sh_st_big_right_0 : StSh := ⟨[.roi .u64, .any, .any, .any, .any, .any, .int .i64, .int .u64, .int .u64, .any, .any, .any, .any, .any, .any, .any, .any, .any, .any, .any, .any, .any, .any, .any, .any, .any, .any, .any, .any, .any, .any, .any, .any, .any, .any, .any, .any, .roi .u64, .int .i64, .int .i64, .any, .any, .any, .any, .any, .any, .any, .any, .any, .any, .any, .any, .any, .any, .any, .any, .any, .any, .any, .any, .any, .any, .any, .any, .any, .any, .any, .any, .any, .any, .any, .any, .any, .any, .any, .any, .any, .any, .any, .any, .any, .any], []⟩
def sx0_st_big_right_0 : StSh := ⟨[.roi .u64, .any, .any, .any, .any, .any, .int .i64, .int .u64, .int .u64, .any, .any, .any, .any, .any, .any, .any, .any, .any, .any, .any, .any, .any, .any, .any, .any, .any, .any, .any, .any, .any, .any, .any, .any, .any, .any, .any, .any, .any, .any, .any, .any, .any, .any, .any, .any, .any, .any, .any, .any, .any, .any, .any, .any, .any, .any, .any, .any, .any, .any, .any, .any, .any, .any, .any, .any, .any, .any, .any, .any, .any, .any, .any, .any, .any, .any, .any, .any, .any, .any, .any, .any, .any], []⟩
def hk_st_big_right_0 (N_ : Nat) (S_q17 : TS_q17) (S_q1 : TS_q1) : List Atom -> K -> Bool := fun a_ κ => match a_ with
  | [.ints x_1, .int words, .int rest, .int lost, .ints t37, .int t38, .int t39] => iterG N_ (st_big_right_0 N_ S_q17 S_q1 x_1 words rest t37 t38 (fun r3 => κ.ext 0 (sx0_st_big_right_0.build [.ints x_1, .int words, .int rest, .int r3]))) (lost, t39)
  | _ => false
def sh_st_big_right_2 : StSh := ⟨[.roi .u64, .any, .any, .any, .any, .any, .int .i64, .int .u64, .int .u64, .any, .any, .slw 0, .any, .any, .any, .any, .any, .any, .any, .any, .any, .any, .any, .any, .any, .any, .any, .any, .any, .any, .any, .any, .any, .any, .any, .any, .any, .any, .any, .any, .any, .any, .any, .any, .any, .any, .any, .any, .any, .any, .any, .any, .any, .int .i64, .int .i64, .any, .any, .any, .any, .any, .any, .any, .any, .any, .any, .any, .any, .any, .any, .any, .any, .any, .any, .any, .any, .any, .any, .any, .any, .any, .any, .any], [some (41, 1, .ints .u64)]⟩
def sx0_st_big_right_2 : StSh := ⟨[.any, .any, .any, .any, .any, .any, .any, .any, .int .u64, .any, .any, .slw 0, .any, .any, .any, .any, .any, .any, .any, .any, .any, .any, .any, .any, .any, .any, .any, .any, .any, .any, .any, .any, .any, .any, .any, .any, .any, .any, .any, .any, .any, .any, .any, .any, .any, .any, .any, .any, .any, .any, .any, .any, .any, .any, .any, .any, .any, .any, .any, .any, .any, .any, .any, .any, .any, .any, .any, .any, .any, .any, .any, .any, .any, .any, .any, .any, .any, .any, .any, .any, .any, .any], [some (41, 1, .ints .u64)]⟩
def hk_st_big_right_2 (N_ : Nat) (S_q17 : TS_q17) (S_q1 : TS_q1) : List Atom -> K -> Bool := fun a_ κ => match a_ with
  | [.ints x_2, .int words_1, .int rest_1, .int lost_2, .int t53, .int t54, .ints z] => iterG N_ (st_big_right_2 N_ S_q17 S_q1 x_2 words_1 rest_1 lost_2 t53 (fun r1 => κ.ext 2 (sx0_st_big_right_2.build [.int lost_2, .ints r1]))) (t54, z)
  | _ => false
def an_q144 (N_ : Nat) (S_q17 : TS_q17) (S_q1 : TS_q1) : Nat -> Option Ann := fun b_ => cond (b_ == 0) (some ⟨⟨[0, 6, 7, 8, 37, 38, 39], [], []⟩, [(0, ⟨[0, 6, 7, 8], [], []⟩)], some ⟨[4, 5], [], []⟩, some (mkHooks [(sh_st_big_right_0, hk_st_big_right_0 N_ S_q17 S_q1)])⟩) (cond (b_ == 2) (some ⟨⟨[0, 6, 7, 8, 11, 53, 54], [], []⟩, [(2, ⟨[8, 11], [], []⟩)], some ⟨[4, 5], [], []⟩, some (mkHooks [(sh_st_big_right_2, hk_st_big_right_2 N_ S_q17 S_q1)])⟩) (none))
theorem eq_st_big_right_0 (N_ : Nat) (S_q17 : TS_q17) (S_q1 : TS_q1) (κ : K) (x_1 : List Int) (words : Int) (rest : Int) (lost : Int) (t37 : List Int) (t38 : Int) (t39 : Int) : iter N_ (fun s k => codeV ⟨Pg, ofList [(205, (F_q17 S_q17)), (202, (F_q1 S_q1))], isref, N_⟩ 0 (an_q144 N_ S_q17 S_q1) (lp Pg 200 0).2 (lp Pg 200 0).1 s (roundK Pg 0 ((an_q144 N_ S_q17 S_q1) (lp Pg 200 0).1) κ k)) (sh_st_big_right_0.build [.ints x_1, .int words, .int rest, .int lost, .ints t37, .int t38, .int t39]) = iterG N_ (st_big_right_0 N_ S_q17 S_q1 x_1 words rest t37 t38 (fun r3 => κ.ext 0 (sx0_st_big_right_0.build [.ints x_1, .int words, .int rest, .int r3]))) (lost, t39) :=
  iter_tr (fun (v_ : Int × Int) => sh_st_big_right_0.build [.ints x_1, .int words, .int rest, .int v_.1, .ints t37, .int t38, .int v_.2]) (fun v_ K_ => by obtain ⟨lost, t39⟩ := v_; kernel_rfl) N_ (lost, t39)
theorem hk1_st_big_right_0 (N_ : Nat) (S_q17 : TS_q17) (S_q1 : TS_q1) : HookFor ⟨Pg, ofList [(205, (F_q17 S_q17)), (202, (F_q1 S_q1))], isref, N_⟩ 0 (an_q144 N_ S_q17 S_q1) (lp Pg 200 0) (sh_st_big_right_0, hk_st_big_right_0 N_ S_q17 S_q1) := by
  intro a κ h
  simp only at h
  unfold hk_st_big_right_0 at h
  split at h
  · exact (eq_st_big_right_0 _ _ _ _ _ _ _ _ _ _ _).trans h
  · cases h
theorem eq_st_big_right_2 (N_ : Nat) (S_q17 : TS_q17) (S_q1 : TS_q1) (κ : K) (x_2 : List Int) (words_1 : Int) (rest_1 : Int) (lost_2 : Int) (t53 : Int) (t54 : Int) (z : List Int) : iter N_ (fun s k => codeV ⟨Pg, ofList [(205, (F_q17 S_q17)), (202, (F_q1 S_q1))], isref, N_⟩ 0 (an_q144 N_ S_q17 S_q1) (lp Pg 200 1).2 (lp Pg 200 1).1 s (roundK Pg 0 ((an_q144 N_ S_q17 S_q1) (lp Pg 200 1).1) κ k)) (sh_st_big_right_2.build [.ints x_2, .int words_1, .int rest_1, .int lost_2, .int t53, .int t54, .ints z]) = iterG N_ (st_big_right_2 N_ S_q17 S_q1 x_2 words_1 rest_1 lost_2 t53 (fun r1 => κ.ext 2 (sx0_st_big_right_2.build [.int lost_2, .ints r1]))) (t54, z) :=
  iter_tr (fun (v_ : Int × List Int) => sh_st_big_right_2.build [.ints x_2, .int words_1, .int rest_1, .int lost_2, .int t53, .int v_.1, .ints v_.2]) (fun v_ K_ => by obtain ⟨t54, z⟩ := v_; kernel_rfl) N_ (t54, z)
theorem hk1_st_big_right_2 (N_ : Nat) (S_q17 : TS_q17) (S_q1 : TS_q1) : HookFor ⟨Pg, ofList [(205, (F_q17 S_q17)), (202, (F_q1 S_q1))], isref, N_⟩ 0 (an_q144 N_ S_q17 S_q1) (lp Pg 200 1) (sh_st_big_right_2, hk_st_big_right_2 N_ S_q17 S_q1) := by
  intro a κ h
  simp only at h
  unfold hk_st_big_right_2 at h
  split at h
  · exact (eq_st_big_right_2 _ _ _ _ _ _ _ _ _ _ _).trans h
  · cases h
theorem ho_big_right_0 (N_ : Nat) (S_q17 : TS_q17) (S_q1 : TS_q1) : HookOk ⟨Pg, ofList [(205, (F_q17 S_q17)), (202, (F_q1 S_q1))], isref, N_⟩ 0 (an_q144 N_ S_q17 S_q1) (lp Pg 200 0) :=
  hooks_ok [(sh_st_big_right_0, hk_st_big_right_0 N_ S_q17 S_q1)] (by kernel_rfl) ⟨hk1_st_big_right_0 _ _ _, trivial⟩
theorem ho_big_right_2 (N_ : Nat) (S_q17 : TS_q17) (S_q1 : TS_q1) : HookOk ⟨Pg, ofList [(205, (F_q17 S_q17)), (202, (F_q1 S_q1))], isref, N_⟩ 0 (an_q144 N_ S_q17 S_q1) (lp Pg 200 1) :=
  hooks_ok [(sh_st_big_right_2, hk_st_big_right_2 N_ S_q17 S_q1)] (by kernel_rfl) ⟨hk1_st_big_right_2 _ _ _, trivial⟩
theorem eq_q144 (N_ : Nat) (S_q17 : TS_q17) (S_q1 : TS_q1) (x : List Int) (n : Int) (c_ : V -> List Blk -> Bool) : bodyZ ⟨Pg, ofList [(205, (F_q17 S_q17)), (202, (F_q1 S_q1))], isref, N_⟩ (an_q144 N_ S_q17 S_q1) 200 (shF_q144.args [.ints x, .int n]) [] c_ = G_q144 N_ S_q17 S_q1 x n (fun r0 r1 => c_ (.tup [.roi .u64 r0, .bool r1]) []) := by kernel_rfl
theorem good_q144 (N_ : Nat) (S_q17 : TS_q17) (S_q1 : TS_q1) (h_q17 : GoodF Pg 205 (F_q17 S_q17)) (h_q1 : GoodF Pg 202 (F_q1 S_q1)) : GoodF Pg 200 (F_q144 (G_q144 N_ S_q17 S_q1)) := by
  refine good_fsZ (cx := ⟨Pg, ofList [(205, (F_q17 S_q17)), (202, (F_q1 S_q1))], isref, N_⟩) (ofList_cons h_q17 (ofList_cons h_q1 (ofList_nil _))) shF_q144 (sp_q144 (G_q144 N_ S_q17 S_q1)) (an_q144 N_ S_q17 S_q1) 2 0 (by kernel_rfl) (fun i_ hi_ => by
    match i_, hi_ with
    | 0, _ => exact ho_big_right_0 _ _ _
    | 1, _ => exact ho_big_right_2 _ _ _
    | (q + 2), h => omega) ?_
  intro a k h
  unfold sp_q144 at h
  split at h
  · exact ⟨[], rfl, rfl, (eq_q144 _ _ _ _ _ _).trans h⟩
  · cases h

end Go.Proofs.YtccocdgimamdhaaGreatDoor
