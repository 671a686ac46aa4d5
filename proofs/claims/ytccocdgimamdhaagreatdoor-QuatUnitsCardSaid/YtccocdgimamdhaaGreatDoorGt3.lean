/-
  THE TIES: each printed meaning is what the program does (written by program).
  Conditions: none.
-/
import Derived.Test.YtccocdgimamdhaaGreatDoorGs
namespace Go.Proofs.YtccocdgimamdhaaGreatDoor
open Go Go.Mach Go.Proofs
set_option linter.unusedVariables false
set_option maxRecDepth 50000

def anj110 (N : Nat) (Sj179 : TSj179) (Sj103 : TSj103) (Sj169 : TSj169) (Sj174 : TSj174) (Sj143 : TSj143) : Nat -> Option Ann := fun b_ => none
theorem eqj110 (N : Nat) (Sj179 : TSj179) (Sj103 : TSj103) (Sj169 : TSj169) (Sj174 : TSj174) (Sj143 : TSj143) (n_0 : Int) (n_1 : Bool) (n_2 : Int) (b : Bool) (b_1 : List Int) (c_ : V -> List Blk -> Bool) : bodyV ⟨Pg, ofList [(184, (Fj179 Sj179)), (185, (Fj103 Sj103)), (186, (Fj169 Sj169)), (187, (Fj174 Sj174)), (188, (Fj143 Sj143))], isref, N⟩ (anj110 N Sj179 Sj103 Sj169 Sj174 Sj143) 156 (shFj110.args [.int n_0, .bool n_1, .int n_2, .bool b, .ints b_1]) [⟨105, 1, .cells [.bool b, .roi .u32 b_1]⟩] c_ = Gj110 N Sj179 Sj103 Sj169 Sj174 Sj143 n_0 n_1 n_2 b b_1 (fun r0 r1 => c_ (.tup [.int .u64 r0, .int .i64 r1]) [⟨105, 1, .cells [.bool b, .roi .u32 b_1]⟩]) := by kernel_rfl
theorem goodj110 (N : Nat) (Sj179 : TSj179) (Sj103 : TSj103) (Sj169 : TSj169) (Sj174 : TSj174) (Sj143 : TSj143) (hj179 : GoodF Pg 184 (Fj179 Sj179)) (hj103 : GoodF Pg 185 (Fj103 Sj103)) (hj169 : GoodF Pg 186 (Fj169 Sj169)) (hj174 : GoodF Pg 187 (Fj174 Sj174)) (hj143 : GoodF Pg 188 (Fj143 Sj143)) : GoodF Pg 156 (Fj110 (Gj110 N Sj179 Sj103 Sj169 Sj174 Sj143)) := by
  refine good_fs (cx := ⟨Pg, ofList [(184, (Fj179 Sj179)), (185, (Fj103 Sj103)), (186, (Fj169 Sj169)), (187, (Fj174 Sj174)), (188, (Fj143 Sj143))], isref, N⟩) (ofList_cons hj179 (ofList_cons hj103 (ofList_cons hj169 (ofList_cons hj174 (ofList_cons hj143 (ofList_nil _)))))) shFj110 (spj110 (Gj110 N Sj179 Sj103 Sj169 Sj174 Sj143)) (anj110 N Sj179 Sj103 Sj169 Sj174 Sj143) 0 1 (by kernel_rfl) (fun i_ hi_ => by omega) ?_
  intro a k h
  unfold spj110 at h
  split at h
  · exact ⟨[_], rfl, rfl, (eqj110 _ _ _ _ _ _ _ _ _ _ _ _).trans h⟩
  · cases h

def anj149 (N : Nat) (Sj120 : TSj120) (Sj100 : TSj100) (Sj156 : TSj156) (Sj167 : TSj167) (Sj110 : TSj110) : Nat -> Option Ann := fun b_ => none
def lsj207 (d_ : List V) (u_ : List (Option Blk)) (x k_ : Int) (b0_1 : Bool) (b0_2 : List Int) (n : Int) (n_1 : Bool) (n_2 : Int) : St := ⟨((dq d_ 0) :: ((dq d_ 1) :: (.int .i64 0 :: (dqs d_ 2 6 (.ptr 1 0 :: (dqs d_ 8 27 [])))))), [some ⟨105, 1, .cells [.bool b0_1, .roi .u32 b0_2]⟩, some ⟨190, 1, .cells [.int .i64 n, .bool n_1, .ptr 0 0, .int .i64 n_2]⟩]⟩
def lsj239 (d_ : List V) (u_ : List (Option Blk)) (x k_ : Int) (b0 : Bool) : St := ⟨((dq d_ 0) :: ((dq d_ 1) :: (.int .i64 0 :: (dqs d_ 2 6 (.ptr 1 0 :: (dqs d_ 8 27 [])))))), [some ⟨105, 1, .cells [.bool b0, .nil]⟩, some ⟨190, 1, .cells [.int .i64 2, .bool false, .ptr 0 0, .int .i64 0]⟩]⟩
theorem jnj207 (N : Nat) (Sj120 : TSj120) (Sj100 : TSj100) (Sj156 : TSj156) (Sj167 : TSj167) (Sj110 : TSj110) (d_ : List V) (u_ : List (Option Blk)) (x k_ : Int) (b0_1 : Bool) (b0_2 : List Int) (n : Int) (n_1 : Bool) (n_2 : Int) (c_ : V -> List Blk -> Bool) : codesV ⟨Pg, ofList [(153, (Fj120 Sj120)), (154, (Fj100 Sj100)), (155, (Fj156 Sj156)), (156, (orFs (Fj110 Sj110) (Fj167 Sj167) shFj110))], isref, N⟩ 0 (anj149 N Sj120 Sj100 Sj156 Sj167 Sj110) ((cds Pg 123).drop 6) 0 (lsj207 d_ u_ x k_ b0_1 b0_2 n n_1 n_2) (finV Pg 123 0 c_) = Jj207 N Sj120 Sj100 Sj156 Sj167 Sj110 x k_ b0_1 b0_2 n n_1 n_2 (fun r0 r1 r2 => c_ (.tup [.int .u64 r0, .int .i64 r1, .int .i64 r2]) []) := by kernel_rfl
theorem jnj239 (N : Nat) (Sj120 : TSj120) (Sj100 : TSj100) (Sj156 : TSj156) (Sj167 : TSj167) (Sj110 : TSj110) (d_ : List V) (u_ : List (Option Blk)) (x k_ : Int) (b0 : Bool) (c_ : V -> List Blk -> Bool) : codesV ⟨Pg, ofList [(153, (Fj120 Sj120)), (154, (Fj100 Sj100)), (155, (Fj156 Sj156)), (156, (orFs (Fj110 Sj110) (Fj167 Sj167) shFj110))], isref, N⟩ 0 (anj149 N Sj120 Sj100 Sj156 Sj167 Sj110) ((cds Pg 123).drop 6) 0 (lsj239 d_ u_ x k_ b0) (finV Pg 123 0 c_) = Jj239 N Sj120 Sj100 Sj156 Sj167 Sj110 x k_ b0 (fun r0 r1 r2 => c_ (.tup [.int .u64 r0, .int .i64 r1, .int .i64 r2]) []) := by kernel_rfl
theorem hd_z02_Scale_w (N : Nat) (Sj120 : TSj120) (Sj100 : TSj100) (Sj156 : TSj156) (Sj167 : TSj167) (Sj110 : TSj110) (x k_ : Int) (c_ : V -> List Blk -> Bool) (κn_ : St -> Bool) : codesV ⟨Pg, ofList [(153, (Fj120 Sj120)), (154, (Fj100 Sj100)), (155, (Fj156 Sj156)), (156, (orFs (Fj110 Sj110) (Fj167 Sj167) shFj110))], isref, N⟩ 0 (anj149 N Sj120 Sj100 Sj156 Sj167 Sj110) (sg Pg 123 0 6) 0 (st0 Pg 123 (shFj149.args [.int x, .int k_]) []) { (finV Pg 123 0 c_) with nrm := κn_ } = (Sj120 (Sj100 (Sj156 x (fun cr => (κn_ (lsj239 [.int .u64 x, .int .i64 k_, .any, .any, .any, .int .u64 0, .int .i64 0, .int .i64 0, .any, .any, .int .i64 0, .bool true, .bool false, .agg [.int .i64 53, .int .i64 (-1022), .int .i64 1023, .int .i64 11], .int .u64 x, .agg [.int .i64 2, .bool false, .ptr 0 0, .int .i64 0], .ptr 1 0, .int .i64 2, .bool false, .any, .any, .any, .any, .any, .any, .any, .any, .any, .any, .any, .any, .any, .any, .any, .any] [] x k_ cr))) (fun cr_1 cr_2 nsr => (κn_ (lsj207 [.int .u64 x, .int .i64 k_, .any, .any, .any, .int .u64 0, .int .i64 0, .int .i64 0, .any, .any, .int .i64 0, .bool true, .bool false, .agg [.int .i64 53, .int .i64 (-1022), .int .i64 1023, .int .i64 11], .int .u64 x, .agg [.int .i64 1, .bool cr_1, .ptr 0 0, .int .i64 (-1074)], .ptr 1 0, .int .i64 1, .bool false, .any, .any, .any, .any, .any, .any, .any, .any, .any, .any, .any, .any, .any, .any, .any, .any] [] x k_ cr_2 nsr 1 cr_1 (-1074)))) (fun cr_3 nr cr_4 nsr_1 => ((fits .i64 (nr + (imm true (-5000) (imm false k_ 5000)))) && (κn_ (lsj207 [.int .u64 x, .int .i64 k_, .any, .any, .any, .int .u64 0, .int .i64 0, .int .i64 0, .any, .any, .int .i64 0, .bool true, .bool false, .agg [.int .i64 53, .int .i64 (-1022), .int .i64 1023, .int .i64 11], .int .u64 x, .agg [.int .i64 0, .bool cr_3, .ptr 0 0, .int .i64 nr], .ptr 1 0, .int .i64 0, .bool true, .ptr 1 3, .int .i64 nr, .int .i64 k_, .int .i64 (imm false k_ 5000), .int .i64 (imm true (-5000) (imm false k_ 5000)), .int .i64 (nr + (imm true (-5000) (imm false k_ 5000))), .ptr 1 3, .any, .any, .any, .any, .any, .any, .any, .any, .any] [] x k_ cr_4 nsr_1 0 cr_3 (nr + (imm true (-5000) (imm false k_ 5000))))))) (fun cr_5 cr_6 nsr_2 => ((fits .i64 ((-1074) + (imm true (-5000) (imm false k_ 5000)))) && (κn_ (lsj207 [.int .u64 x, .int .i64 k_, .any, .any, .any, .int .u64 0, .int .i64 0, .int .i64 0, .any, .any, .int .i64 0, .bool true, .bool false, .agg [.int .i64 53, .int .i64 (-1022), .int .i64 1023, .int .i64 11], .int .u64 x, .agg [.int .i64 0, .bool cr_5, .ptr 0 0, .int .i64 (-1074)], .ptr 1 0, .int .i64 0, .bool true, .ptr 1 3, .int .i64 (-1074), .int .i64 k_, .int .i64 (imm false k_ 5000), .int .i64 (imm true (-5000) (imm false k_ 5000)), .int .i64 ((-1074) + (imm true (-5000) (imm false k_ 5000))), .ptr 1 3, .any, .any, .any, .any, .any, .any, .any, .any, .any] [] x k_ cr_6 nsr_2 0 cr_5 ((-1074) + (imm true (-5000) (imm false k_ 5000)))))))))) := by kernel_rfl
theorem jn_z02_Scale_w (N : Nat) (Sj120 : TSj120) (Sj100 : TSj100) (Sj156 : TSj156) (Sj167 : TSj167) (Sj110 : TSj110) (x k_ : Int) (c_ : V -> List Blk -> Bool) : codesV ⟨Pg, ofList [(153, (Fj120 Sj120)), (154, (Fj100 Sj100)), (155, (Fj156 Sj156)), (156, (orFs (Fj110 Sj110) (Fj167 Sj167) shFj110))], isref, N⟩ 0 (anj149 N Sj120 Sj100 Sj156 Sj167 Sj110) ((cds Pg 123).drop 0) 0 (st0 Pg 123 (shFj149.args [.int x, .int k_]) []) (finV Pg 123 0 c_) = Gj149 N Sj120 Sj100 Sj156 Sj167 Sj110 x k_ (fun r0 r1 r2 => c_ (.tup [.int .u64 r0, .int .i64 r1, .int .i64 r2]) []) := by
  rw [codesV_cut 0 6 6 rfl]
  refine (hd_z02_Scale_w N Sj120 Sj100 Sj156 Sj167 Sj110 x k_ c_ _).trans ?_
  simp only [jnj239, jnj207]
  kernel_rfl
theorem eqj149 (N : Nat) (Sj120 : TSj120) (Sj100 : TSj100) (Sj156 : TSj156) (Sj167 : TSj167) (Sj110 : TSj110) (x k_ : Int) (c_ : V -> List Blk -> Bool) : bodyV ⟨Pg, ofList [(153, (Fj120 Sj120)), (154, (Fj100 Sj100)), (155, (Fj156 Sj156)), (156, (orFs (Fj110 Sj110) (Fj167 Sj167) shFj110))], isref, N⟩ (anj149 N Sj120 Sj100 Sj156 Sj167 Sj110) 123 (shFj149.args [.int x, .int k_]) [] c_ = Gj149 N Sj120 Sj100 Sj156 Sj167 Sj110 x k_ (fun r0 r1 r2 => c_ (.tup [.int .u64 r0, .int .i64 r1, .int .i64 r2]) []) :=
  (bodyV_codes (by kernel_rfl)).trans (jn_z02_Scale_w N Sj120 Sj100 Sj156 Sj167 Sj110 x k_ c_)
theorem goodj149 (N : Nat) (Sj120 : TSj120) (Sj100 : TSj100) (Sj156 : TSj156) (Sj167 : TSj167) (Sj110 : TSj110) (hj120 : GoodF Pg 153 (Fj120 Sj120)) (hj100 : GoodF Pg 154 (Fj100 Sj100)) (hj156 : GoodF Pg 155 (Fj156 Sj156)) (hj167 : GoodF Pg 156 (Fj167 Sj167)) (hj110 : GoodF Pg 156 (Fj110 Sj110)) : GoodF Pg 123 (Fj149 (Gj149 N Sj120 Sj100 Sj156 Sj167 Sj110)) := by
  refine good_fs (cx := ⟨Pg, ofList [(153, (Fj120 Sj120)), (154, (Fj100 Sj100)), (155, (Fj156 Sj156)), (156, (orFs (Fj110 Sj110) (Fj167 Sj167) shFj110))], isref, N⟩) (ofList_cons hj120 (ofList_cons hj100 (ofList_cons hj156 (ofList_cons (good_or hj110 hj167) (ofList_nil _))))) shFj149 (spj149 (Gj149 N Sj120 Sj100 Sj156 Sj167 Sj110)) (anj149 N Sj120 Sj100 Sj156 Sj167 Sj110) 0 0 (by kernel_rfl) (fun i_ hi_ => by omega) ?_
  intro a k h
  unfold spj149 at h
  split at h
  · exact ⟨[], rfl, rfl, (eqj149 _ _ _ _ _ _ _ _ _).trans h⟩
  · cases h

def anj151 (N : Nat) (Sj106 : TSj106) (Sj149 : TSj149) (Sj97 : TSj97) : Nat -> Option Ann := fun b_ => none
theorem eqj151 (N : Nat) (Sj106 : TSj106) (Sj149 : TSj149) (Sj97 : TSj97) (x : Fl) (k_ : Int) (c_ : V -> List Blk -> Bool) : bodyV ⟨Pg, ofList [(88, (Fj106 Sj106)), (123, (Fj149 Sj149)), (100, (Fj97 Sj97))], isref, N⟩ (anj151 N Sj106 Sj149 Sj97) 77 (shFj151.args [.fl x, .int k_]) [] c_ = Gj151 N Sj106 Sj149 Sj97 x k_ (fun r0 => c_ (.flt r0) []) := by kernel_rfl
theorem goodj151 (N : Nat) (Sj106 : TSj106) (Sj149 : TSj149) (Sj97 : TSj97) (hj106 : GoodF Pg 88 (Fj106 Sj106)) (hj149 : GoodF Pg 123 (Fj149 Sj149)) (hj97 : GoodF Pg 100 (Fj97 Sj97)) : GoodF Pg 77 (Fj151 (Gj151 N Sj106 Sj149 Sj97)) := by
  refine good_fs (cx := ⟨Pg, ofList [(88, (Fj106 Sj106)), (123, (Fj149 Sj149)), (100, (Fj97 Sj97))], isref, N⟩) (ofList_cons hj106 (ofList_cons hj149 (ofList_cons hj97 (ofList_nil _)))) shFj151 (spj151 (Gj151 N Sj106 Sj149 Sj97)) (anj151 N Sj106 Sj149 Sj97) 0 0 (by kernel_rfl) (fun i_ hi_ => by omega) ?_
  intro a k h
  unfold spj151 at h
  split at h
  · exact ⟨[], rfl, rfl, (eqj151 _ _ _ _ _ _ _).trans h⟩
  · cases h

def anj197 (N : Nat) : Nat -> Option Ann := fun b_ => none
theorem eqj197 (N : Nat) (l : List Fl) (c_ : V -> List Blk -> Bool) : bodyV ⟨Pg, ofList [], isref, N⟩ (anj197 N) 78 (shFj197.args [.fls l]) [] c_ = Gj197 N l (fun r0 r1 r2 r3 => c_ (.agg [.flt r0, .flt r1, .flt r2, .flt r3]) []) := by kernel_rfl
theorem goodj197 (N : Nat) : GoodF Pg 78 (Fj197 (Gj197 N)) := by
  refine good_fs (cx := ⟨Pg, ofList [], isref, N⟩) (ofList_nil _) shFj197 (spj197 (Gj197 N)) (anj197 N) 0 0 (by kernel_rfl) (fun i_ hi_ => by omega) ?_
  intro a k h
  unfold spj197 at h
  split at h
  · exact ⟨[], rfl, rfl, (eqj197 _ _ _).trans h⟩
  · cases h

def anj129 (N : Nat) (Sj44 : TSj44) (Sj64 : TSj64) (Sj117 : TSj117) (Sj155 : TSj155) (Sj151 : TSj151) (Sj190 : TSj190) (Sj197 : TSj197) : Nat -> Option Ann := fun b_ => none
theorem eqj129 (N : Nat) (Sj44 : TSj44) (Sj64 : TSj64) (Sj117 : TSj117) (Sj155 : TSj155) (Sj151 : TSj151) (Sj190 : TSj190) (Sj197 : TSj197) (q_0 q_1 q_2 q_3 : Fl) (c_ : V -> List Blk -> Bool) : bodyV ⟨Pg, ofList [(75, (Fj44 Sj44)), (74, (Fj64 Sj64)), (60, (Fj117 Sj117)), (76, (Fj155 Sj155)), (77, (Fj151 Sj151)), (72, (Fj190 Sj190)), (78, (Fj197 Sj197))], isref, (N + 24)⟩ (anj129 (N + 24) Sj44 Sj64 Sj117 Sj155 Sj151 Sj190 Sj197) 19 (shFj129.args [.fl q_0, .fl q_1, .fl q_2, .fl q_3]) [] c_ = Gj129 (N + 24) Sj44 Sj64 Sj117 Sj155 Sj151 Sj190 Sj197 q_0 q_1 q_2 q_3 (fun r0 r1 r2 r3 r4 => c_ (.tup [.agg [.flt r0, .flt r1, .flt r2, .flt r3], .int .i64 r4]) []) := by kernel_rfl
theorem goodj129 (N : Nat) (Sj44 : TSj44) (Sj64 : TSj64) (Sj117 : TSj117) (Sj155 : TSj155) (Sj151 : TSj151) (Sj190 : TSj190) (Sj197 : TSj197) (hj44 : GoodF Pg 75 (Fj44 Sj44)) (hj64 : GoodF Pg 74 (Fj64 Sj64)) (hj117 : GoodF Pg 60 (Fj117 Sj117)) (hj155 : GoodF Pg 76 (Fj155 Sj155)) (hj151 : GoodF Pg 77 (Fj151 Sj151)) (hj190 : GoodF Pg 72 (Fj190 Sj190)) (hj197 : GoodF Pg 78 (Fj197 Sj197)) : GoodF Pg 19 (Fj129 (Gj129 (N + 24) Sj44 Sj64 Sj117 Sj155 Sj151 Sj190 Sj197)) := by
  refine good_fs (cx := ⟨Pg, ofList [(75, (Fj44 Sj44)), (74, (Fj64 Sj64)), (60, (Fj117 Sj117)), (76, (Fj155 Sj155)), (77, (Fj151 Sj151)), (72, (Fj190 Sj190)), (78, (Fj197 Sj197))], isref, (N + 24)⟩) (ofList_cons hj44 (ofList_cons hj64 (ofList_cons hj117 (ofList_cons hj155 (ofList_cons hj151 (ofList_cons hj190 (ofList_cons hj197 (ofList_nil _)))))))) shFj129 (spj129 (Gj129 (N + 24) Sj44 Sj64 Sj117 Sj155 Sj151 Sj190 Sj197)) (anj129 (N + 24) Sj44 Sj64 Sj117 Sj155 Sj151 Sj190 Sj197) 2 0 (by kernel_rfl) (fun i_ hi_ => by
    match i_, hi_ with
    | 0, _ => exact (fun hk e => by rw [show hookOf ((anj129 (N + 24) Sj44 Sj64 Sj117 Sj155 Sj151 Sj190 Sj197) (lp Pg 19 0).1) = none from by kernel_rfl] at e; cases e)
    | 1, _ => exact (fun hk e => by rw [show hookOf ((anj129 (N + 24) Sj44 Sj64 Sj117 Sj155 Sj151 Sj190 Sj197) (lp Pg 19 1).1) = none from by kernel_rfl] at e; cases e)
    | (q + 2), h => omega) ?_
  intro a k h
  unfold spj129 at h
  split at h
  · exact ⟨[], rfl, rfl, (eqj129 _ _ _ _ _ _ _ _ _ _ _ _ _).trans h⟩
  · cases h

def anj28 (N : Nat) (Sj106 : TSj106) (Sj144 : TSj144) : Nat -> Option Ann := fun b_ => none
theorem eqj28 (N : Nat) (Sj106 : TSj106) (Sj144 : TSj144) (a b : Fl) (c_ : V -> List Blk -> Bool) : bodyV ⟨Pg, ofList [(88, (Fj106 Sj106)), (89, (Fj144 Sj144))], isref, N⟩ (anj28 N Sj106 Sj144) 29 (shFj28.args [.fl a, .fl b]) [] c_ = Gj28 N Sj106 Sj144 a b (fun r0 => c_ (.bool r0) []) := by kernel_rfl
theorem goodj28 (N : Nat) (Sj106 : TSj106) (Sj144 : TSj144) (hj106 : GoodF Pg 88 (Fj106 Sj106)) (hj144 : GoodF Pg 89 (Fj144 Sj144)) : GoodF Pg 29 (Fj28 (Gj28 N Sj106 Sj144)) := by
  refine good_fs (cx := ⟨Pg, ofList [(88, (Fj106 Sj106)), (89, (Fj144 Sj144))], isref, N⟩) (ofList_cons hj106 (ofList_cons hj144 (ofList_nil _))) shFj28 (spj28 (Gj28 N Sj106 Sj144)) (anj28 N Sj106 Sj144) 0 0 (by kernel_rfl) (fun i_ hi_ => by omega) ?_
  intro a k h
  unfold spj28 at h
  split at h
  · exact ⟨[], rfl, rfl, (eqj28 _ _ _ _ _ _).trans h⟩
  · cases h

def anj52 (N : Nat) (Sj28 : TSj28) : Nat -> Option Ann := fun b_ => none
theorem eqj52 (N : Nat) (Sj28 : TSj28) (a_0 a_1 a_2 a_3 : Fl) (e : Int) (b_0 b_1 b_2 b_3 : Fl) (n : Int) (c_ : V -> List Blk -> Bool) : bodyV ⟨Pg, ofList [(29, (Fj28 Sj28))], isref, N⟩ (anj52 N Sj28) 20 (shFj52.args [.fl a_0, .fl a_1, .fl a_2, .fl a_3, .int e, .fl b_0, .fl b_1, .fl b_2, .fl b_3, .int n]) [] c_ = Gj52 N Sj28 a_0 a_1 a_2 a_3 e b_0 b_1 b_2 b_3 n (fun r0 => c_ (.bool r0) []) := by kernel_rfl
theorem goodj52 (N : Nat) (Sj28 : TSj28) (hj28 : GoodF Pg 29 (Fj28 Sj28)) : GoodF Pg 20 (Fj52 (Gj52 N Sj28)) := by
  refine good_fs (cx := ⟨Pg, ofList [(29, (Fj28 Sj28))], isref, N⟩) (ofList_cons hj28 (ofList_nil _)) shFj52 (spj52 (Gj52 N Sj28)) (anj52 N Sj28) 0 0 (by kernel_rfl) (fun i_ hi_ => by omega) ?_
  intro a k h
  unfold spj52 at h
  split at h
  · exact ⟨[], rfl, rfl, (eqj52 _ _ _ _ _ _ _ _ _ _ _ _ _).trans h⟩
  · cases h


def sh_st_anatomy_Finite_0 : StSh := ⟨(sqs 6 (.rof :: (.int .i64 :: (.int .i64 :: (sqs 12 []))))), []⟩
def sx0_st_anatomy_Finite_0 : StSh := ⟨(.any :: (.any :: (.bool :: (sqs 18 [])))), []⟩
def sx1_st_anatomy_Finite_0 : StSh := ⟨(sqs 21 []), []⟩
def hk_st_anatomy_Finite_0 (N : Nat) (Sj159 : TSj159) : List Atom -> K -> Bool := fun a_ κ => match a_ with
  | [.fls t6, .int t7, .int t8] => iterG N (st_an_Finite_0 N Sj159 t6 t7 (fun r0 => κ.ret (sx0_st_anatomy_Finite_0.build [.bool r0])) (κ.ext 0 (sx1_st_anatomy_Finite_0.build []))) t8
  | _ => false
def anj121 (N : Nat) (Sj159 : TSj159) : Nat -> Option Ann := fun b_ => cond (b_ == 0) (some ⟨⟨[6, 7, 8], [], []⟩, [(0, ⟨[], [], []⟩)], some ⟨[2], [], []⟩, some (mkHooks [(sh_st_anatomy_Finite_0, hk_st_anatomy_Finite_0 N Sj159)])⟩) (none)
theorem eq_st_anatomy_Finite_0 (N : Nat) (Sj159 : TSj159) (κ : K) (t6 : List Fl) (t7 t8 : Int) : iter N (fun s k => codeV ⟨Pg, ofList [(157, (Fj159 Sj159))], isref, N⟩ 0 (anj121 N Sj159) (lp Pg 124 0).2 (lp Pg 124 0).1 s (roundK Pg 0 ((anj121 N Sj159) (lp Pg 124 0).1) κ k)) (sh_st_anatomy_Finite_0.build [.fls t6, .int t7, .int t8]) = iterG N (st_an_Finite_0 N Sj159 t6 t7 (fun r0 => κ.ret (sx0_st_anatomy_Finite_0.build [.bool r0])) (κ.ext 0 (sx1_st_anatomy_Finite_0.build []))) t8 :=
  iter_tr (fun v_ => sh_st_anatomy_Finite_0.build [.fls t6, .int t7, .int v_]) (fun v_ K_ => by kernel_rfl) N t8
theorem hk1_st_anatomy_Finite_0 (N : Nat) (Sj159 : TSj159) : HookFor ⟨Pg, ofList [(157, (Fj159 Sj159))], isref, N⟩ 0 (anj121 N Sj159) (lp Pg 124 0) (sh_st_anatomy_Finite_0, hk_st_anatomy_Finite_0 N Sj159) := by
  intro a κ h
  simp only at h
  unfold hk_st_anatomy_Finite_0 at h
  split at h
  · exact (eq_st_anatomy_Finite_0 _ _ _ _ _ _).trans h
  · cases h
theorem ho_anatomy_Finite_0 (N : Nat) (Sj159 : TSj159) : HookOk ⟨Pg, ofList [(157, (Fj159 Sj159))], isref, N⟩ 0 (anj121 N Sj159) (lp Pg 124 0) :=
  hooks_ok [(sh_st_anatomy_Finite_0, hk_st_anatomy_Finite_0 N Sj159)] (by kernel_rfl) ⟨hk1_st_anatomy_Finite_0 _ _, trivial⟩
theorem eqj121 (N : Nat) (Sj159 : TSj159) (l : List Fl) (c_ : V -> List Blk -> Bool) : bodyV ⟨Pg, ofList [(157, (Fj159 Sj159))], isref, N⟩ (anj121 N Sj159) 124 (shFj121.args [.fls l]) [] c_ = Gj121 N Sj159 l (fun r0 => c_ (.bool r0) []) := by kernel_rfl
theorem goodj121 (N : Nat) (Sj159 : TSj159) (hj159 : GoodF Pg 157 (Fj159 Sj159)) : GoodF Pg 124 (Fj121 (Gj121 N Sj159)) := by
  refine good_fs (cx := ⟨Pg, ofList [(157, (Fj159 Sj159))], isref, N⟩) (ofList_cons hj159 (ofList_nil _)) shFj121 (spj121 (Gj121 N Sj159)) (anj121 N Sj159) 1 0 (by kernel_rfl) (fun i_ hi_ => by
    match i_, hi_ with
    | 0, _ => exact ho_anatomy_Finite_0 _ _
    | (q + 1), h => omega) ?_
  intro a k h
  unfold spj121 at h
  split at h
  · exact ⟨[], rfl, rfl, (eqj121 _ _ _ _).trans h⟩
  · cases h

def anj6 (N : Nat) : Nat -> Option Ann := fun b_ => none
theorem eqj6 (N : Nat) (x : Int) (c_ : V -> List Blk -> Bool) : bodyV ⟨Pg, ofList [], isref, N⟩ (anj6 N) 218 (shFj6.args [.int x]) [] c_ = Gj6 N x (fun r0 => c_ (.int .i64 r0) []) := by
  have key : ∀ L_ : Int, codesV ⟨Pg, ofList [], isref, N⟩ 0 (anj6 N) (((cds Pg 218).drop 0).map (subC 285870213051353865 L_)) 0 (st0 Pg 218 (shFj6.args [.int x]) []) (finV Pg 218 0 c_) = (fun (k0 : Int -> Bool) => (cond (x == 0) (k0 64) ((inR (Int.fdiv (IntKind.wrap .u64 ((bitsN .and .u64 x (IntKind.wrap .u64 (0 - x))) * L_)) (2 ^ 58)) 64) && ((fits .i64 (List.getD tab64 (Int.toNat (Int.fdiv (IntKind.wrap .u64 ((bitsN .and .u64 x (IntKind.wrap .u64 (0 - x))) * L_)) (2 ^ 58))) 0)) && (k0 (List.getD tab64 (Int.toNat (Int.fdiv (IntKind.wrap .u64 ((bitsN .and .u64 x (IntKind.wrap .u64 (0 - x))) * L_)) (2 ^ 58))) 0)))))) (fun r0 => c_ (.int .i64 r0) []) := fun L_ => by kernel_rfl
  have hc : (cds Pg 218).drop 0 = ((cds Pg 218).drop 0).map (subC 285870213051353865 285870213051353865) := by kernel_rfl
  refine (bodyV_codes (by kernel_rfl)).trans ?_
  rw [hc]
  exact key 285870213051353865
theorem goodj6 (N : Nat) : GoodF Pg 218 (Fj6 (Gj6 N)) := by
  refine good_fs (cx := ⟨Pg, ofList [], isref, N⟩) (ofList_nil _) shFj6 (spj6 (Gj6 N)) (anj6 N) 0 0 (by kernel_rfl) (fun i_ hi_ => by omega) ?_
  intro a k h
  unfold spj6 at h
  split at h
  · exact ⟨[], rfl, rfl, (eqj6 _ _ _).trans h⟩
  · cases h

def anj77 (N : Nat) (Sj30 : TSj30) (Sj29 : TSj29) (Sj81 : TSj81) (Sj6 : TSj6) : Nat -> Option Ann := fun b_ => none
def lsj195 (d_ : List V) (u_ : List (Option Blk)) (b f_0 f_1 f_2 : Int) (p : Bool) (p_1 p_2 : Int) : St := ⟨(dqs d_ 0 4 (.ptr 1 0 :: (dqs d_ 4 4 (.ptr 2 0 :: (dqs d_ 8 52 []))))), [(u_.getD 0 none), some ⟨108, 1, .cells [.bool false, .int .u64 0, .int .i64 0]⟩, some ⟨108, 1, .cells [.bool p, .int .u64 p_1, .int .i64 p_2]⟩]⟩
theorem jnj195 (N : Nat) (Sj30 : TSj30) (Sj29 : TSj29) (Sj81 : TSj81) (Sj6 : TSj6) (d_ : List V) (u_ : List (Option Blk)) (b f_0 f_1 f_2 : Int) (p : Bool) (p_1 p_2 : Int) (c_ : V -> List Blk -> Bool) : codesV ⟨Pg, ofList [(214, (Fj30 Sj30)), (189, (Fj29 Sj29)), (217, (Fj81 Sj81)), (218, (Fj6 Sj6))], isref, N⟩ 0 (anj77 N Sj30 Sj29 Sj81 Sj6) ((cds Pg 192).drop 5) 0 (lsj195 d_ u_ b f_0 f_1 f_2 p p_1 p_2) (finV Pg 192 0 c_) = Jj195 N Sj30 Sj29 Sj81 Sj6 b f_0 f_1 f_2 p p_1 p_2 (fun r0 r1 r2 r3 => c_ (.tup [.agg [.bool r0, .int .u64 r1, .int .i64 r2], .int .i64 r3]) []) := by kernel_rfl
theorem hd_an_parts_uint64__w (N : Nat) (Sj30 : TSj30) (Sj29 : TSj29) (Sj81 : TSj81) (Sj6 : TSj6) (b f_0 f_1 f_2 : Int) (c_ : V -> List Blk -> Bool) (κn_ : St -> Bool) : codesV ⟨Pg, ofList [(214, (Fj30 Sj30)), (189, (Fj29 Sj29)), (217, (Fj81 Sj81)), (218, (Fj6 Sj6))], isref, N⟩ 0 (anj77 N Sj30 Sj29 Sj81 Sj6) (sg Pg 192 0 5) 0 (st0 Pg 192 (shFj77.args [.int b, .int f_0, .int f_1, .int f_2]) []) { (finV Pg 192 0 c_) with nrm := κn_ } = (Sj30 b f_0 f_1 f_2 (fun cr nr nr_1 => ((fits .i64 (nr - f_2)) && (Sj29 b f_0 f_1 f_2 (fun nr_2 => (cond (nr_2 == 1) (c_ (.tup [.agg [.bool false, .int .u64 0, .int .i64 0], .int .i64 4]) []) (cond (nr_2 == 2) (c_ (.tup [.agg [.bool false, .int .u64 0, .int .i64 0], .int .i64 4]) []) (cond (nr_2 == 3) (c_ (.tup [.agg [.bool cr, .int .u64 0, .int .i64 0], .int .i64 0]) []) (cond (nr_2 == 4) ((fits .i64 ((nr - f_2) + 1)) && (κn_ (lsj195 [.int .u64 b, .agg [.int .u64 f_0, .int .i64 f_1, .int .i64 f_2], .any, .ptr 0 0, .int .i64 0, .bool cr, .int .i64 nr, .int .u64 nr_1, .any, .tup [.bool cr, .int .i64 nr, .int .u64 nr_1], .int .u64 b, .agg [.int .u64 f_0, .int .i64 f_1, .int .i64 f_2], .tup [.bool cr, .int .i64 nr, .int .u64 nr_1], .bool cr, .int .i64 nr, .int .u64 nr_1, .bool cr, .int .u64 nr_1, .int .i64 nr, .ptr 0 2, .int .i64 f_2, .int .i64 (nr - f_2), .agg [.bool cr, .int .u64 nr_1, .int .i64 (nr - f_2)], .int .u64 b, .agg [.int .u64 f_0, .int .i64 f_1, .int .i64 f_2], .int .i64 nr_2, .any, .any, .any, .any, .any, .any, .bool false, .bool (nr_2 == 1), .bool (nr_2 == 2), .any, .bool false, .bool (nr_2 == 3), .any, .any, .bool true, .bool (nr_2 == 4), .ptr 2 2, .int .i64 (nr - f_2), .int .i64 ((nr - f_2) + 1), .ptr 2 2, .any, .any, .any, .any, .any, .any, .any, .any, .any, .any, .any, .any, .any, .any] [some ⟨217, 1, .cells [.int .u64 f_0, .int .i64 f_1, .int .i64 f_2]⟩] b f_0 f_1 f_2 cr nr_1 ((nr - f_2) + 1)))) (Sj81 f_0 f_1 f_2 (fun nr_3 => (κn_ (lsj195 [.int .u64 b, .agg [.int .u64 f_0, .int .i64 f_1, .int .i64 f_2], .any, .ptr 0 0, .int .i64 0, .bool cr, .int .i64 nr, .int .u64 nr_1, .any, .tup [.bool cr, .int .i64 nr, .int .u64 nr_1], .int .u64 b, .agg [.int .u64 f_0, .int .i64 f_1, .int .i64 f_2], .tup [.bool cr, .int .i64 nr, .int .u64 nr_1], .bool cr, .int .i64 nr, .int .u64 nr_1, .bool cr, .int .u64 nr_1, .int .i64 nr, .ptr 0 2, .int .i64 f_2, .int .i64 (nr - f_2), .agg [.bool cr, .int .u64 nr_1, .int .i64 (nr - f_2)], .int .u64 b, .agg [.int .u64 f_0, .int .i64 f_1, .int .i64 f_2], .int .i64 nr_2, .ptr 2 1, .int .u64 nr_1, .agg [.int .u64 f_0, .int .i64 f_1, .int .i64 f_2], .int .u64 nr_3, .int .u64 (bitsN .or .u64 nr_1 nr_3), .ptr 2 1, .bool false, .bool (nr_2 == 1), .bool (nr_2 == 2), .any, .bool false, .bool (nr_2 == 3), .any, .any, .bool false, .bool (nr_2 == 4), .any, .any, .any, .any, .any, .any, .any, .any, .any, .any, .any, .any, .any, .any, .any, .any, .any, .any] [some ⟨217, 1, .cells [.int .u64 f_0, .int .i64 f_1, .int .i64 f_2]⟩] b f_0 f_1 f_2 cr (bitsN .or .u64 nr_1 nr_3) (nr - f_2)))))))))))))) := by kernel_rfl
theorem jn_an_parts_uint64__w (N : Nat) (Sj30 : TSj30) (Sj29 : TSj29) (Sj81 : TSj81) (Sj6 : TSj6) (b f_0 f_1 f_2 : Int) (c_ : V -> List Blk -> Bool) : codesV ⟨Pg, ofList [(214, (Fj30 Sj30)), (189, (Fj29 Sj29)), (217, (Fj81 Sj81)), (218, (Fj6 Sj6))], isref, N⟩ 0 (anj77 N Sj30 Sj29 Sj81 Sj6) ((cds Pg 192).drop 0) 0 (st0 Pg 192 (shFj77.args [.int b, .int f_0, .int f_1, .int f_2]) []) (finV Pg 192 0 c_) = Gj77 N Sj30 Sj29 Sj81 Sj6 b f_0 f_1 f_2 (fun r0 r1 r2 r3 => c_ (.tup [.agg [.bool r0, .int .u64 r1, .int .i64 r2], .int .i64 r3]) []) := by
  rw [codesV_cut 0 5 5 rfl]
  refine (hd_an_parts_uint64__w N Sj30 Sj29 Sj81 Sj6 b f_0 f_1 f_2 c_ _).trans ?_
  simp only [jnj195]
  kernel_rfl
theorem eqj77 (N : Nat) (Sj30 : TSj30) (Sj29 : TSj29) (Sj81 : TSj81) (Sj6 : TSj6) (b f_0 f_1 f_2 : Int) (c_ : V -> List Blk -> Bool) : bodyV ⟨Pg, ofList [(214, (Fj30 Sj30)), (189, (Fj29 Sj29)), (217, (Fj81 Sj81)), (218, (Fj6 Sj6))], isref, N⟩ (anj77 N Sj30 Sj29 Sj81 Sj6) 192 (shFj77.args [.int b, .int f_0, .int f_1, .int f_2]) [] c_ = Gj77 N Sj30 Sj29 Sj81 Sj6 b f_0 f_1 f_2 (fun r0 r1 r2 r3 => c_ (.tup [.agg [.bool r0, .int .u64 r1, .int .i64 r2], .int .i64 r3]) []) :=
  (bodyV_codes (by kernel_rfl)).trans (jn_an_parts_uint64__w N Sj30 Sj29 Sj81 Sj6 b f_0 f_1 f_2 c_)
theorem goodj77 (N : Nat) (Sj30 : TSj30) (Sj29 : TSj29) (Sj81 : TSj81) (Sj6 : TSj6) (hj30 : GoodF Pg 214 (Fj30 Sj30)) (hj29 : GoodF Pg 189 (Fj29 Sj29)) (hj81 : GoodF Pg 217 (Fj81 Sj81)) (hj6 : GoodF Pg 218 (Fj6 Sj6)) : GoodF Pg 192 (Fj77 (Gj77 N Sj30 Sj29 Sj81 Sj6)) := by
  refine good_fs (cx := ⟨Pg, ofList [(214, (Fj30 Sj30)), (189, (Fj29 Sj29)), (217, (Fj81 Sj81)), (218, (Fj6 Sj6))], isref, N⟩) (ofList_cons hj30 (ofList_cons hj29 (ofList_cons hj81 (ofList_cons hj6 (ofList_nil _))))) shFj77 (spj77 (Gj77 N Sj30 Sj29 Sj81 Sj6)) (anj77 N Sj30 Sj29 Sj81 Sj6) 0 0 (by kernel_rfl) (fun i_ hi_ => by omega) ?_
  intro a k h
  unfold spj77 at h
  split at h
  · exact ⟨[], rfl, rfl, (eqj77 _ _ _ _ _ _ _ _ _ _).trans h⟩
  · cases h

def anj181 (N : Nat) (Sj106 : TSj106) (S_an_of : TS_an_of) (Sj77 : TSj77) : Nat -> Option Ann := fun b_ => none
theorem eqj181 (N : Nat) (Sj106 : TSj106) (S_an_of : TS_an_of) (Sj77 : TSj77) (x : Fl) (c_ : V -> List Blk -> Bool) : bodyV ⟨Pg, ofList [(88, (Fj106 Sj106)), (190, (F_an_of S_an_of)), (192, (Fj77 Sj77))], isref, N⟩ (anj181 N Sj106 S_an_of Sj77) 160 (shFj181.args [.fl x]) [] c_ = Gj181 N Sj106 S_an_of Sj77 x (fun r0 r1 r2 r3 => c_ (.tup [.agg [.bool r0, .int .u64 r1, .int .i64 r2], .int .i64 r3]) []) := by kernel_rfl
theorem goodj181 (N : Nat) (Sj106 : TSj106) (S_an_of : TS_an_of) (Sj77 : TSj77) (hj106 : GoodF Pg 88 (Fj106 Sj106)) (h_an_of : GoodF Pg 190 (F_an_of S_an_of)) (hj77 : GoodF Pg 192 (Fj77 Sj77)) : GoodF Pg 160 (Fj181 (Gj181 N Sj106 S_an_of Sj77)) := by
  refine good_fs (cx := ⟨Pg, ofList [(88, (Fj106 Sj106)), (190, (F_an_of S_an_of)), (192, (Fj77 Sj77))], isref, N⟩) (ofList_cons hj106 (ofList_cons h_an_of (ofList_cons hj77 (ofList_nil _)))) shFj181 (spj181 (Gj181 N Sj106 S_an_of Sj77)) (anj181 N Sj106 S_an_of Sj77) 0 0 (by kernel_rfl) (fun i_ hi_ => by omega) ?_
  intro a k h
  unfold spj181 at h
  split at h
  · exact ⟨[], rfl, rfl, (eqj181 _ _ _ _ _ _).trans h⟩
  · cases h

def sh_st_big_norm_w_0 : StSh := ⟨(.slw 0 :: (.any :: (.any :: (.int .i64 :: (sqs 17 []))))), [some (41, 1, .ints .u64)]⟩
def sx0_st_big_norm_w_0 : StSh := ⟨(.slw 0 :: (.any :: (.any :: (.int .i64 :: (sqs 17 []))))), [some (41, 1, .ints .u64)]⟩
def hk_st_big_norm_w_0 (N : Nat) : List Atom -> K -> Bool := fun a_ κ => match a_ with
  | [.int n, .ints x] => iterG N (stj231 N x (fun r0 => κ.ext 0 (sx0_st_big_norm_w_0.build [.int r0, .ints x]))) n
  | _ => false
def anj1 (N : Nat) : Nat -> Option Ann := fun b_ => cond (b_ == 0) (some ⟨⟨[0, 3], [], []⟩, [(0, ⟨[0, 3], [], []⟩)], some ⟨[2], [], []⟩, some (mkHooks [(sh_st_big_norm_w_0, hk_st_big_norm_w_0 N)])⟩) (none)
theorem eq_st_big_norm_w_0 (N : Nat) (κ : K) (n : Int) (x : List Int) : iter N (fun s k => codeV ⟨Pg, ofList [], isref, N⟩ 1 (anj1 N) (lp Pg 202 0).2 (lp Pg 202 0).1 s (roundK Pg 1 ((anj1 N) (lp Pg 202 0).1) κ k)) (sh_st_big_norm_w_0.build [.int n, .ints x]) = iterG N (stj231 N x (fun r0 => κ.ext 0 (sx0_st_big_norm_w_0.build [.int r0, .ints x]))) n :=
  iter_tr (fun v_ => sh_st_big_norm_w_0.build [.int v_, .ints x]) (fun v_ K_ => by kernel_rfl) N n
theorem hk1_st_big_norm_w_0 (N : Nat) : HookFor ⟨Pg, ofList [], isref, N⟩ 1 (anj1 N) (lp Pg 202 0) (sh_st_big_norm_w_0, hk_st_big_norm_w_0 N) := by
  intro a κ h
  simp only at h
  unfold hk_st_big_norm_w_0 at h
  split at h
  · exact (eq_st_big_norm_w_0 _ _ _ _).trans h
  · cases h
theorem ho_big_norm_w_0 (N : Nat) : HookOk ⟨Pg, ofList [], isref, N⟩ 1 (anj1 N) (lp Pg 202 0) :=
  hooks_ok [(sh_st_big_norm_w_0, hk_st_big_norm_w_0 N)] (by kernel_rfl) ⟨hk1_st_big_norm_w_0 _, trivial⟩
theorem eqj1 (N : Nat) (b : List Int) (c_ : V -> List Blk -> Bool) : bodyZ ⟨Pg, ofList [], isref, N⟩ (anj1 N) 202 (shFj1.args [.ints b]) [⟨41, 1, .ints .u64 b⟩] c_ = Gj1 N b (fun r0 r1 => c_ (.sl 0 r0 r1) [⟨41, 1, .ints .u64 b⟩]) := by kernel_rfl
theorem goodj1 (N : Nat) : GoodF Pg 202 (Fj1 (Gj1 N)) := by
  refine good_fsZ (cx := ⟨Pg, ofList [], isref, N⟩) (ofList_nil _) shFj1 (spj1 (Gj1 N)) (anj1 N) 1 1 (by kernel_rfl) (fun i_ hi_ => by
    match i_, hi_ with
    | 0, _ => exact ho_big_norm_w_0 _
    | (q + 1), h => omega) ?_
  intro a k h
  unfold spj1 at h
  split at h
  · exact ⟨[_], rfl, rfl, (eqj1 _ _ _).trans h⟩
  · cases h

def anj142 (N : Nat) (Sj1 : TSj1) : Nat -> Option Ann := fun b_ => none
theorem eqj142 (N : Nat) (Sj1 : TSj1) (n : Int) (c_ : V -> List Blk -> Bool) : bodyZ ⟨Pg, ofList [(202, (Fj1 Sj1))], isref, N⟩ (anj142 N Sj1) 193 (shFj142.args [.int n]) [] c_ = Gj142 N Sj1 n (fun r0 => c_ (.roi .u64 r0) []) := by kernel_rfl
theorem goodj142 (N : Nat) (Sj1 : TSj1) (hj1 : GoodF Pg 202 (Fj1 Sj1)) : GoodF Pg 193 (Fj142 (Gj142 N Sj1)) := by
  refine good_fsZ (cx := ⟨Pg, ofList [(202, (Fj1 Sj1))], isref, N⟩) (ofList_cons hj1 (ofList_nil _)) shFj142 (spj142 (Gj142 N Sj1)) (anj142 N Sj1) 0 0 (by kernel_rfl) (fun i_ hi_ => by omega) ?_
  intro a k h
  unfold spj142 at h
  split at h
  · exact ⟨[], rfl, rfl, (eqj142 _ _ _ _).trans h⟩
  · cases h

def anj0 (N : Nat) : Nat -> Option Ann := fun b_ => none
theorem eqj0 (N : Nat) (neg : Bool) (abs : List Int) (b : Bool) (c_ : V -> List Blk -> Bool) : bodyZ ⟨Pg, ofList [], isref, N⟩ (anj0 N) 170 (shFj0.args [.bool neg, .ints abs, .bool b]) [⟨164, 1, .cells [.bool b, .nil]⟩] c_ = Gj0 N neg abs b (fun r0 => c_ (.ptr 0 0) [⟨164, 1, .cells [.bool r0, .roi .u64 abs]⟩]) := by kernel_rfl
theorem goodj0 (N : Nat) : GoodF Pg 170 (Fj0 (Gj0 N)) := by
  refine good_fsZ (cx := ⟨Pg, ofList [], isref, N⟩) (ofList_nil _) shFj0 (spj0 (Gj0 N)) (anj0 N) 0 1 (by kernel_rfl) (fun i_ hi_ => by omega) ?_
  intro a k h
  unfold spj0 at h
  split at h
  · exact ⟨[_], rfl, rfl, (eqj0 _ _ _ _ _).trans h⟩
  · cases h

def anj56 (N : Nat) (Sj142 : TSj142) (Sj0 : TSj0) : Nat -> Option Ann := fun b_ => none
theorem eqj56 (N : Nat) (Sj142 : TSj142) (Sj0 : TSj0) (n : Int) (b : Bool) (c_ : V -> List Blk -> Bool) : bodyZ ⟨Pg, ofList [(193, (Fj142 Sj142)), (170, (Fj0 Sj0))], isref, N⟩ (anj56 N Sj142 Sj0) 161 (shFj56.args [.int n, .bool b]) [⟨164, 1, .cells [.bool b, .nil]⟩] c_ = Gj56 N Sj142 Sj0 n b (fun r0 r1 => c_ (.ptr 0 0) [⟨164, 1, .cells [.bool r0, .roi .u64 r1]⟩]) := by kernel_rfl
theorem goodj56 (N : Nat) (Sj142 : TSj142) (Sj0 : TSj0) (hj142 : GoodF Pg 193 (Fj142 Sj142)) (hj0 : GoodF Pg 170 (Fj0 Sj0)) : GoodF Pg 161 (Fj56 (Gj56 N Sj142 Sj0)) := by
  refine good_fsZ (cx := ⟨Pg, ofList [(193, (Fj142 Sj142)), (170, (Fj0 Sj0))], isref, N⟩) (ofList_cons hj142 (ofList_cons hj0 (ofList_nil _))) shFj56 (spj56 (Gj56 N Sj142 Sj0)) (anj56 N Sj142 Sj0) 0 1 (by kernel_rfl) (fun i_ hi_ => by omega) ?_
  intro a k h
  unfold spj56 at h
  split at h
  · exact ⟨[_], rfl, rfl, (eqj56 _ _ _ _ _ _).trans h⟩
  · cases h

def anj82 (N : Nat) : Nat -> Option Ann := fun b_ => none
theorem eqj82 (N : Nat) (x : List Int) (c_ : V -> List Blk -> Bool) : bodyZ ⟨Pg, ofList [], isref, N⟩ (anj82 N) 171 (shFj82.args [.ints x]) [] c_ = Gj82 N x (fun r0 => c_ (.roi .u64 r0) []) := by kernel_rfl
theorem goodj82 (N : Nat) : GoodF Pg 171 (Fj82 (Gj82 N)) := by
  refine good_fsZ (cx := ⟨Pg, ofList [], isref, N⟩) (ofList_nil _) shFj82 (spj82 (Gj82 N)) (anj82 N) 0 0 (by kernel_rfl) (fun i_ hi_ => by omega) ?_
  intro a k h
  unfold spj82 at h
  split at h
  · exact ⟨[], rfl, rfl, (eqj82 _ _ _).trans h⟩
  · cases h

def anj33 (N : Nat) : Nat -> Option Ann := fun b_ => none
theorem eqj33 (N : Nat) (neg : Bool) (abs : List Int) (b : Bool) (b_1 : List Int) (c_ : V -> List Blk -> Bool) : bodyZ ⟨Pg, ofList [], isref, N⟩ (anj33 N) 170 (shFj33.args [.bool neg, .ints abs, .bool b, .ints b_1]) [⟨164, 1, .cells [.bool b, .roi .u64 b_1]⟩] c_ = Gj33 N neg abs b b_1 (fun r0 => c_ (.ptr 0 0) [⟨164, 1, .cells [.bool r0, .roi .u64 abs]⟩]) := by kernel_rfl
theorem goodj33 (N : Nat) : GoodF Pg 170 (Fj33 (Gj33 N)) := by
  refine good_fsZ (cx := ⟨Pg, ofList [], isref, N⟩) (ofList_nil _) shFj33 (spj33 (Gj33 N)) (anj33 N) 0 1 (by kernel_rfl) (fun i_ hi_ => by omega) ?_
  intro a k h
  unfold spj33 at h
  split at h
  · exact ⟨[_], rfl, rfl, (eqj33 _ _ _ _ _ _).trans h⟩
  · cases h

def anj26 (N : Nat) (Sj82 : TSj82) (Sj33 : TSj33) : Nat -> Option Ann := fun b_ => none
theorem eqj26 (N : Nat) (Sj82 : TSj82) (Sj33 : TSj33) (b : Bool) (b_1 : List Int) (c_ : V -> List Blk -> Bool) : bodyZ ⟨Pg, ofList [(171, (Fj82 Sj82)), (170, (Fj33 Sj33))], isref, N⟩ (anj26 N Sj82 Sj33) 131 (shFj26.args [.bool b, .ints b_1]) [⟨164, 1, .cells [.bool b, .roi .u64 b_1]⟩] c_ = Gj26 N Sj82 Sj33 b b_1 (fun r0 r1 => c_ (.ptr 0 0) [⟨164, 1, .cells [.bool r0, .roi .u64 r1]⟩]) := by kernel_rfl
theorem goodj26 (N : Nat) (Sj82 : TSj82) (Sj33 : TSj33) (hj82 : GoodF Pg 171 (Fj82 Sj82)) (hj33 : GoodF Pg 170 (Fj33 Sj33)) : GoodF Pg 131 (Fj26 (Gj26 N Sj82 Sj33)) := by
  refine good_fsZ (cx := ⟨Pg, ofList [(171, (Fj82 Sj82)), (170, (Fj33 Sj33))], isref, N⟩) (ofList_cons hj82 (ofList_cons hj33 (ofList_nil _))) shFj26 (spj26 (Gj26 N Sj82 Sj33)) (anj26 N Sj82 Sj33) 0 1 (by kernel_rfl) (fun i_ hi_ => by omega) ?_
  intro a k h
  unfold spj26 at h
  split at h
  · exact ⟨[_], rfl, rfl, (eqj26 _ _ _ _ _ _).trans h⟩
  · cases h

def anj175 (N : Nat) (Sj181 : TSj181) (Sj56 : TSj56) (Sj26 : TSj26) : Nat -> Option Ann := fun b_ => none
theorem eqj175 (N : Nat) (Sj181 : TSj181) (Sj56 : TSj56) (Sj26 : TSj26) (x : Fl) (c_ : V -> List Blk -> Bool) : bodyV ⟨Pg, ofList [(160, (Fj181 Sj181)), (161, (Fj56 Sj56)), (131, (Fj26 Sj26))], isref, N⟩ (anj175 N Sj181 Sj56 Sj26) 126 (shFj175.args [.fl x]) [] c_ = Gj175 N Sj181 Sj56 Sj26 x (fun r0 r1 r2 => c_ (.agg [.ptr 0 0, .int .i64 r0]) [⟨164, 1, .cells [.bool r1, .roi .u64 r2]⟩]) := by kernel_rfl
theorem goodj175 (N : Nat) (Sj181 : TSj181) (Sj56 : TSj56) (Sj26 : TSj26) (hj181 : GoodF Pg 160 (Fj181 Sj181)) (hj56 : GoodF Pg 161 (Fj56 Sj56)) (hj26 : GoodF Pg 131 (Fj26 Sj26)) : GoodF Pg 126 (Fj175 (Gj175 N Sj181 Sj56 Sj26)) := by
  refine good_fs (cx := ⟨Pg, ofList [(160, (Fj181 Sj181)), (161, (Fj56 Sj56)), (131, (Fj26 Sj26))], isref, N⟩) (ofList_cons hj181 (ofList_cons hj56 (ofList_cons hj26 (ofList_nil _)))) shFj175 (spj175 (Gj175 N Sj181 Sj56 Sj26)) (anj175 N Sj181 Sj56 Sj26) 0 0 (by kernel_rfl) (fun i_ hi_ => by omega) ?_
  intro a k h
  unfold spj175 at h
  split at h
  · exact ⟨[], rfl, rfl, (eqj175 _ _ _ _ _ _).trans h⟩
  · cases h

def anj123 (N : Nat) : Nat -> Option Ann := fun b_ => none
theorem eqj123 (N : Nat) (x y : Int) (c_ : V -> List Blk -> Bool) : bodyV ⟨Pg, ofList [], isref, N⟩ (anj123 N) 231 (shFj123.args [.int x, .int y]) [] c_ = Gj123 N x y (fun r0 r1 => c_ (.tup [.int .u64 r0, .int .u64 r1]) []) := by kernel_rfl
theorem goodj123 (N : Nat) : GoodF Pg 231 (Fj123 (Gj123 N)) := by
  refine good_fs (cx := ⟨Pg, ofList [], isref, N⟩) (ofList_nil _) shFj123 (spj123 (Gj123 N)) (anj123 N) 0 0 (by kernel_rfl) (fun i_ hi_ => by omega) ?_
  intro a k h
  unfold spj123 at h
  split at h
  · exact ⟨[], rfl, rfl, (eqj123 _ _ _ _).trans h⟩
  · cases h


def anj118 (N : Nat) (Sj123 : TSj123) (Sj79 : TSj79) : Nat -> Option Ann := fun b_ => none
theorem eqj118 (N : Nat) (Sj123 : TSj123) (Sj79 : TSj79) (a b c d : Int) (c_ : V -> List Blk -> Bool) : bodyZ ⟨Pg, ofList [(231, (Fj123 Sj123)), (221, (Fj79 Sj79))], isref, N⟩ (anj118 N Sj123 Sj79) 219 (shFj118.args [.int a, .int b, .int c, .int d]) [] c_ = Gj118 N Sj123 Sj79 a b c d (fun r0 r1 => c_ (.tup [.int .u64 r0, .int .u64 r1]) []) := by kernel_rfl
theorem goodj118 (N : Nat) (Sj123 : TSj123) (Sj79 : TSj79) (hj123 : GoodF Pg 231 (Fj123 Sj123)) (hj79 : GoodF Pg 221 (Fj79 Sj79)) : GoodF Pg 219 (Fj118 (Gj118 N Sj123 Sj79)) := by
  refine good_fsZ (cx := ⟨Pg, ofList [(231, (Fj123 Sj123)), (221, (Fj79 Sj79))], isref, N⟩) (ofList_cons hj123 (ofList_cons hj79 (ofList_nil _))) shFj118 (spj118 (Gj118 N Sj123 Sj79)) (anj118 N Sj123 Sj79) 0 0 (by kernel_rfl) (fun i_ hi_ => by omega) ?_
  intro a k h
  unfold spj118 at h
  split at h
  · exact ⟨[], rfl, rfl, (eqj118 _ _ _ _ _ _ _ _).trans h⟩
  · cases h

def sh_st_big_times_2 : StSh := ⟨(.any :: (.roi .u64 :: (.any :: (.any :: (.any :: (.slw 0 :: (.int .i64 :: (.int .u64 :: (.int .u64 :: (sqs 16 (.roi .u64 :: (.int .i64 :: (.int .i64 :: (sqs 4 (.roi .u64 :: (.int .i64 :: (.int .i64 :: (sqs 33 [])))))))))))))))))), [some (41, 1, .ints .u64)]⟩
def sx0_st_big_times_2 : StSh := ⟨(.any :: (.roi .u64 :: (.any :: (.any :: (.any :: (.slw 0 :: (.int .i64 :: (.any :: (.int .u64 :: (sqs 16 (.roi .u64 :: (.int .i64 :: (.int .i64 :: (sqs 40 [])))))))))))))), [some (41, 1, .ints .u64)]⟩
def hk_st_big_times_2 (N : Nat) (Sj118 : TSj118) (Sj1 : TSj1) : List Atom -> K -> Bool := fun a_ κ => match a_ with
  | [.ints y_2, .int i, .int a, .int carry, .ints t25_1, .int t26_1, .int t27_1, .ints t32, .int t33, .int t34, .ints z_1] => iterG N (st_big_times_2 N Sj118 Sj1 y_2 i a t25_1 t26_1 t27_1 t32 t33 (fun r2 r6 => κ.ext 2 (sx0_st_big_times_2.build [.ints y_2, .int i, .int r2, .ints t25_1, .int t26_1, .int t27_1, .ints r6]))) (carry, t34, z_1)
  | _ => false
def sh_st_big_times_0 : StSh := ⟨(.any :: (.roi .u64 :: (.any :: (.any :: (.any :: (.slw 0 :: (sqs 19 (.roi .u64 :: (.int .i64 :: (.int .i64 :: (sqs 40 []))))))))))), [some (41, 1, .ints .u64)]⟩
def sx0_st_big_times_0 : StSh := ⟨(sqs 5 (.slw 0 :: (sqs 62 []))), [some (41, 1, .ints .u64)]⟩
def hk_st_big_times_0 (N : Nat) (Sj118 : TSj118) (Sj1 : TSj1) : List Atom -> K -> Bool := fun a_ κ => match a_ with
  | [.ints y_1, .ints t25, .int t26, .int t27, .ints z] => iterG N (st_big_times_0 N Sj118 Sj1 y_1 t25 t26 (fun r0 => κ.ext 0 (sx0_st_big_times_0.build [.ints r0]))) (t27, z)
  | _ => false
def anj152 (N : Nat) (Sj118 : TSj118) (Sj1 : TSj1) : Nat -> Option Ann := fun b_ => cond (b_ == 2) (some ⟨⟨[1, 5, 6, 7, 8, 25, 26, 27, 32, 33, 34], [], []⟩, [(2, ⟨[1, 5, 6, 8, 25, 26, 27], [], []⟩)], some ⟨[4], [], []⟩, some (mkHooks [(sh_st_big_times_2, hk_st_big_times_2 N Sj118 Sj1)])⟩) (cond (b_ == 0) (some ⟨⟨[1, 5, 25, 26, 27], [], []⟩, [(0, ⟨[5], [], []⟩)], some ⟨[4], [], []⟩, some (mkHooks [(sh_st_big_times_0, hk_st_big_times_0 N Sj118 Sj1)])⟩) (none))
theorem eq_st_big_times_2 (N : Nat) (Sj118 : TSj118) (Sj1 : TSj1) (κ : K) (y_2 : List Int) (i a carry : Int) (t25_1 : List Int) (t26_1 t27_1 : Int) (t32 : List Int) (t33 t34 : Int) (z_1 : List Int) : iter N (fun s k => codeV ⟨Pg, ofList [(219, (Fj118 Sj118)), (202, (Fj1 Sj1))], isref, N⟩ 0 (anj152 N Sj118 Sj1) (lp Pg 194 1).2 (lp Pg 194 1).1 s (roundK Pg 0 ((anj152 N Sj118 Sj1) (lp Pg 194 1).1) κ k)) (sh_st_big_times_2.build [.ints y_2, .int i, .int a, .int carry, .ints t25_1, .int t26_1, .int t27_1, .ints t32, .int t33, .int t34, .ints z_1]) = iterG N (st_big_times_2 N Sj118 Sj1 y_2 i a t25_1 t26_1 t27_1 t32 t33 (fun r2 r6 => κ.ext 2 (sx0_st_big_times_2.build [.ints y_2, .int i, .int r2, .ints t25_1, .int t26_1, .int t27_1, .ints r6]))) (carry, t34, z_1) :=
  iter_tr (fun (v_ : Int × Int × List Int) => sh_st_big_times_2.build [.ints y_2, .int i, .int a, .int v_.1, .ints t25_1, .int t26_1, .int t27_1, .ints t32, .int t33, .int v_.2.1, .ints v_.2.2]) (fun v_ K_ => by obtain ⟨carry, t34, z_1⟩ := v_; kernel_rfl) N (carry, t34, z_1)
theorem hk1_st_big_times_2 (N : Nat) (Sj118 : TSj118) (Sj1 : TSj1) : HookFor ⟨Pg, ofList [(219, (Fj118 Sj118)), (202, (Fj1 Sj1))], isref, N⟩ 0 (anj152 N Sj118 Sj1) (lp Pg 194 1) (sh_st_big_times_2, hk_st_big_times_2 N Sj118 Sj1) := by
  intro a κ h
  simp only at h
  unfold hk_st_big_times_2 at h
  split at h
  · exact (eq_st_big_times_2 _ _ _ _ _ _ _ _ _ _ _ _ _ _ _).trans h
  · cases h
theorem eq_st_big_times_0 (N : Nat) (Sj118 : TSj118) (Sj1 : TSj1) (κ : K) (y_1 t25 : List Int) (t26 t27 : Int) (z : List Int) : iter N (fun s k => codeV ⟨Pg, ofList [(219, (Fj118 Sj118)), (202, (Fj1 Sj1))], isref, N⟩ 0 (anj152 N Sj118 Sj1) (lp Pg 194 0).2 (lp Pg 194 0).1 s (roundK Pg 0 ((anj152 N Sj118 Sj1) (lp Pg 194 0).1) κ k)) (sh_st_big_times_0.build [.ints y_1, .ints t25, .int t26, .int t27, .ints z]) = iterG N (st_big_times_0 N Sj118 Sj1 y_1 t25 t26 (fun r0 => κ.ext 0 (sx0_st_big_times_0.build [.ints r0]))) (t27, z) :=
  iter_tr (fun (v_ : Int × List Int) => sh_st_big_times_0.build [.ints y_1, .ints t25, .int t26, .int v_.1, .ints v_.2]) (fun v_ K_ => by obtain ⟨t27, z⟩ := v_; kernel_rfl) N (t27, z)
theorem hk1_st_big_times_0 (N : Nat) (Sj118 : TSj118) (Sj1 : TSj1) : HookFor ⟨Pg, ofList [(219, (Fj118 Sj118)), (202, (Fj1 Sj1))], isref, N⟩ 0 (anj152 N Sj118 Sj1) (lp Pg 194 0) (sh_st_big_times_0, hk_st_big_times_0 N Sj118 Sj1) := by
  intro a κ h
  simp only at h
  unfold hk_st_big_times_0 at h
  split at h
  · exact (eq_st_big_times_0 _ _ _ _ _ _ _ _ _).trans h
  · cases h
theorem ho_big_times_2 (N : Nat) (Sj118 : TSj118) (Sj1 : TSj1) : HookOk ⟨Pg, ofList [(219, (Fj118 Sj118)), (202, (Fj1 Sj1))], isref, N⟩ 0 (anj152 N Sj118 Sj1) (lp Pg 194 1) :=
  hooks_ok [(sh_st_big_times_2, hk_st_big_times_2 N Sj118 Sj1)] (by kernel_rfl) ⟨hk1_st_big_times_2 _ _ _, trivial⟩
theorem ho_big_times_0 (N : Nat) (Sj118 : TSj118) (Sj1 : TSj1) : HookOk ⟨Pg, ofList [(219, (Fj118 Sj118)), (202, (Fj1 Sj1))], isref, N⟩ 0 (anj152 N Sj118 Sj1) (lp Pg 194 0) :=
  hooks_ok [(sh_st_big_times_0, hk_st_big_times_0 N Sj118 Sj1)] (by kernel_rfl) ⟨hk1_st_big_times_0 _ _ _, trivial⟩
theorem eqj152 (N : Nat) (Sj118 : TSj118) (Sj1 : TSj1) (x y : List Int) (c_ : V -> List Blk -> Bool) : bodyZ ⟨Pg, ofList [(219, (Fj118 Sj118)), (202, (Fj1 Sj1))], isref, N⟩ (anj152 N Sj118 Sj1) 194 (shFj152.args [.ints x, .ints y]) [] c_ = Gj152 N Sj118 Sj1 x y (fun r0 => c_ (.roi .u64 r0) []) := by kernel_rfl
theorem goodj152 (N : Nat) (Sj118 : TSj118) (Sj1 : TSj1) (hj118 : GoodF Pg 219 (Fj118 Sj118)) (hj1 : GoodF Pg 202 (Fj1 Sj1)) : GoodF Pg 194 (Fj152 (Gj152 N Sj118 Sj1)) := by
  refine good_fsZ (cx := ⟨Pg, ofList [(219, (Fj118 Sj118)), (202, (Fj1 Sj1))], isref, N⟩) (ofList_cons hj118 (ofList_cons hj1 (ofList_nil _))) shFj152 (spj152 (Gj152 N Sj118 Sj1)) (anj152 N Sj118 Sj1) 2 0 (by kernel_rfl) (fun i_ hi_ => by
    match i_, hi_ with
    | 0, _ => exact ho_big_times_0 _ _ _
    | 1, _ => exact ho_big_times_2 _ _ _
    | (q + 2), h => omega) ?_
  intro a k h
  unfold spj152 at h
  split at h
  · exact ⟨[], rfl, rfl, (eqj152 _ _ _ _ _ _).trans h⟩
  · cases h

def anj58 (N : Nat) (Sj152 : TSj152) (Sj0 : TSj0) : Nat -> Option Ann := fun b_ => none
theorem eqj58 (N : Nat) (Sj152 : TSj152) (Sj0 : TSj0) (b b_1 : Bool) (b_2 : List Int) (b_3 : Bool) (b_4 : List Int) (c_ : V -> List Blk -> Bool) : bodyZ ⟨Pg, ofList [(194, (Fj152 Sj152)), (170, (Fj0 Sj0))], isref, N⟩ (anj58 N Sj152 Sj0) 162 (shFj58.args [.bool b, .bool b_1, .ints b_2, .bool b_3, .ints b_4]) [⟨164, 1, .cells [.bool b, .nil]⟩, ⟨164, 1, .cells [.bool b_1, .roi .u64 b_2]⟩, ⟨164, 1, .cells [.bool b_3, .roi .u64 b_4]⟩] c_ = Gj58 N Sj152 Sj0 b b_1 b_2 b_3 b_4 (fun r0 r1 => c_ (.ptr 0 0) [⟨164, 1, .cells [.bool r0, .roi .u64 r1]⟩, ⟨164, 1, .cells [.bool b_1, .roi .u64 b_2]⟩, ⟨164, 1, .cells [.bool b_3, .roi .u64 b_4]⟩]) := by kernel_rfl
theorem goodj58 (N : Nat) (Sj152 : TSj152) (Sj0 : TSj0) (hj152 : GoodF Pg 194 (Fj152 Sj152)) (hj0 : GoodF Pg 170 (Fj0 Sj0)) : GoodF Pg 162 (Fj58 (Gj58 N Sj152 Sj0)) := by
  refine good_fsZ (cx := ⟨Pg, ofList [(194, (Fj152 Sj152)), (170, (Fj0 Sj0))], isref, N⟩) (ofList_cons hj152 (ofList_cons hj0 (ofList_nil _))) shFj58 (spj58 (Gj58 N Sj152 Sj0)) (anj58 N Sj152 Sj0) 0 3 (by kernel_rfl) (fun i_ hi_ => by omega) ?_
  intro a k h
  unfold spj58 at h
  split at h
  · exact ⟨[_, _, _], rfl, rfl, (eqj58 _ _ _ _ _ _ _ _ _).trans h⟩
  · cases h

def anj18 (N : Nat) (Sj58 : TSj58) : Nat -> Option Ann := fun b_ => none
theorem eqj18 (N : Nat) (Sj58 : TSj58) (x y : Int) (b : Bool) (b_1 : List Int) (b_2 : Bool) (b_3 : List Int) (c_ : V -> List Blk -> Bool) : bodyV ⟨Pg, ofList [(162, (Fj58 Sj58))], isref, N⟩ (anj18 N Sj58) 127 (shFj18.args [.int x, .int y, .bool b, .ints b_1, .bool b_2, .ints b_3]) [⟨164, 1, .cells [.bool b, .roi .u64 b_1]⟩, ⟨164, 1, .cells [.bool b_2, .roi .u64 b_3]⟩] c_ = Gj18 N Sj58 x y b b_1 b_2 b_3 (fun r0 r5 r6 => c_ (.agg [.ptr 2 0, .int .i64 r0]) [⟨164, 1, .cells [.bool b, .roi .u64 b_1]⟩, ⟨164, 1, .cells [.bool b_2, .roi .u64 b_3]⟩, ⟨164, 1, .cells [.bool r5, .roi .u64 r6]⟩]) := by kernel_rfl
theorem goodj18 (N : Nat) (Sj58 : TSj58) (hj58 : GoodF Pg 162 (Fj58 Sj58)) : GoodF Pg 127 (Fj18 (Gj18 N Sj58)) := by
  refine good_fs (cx := ⟨Pg, ofList [(162, (Fj58 Sj58))], isref, N⟩) (ofList_cons hj58 (ofList_nil _)) shFj18 (spj18 (Gj18 N Sj58)) (anj18 N Sj58) 0 2 (by kernel_rfl) (fun i_ hi_ => by omega) ?_
  intro a k h
  unfold spj18 at h
  split at h
  · exact ⟨[_, _], rfl, rfl, (eqj18 _ _ _ _ _ _ _ _ _).trans h⟩
  · cases h

def anj88 (N : Nat) : Nat -> Option Ann := fun b_ => none
theorem eqj88 (N : Nat) (b : Bool) (c_ : V -> List Blk -> Bool) : bodyZ ⟨Pg, ofList [], isref, N⟩ (anj88 N) 134 (shFj88.args [.bool b]) [⟨164, 1, .cells [.bool b, .nil]⟩] c_ = Gj88 N b (fun r0 r2 => c_ (.int .i64 r0) [⟨164, 1, .cells [.bool b, .roi .u64 r2]⟩]) := by kernel_rfl
theorem goodj88 (N : Nat) : GoodF Pg 134 (Fj88 (Gj88 N)) := by
  refine good_fsZ (cx := ⟨Pg, ofList [], isref, N⟩) (ofList_nil _) shFj88 (spj88 (Gj88 N)) (anj88 N) 0 1 (by kernel_rfl) (fun i_ hi_ => by omega) ?_
  intro a k h
  unfold spj88 at h
  split at h
  · exact ⟨[_], rfl, rfl, (eqj88 _ _ _).trans h⟩
  · cases h

def anj3 (N : Nat) : Nat -> Option Ann := fun b_ => none
theorem eqj3 (N : Nat) (b : Bool) (b_1 : List Int) (c_ : V -> List Blk -> Bool) : bodyZ ⟨Pg, ofList [], isref, N⟩ (anj3 N) 134 (shFj3.args [.bool b, .ints b_1]) [⟨164, 1, .cells [.bool b, .roi .u64 b_1]⟩] c_ = Gj3 N b b_1 (fun r0 => c_ (.int .i64 r0) [⟨164, 1, .cells [.bool b, .roi .u64 b_1]⟩]) := by kernel_rfl
theorem goodj3 (N : Nat) : GoodF Pg 134 (Fj3 (Gj3 N)) := by
  refine good_fsZ (cx := ⟨Pg, ofList [], isref, N⟩) (ofList_nil _) shFj3 (spj3 (Gj3 N)) (anj3 N) 0 1 (by kernel_rfl) (fun i_ hi_ => by omega) ?_
  intro a k h
  unfold spj3 at h
  split at h
  · exact ⟨[_], rfl, rfl, (eqj3 _ _ _ _).trans h⟩
  · cases h

def sh_st_big_left_0 : StSh := ⟨(sqs 5 (.int .i64 :: (.int .u64 :: (.slw 0 :: (sqs 16 (.roi .u64 :: (.int .i64 :: (.int .i64 :: (sqs 28 []))))))))), [some (41, 1, .ints .u64)]⟩
def sx0_st_big_left_0 : StSh := ⟨(sqs 7 (.slw 0 :: (sqs 47 []))), [some (41, 1, .ints .u64)]⟩
def hk_st_big_left_0 (N : Nat) (Sj1 : TSj1) : List Atom -> K -> Bool := fun a_ κ => match a_ with
  | [.int words, .int rest, .ints t24, .int t25, .int t26, .ints z] => iterG N (st_big_left_0 N Sj1 words rest t24 t25 (fun r0 => κ.ext 0 (sx0_st_big_left_0.build [.ints r0]))) (t26, z)
  | _ => false
def anj119 (N : Nat) (Sj1 : TSj1) : Nat -> Option Ann := fun b_ => cond (b_ == 0) (some ⟨⟨[5, 6, 7, 24, 25, 26], [], []⟩, [(0, ⟨[7], [], []⟩)], some ⟨[4], [], []⟩, some (mkHooks [(sh_st_big_left_0, hk_st_big_left_0 N Sj1)])⟩) (none)
theorem eq_st_big_left_0 (N : Nat) (Sj1 : TSj1) (κ : K) (words rest : Int) (t24 : List Int) (t25 t26 : Int) (z : List Int) : iter N (fun s k => codeV ⟨Pg, ofList [(202, (Fj1 Sj1))], isref, N⟩ 0 (anj119 N Sj1) (lp Pg 204 0).2 (lp Pg 204 0).1 s (roundK Pg 0 ((anj119 N Sj1) (lp Pg 204 0).1) κ k)) (sh_st_big_left_0.build [.int words, .int rest, .ints t24, .int t25, .int t26, .ints z]) = iterG N (st_big_left_0 N Sj1 words rest t24 t25 (fun r0 => κ.ext 0 (sx0_st_big_left_0.build [.ints r0]))) (t26, z) :=
  iter_tr (fun (v_ : Int × List Int) => sh_st_big_left_0.build [.int words, .int rest, .ints t24, .int t25, .int v_.1, .ints v_.2]) (fun v_ K_ => by obtain ⟨t26, z⟩ := v_; kernel_rfl) N (t26, z)
theorem hk1_st_big_left_0 (N : Nat) (Sj1 : TSj1) : HookFor ⟨Pg, ofList [(202, (Fj1 Sj1))], isref, N⟩ 0 (anj119 N Sj1) (lp Pg 204 0) (sh_st_big_left_0, hk_st_big_left_0 N Sj1) := by
  intro a κ h
  simp only at h
  unfold hk_st_big_left_0 at h
  split at h
  · exact (eq_st_big_left_0 _ _ _ _ _ _ _ _ _).trans h
  · cases h
theorem ho_big_left_0 (N : Nat) (Sj1 : TSj1) : HookOk ⟨Pg, ofList [(202, (Fj1 Sj1))], isref, N⟩ 0 (anj119 N Sj1) (lp Pg 204 0) :=
  hooks_ok [(sh_st_big_left_0, hk_st_big_left_0 N Sj1)] (by kernel_rfl) ⟨hk1_st_big_left_0 _ _, trivial⟩
theorem eqj119 (N : Nat) (Sj1 : TSj1) (x : List Int) (n : Int) (c_ : V -> List Blk -> Bool) : bodyZ ⟨Pg, ofList [(202, (Fj1 Sj1))], isref, N⟩ (anj119 N Sj1) 204 (shFj119.args [.ints x, .int n]) [] c_ = Gj119 N Sj1 x n (fun r0 => c_ (.roi .u64 r0) []) := by kernel_rfl
theorem goodj119 (N : Nat) (Sj1 : TSj1) (hj1 : GoodF Pg 202 (Fj1 Sj1)) : GoodF Pg 204 (Fj119 (Gj119 N Sj1)) := by
  refine good_fsZ (cx := ⟨Pg, ofList [(202, (Fj1 Sj1))], isref, N⟩) (ofList_cons hj1 (ofList_nil _)) shFj119 (spj119 (Gj119 N Sj1)) (anj119 N Sj1) 1 0 (by kernel_rfl) (fun i_ hi_ => by
    match i_, hi_ with
    | 0, _ => exact ho_big_left_0 _ _
    | (q + 1), h => omega) ?_
  intro a k h
  unfold spj119 at h
  split at h
  · exact ⟨[], rfl, rfl, (eqj119 _ _ _ _ _).trans h⟩
  · cases h

def anj73 (N : Nat) (Sj119 : TSj119) (Sj0 : TSj0) : Nat -> Option Ann := fun b_ => none
theorem eqj73 (N : Nat) (Sj119 : TSj119) (Sj0 : TSj0) (n : Int) (b b_1 : Bool) (b_2 : List Int) (c_ : V -> List Blk -> Bool) : bodyZ ⟨Pg, ofList [(204, (Fj119 Sj119)), (170, (Fj0 Sj0))], isref, N⟩ (anj73 N Sj119 Sj0) 172 (shFj73.args [.int n, .bool b, .bool b_1, .ints b_2]) [⟨164, 1, .cells [.bool b, .nil]⟩, ⟨164, 1, .cells [.bool b_1, .roi .u64 b_2]⟩] c_ = Gj73 N Sj119 Sj0 n b b_1 b_2 (fun r0 r1 => c_ (.ptr 0 0) [⟨164, 1, .cells [.bool r0, .roi .u64 r1]⟩, ⟨164, 1, .cells [.bool b_1, .roi .u64 b_2]⟩]) := by kernel_rfl
theorem goodj73 (N : Nat) (Sj119 : TSj119) (Sj0 : TSj0) (hj119 : GoodF Pg 204 (Fj119 Sj119)) (hj0 : GoodF Pg 170 (Fj0 Sj0)) : GoodF Pg 172 (Fj73 (Gj73 N Sj119 Sj0)) := by
  refine good_fsZ (cx := ⟨Pg, ofList [(204, (Fj119 Sj119)), (170, (Fj0 Sj0))], isref, N⟩) (ofList_cons hj119 (ofList_cons hj0 (ofList_nil _))) shFj73 (spj73 (Gj73 N Sj119 Sj0)) (anj73 N Sj119 Sj0) 0 2 (by kernel_rfl) (fun i_ hi_ => by omega) ?_
  intro a k h
  unfold spj73 at h
  split at h
  · exact ⟨[_, _], rfl, rfl, (eqj73 _ _ _ _ _ _ _ _).trans h⟩
  · cases h

def anj34 (N : Nat) (Sj73 : TSj73) : Nat -> Option Ann := fun b_ => none
theorem eqj34 (N : Nat) (Sj73 : TSj73) (x e : Int) (b : Bool) (b_1 : List Int) (c_ : V -> List Blk -> Bool) : bodyV ⟨Pg, ofList [(172, (Fj73 Sj73))], isref, N⟩ (anj34 N Sj73) 159 (shFj34.args [.int x, .int e, .bool b, .ints b_1]) [⟨164, 1, .cells [.bool b, .roi .u64 b_1]⟩] c_ = Gj34 N Sj73 x e b b_1 (fun r2 r3 => c_ (.ptr 1 0) [⟨164, 1, .cells [.bool b, .roi .u64 b_1]⟩, ⟨164, 1, .cells [.bool r2, .roi .u64 r3]⟩]) := by kernel_rfl
theorem goodj34 (N : Nat) (Sj73 : TSj73) (hj73 : GoodF Pg 172 (Fj73 Sj73)) : GoodF Pg 159 (Fj34 (Gj34 N Sj73)) := by
  refine good_fs (cx := ⟨Pg, ofList [(172, (Fj73 Sj73))], isref, N⟩) (ofList_cons hj73 (ofList_nil _)) shFj34 (spj34 (Gj34 N Sj73)) (anj34 N Sj73) 0 1 (by kernel_rfl) (fun i_ hi_ => by omega) ?_
  intro a k h
  unfold spj34 at h
  split at h
  · exact ⟨[_], rfl, rfl, (eqj34 _ _ _ _ _ _ _).trans h⟩
  · cases h

def anj19 (N : Nat) : Nat -> Option Ann := fun b_ => none
theorem eqj19 (N : Nat) (x : List Int) (i : Int) (c_ : V -> List Blk -> Bool) : bodyZ ⟨Pg, ofList [], isref, N⟩ (anj19 N) 205 (shFj19.args [.ints x, .int i]) [] c_ = Gj19 N x i (fun r0 => c_ (.int .u64 r0) []) := by kernel_rfl
theorem goodj19 (N : Nat) : GoodF Pg 205 (Fj19 (Gj19 N)) := by
  refine good_fsZ (cx := ⟨Pg, ofList [], isref, N⟩) (ofList_nil _) shFj19 (spj19 (Gj19 N)) (anj19 N) 0 0 (by kernel_rfl) (fun i_ hi_ => by omega) ?_
  intro a k h
  unfold spj19 at h
  split at h
  · exact ⟨[], rfl, rfl, (eqj19 _ _ _ _).trans h⟩
  · cases h

def sh_st_big_sum_0 : StSh := ⟨(.roi .u64 :: (.roi .u64 :: (.any :: (.any :: (.any :: (.int .i64 :: (.slw 0 :: (.int .u64 :: (sqs 9 (.int .i64 :: (.int .i64 :: (sqs 23 [])))))))))))), [some (41, 1, .ints .u64)]⟩
def sx0_st_big_sum_0 : StSh := ⟨(sqs 5 (.int .i64 :: (.slw 0 :: (.int .u64 :: (sqs 34 []))))), [some (41, 1, .ints .u64)]⟩
def hk_st_big_sum_0 (N : Nat) (Sj19 : TSj19) (Sj79 : TSj79) (Sj1 : TSj1) : List Atom -> K -> Bool := fun a_ κ => match a_ with
  | [.ints x_1, .ints y_1, .int n, .int carry, .int t17, .int t18, .ints z] => iterG N (st_big_sum_0 N Sj19 Sj79 Sj1 x_1 y_1 n t17 (fun r1 r2 => κ.ext 0 (sx0_st_big_sum_0.build [.int n, .int r1, .ints r2]))) (carry, t18, z)
  | _ => false
def anj172 (N : Nat) (Sj19 : TSj19) (Sj79 : TSj79) (Sj1 : TSj1) : Nat -> Option Ann := fun b_ => cond (b_ == 0) (some ⟨⟨[0, 1, 5, 6, 7, 17, 18], [], []⟩, [(0, ⟨[5, 6, 7], [], []⟩)], some ⟨[4], [], []⟩, some (mkHooks [(sh_st_big_sum_0, hk_st_big_sum_0 N Sj19 Sj79 Sj1)])⟩) (none)
theorem eq_st_big_sum_0 (N : Nat) (Sj19 : TSj19) (Sj79 : TSj79) (Sj1 : TSj1) (κ : K) (x_1 y_1 : List Int) (n carry t17 t18 : Int) (z : List Int) : iter N (fun s k => codeV ⟨Pg, ofList [(205, (Fj19 Sj19)), (221, (Fj79 Sj79)), (202, (Fj1 Sj1))], isref, N⟩ 0 (anj172 N Sj19 Sj79 Sj1) (lp Pg 201 0).2 (lp Pg 201 0).1 s (roundK Pg 0 ((anj172 N Sj19 Sj79 Sj1) (lp Pg 201 0).1) κ k)) (sh_st_big_sum_0.build [.ints x_1, .ints y_1, .int n, .int carry, .int t17, .int t18, .ints z]) = iterG N (st_big_sum_0 N Sj19 Sj79 Sj1 x_1 y_1 n t17 (fun r1 r2 => κ.ext 0 (sx0_st_big_sum_0.build [.int n, .int r1, .ints r2]))) (carry, t18, z) :=
  iter_tr (fun (v_ : Int × Int × List Int) => sh_st_big_sum_0.build [.ints x_1, .ints y_1, .int n, .int v_.1, .int t17, .int v_.2.1, .ints v_.2.2]) (fun v_ K_ => by obtain ⟨carry, t18, z⟩ := v_; kernel_rfl) N (carry, t18, z)
theorem hk1_st_big_sum_0 (N : Nat) (Sj19 : TSj19) (Sj79 : TSj79) (Sj1 : TSj1) : HookFor ⟨Pg, ofList [(205, (Fj19 Sj19)), (221, (Fj79 Sj79)), (202, (Fj1 Sj1))], isref, N⟩ 0 (anj172 N Sj19 Sj79 Sj1) (lp Pg 201 0) (sh_st_big_sum_0, hk_st_big_sum_0 N Sj19 Sj79 Sj1) := by
  intro a κ h
  simp only at h
  unfold hk_st_big_sum_0 at h
  split at h
  · exact (eq_st_big_sum_0 _ _ _ _ _ _ _ _ _ _ _ _).trans h
  · cases h
theorem ho_big_sum_0 (N : Nat) (Sj19 : TSj19) (Sj79 : TSj79) (Sj1 : TSj1) : HookOk ⟨Pg, ofList [(205, (Fj19 Sj19)), (221, (Fj79 Sj79)), (202, (Fj1 Sj1))], isref, N⟩ 0 (anj172 N Sj19 Sj79 Sj1) (lp Pg 201 0) :=
  hooks_ok [(sh_st_big_sum_0, hk_st_big_sum_0 N Sj19 Sj79 Sj1)] (by kernel_rfl) ⟨hk1_st_big_sum_0 _ _ _ _, trivial⟩
theorem eqj172 (N : Nat) (Sj19 : TSj19) (Sj79 : TSj79) (Sj1 : TSj1) (x y : List Int) (c_ : V -> List Blk -> Bool) : bodyZ ⟨Pg, ofList [(205, (Fj19 Sj19)), (221, (Fj79 Sj79)), (202, (Fj1 Sj1))], isref, N⟩ (anj172 N Sj19 Sj79 Sj1) 201 (shFj172.args [.ints x, .ints y]) [] c_ = Gj172 N Sj19 Sj79 Sj1 x y (fun r0 => c_ (.roi .u64 r0) []) := by kernel_rfl
theorem goodj172 (N : Nat) (Sj19 : TSj19) (Sj79 : TSj79) (Sj1 : TSj1) (hj19 : GoodF Pg 205 (Fj19 Sj19)) (hj79 : GoodF Pg 221 (Fj79 Sj79)) (hj1 : GoodF Pg 202 (Fj1 Sj1)) : GoodF Pg 201 (Fj172 (Gj172 N Sj19 Sj79 Sj1)) := by
  refine good_fsZ (cx := ⟨Pg, ofList [(205, (Fj19 Sj19)), (221, (Fj79 Sj79)), (202, (Fj1 Sj1))], isref, N⟩) (ofList_cons hj19 (ofList_cons hj79 (ofList_cons hj1 (ofList_nil _)))) shFj172 (spj172 (Gj172 N Sj19 Sj79 Sj1)) (anj172 N Sj19 Sj79 Sj1) 1 0 (by kernel_rfl) (fun i_ hi_ => by
    match i_, hi_ with
    | 0, _ => exact ho_big_sum_0 _ _ _ _
    | (q + 1), h => omega) ?_
  intro a k h
  unfold spj172 at h
  split at h
  · exact ⟨[], rfl, rfl, (eqj172 _ _ _ _ _ _ _).trans h⟩
  · cases h

def sh_st_big_compare_0 : StSh := ⟨(.roi .u64 :: (.roi .u64 :: (.any :: (.any :: (.any :: (.int .i64 :: (sqs 35 []))))))), []⟩
def sx0_st_big_compare_0 : StSh := ⟨(sqs 4 (.int .i64 :: (sqs 36 []))), []⟩
def sx1_st_big_compare_0 : StSh := ⟨(sqs 41 []), []⟩
def hk_st_big_compare_0 (N : Nat) : List Atom -> K -> Bool := fun a_ κ => match a_ with
  | [.ints x_1, .ints y_1, .int i] => iterG N (stj223 N x_1 y_1 (fun r0 => κ.ret (sx0_st_big_compare_0.build [.int r0])) (κ.ext 0 (sx1_st_big_compare_0.build []))) i
  | _ => false
def anj130 (N : Nat) : Nat -> Option Ann := fun b_ => cond (b_ == 0) (some ⟨⟨[0, 1, 5], [], []⟩, [(0, ⟨[], [], []⟩)], some ⟨[4], [], []⟩, some (mkHooks [(sh_st_big_compare_0, hk_st_big_compare_0 N)])⟩) (none)
theorem eq_st_big_compare_0 (N : Nat) (κ : K) (x_1 y_1 : List Int) (i : Int) : iter N (fun s k => codeV ⟨Pg, ofList [], isref, N⟩ 0 (anj130 N) (lp Pg 215 0).2 (lp Pg 215 0).1 s (roundK Pg 0 ((anj130 N) (lp Pg 215 0).1) κ k)) (sh_st_big_compare_0.build [.ints x_1, .ints y_1, .int i]) = iterG N (stj223 N x_1 y_1 (fun r0 => κ.ret (sx0_st_big_compare_0.build [.int r0])) (κ.ext 0 (sx1_st_big_compare_0.build []))) i :=
  iter_tr (fun v_ => sh_st_big_compare_0.build [.ints x_1, .ints y_1, .int v_]) (fun v_ K_ => by kernel_rfl) N i
theorem hk1_st_big_compare_0 (N : Nat) : HookFor ⟨Pg, ofList [], isref, N⟩ 0 (anj130 N) (lp Pg 215 0) (sh_st_big_compare_0, hk_st_big_compare_0 N) := by
  intro a κ h
  simp only at h
  unfold hk_st_big_compare_0 at h
  split at h
  · exact (eq_st_big_compare_0 _ _ _ _ _).trans h
  · cases h
theorem ho_big_compare_0 (N : Nat) : HookOk ⟨Pg, ofList [], isref, N⟩ 0 (anj130 N) (lp Pg 215 0) :=
  hooks_ok [(sh_st_big_compare_0, hk_st_big_compare_0 N)] (by kernel_rfl) ⟨hk1_st_big_compare_0 _, trivial⟩
theorem eqj130 (N : Nat) (x y : List Int) (c_ : V -> List Blk -> Bool) : bodyZ ⟨Pg, ofList [], isref, N⟩ (anj130 N) 215 (shFj130.args [.ints x, .ints y]) [] c_ = Gj130 N x y (fun r0 => c_ (.int .i64 r0) []) := by kernel_rfl
theorem goodj130 (N : Nat) : GoodF Pg 215 (Fj130 (Gj130 N)) := by
  refine good_fsZ (cx := ⟨Pg, ofList [], isref, N⟩) (ofList_nil _) shFj130 (spj130 (Gj130 N)) (anj130 N) 1 0 (by kernel_rfl) (fun i_ hi_ => by
    match i_, hi_ with
    | 0, _ => exact ho_big_compare_0 _
    | (q + 1), h => omega) ?_
  intro a k h
  unfold spj130 at h
  split at h
  · exact ⟨[], rfl, rfl, (eqj130 _ _ _ _).trans h⟩
  · cases h


end Go.Proofs.YtccocdgimamdhaaGreatDoor
