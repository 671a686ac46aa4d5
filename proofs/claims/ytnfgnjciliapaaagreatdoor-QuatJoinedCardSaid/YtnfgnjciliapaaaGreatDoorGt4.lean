/-
  THE TIES: each printed meaning is what the program does (written by program).
  Conditions: none.
-/
import Derived.Test.YtnfgnjciliapaaaGreatDoorGs
namespace Go.Proofs.YtnfgnjciliapaaaGreatDoor
open Go Go.Mach Go.Proofs
set_option linter.unusedVariables false
set_option maxRecDepth 50000

def anQ74 (N : Nat) (SQ100 : TSQ100) (SQ37 : TSQ37) : Nat -> Option Ann := fun b_ => none
theorem eqQ74 (N : Nat) (SQ100 : TSQ100) (SQ37 : TSQ37) (n : Int) (b : Bool) (c_ : V -> List Blk -> Bool) : bodyZ ⟨Pg, ofList [(117, (FQ100 SQ100)), (99, (FQ37 SQ37))], isref, N⟩ (anQ74 N SQ100 SQ37) 96 (shFQ74.args [.int n, .bool b]) [⟨98, 1, .cells [.bool b, .nil]⟩] c_ = GQ74 N SQ100 SQ37 n b (fun r0 r1 => c_ (.ptr 0 0) [⟨98, 1, .cells [.bool r0, .roi .u32 r1]⟩]) := by kernel_rfl
theorem goodQ74 (N : Nat) (SQ100 : TSQ100) (SQ37 : TSQ37) (hQ100 : GoodF Pg 117 (FQ100 SQ100)) (hQ37 : GoodF Pg 99 (FQ37 SQ37)) : GoodF Pg 96 (FQ74 (GQ74 N SQ100 SQ37)) := by
  refine good_fsZ (cx := ⟨Pg, ofList [(117, (FQ100 SQ100)), (99, (FQ37 SQ37))], isref, N⟩) (ofList_cons hQ100 (ofList_cons hQ37 (ofList_nil _))) shFQ74 (spQ74 (GQ74 N SQ100 SQ37)) (anQ74 N SQ100 SQ37) 0 1 (by kernel_rfl) (fun i_ hi_ => by omega) ?_
  intro a k h
  unfold spQ74 at h
  split at h
  · exact ⟨[_], rfl, rfl, (eqQ74 _ _ _ _ _ _).trans h⟩
  · cases h

def anQ106 (N : Nat) (SQ74 : TSQ74) : Nat -> Option Ann := fun b_ => none
theorem eqQ106 (N : Nat) (SQ74 : TSQ74) (n : Int) (c_ : V -> List Blk -> Bool) : bodyZ ⟨Pg, ofList [(96, (FQ74 SQ74))], isref, N⟩ (anQ106 N SQ74) 51 (shFQ106.args [.int n]) [] c_ = GQ106 N SQ74 n (fun r0 r1 => c_ (.ptr 0 0) [⟨98, 1, .cells [.bool r0, .roi .u32 r1]⟩]) := by kernel_rfl
theorem goodQ106 (N : Nat) (SQ74 : TSQ74) (hQ74 : GoodF Pg 96 (FQ74 SQ74)) : GoodF Pg 51 (FQ106 (GQ106 N SQ74)) := by
  refine good_fsZ (cx := ⟨Pg, ofList [(96, (FQ74 SQ74))], isref, N⟩) (ofList_cons hQ74 (ofList_nil _)) shFQ106 (spQ106 (GQ106 N SQ74)) (anQ106 N SQ74) 0 0 (by kernel_rfl) (fun i_ hi_ => by omega) ?_
  intro a k h
  unfold spQ106 at h
  split at h
  · exact ⟨[], rfl, rfl, (eqQ106 _ _ _ _).trans h⟩
  · cases h

def anQ86 (N : Nat) (SQ106 : TSQ106) : Nat -> Option Ann := fun b_ => none
theorem eqQ86 (N : Nat) (SQ106 : TSQ106) (e : Int) (c_ : V -> List Blk -> Bool) : bodyV ⟨Pg, ofList [(51, (FQ106 SQ106))], isref, N⟩ (anQ86 N SQ106) 16 (shFQ86.args [.int e]) [] c_ = GQ86 N SQ106 e (fun r1 r2 => c_ (.agg [.ptr 0 0, .int .i64 e]) [⟨98, 1, .cells [.bool r1, .roi .u32 r2]⟩]) := by kernel_rfl
theorem goodQ86 (N : Nat) (SQ106 : TSQ106) (hQ106 : GoodF Pg 51 (FQ106 SQ106)) : GoodF Pg 16 (FQ86 (GQ86 N SQ106)) := by
  refine good_fs (cx := ⟨Pg, ofList [(51, (FQ106 SQ106))], isref, N⟩) (ofList_cons hQ106 (ofList_nil _)) shFQ86 (spQ86 (GQ86 N SQ106)) (anQ86 N SQ106) 0 0 (by kernel_rfl) (fun i_ hi_ => by omega) ?_
  intro a k h
  unfold spQ86 at h
  split at h
  · exact ⟨[], rfl, rfl, (eqQ86 _ _ _ _).trans h⟩
  · cases h

def anQ12 (N : Nat) (SQ20 : TSQ20) (SQ3 : TSQ3) (SQ57 : TSQ57) : Nat -> Option Ann := fun b_ => none
theorem eqQ12 (N : Nat) (SQ20 : TSQ20) (SQ3 : TSQ3) (SQ57 : TSQ57) (x y : Int) (b : Bool) (b_1 : List Int) (b_2 : Bool) (b_3 : List Int) (c_ : V -> List Blk -> Bool) : bodyV ⟨Pg, ofList [(17, (FQ20 SQ20)), (15, (FQ3 SQ3)), (52, (FQ57 SQ57))], isref, N⟩ (anQ12 N SQ20 SQ3 SQ57) 20 (shFQ12.args [.int x, .int y, .bool b, .ints b_1, .bool b_2, .ints b_3]) [⟨98, 1, .cells [.bool b, .roi .u32 b_1]⟩, ⟨98, 1, .cells [.bool b_2, .roi .u32 b_3]⟩] c_ = GQ12 N SQ20 SQ3 SQ57 x y b b_1 b_2 b_3 (fun r0 => c_ (.int .i64 r0) [⟨98, 1, .cells [.bool b, .roi .u32 b_1]⟩, ⟨98, 1, .cells [.bool b_2, .roi .u32 b_3]⟩]) := by kernel_rfl
theorem goodQ12 (N : Nat) (SQ20 : TSQ20) (SQ3 : TSQ3) (SQ57 : TSQ57) (hQ20 : GoodF Pg 17 (FQ20 SQ20)) (hQ3 : GoodF Pg 15 (FQ3 SQ3)) (hQ57 : GoodF Pg 52 (FQ57 SQ57)) : GoodF Pg 20 (FQ12 (GQ12 N SQ20 SQ3 SQ57)) := by
  refine good_fs (cx := ⟨Pg, ofList [(17, (FQ20 SQ20)), (15, (FQ3 SQ3)), (52, (FQ57 SQ57))], isref, N⟩) (ofList_cons hQ20 (ofList_cons hQ3 (ofList_cons hQ57 (ofList_nil _)))) shFQ12 (spQ12 (GQ12 N SQ20 SQ3 SQ57)) (anQ12 N SQ20 SQ3 SQ57) 0 2 (by kernel_rfl) (fun i_ hi_ => by omega) ?_
  intro a k h
  unfold spQ12 at h
  split at h
  · exact ⟨[_, _], rfl, rfl, (eqQ12 _ _ _ _ _ _ _ _ _ _ _).trans h⟩
  · cases h

def anQ21 (N : Nat) (SQ118 : TSQ118) (SQ20 : TSQ20) (SQ3 : TSQ3) (SQ16 : TSQ16) (SQ86 : TSQ86) (SQ2 : TSQ2) (SQ12 : TSQ12) : Nat -> Option Ann := fun b_ => none
theorem eqQ21 (N : Nat) (SQ118 : TSQ118) (SQ20 : TSQ20) (SQ3 : TSQ3) (SQ16 : TSQ16) (SQ86 : TSQ86) (SQ2 : TSQ2) (SQ12 : TSQ12) (a_0 a_1 a_2 b_0 b_1 b_2 : Fl) (k_ square : Int) (b : Bool) (b_3 : List Int) (c_ : V -> List Blk -> Bool) : bodyV ⟨Pg, ofList [(28, (FQ118 SQ118)), (17, (FQ20 SQ20)), (15, (FQ3 SQ3)), (19, (orFs (FQ16 SQ16) (FQ2 SQ2) shFQ16)), (16, (FQ86 SQ86)), (20, (FQ12 SQ12))], isref, (N + 24)⟩ (anQ21 (N + 24) SQ118 SQ20 SQ3 SQ16 SQ86 SQ2 SQ12) 22 (shFQ21.args [.fl a_0, .fl a_1, .fl a_2, .fl b_0, .fl b_1, .fl b_2, .int k_, .int square, .bool b, .ints b_3]) [⟨98, 1, .cells [.bool b, .roi .u32 b_3]⟩] c_ = GQ21 (N + 24) SQ118 SQ20 SQ3 SQ16 SQ86 SQ2 SQ12 a_0 a_1 a_2 b_0 b_1 b_2 k_ square b b_3 (fun r0 => c_ (.bool r0) [⟨98, 1, .cells [.bool b, .roi .u32 b_3]⟩]) := by kernel_rfl
theorem goodQ21 (N : Nat) (SQ118 : TSQ118) (SQ20 : TSQ20) (SQ3 : TSQ3) (SQ16 : TSQ16) (SQ86 : TSQ86) (SQ2 : TSQ2) (SQ12 : TSQ12) (hQ118 : GoodF Pg 28 (FQ118 SQ118)) (hQ20 : GoodF Pg 17 (FQ20 SQ20)) (hQ3 : GoodF Pg 15 (FQ3 SQ3)) (hQ16 : GoodF Pg 19 (FQ16 SQ16)) (hQ86 : GoodF Pg 16 (FQ86 SQ86)) (hQ2 : GoodF Pg 19 (FQ2 SQ2)) (hQ12 : GoodF Pg 20 (FQ12 SQ12)) : GoodF Pg 22 (FQ21 (GQ21 (N + 24) SQ118 SQ20 SQ3 SQ16 SQ86 SQ2 SQ12)) := by
  refine good_fs (cx := ⟨Pg, ofList [(28, (FQ118 SQ118)), (17, (FQ20 SQ20)), (15, (FQ3 SQ3)), (19, (orFs (FQ16 SQ16) (FQ2 SQ2) shFQ16)), (16, (FQ86 SQ86)), (20, (FQ12 SQ12))], isref, (N + 24)⟩) (ofList_cons hQ118 (ofList_cons hQ20 (ofList_cons hQ3 (ofList_cons (good_or hQ16 hQ2) (ofList_cons hQ86 (ofList_cons hQ12 (ofList_nil _))))))) shFQ21 (spQ21 (GQ21 (N + 24) SQ118 SQ20 SQ3 SQ16 SQ86 SQ2 SQ12)) (anQ21 (N + 24) SQ118 SQ20 SQ3 SQ16 SQ86 SQ2 SQ12) 1 1 (by kernel_rfl) (fun i_ hi_ => by
    match i_, hi_ with
    | 0, _ => exact (fun hk e => by rw [show hookOf ((anQ21 (N + 24) SQ118 SQ20 SQ3 SQ16 SQ86 SQ2 SQ12) (lp Pg 22 0).1) = none from by kernel_rfl] at e; cases e)
    | (q + 1), h => omega) ?_
  intro a k h
  unfold spQ21 at h
  split at h
  · exact ⟨[_], rfl, rfl, (eqQ21 _ _ _ _ _ _ _ _ _ _ _ _ _ _ _ _ _ _ _).trans h⟩
  · cases h

def anQ107 (N : Nat) (SQ7 : TSQ7) : Nat -> Option Ann := fun b_ => none
theorem eqQ107 (N : Nat) (SQ7 : TSQ7) (q_0 q_1 q_2 q_3 : Fl) (c_ : V -> List Blk -> Bool) : bodyV ⟨Pg, ofList [(42, (FQ7 SQ7))], isref, N⟩ (anQ107 N SQ7) 23 (shFQ107.args [.fl q_0, .fl q_1, .fl q_2, .fl q_3]) [] c_ = GQ107 N SQ7 q_0 q_1 q_2 q_3 (fun r0 r1 r2 r3 r4 => c_ (.tup [.agg [.flt r0, .flt r1, .flt r2, .flt r3], .int .i64 r4]) []) := by kernel_rfl
theorem goodQ107 (N : Nat) (SQ7 : TSQ7) (hQ7 : GoodF Pg 42 (FQ7 SQ7)) : GoodF Pg 23 (FQ107 (GQ107 N SQ7)) := by
  refine good_fs (cx := ⟨Pg, ofList [(42, (FQ7 SQ7))], isref, N⟩) (ofList_cons hQ7 (ofList_nil _)) shFQ107 (spQ107 (GQ107 N SQ7)) (anQ107 N SQ7) 0 0 (by kernel_rfl) (fun i_ hi_ => by omega) ?_
  intro a k h
  unfold spQ107 at h
  split at h
  · exact ⟨[], rfl, rfl, (eqQ107 _ _ _ _ _ _ _).trans h⟩
  · cases h

def anQ84 (N : Nat) (SQ7 : TSQ7) (SQ29 : TSQ29) : Nat -> Option Ann := fun b_ => none
theorem eqQ84 (N : Nat) (SQ7 : TSQ7) (SQ29 : TSQ29) (q_0 q_1 q_2 q_3 : Fl) (c_ : V -> List Blk -> Bool) : bodyV ⟨Pg, ofList [(42, (FQ7 SQ7)), (48, (FQ29 SQ29))], isref, N⟩ (anQ84 N SQ7 SQ29) 24 (shFQ84.args [.fl q_0, .fl q_1, .fl q_2, .fl q_3]) [] c_ = GQ84 N SQ7 SQ29 q_0 q_1 q_2 q_3 (fun r0 r1 r2 => c_ (.tup [.agg [.int .i64 r0, .int .i64 r1, .nil], .int .i64 r2]) []) (fun r0 r1 r2 r3 => c_ (.tup [.agg [.int .i64 r0, .int .i64 r1, .slw 0], .int .i64 r2]) [⟨28, 1, .flts r3⟩]) := by kernel_rfl
theorem goodQ84 (N : Nat) (SQ7 : TSQ7) (SQ29 : TSQ29) (hQ7 : GoodF Pg 42 (FQ7 SQ7)) (hQ29 : GoodF Pg 48 (FQ29 SQ29)) : GoodF Pg 24 (FQ84 (GQ84 N SQ7 SQ29)) := by
  refine good_fs (cx := ⟨Pg, ofList [(42, (FQ7 SQ7)), (48, (FQ29 SQ29))], isref, N⟩) (ofList_cons hQ7 (ofList_cons hQ29 (ofList_nil _))) shFQ84 (spQ84 (GQ84 N SQ7 SQ29)) (anQ84 N SQ7 SQ29) 0 0 (by kernel_rfl) (fun i_ hi_ => by omega) ?_
  intro a k h
  unfold spQ84 at h
  split at h
  · exact ⟨[], rfl, rfl, (eqQ84 _ _ _ _ _ _ _ _).trans h⟩
  · cases h

def anQ51 (N : Nat) (SQ45 : TSQ45) (SQ41 : TSQ41) (SQ46 : TSQ46) (SQ71 : TSQ71) (SQ47 : TSQ47) (SQ31 : TSQ31) (SQ105 : TSQ105) (SQ77 : TSQ77) (SQ21 : TSQ21) (SQ107 : TSQ107) (SQ84 : TSQ84) : Nat -> Option Ann := fun b_ => none
theorem eqQ51 (N : Nat) (SQ45 : TSQ45) (SQ41 : TSQ41) (SQ46 : TSQ46) (SQ71 : TSQ71) (SQ47 : TSQ47) (SQ31 : TSQ31) (SQ105 : TSQ105) (SQ77 : TSQ77) (SQ21 : TSQ21) (SQ107 : TSQ107) (SQ84 : TSQ84) (x_0 x_1 x_2 x_3 y_0 y_1 y_2 y_3 u_0 u_1 u_2 : Int) (c_ : V -> List Blk -> Bool) : bodyV ⟨Pg, ofList [(8, (FQ45 SQ45)), (9, (FQ41 SQ41)), (10, (FQ46 SQ46)), (11, (FQ71 SQ71)), (12, (FQ47 SQ47)), (18, (FQ31 SQ31)), (21, (FQ105 SQ105)), (13, (FQ77 SQ77)), (22, (FQ21 SQ21)), (23, (FQ107 SQ107)), (24, (FQ84 SQ84))], isref, (N + 24)⟩ (anQ51 (N + 24) SQ45 SQ41 SQ46 SQ71 SQ47 SQ31 SQ105 SQ77 SQ21 SQ107 SQ84) 4 (shFQ51.args [.int x_0, .int x_1, .int x_2, .int x_3, .int y_0, .int y_1, .int y_2, .int y_3, .int u_0, .int u_1, .int u_2]) [] c_ = GQ51 (N + 24) SQ45 SQ41 SQ46 SQ71 SQ47 SQ31 SQ105 SQ77 SQ21 SQ107 SQ84 x_0 x_1 x_2 x_3 y_0 y_1 y_2 y_3 u_0 u_1 u_2 (fun r0 => c_ (.bool r0) []) := by kernel_rfl
theorem topQ51 (N : Nat) (SQ45 : TSQ45) (SQ41 : TSQ41) (SQ46 : TSQ46) (SQ71 : TSQ71) (SQ47 : TSQ47) (SQ31 : TSQ31) (SQ105 : TSQ105) (SQ77 : TSQ77) (SQ21 : TSQ21) (SQ107 : TSQ107) (SQ84 : TSQ84) (hQ45 : GoodF Pg 8 (FQ45 SQ45)) (hQ41 : GoodF Pg 9 (FQ41 SQ41)) (hQ46 : GoodF Pg 10 (FQ46 SQ46)) (hQ71 : GoodF Pg 11 (FQ71 SQ71)) (hQ47 : GoodF Pg 12 (FQ47 SQ47)) (hQ31 : GoodF Pg 18 (FQ31 SQ31)) (hQ105 : GoodF Pg 21 (FQ105 SQ105)) (hQ77 : GoodF Pg 13 (FQ77 SQ77)) (hQ21 : GoodF Pg 22 (FQ21 SQ21)) (hQ107 : GoodF Pg 23 (FQ107 SQ107)) (hQ84 : GoodF Pg 24 (FQ84 SQ84)) (x_0 x_1 x_2 x_3 y_0 y_1 y_2 y_3 u_0 u_1 u_2 : Int) (hG : GQ51 (N + 24) SQ45 SQ41 SQ46 SQ71 SQ47 SQ31 SQ105 SQ77 SQ21 SQ107 SQ84 x_0 x_1 x_2 x_3 y_0 y_1 y_2 y_3 u_0 u_1 u_2 (fun b => b) = true) : OkC Pg 4 (shFQ51.args [.int x_0, .int x_1, .int x_2, .int x_3, .int y_0, .int y_1, .int y_2, .int y_3, .int u_0, .int u_1, .int u_2]) [] (.bool true) [] :=
  top_fs (cx := ⟨Pg, ofList [(8, (FQ45 SQ45)), (9, (FQ41 SQ41)), (10, (FQ46 SQ46)), (11, (FQ71 SQ71)), (12, (FQ47 SQ47)), (18, (FQ31 SQ31)), (21, (FQ105 SQ105)), (13, (FQ77 SQ77)), (22, (FQ21 SQ21)), (23, (FQ107 SQ107)), (24, (FQ84 SQ84))], isref, (N + 24)⟩) (ofList_cons hQ45 (ofList_cons hQ41 (ofList_cons hQ46 (ofList_cons hQ71 (ofList_cons hQ47 (ofList_cons hQ31 (ofList_cons hQ105 (ofList_cons hQ77 (ofList_cons hQ21 (ofList_cons hQ107 (ofList_cons hQ84 (ofList_nil _)))))))))))) (anQ51 (N + 24) SQ45 SQ41 SQ46 SQ71 SQ47 SQ31 SQ105 SQ77 SQ21 SQ107 SQ84) 1 (by kernel_rfl) (fun i_ hi_ => by
    match i_, hi_ with
    | 0, _ => exact (fun hk e => by rw [show hookOf ((anQ51 (N + 24) SQ45 SQ41 SQ46 SQ71 SQ47 SQ31 SQ105 SQ77 SQ21 SQ107 SQ84) (lp Pg 4 0).1) = none from by kernel_rfl] at e; cases e)
    | (q + 1), h => omega) ((eqQ51 N SQ45 SQ41 SQ46 SQ71 SQ47 SQ31 SQ105 SQ77 SQ21 SQ107 SQ84 x_0 x_1 x_2 x_3 y_0 y_1 y_2 y_3 u_0 u_1 u_2 (fun r H => match r, H with | .bool b, [] => b | _, _ => false)).trans hG)

end Go.Proofs.YtnfgnjciliapaaaGreatDoor
