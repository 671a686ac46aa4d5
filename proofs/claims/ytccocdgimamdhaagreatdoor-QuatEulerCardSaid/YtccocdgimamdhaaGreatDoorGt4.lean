/-
  THE TIES: each printed meaning is what the program does (written by program).
  Conditions: none.
-/
import Derived.Test.YtccocdgimamdhaaGreatDoorGs
namespace Go.Proofs.YtccocdgimamdhaaGreatDoor
open Go Go.Mach Go.Proofs
set_option linter.unusedVariables false
set_option maxRecDepth 50000

def an_q48 (N_ : Nat) (S_q41 : TS_q41) (S_q37 : TS_q37) (S_q88 : TS_q88) (S_q42 : TS_q42) (S_q5 : TS_q5) (S_q24 : TS_q24) (S_q93 : TS_q93) (S_q108 : TS_q108) (S_q39 : TS_q39) : Nat -> Option Ann := fun b_ => none
theorem eq_q48 (N_ : Nat) (S_q41 : TS_q41) (S_q37 : TS_q37) (S_q88 : TS_q88) (S_q42 : TS_q42) (S_q5 : TS_q5) (S_q24 : TS_q24) (S_q93 : TS_q93) (S_q108 : TS_q108) (S_q39 : TS_q39) (x_0 : Int) (x_1 : Int) (x_2 : Int) (x_3 : Int) (y_0 : Int) (y_1 : Int) (y_2 : Int) (y_3 : Int) (z_0 : Int) (z_1 : Int) (z_2 : Int) (z_3 : Int) (c_ : V -> List Blk -> Bool) : bodyV ⟨Pg, ofList [(8, (F_q41 S_q41)), (9, (F_q37 S_q37)), (10, (F_q88 S_q88)), (11, (F_q42 S_q42)), (13, (F_q5 S_q5)), (12, (F_q24 S_q24)), (14, (F_q93 S_q93)), (15, (F_q108 S_q108)), (16, (F_q39 S_q39))], isref, N_⟩ (an_q48 N_ S_q41 S_q37 S_q88 S_q42 S_q5 S_q24 S_q93 S_q108 S_q39) 3 (shF_q48.args [.int x_0, .int x_1, .int x_2, .int x_3, .int y_0, .int y_1, .int y_2, .int y_3, .int z_0, .int z_1, .int z_2, .int z_3]) [] c_ = G_q48 N_ S_q41 S_q37 S_q88 S_q42 S_q5 S_q24 S_q93 S_q108 S_q39 x_0 x_1 x_2 x_3 y_0 y_1 y_2 y_3 z_0 z_1 z_2 z_3 (fun r0 => c_ (.bool r0) []) := by kernel_rfl
theorem top_q48 (N_ : Nat) (S_q41 : TS_q41) (S_q37 : TS_q37) (S_q88 : TS_q88) (S_q42 : TS_q42) (S_q5 : TS_q5) (S_q24 : TS_q24) (S_q93 : TS_q93) (S_q108 : TS_q108) (S_q39 : TS_q39) (h_q41 : GoodF Pg 8 (F_q41 S_q41)) (h_q37 : GoodF Pg 9 (F_q37 S_q37)) (h_q88 : GoodF Pg 10 (F_q88 S_q88)) (h_q42 : GoodF Pg 11 (F_q42 S_q42)) (h_q5 : GoodF Pg 13 (F_q5 S_q5)) (h_q24 : GoodF Pg 12 (F_q24 S_q24)) (h_q93 : GoodF Pg 14 (F_q93 S_q93)) (h_q108 : GoodF Pg 15 (F_q108 S_q108)) (h_q39 : GoodF Pg 16 (F_q39 S_q39)) (x_0 : Int) (x_1 : Int) (x_2 : Int) (x_3 : Int) (y_0 : Int) (y_1 : Int) (y_2 : Int) (y_3 : Int) (z_0 : Int) (z_1 : Int) (z_2 : Int) (z_3 : Int) (hG : G_q48 N_ S_q41 S_q37 S_q88 S_q42 S_q5 S_q24 S_q93 S_q108 S_q39 x_0 x_1 x_2 x_3 y_0 y_1 y_2 y_3 z_0 z_1 z_2 z_3 (fun b => b) = true) : OkC Pg 3 (shF_q48.args [.int x_0, .int x_1, .int x_2, .int x_3, .int y_0, .int y_1, .int y_2, .int y_3, .int z_0, .int z_1, .int z_2, .int z_3]) [] (.bool true) [] :=
  top_fs (cx := ⟨Pg, ofList [(8, (F_q41 S_q41)), (9, (F_q37 S_q37)), (10, (F_q88 S_q88)), (11, (F_q42 S_q42)), (13, (F_q5 S_q5)), (12, (F_q24 S_q24)), (14, (F_q93 S_q93)), (15, (F_q108 S_q108)), (16, (F_q39 S_q39))], isref, N_⟩) (ofList_cons h_q41 (ofList_cons h_q37 (ofList_cons h_q88 (ofList_cons h_q42 (ofList_cons h_q5 (ofList_cons h_q24 (ofList_cons h_q93 (ofList_cons h_q108 (ofList_cons h_q39 (ofList_nil _)))))))))) (an_q48 N_ S_q41 S_q37 S_q88 S_q42 S_q5 S_q24 S_q93 S_q108 S_q39) 0 (by kernel_rfl) (fun i_ hi_ => by omega) ((eq_q48 N_ S_q41 S_q37 S_q88 S_q42 S_q5 S_q24 S_q93 S_q108 S_q39 x_0 x_1 x_2 x_3 y_0 y_1 y_2 y_3 z_0 z_1 z_2 z_3 (fun r H => match r, H with | .bool b, [] => b | _, _ => false)).trans hG)

end Go.Proofs.YtccocdgimamdhaaGreatDoor
