/-
  THE TIES: each printed meaning is what the program does (written by program).
  Conditions: none.
-/
import Derived.Test.YtjpaijnmiaoopaaGreatDoorGp
namespace Go.Proofs.YtjpaijnmiaoopaaGreatDoor
open Go Go.Mach Go.Proofs
set_option linter.unusedVariables false
set_option maxRecDepth 50000
def anQ34 (N : Nat) (SQ77 : TSQ77) (SQ16 : TSQ16) (SQ60 : TSQ60) (SQ68 : TSQ68) : Nat -> Option Ann := fun b_ => none
theorem eqQ34 (N : Nat) (SQ77 : TSQ77) (SQ16 : TSQ16) (SQ60 : TSQ60) (SQ68 : TSQ68) (turn b b_1 : Bool) (b_2 : List Int) (b_3 : Bool) (b_4 : List Int) (c_ : V -> List Blk -> Bool) : bodyZ false ⟨Pg, ofList [(149, (FQ77 SQ77)), (106, (FQ16 SQ16)), (117, (FQ60 SQ60)), (150, (FQ68 SQ68))], isref, N⟩ (anQ34 N SQ77 SQ16 SQ60 SQ68) 112 (shFQ34.args [.bool turn, .bool b, .bool b_1, .ints b_2, .bool b_3, .ints b_4]) [⟨57, 1, .cells [.bool b, .nil]⟩, ⟨57, 1, .cells [.bool b_1, .roi .u32 b_2]⟩, ⟨57, 1, .cells [.bool b_3, .roi .u32 b_4]⟩] c_ = GQ34 N SQ77 SQ16 SQ60 SQ68 turn b b_1 b_2 b_3 b_4 (fun r0 r1 => c_ (.ptr 0 0) [⟨57, 1, .cells [.bool r0, .roi .u32 r1]⟩, ⟨57, 1, .cells [.bool b_1, .roi .u32 b_2]⟩, ⟨57, 1, .cells [.bool b_3, .roi .u32 b_4]⟩]) := by kernel_rfl
theorem goodQ34 (N : Nat) (SQ77 : TSQ77) (SQ16 : TSQ16) (SQ60 : TSQ60) (SQ68 : TSQ68) (hQ77 : GoodF Pg 149 (FQ77 SQ77)) (hQ16 : GoodF Pg 106 (FQ16 SQ16)) (hQ60 : GoodF Pg 117 (FQ60 SQ60)) (hQ68 : GoodF Pg 150 (FQ68 SQ68)) : GoodF Pg 112 (FQ34 (GQ34 N SQ77 SQ16 SQ60 SQ68)) := by
 refine good_fsZ (md := false) (cx := ⟨Pg, ofList [(149, (FQ77 SQ77)), (106, (FQ16 SQ16)), (117, (FQ60 SQ60)), (150, (FQ68 SQ68))], isref, N⟩) (os_zero (ofList_cons hQ77 (ofList_cons hQ16 (ofList_cons hQ60 (ofList_cons hQ68 (ofList_nil _))))) (by kernel_rfl)) shFQ34 (spQ34 (GQ34 N SQ77 SQ16 SQ60 SQ68)) (anQ34 N SQ77 SQ16 SQ60 SQ68) 0 3 (by kernel_rfl) (fun i_ hi_ => by omega) ?_
 intro a k h
 unfold spQ34 at h
 split at h
 ·exact ⟨[_, _, _], rfl, rfl, (eqQ34 _ _ _ _ _ _ _ _ _ _ _ _).trans h⟩
 ·cases h
def anQ28 (N : Nat) (SQ34 : TSQ34) : Nat -> Option Ann := fun b_ => none
theorem eqQ28 (N : Nat) (SQ34 : TSQ34) (b b_1 : Bool) (b_2 : List Int) (b_3 : Bool) (b_4 : List Int) (c_ : V -> List Blk -> Bool) : bodyZ false ⟨Pg, ofList [(112, (FQ34 SQ34))], isref, N⟩ (anQ28 N SQ34) 67 (shFQ28.args [.bool b, .bool b_1, .ints b_2, .bool b_3, .ints b_4]) [⟨57, 1, .cells [.bool b, .nil]⟩, ⟨57, 1, .cells [.bool b_1, .roi .u32 b_2]⟩, ⟨57, 1, .cells [.bool b_3, .roi .u32 b_4]⟩] c_ = GQ28 N SQ34 b b_1 b_2 b_3 b_4 (fun r0 r1 => c_ (.ptr 0 0) [⟨57, 1, .cells [.bool r0, .roi .u32 r1]⟩, ⟨57, 1, .cells [.bool b_1, .roi .u32 b_2]⟩, ⟨57, 1, .cells [.bool b_3, .roi .u32 b_4]⟩]) := by kernel_rfl
theorem goodQ28 (N : Nat) (SQ34 : TSQ34) (hQ34 : GoodF Pg 112 (FQ34 SQ34)) : GoodF Pg 67 (FQ28 (GQ28 N SQ34)) := by
 refine good_fsZ (md := false) (cx := ⟨Pg, ofList [(112, (FQ34 SQ34))], isref, N⟩) (os_zero (ofList_cons hQ34 (ofList_nil _)) (by kernel_rfl)) shFQ28 (spQ28 (GQ28 N SQ34)) (anQ28 N SQ34) 0 3 (by kernel_rfl) (fun i_ hi_ => by omega) ?_
 intro a k h
 unfold spQ28 at h
 split at h
 ·exact ⟨[_, _, _], rfl, rfl, (eqQ28 _ _ _ _ _ _ _ _).trans h⟩
 ·cases h
def anQ0 (N : Nat) (SQ36 : TSQ36) (SQ23 : TSQ23) (SQ28 : TSQ28) : Nat -> Option Ann := fun b_ => none
theorem eqQ0 (N : Nat) (SQ36 : TSQ36) (SQ23 : TSQ23) (SQ28 : TSQ28) (x y : Int) (b : Bool) (b_1 : List Int) (b_2 : Bool) (b_3 : List Int) (c_ : V -> List Blk -> Bool) : bodyV ⟨Pg, ofList [(86, (FQ36 SQ36)), (87, (FQ23 SQ23)), (67, (FQ28 SQ28))], isref, N⟩ (anQ0 N SQ36 SQ23 SQ28) 33 (shFQ0.args [.int x, .int y, .bool b, .ints b_1, .bool b_2, .ints b_3]) [⟨57, 1, .cells [.bool b, .roi .u32 b_1]⟩, ⟨57, 1, .cells [.bool b_2, .roi .u32 b_3]⟩] c_ = GQ0 N SQ36 SQ23 SQ28 x y b b_1 b_2 b_3 (c_ (.agg [.ptr 1 0, .int .i64 y]) [⟨57, 1, .cells [.bool b, .roi .u32 b_1]⟩, ⟨57, 1, .cells [.bool b_2, .roi .u32 b_3]⟩]) (c_ (.agg [.ptr 0 0, .int .i64 x]) [⟨57, 1, .cells [.bool b, .roi .u32 b_1]⟩, ⟨57, 1, .cells [.bool b_2, .roi .u32 b_3]⟩]) (fun r0 r5 r6 => c_ (.agg [.ptr 2 0, .int .i64 r0]) [⟨57, 1, .cells [.bool b, .roi .u32 b_1]⟩, ⟨57, 1, .cells [.bool b_2, .roi .u32 b_3]⟩, ⟨57, 1, .cells [.bool r5, .roi .u32 r6]⟩]) := by kernel_rfl
theorem goodQ0 (N : Nat) (SQ36 : TSQ36) (SQ23 : TSQ23) (SQ28 : TSQ28) (hQ36 : GoodF Pg 86 (FQ36 SQ36)) (hQ23 : GoodF Pg 87 (FQ23 SQ23)) (hQ28 : GoodF Pg 67 (FQ28 SQ28)) : GoodF Pg 33 (FQ0 (GQ0 N SQ36 SQ23 SQ28)) := by
 refine good_fs (cx := ⟨Pg, ofList [(86, (FQ36 SQ36)), (87, (FQ23 SQ23)), (67, (FQ28 SQ28))], isref, N⟩) (os_zero (ofList_cons hQ36 (ofList_cons hQ23 (ofList_cons hQ28 (ofList_nil _)))) (by kernel_rfl)) shFQ0 (spQ0 (GQ0 N SQ36 SQ23 SQ28)) (anQ0 N SQ36 SQ23 SQ28) 0 2 (by kernel_rfl) (fun i_ hi_ => by omega) ?_
 intro a k h
 unfold spQ0 at h
 split at h
 ·exact ⟨[_, _], rfl, rfl, (eqQ0 _ _ _ _ _ _ _ _ _ _ _).trans h⟩
 ·cases h
def anQ74 (N : Nat) : Nat -> Option Ann := fun b_ => none
theorem eqQ74 (N : Nat) (f : Fl) (c_ : V -> List Blk -> Bool) : bodyV ⟨Pg, ofList [], isref, N⟩ (anQ74 N) 133 (shFQ74.args [.fl f]) [] c_ = GQ74 N f (fun r0 => c_ (.bool r0) []) := by kernel_rfl
theorem goodQ74 (N : Nat) : GoodF Pg 133 (FQ74 (GQ74 N)) := by
 refine good_fs (cx := ⟨Pg, ofList [], isref, N⟩) (os_zero (ofList_nil _) (by kernel_rfl)) shFQ74 (spQ74 (GQ74 N)) (anQ74 N) 0 0 (by kernel_rfl) (fun i_ hi_ => by omega) ?_
 intro a k h
 unfold spQ74 at h
 split at h
 ·exact ⟨[], rfl, rfl, (eqQ74 _ _ _).trans h⟩
 ·cases h
def anQ38 (N : Nat) (S_m_Abs : TS_m_Abs) : Nat -> Option Ann := fun b_ => none
theorem eqQ38 (N : Nat) (S_m_Abs : TS_m_Abs) (x : Fl) (c_ : V -> List Blk -> Bool) : bodyV ⟨Pg, ofList [(51, (F_m_Abs S_m_Abs))], isref, N⟩ (anQ38 N S_m_Abs) 134 (shFQ38.args [.fl x]) [] c_ = GQ38 N S_m_Abs x (fun r0 r1 => c_ (.tup [.flt r0, .int .i64 r1]) []) := by kernel_rfl
theorem goodQ38 (N : Nat) (S_m_Abs : TS_m_Abs) (h_m_Abs : GoodF Pg 51 (F_m_Abs S_m_Abs)) : GoodF Pg 134 (FQ38 (GQ38 N S_m_Abs)) := by
 refine good_fs (cx := ⟨Pg, ofList [(51, (F_m_Abs S_m_Abs))], isref, N⟩) (os_zero (ofList_cons h_m_Abs (ofList_nil _)) (by kernel_rfl)) shFQ38 (spQ38 (GQ38 N S_m_Abs)) (anQ38 N S_m_Abs) 0 0 (by kernel_rfl) (fun i_ hi_ => by omega) ?_
 intro a k h
 unfold spQ38 at h
 split at h
 ·exact ⟨[], rfl, rfl, (eqQ38 _ _ _ _).trans h⟩
 ·cases h
def anQ51 (N : Nat) (SQ13 : TSQ13) (SQ37 : TSQ37) : Nat -> Option Ann := fun b_ => none
theorem eqQ51 (N : Nat) (SQ13 : TSQ13) (SQ37 : TSQ37) (f sign : Fl) (c_ : V -> List Blk -> Bool) : bodyV ⟨Pg, ofList [(29, (FQ13 SQ13)), (43, (FQ37 SQ37))], isref, N⟩ (anQ51 N SQ13 SQ37) 135 (shFQ51.args [.fl f, .fl sign]) [] c_ = GQ51 N SQ13 SQ37 f sign (fun r0 => c_ (.flt r0) []) := by kernel_rfl
theorem goodQ51 (N : Nat) (SQ13 : TSQ13) (SQ37 : TSQ37) (hQ13 : GoodF Pg 29 (FQ13 SQ13)) (hQ37 : GoodF Pg 43 (FQ37 SQ37)) : GoodF Pg 135 (FQ51 (GQ51 N SQ13 SQ37)) := by
 refine good_fs (cx := ⟨Pg, ofList [(29, (FQ13 SQ13)), (43, (FQ37 SQ37))], isref, N⟩) (os_zero (ofList_cons hQ13 (ofList_cons hQ37 (ofList_nil _))) (by kernel_rfl)) shFQ51 (spQ51 (GQ51 N SQ13 SQ37)) (anQ51 N SQ13 SQ37) 0 0 (by kernel_rfl) (fun i_ hi_ => by omega) ?_
 intro a k h
 unfold spQ51 at h
 split at h
 ·exact ⟨[], rfl, rfl, (eqQ51 _ _ _ _ _ _).trans h⟩
 ·cases h
def an_m_Inf (N : Nat) (SQ37 : TSQ37) : Nat -> Option Ann := fun b_ => none
def ls_m_Inf_0 (d_ : List V) (u_ : List (Option Blk)) (sign v : Int) : St := ⟨(dqs d_ 0 3 (.int .u64 v :: (dqs d_ 3 4 []))), []⟩
theorem jn_m_Inf_0 (N : Nat) (SQ37 : TSQ37) (d_ : List V) (u_ : List (Option Blk)) (sign v : Int) (c_ : V -> List Blk -> Bool) : codesV ⟨Pg, ofList [(43, (FQ37 SQ37))], isref, N⟩ 0 (an_m_Inf N SQ37) ((cds Pg 136).drop 4) 0 (ls_m_Inf_0 d_ u_ sign v) (finV Pg 136 0 c_) = J_m_Inf_0 N SQ37 sign v (fun r0 => c_ (.flt r0) []) := by kernel_rfl
theorem hd_m_Inf_w (N : Nat) (SQ37 : TSQ37) (sign : Int) (c_ : V -> List Blk -> Bool) (κn_ : St -> Bool) : codesV ⟨Pg, ofList [(43, (FQ37 SQ37))], isref, N⟩ 0 (an_m_Inf N SQ37) (sg Pg 136 0 4) 0 (st0 Pg 136 (shF_m_Inf.args [.int sign]) []) { (finV Pg 136 0 c_) with nrm := κn_ } = (cond (decide (sign >= 0)) (κn_ (ls_m_Inf_0 [.int .i64 sign, .any, .flt (some 0), .int .i64 sign, .bool true, .any, .any] [] sign 9218868437227405312)) (κn_ (ls_m_Inf_0 [.int .i64 sign, .any, .flt (some 0), .int .i64 sign, .bool false, .any, .any] [] sign 18442240474082181120))) := by kernel_rfl
theorem jn_m_Inf_w (N : Nat) (SQ37 : TSQ37) (sign : Int) (c_ : V -> List Blk -> Bool) : codesV ⟨Pg, ofList [(43, (FQ37 SQ37))], isref, N⟩ 0 (an_m_Inf N SQ37) ((cds Pg 136).drop 0) 0 (st0 Pg 136 (shF_m_Inf.args [.int sign]) []) (finV Pg 136 0 c_) = G_m_Inf N SQ37 sign (fun r0 => c_ (.flt r0) []) := by
 rw [codesV_cut 0 4 4 rfl]
 refine (hd_m_Inf_w N SQ37 sign c_ _).trans ?_
 simp only [jn_m_Inf_0]
 kernel_rfl
theorem eq_m_Inf (N : Nat) (SQ37 : TSQ37) (sign : Int) (c_ : V -> List Blk -> Bool) : bodyV ⟨Pg, ofList [(43, (FQ37 SQ37))], isref, N⟩ (an_m_Inf N SQ37) 136 (shF_m_Inf.args [.int sign]) [] c_ = G_m_Inf N SQ37 sign (fun r0 => c_ (.flt r0) []) :=
 (bodyV_codes (by kernel_rfl)).trans (jn_m_Inf_w N SQ37 sign c_)
theorem good_m_Inf (N : Nat) (SQ37 : TSQ37) (hQ37 : GoodF Pg 43 (FQ37 SQ37)) : GoodF Pg 136 (F_m_Inf (G_m_Inf N SQ37)) := by
 refine good_fs (cx := ⟨Pg, ofList [(43, (FQ37 SQ37))], isref, N⟩) (os_zero (ofList_cons hQ37 (ofList_nil _)) (by kernel_rfl)) shF_m_Inf (sp_m_Inf (G_m_Inf N SQ37)) (an_m_Inf N SQ37) 0 0 (by kernel_rfl) (fun i_ hi_ => by omega) ?_
 intro a k h
 unfold sp_m_Inf at h
 split at h
 ·exact ⟨[], rfl, rfl, (eq_m_Inf _ _ _ _).trans h⟩
 ·cases h
def anQ83 (N : Nat) (SQ63 : TSQ63) (SQ74 : TSQ74) (SQ38 : TSQ38) (SQ13 : TSQ13) (SQ51 : TSQ51) (S_m_Inf : TS_m_Inf) (SQ37 : TSQ37) : Nat -> Option Ann := fun b_ => none
def lsQ104 (d_ : List V) (u_ : List (Option Blk)) (frac : Fl) (exp exp_1 x : Int) (m : Fl) : St := ⟨((dq d_ 0) :: (.int .i64 exp_1 :: (dqs d_ 1 4 (.int .u64 x :: (.flt m :: (dqs d_ 5 55 [])))))), []⟩
theorem jnQ104 (N : Nat) (SQ63 : TSQ63) (SQ74 : TSQ74) (SQ38 : TSQ38) (SQ13 : TSQ13) (SQ51 : TSQ51) (S_m_Inf : TS_m_Inf) (SQ37 : TSQ37) (d_ : List V) (u_ : List (Option Blk)) (frac : Fl) (exp exp_1 x : Int) (m : Fl) (c_ : V -> List Blk -> Bool) : codesV ⟨Pg, ofList [(132, (FQ63 SQ63)), (133, (FQ74 SQ74)), (134, (FQ38 SQ38)), (29, (FQ13 SQ13)), (135, (FQ51 SQ51)), (136, (F_m_Inf S_m_Inf)), (43, (FQ37 SQ37))], isref, N⟩ 0 (anQ83 N SQ63 SQ74 SQ38 SQ13 SQ51 S_m_Inf SQ37) ((cds Pg 90).drop 13) 0 (lsQ104 d_ u_ frac exp exp_1 x m) (finV Pg 90 0 c_) = JQ104 N SQ63 SQ74 SQ38 SQ13 SQ51 S_m_Inf SQ37 frac exp exp_1 x m (fun r0 => c_ (.flt r0) []) := by kernel_rfl
theorem hd_m_ldexp_w (N : Nat) (SQ63 : TSQ63) (SQ74 : TSQ74) (SQ38 : TSQ38) (SQ13 : TSQ13) (SQ51 : TSQ51) (S_m_Inf : TS_m_Inf) (SQ37 : TSQ37) (frac : Fl) (exp : Int) (c_ : V -> List Blk -> Bool) (κn_ : St -> Bool) : codesV ⟨Pg, ofList [(132, (FQ63 SQ63)), (133, (FQ74 SQ74)), (134, (FQ38 SQ38)), (29, (FQ13 SQ13)), (135, (FQ51 SQ51)), (136, (F_m_Inf S_m_Inf)), (43, (FQ37 SQ37))], isref, N⟩ 0 (anQ83 N SQ63 SQ74 SQ38 SQ13 SQ51 S_m_Inf SQ37) (sg Pg 90 0 13) 0 (st0 Pg 90 (shFQ83.args [.fl frac, .int exp]) []) { (finV Pg 90 0 c_) with nrm := κn_ } = (cond (feq frac (some 0)) (c_ (.flt frac) []) (SQ63 frac 0 (fun cr => (cond (cr == false) (SQ74 frac (fun cr_1 => (cond cr_1 (c_ (.flt frac) []) (SQ38 frac (fun xr nr => ((fits .i64 (exp + nr)) && (SQ13 xr (fun nr_1 => ((fits .i64 (Int.fdiv nr_1 (2 ^ 52))) && ((fits .i64 ((bitsN .and .i64 (Int.fdiv nr_1 (2 ^ 52)) 2047) - 1023)) && ((fits .i64 ((exp + nr) + ((bitsN .and .i64 (Int.fdiv nr_1 (2 ^ 52)) 2047) - 1023))) && (cond (decide (((exp + nr) + ((bitsN .and .i64 (Int.fdiv nr_1 (2 ^ 52)) 2047) - 1023)) < (-1075))) (SQ51 (some 0) xr (fun xr_1 => (c_ (.flt xr_1) []))) (cond (decide (((exp + nr) + ((bitsN .and .i64 (Int.fdiv nr_1 (2 ^ 52)) 2047) - 1023)) > 1023)) (cond (flt xr (some 0)) (S_m_Inf (-1) (fun xr_2 => (c_ (.flt xr_2) []))) (S_m_Inf 1 (fun xr_3 => (c_ (.flt xr_3) [])))) (cond (decide (((exp + nr) + ((bitsN .and .i64 (Int.fdiv nr_1 (2 ^ 52)) 2047) - 1023)) < (-1022))) ((fits .i64 (((exp + nr) + ((bitsN .and .i64 (Int.fdiv nr_1 (2 ^ 52)) 2047) - 1023)) + 53)) && (κn_ (lsQ104 [.flt xr, .any, .any, .flt (some 0), .int .i64 nr, .bool false, .flt frac, .bool (feq frac (some 0)), .any, .bool false, .flt frac, .bool cr, .bool false, .flt frac, .bool cr_1, .bool cr_1, .any, .tup [.flt xr, .int .i64 nr], .flt frac, .tup [.flt xr, .int .i64 nr], .flt xr, .int .i64 nr, .int .i64 exp, .int .i64 nr, .int .i64 (exp + nr), .flt xr, .int .u64 nr_1, .int .i64 (exp + nr), .int .u64 nr_1, .int .u64 (Int.fdiv nr_1 (2 ^ 52)), .int .i64 (Int.fdiv nr_1 (2 ^ 52)), .int .i64 (bitsN .and .i64 (Int.fdiv nr_1 (2 ^ 52)) 2047), .int .i64 ((bitsN .and .i64 (Int.fdiv nr_1 (2 ^ 52)) 2047) - 1023), .int .i64 ((exp + nr) + ((bitsN .and .i64 (Int.fdiv nr_1 (2 ^ 52)) 2047) - 1023)), .int .i64 ((exp + nr) + ((bitsN .and .i64 (Int.fdiv nr_1 (2 ^ 52)) 2047) - 1023)), .bool false, .any, .any, .int .i64 ((exp + nr) + ((bitsN .and .i64 (Int.fdiv nr_1 (2 ^ 52)) 2047) - 1023)), .bool false, .any, .any, .any, .any, .int .i64 ((exp + nr) + ((bitsN .and .i64 (Int.fdiv nr_1 (2 ^ 52)) 2047) - 1023)), .bool true, .int .i64 ((exp + nr) + ((bitsN .and .i64 (Int.fdiv nr_1 (2 ^ 52)) 2047) - 1023)), .int .i64 (((exp + nr) + ((bitsN .and .i64 (Int.fdiv nr_1 (2 ^ 52)) 2047) - 1023)) + 53), .any, .any, .any, .any, .any, .any, .any, .any, .any, .any, .any, .any] [] frac exp (((exp + nr) + ((bitsN .and .i64 (Int.fdiv nr_1 (2 ^ 52)) 2047) - 1023)) + 53) nr_1 (some 4368491638549381120)))) (κn_ (lsQ104 [.flt xr, .any, .any, .flt (some 0), .int .i64 nr, .bool false, .flt frac, .bool (feq frac (some 0)), .any, .bool false, .flt frac, .bool cr, .bool false, .flt frac, .bool cr_1, .bool cr_1, .any, .tup [.flt xr, .int .i64 nr], .flt frac, .tup [.flt xr, .int .i64 nr], .flt xr, .int .i64 nr, .int .i64 exp, .int .i64 nr, .int .i64 (exp + nr), .flt xr, .int .u64 nr_1, .int .i64 (exp + nr), .int .u64 nr_1, .int .u64 (Int.fdiv nr_1 (2 ^ 52)), .int .i64 (Int.fdiv nr_1 (2 ^ 52)), .int .i64 (bitsN .and .i64 (Int.fdiv nr_1 (2 ^ 52)) 2047), .int .i64 ((bitsN .and .i64 (Int.fdiv nr_1 (2 ^ 52)) 2047) - 1023), .int .i64 ((exp + nr) + ((bitsN .and .i64 (Int.fdiv nr_1 (2 ^ 52)) 2047) - 1023)), .int .i64 ((exp + nr) + ((bitsN .and .i64 (Int.fdiv nr_1 (2 ^ 52)) 2047) - 1023)), .bool false, .any, .any, .int .i64 ((exp + nr) + ((bitsN .and .i64 (Int.fdiv nr_1 (2 ^ 52)) 2047) - 1023)), .bool false, .any, .any, .any, .any, .int .i64 ((exp + nr) + ((bitsN .and .i64 (Int.fdiv nr_1 (2 ^ 52)) 2047) - 1023)), .bool false, .any, .any, .any, .any, .any, .any, .any, .any, .any, .any, .any, .any, .any, .any] [] frac exp ((exp + nr) + ((bitsN .and .i64 (Int.fdiv nr_1 (2 ^ 52)) 2047) - 1023)) nr_1 (some 4607182418800017408))))))))))))))))) (c_ (.flt frac) []))))) := by kernel_rfl
theorem jn_m_ldexp_w (N : Nat) (SQ63 : TSQ63) (SQ74 : TSQ74) (SQ38 : TSQ38) (SQ13 : TSQ13) (SQ51 : TSQ51) (S_m_Inf : TS_m_Inf) (SQ37 : TSQ37) (frac : Fl) (exp : Int) (c_ : V -> List Blk -> Bool) : codesV ⟨Pg, ofList [(132, (FQ63 SQ63)), (133, (FQ74 SQ74)), (134, (FQ38 SQ38)), (29, (FQ13 SQ13)), (135, (FQ51 SQ51)), (136, (F_m_Inf S_m_Inf)), (43, (FQ37 SQ37))], isref, N⟩ 0 (anQ83 N SQ63 SQ74 SQ38 SQ13 SQ51 S_m_Inf SQ37) ((cds Pg 90).drop 0) 0 (st0 Pg 90 (shFQ83.args [.fl frac, .int exp]) []) (finV Pg 90 0 c_) = GQ83 N SQ63 SQ74 SQ38 SQ13 SQ51 S_m_Inf SQ37 frac exp (fun r0 => c_ (.flt r0) []) := by
 rw [codesV_cut 0 13 13 rfl]
 refine (hd_m_ldexp_w N SQ63 SQ74 SQ38 SQ13 SQ51 S_m_Inf SQ37 frac exp c_ _).trans ?_
 simp only [jnQ104]
 kernel_rfl
theorem eqQ83 (N : Nat) (SQ63 : TSQ63) (SQ74 : TSQ74) (SQ38 : TSQ38) (SQ13 : TSQ13) (SQ51 : TSQ51) (S_m_Inf : TS_m_Inf) (SQ37 : TSQ37) (frac : Fl) (exp : Int) (c_ : V -> List Blk -> Bool) : bodyV ⟨Pg, ofList [(132, (FQ63 SQ63)), (133, (FQ74 SQ74)), (134, (FQ38 SQ38)), (29, (FQ13 SQ13)), (135, (FQ51 SQ51)), (136, (F_m_Inf S_m_Inf)), (43, (FQ37 SQ37))], isref, N⟩ (anQ83 N SQ63 SQ74 SQ38 SQ13 SQ51 S_m_Inf SQ37) 90 (shFQ83.args [.fl frac, .int exp]) [] c_ = GQ83 N SQ63 SQ74 SQ38 SQ13 SQ51 S_m_Inf SQ37 frac exp (fun r0 => c_ (.flt r0) []) :=
 (bodyV_codes (by kernel_rfl)).trans (jn_m_ldexp_w N SQ63 SQ74 SQ38 SQ13 SQ51 S_m_Inf SQ37 frac exp c_)
theorem goodQ83 (N : Nat) (SQ63 : TSQ63) (SQ74 : TSQ74) (SQ38 : TSQ38) (SQ13 : TSQ13) (SQ51 : TSQ51) (S_m_Inf : TS_m_Inf) (SQ37 : TSQ37) (hQ63 : GoodF Pg 132 (FQ63 SQ63)) (hQ74 : GoodF Pg 133 (FQ74 SQ74)) (hQ38 : GoodF Pg 134 (FQ38 SQ38)) (hQ13 : GoodF Pg 29 (FQ13 SQ13)) (hQ51 : GoodF Pg 135 (FQ51 SQ51)) (h_m_Inf : GoodF Pg 136 (F_m_Inf S_m_Inf)) (hQ37 : GoodF Pg 43 (FQ37 SQ37)) : GoodF Pg 90 (FQ83 (GQ83 N SQ63 SQ74 SQ38 SQ13 SQ51 S_m_Inf SQ37)) := by
 refine good_fs (cx := ⟨Pg, ofList [(132, (FQ63 SQ63)), (133, (FQ74 SQ74)), (134, (FQ38 SQ38)), (29, (FQ13 SQ13)), (135, (FQ51 SQ51)), (136, (F_m_Inf S_m_Inf)), (43, (FQ37 SQ37))], isref, N⟩) (os_zero (ofList_cons hQ63 (ofList_cons hQ74 (ofList_cons hQ38 (ofList_cons hQ13 (ofList_cons hQ51 (ofList_cons h_m_Inf (ofList_cons hQ37 (ofList_nil _)))))))) (by kernel_rfl)) shFQ83 (spQ83 (GQ83 N SQ63 SQ74 SQ38 SQ13 SQ51 S_m_Inf SQ37)) (anQ83 N SQ63 SQ74 SQ38 SQ13 SQ51 S_m_Inf SQ37) 0 0 (by kernel_rfl) (fun i_ hi_ => by omega) ?_
 intro a k h
 unfold spQ83 at h
 split at h
 ·exact ⟨[], rfl, rfl, (eqQ83 _ _ _ _ _ _ _ _ _ _ _).trans h⟩
 ·cases h
def anQ18 (N : Nat) (SQ83 : TSQ83) : Nat -> Option Ann := fun b_ => none
theorem eqQ18 (N : Nat) (SQ83 : TSQ83) (frac : Fl) (exp : Int) (c_ : V -> List Blk -> Bool) : bodyV ⟨Pg, ofList [(90, (FQ83 SQ83))], isref, N⟩ (anQ18 N SQ83) 36 (shFQ18.args [.fl frac, .int exp]) [] c_ = GQ18 N SQ83 frac exp (fun r0 => c_ (.flt r0) []) := by kernel_rfl
theorem goodQ18 (N : Nat) (SQ83 : TSQ83) (hQ83 : GoodF Pg 90 (FQ83 SQ83)) : GoodF Pg 36 (FQ18 (GQ18 N SQ83)) := by
 refine good_fs (cx := ⟨Pg, ofList [(90, (FQ83 SQ83))], isref, N⟩) (os_zero (ofList_cons hQ83 (ofList_nil _)) (by kernel_rfl)) shFQ18 (spQ18 (GQ18 N SQ83)) (anQ18 N SQ83) 0 0 (by kernel_rfl) (fun i_ hi_ => by omega) ?_
 intro a k h
 unfold spQ18 at h
 split at h
 ·exact ⟨[], rfl, rfl, (eqQ18 _ _ _ _ _).trans h⟩
 ·cases h
def sh_st_binnacleref01_odd_0 : StSh := ⟨(.int .u64 :: (.int .i64 :: (sqs 15 []))), []⟩
def sx0_st_binnacleref01_odd_0 : StSh := ⟨(.int .u64 :: (.int .i64 :: (sqs 15 []))), []⟩
def hk_st_binnacleref01_odd_0 (N : Nat) : List Atom -> K -> Bool := fun a_ κ => match a_ with
 | [.int m_1, .int e_1] => iterG N (st_z01_odd_0 N (fun r0 r1 => κ.ext 0 (sx0_st_binnacleref01_odd_0.build [.int r0, .int r1]))) (m_1, e_1)
 | _ => false
def anQ70 (N : Nat) : Nat -> Option Ann := fun b_ => cond (b_ == 0) (some ⟨⟨[0, 1], [], [], []⟩, [(0, ⟨[0, 1], [], [], []⟩)], some ⟨[4, 5], [], [], []⟩, some (mkHooks [(sh_st_binnacleref01_odd_0, hk_st_binnacleref01_odd_0 N)])⟩) (none)
theorem eq_st_binnacleref01_odd_0 (N : Nat) (κ : K) (m_1 e_1 : Int) : iter N (fun s k => codeV ⟨Pg, ofList [], isref, N⟩ 0 (anQ70 N) (lp Pg 138 0).2 (lp Pg 138 0).1 s (roundK Pg 0 ((anQ70 N) (lp Pg 138 0).1) κ k)) (sh_st_binnacleref01_odd_0.build [.int m_1, .int e_1]) = iterG N (st_z01_odd_0 N (fun r0 r1 => κ.ext 0 (sx0_st_binnacleref01_odd_0.build [.int r0, .int r1]))) (m_1, e_1) :=
 iter_tr (fun (v_ : Int × Int) => sh_st_binnacleref01_odd_0.build [.int v_.1, .int v_.2]) (fun v_ K_ => by obtain ⟨m_1, e_1⟩ := v_; kernel_rfl) N (m_1, e_1)
theorem hk1_st_binnacleref01_odd_0 (N : Nat) : HookFor ⟨Pg, ofList [], isref, N⟩ 0 (anQ70 N) (lp Pg 138 0) (sh_st_binnacleref01_odd_0, hk_st_binnacleref01_odd_0 N) := by
 intro a κ h
 simp only at h
 unfold hk_st_binnacleref01_odd_0 at h
 split at h
 ·exact (eq_st_binnacleref01_odd_0 _ _ _ _).trans h
 ·cases h
theorem ho_binnacleref01_odd_0 (N : Nat) : HookOk ⟨Pg, ofList [], isref, N⟩ 0 (anQ70 N) (lp Pg 138 0) :=
 hooks_ok [(sh_st_binnacleref01_odd_0, hk_st_binnacleref01_odd_0 N)] (by kernel_rfl) ⟨hk1_st_binnacleref01_odd_0 _, trivial⟩
theorem eqQ70 (N : Nat) (m e : Int) (c_ : V -> List Blk -> Bool) : bodyV ⟨Pg, ofList [], isref, N⟩ (anQ70 N) 138 (shFQ70.args [.int m, .int e]) [] c_ = GQ70 N m e (fun r0 r1 => c_ (.tup [.int .u64 r0, .int .i64 r1]) []) := by kernel_rfl
theorem goodQ70 (N : Nat) : GoodF Pg 138 (FQ70 (GQ70 N)) := by
 refine good_fs (cx := ⟨Pg, ofList [], isref, N⟩) (os_zero (ofList_nil _) (by kernel_rfl)) shFQ70 (spQ70 (GQ70 N)) (anQ70 N) 1 0 (by kernel_rfl) (fun i_ hi_ => by
  match i_, hi_ with
  | 0, _ => exact ho_binnacleref01_odd_0 _
  | (q + 1), h => omega) ?_
 intro a k h
 unfold spQ70 at h
 split at h
 ·exact ⟨[], rfl, rfl, (eqQ70 _ _ _ _).trans h⟩
 ·cases h
def anQ67 (N : Nat) (SQ44 : TSQ44) (SQ70 : TSQ70) : Nat -> Option Ann := fun b_ => none
def lsQ100 (d_ : List V) (u_ : List (Option Blk)) (x : Fl) (neg : Bool) (e f : Int) : St := ⟨((dq d_ 0) :: ((dq d_ 1) :: (.ptr 0 0 :: ((dq d_ 2) :: (.bool neg :: (.int .i64 e :: (.int .u64 f :: (dqs d_ 3 28 [])))))))), [some ⟨143, 1, .cells [.bool false, .int .u64 0, .int .i64 0]⟩]⟩
theorem jnQ100 (N : Nat) (SQ44 : TSQ44) (SQ70 : TSQ70) (d_ : List V) (u_ : List (Option Blk)) (x : Fl) (neg : Bool) (e f : Int) (c_ : V -> List Blk -> Bool) : codesV ⟨Pg, ofList [(137, (FQ44 SQ44)), (138, (FQ70 SQ70))], isref, N⟩ 0 (anQ67 N SQ44 SQ70) ((cds Pg 91).drop 6) 0 (lsQ100 d_ u_ x neg e f) (finV Pg 91 0 c_) = JQ100 N SQ44 SQ70 x neg e f (fun r0 r1 r2 r3 => c_ (.tup [.agg [.bool r0, .int .u64 r1, .int .i64 r2], .int .i64 r3]) []) := by kernel_rfl
theorem hd_z01_Parts_w (N : Nat) (SQ44 : TSQ44) (SQ70 : TSQ70) (x : Fl) (c_ : V -> List Blk -> Bool) (κn_ : St -> Bool) : codesV ⟨Pg, ofList [(137, (FQ44 SQ44)), (138, (FQ70 SQ70))], isref, N⟩ 0 (anQ67 N SQ44 SQ70) (sg Pg 91 0 6) 0 (st0 Pg 91 (shFQ67.args [.fl x]) []) { (finV Pg 91 0 c_) with nrm := κn_ } = (SQ44 x (fun cr nr nr_1 => (cond (nr == 2047) (c_ (.tup [.agg [.bool false, .int .u64 0, .int .i64 0], .int .i64 4]) []) (cond (decide (nr > 0)) ((fits .i64 (nr - 1)) && (κn_ (lsQ100 [.flt x, .any, .int .i64 0, .any, .any, .tup [.bool cr, .int .i64 nr, .int .u64 nr_1], .flt x, .tup [.bool cr, .int .i64 nr, .int .u64 nr_1], .bool cr, .int .i64 nr, .int .u64 nr_1, .int .i64 nr, .bool false, .any, .int .i64 nr, .bool true, .int .u64 nr_1, .int .u64 (IntKind.wrap .u64 (nr_1 + 4503599627370496)), .int .i64 nr, .int .i64 (nr - 1), .any, .any, .any, .any, .any, .any, .any, .any, .any, .any, .any] [] x cr (nr - 1) (IntKind.wrap .u64 (nr_1 + 4503599627370496))))) (κn_ (lsQ100 [.flt x, .any, .int .i64 0, .any, .any, .tup [.bool cr, .int .i64 nr, .int .u64 nr_1], .flt x, .tup [.bool cr, .int .i64 nr, .int .u64 nr_1], .bool cr, .int .i64 nr, .int .u64 nr_1, .int .i64 nr, .bool false, .any, .int .i64 nr, .bool false, .any, .any, .any, .any, .any, .any, .any, .any, .any, .any, .any, .any, .any, .any, .any] [] x cr nr nr_1)))))) := by kernel_rfl
theorem jn_z01_Parts_w (N : Nat) (SQ44 : TSQ44) (SQ70 : TSQ70) (x : Fl) (c_ : V -> List Blk -> Bool) : codesV ⟨Pg, ofList [(137, (FQ44 SQ44)), (138, (FQ70 SQ70))], isref, N⟩ 0 (anQ67 N SQ44 SQ70) ((cds Pg 91).drop 0) 0 (st0 Pg 91 (shFQ67.args [.fl x]) []) (finV Pg 91 0 c_) = GQ67 N SQ44 SQ70 x (fun r0 r1 r2 r3 => c_ (.tup [.agg [.bool r0, .int .u64 r1, .int .i64 r2], .int .i64 r3]) []) := by
 rw [codesV_cut 0 6 6 rfl]
 refine (hd_z01_Parts_w N SQ44 SQ70 x c_ _).trans ?_
 simp only [jnQ100]
 kernel_rfl
theorem eqQ67 (N : Nat) (SQ44 : TSQ44) (SQ70 : TSQ70) (x : Fl) (c_ : V -> List Blk -> Bool) : bodyV ⟨Pg, ofList [(137, (FQ44 SQ44)), (138, (FQ70 SQ70))], isref, N⟩ (anQ67 N SQ44 SQ70) 91 (shFQ67.args [.fl x]) [] c_ = GQ67 N SQ44 SQ70 x (fun r0 r1 r2 r3 => c_ (.tup [.agg [.bool r0, .int .u64 r1, .int .i64 r2], .int .i64 r3]) []) :=
 (bodyV_codes (by kernel_rfl)).trans (jn_z01_Parts_w N SQ44 SQ70 x c_)
theorem goodQ67 (N : Nat) (SQ44 : TSQ44) (SQ70 : TSQ70) (hQ44 : GoodF Pg 137 (FQ44 SQ44)) (hQ70 : GoodF Pg 138 (FQ70 SQ70)) : GoodF Pg 91 (FQ67 (GQ67 N SQ44 SQ70)) := by
 refine good_fs (cx := ⟨Pg, ofList [(137, (FQ44 SQ44)), (138, (FQ70 SQ70))], isref, N⟩) (os_zero (ofList_cons hQ44 (ofList_cons hQ70 (ofList_nil _))) (by kernel_rfl)) shFQ67 (spQ67 (GQ67 N SQ44 SQ70)) (anQ67 N SQ44 SQ70) 0 0 (by kernel_rfl) (fun i_ hi_ => by omega) ?_
 intro a k h
 unfold spQ67 at h
 split at h
 ·exact ⟨[], rfl, rfl, (eqQ67 _ _ _ _ _).trans h⟩
 ·cases h
def anQ30 (N : Nat) (SQ45 : TSQ45) (SQ16 : TSQ16) : Nat -> Option Ann := fun b_ => none
theorem eqQ30 (N : Nat) (SQ45 : TSQ45) (SQ16 : TSQ16) (n : Int) (b : Bool) (c_ : V -> List Blk -> Bool) : bodyZ false ⟨Pg, ofList [(139, (FQ45 SQ45)), (106, (FQ16 SQ16))], isref, N⟩ (anQ30 N SQ45 SQ16) 92 (shFQ30.args [.int n, .bool b]) [⟨57, 1, .cells [.bool b, .nil]⟩] c_ = GQ30 N SQ45 SQ16 n b (fun r0 r1 => c_ (.ptr 0 0) [⟨57, 1, .cells [.bool r0, .roi .u32 r1]⟩]) := by kernel_rfl
theorem goodQ30 (N : Nat) (SQ45 : TSQ45) (SQ16 : TSQ16) (hQ45 : GoodF Pg 139 (FQ45 SQ45)) (hQ16 : GoodF Pg 106 (FQ16 SQ16)) : GoodF Pg 92 (FQ30 (GQ30 N SQ45 SQ16)) := by
 refine good_fsZ (md := false) (cx := ⟨Pg, ofList [(139, (FQ45 SQ45)), (106, (FQ16 SQ16))], isref, N⟩) (os_zero (ofList_cons hQ45 (ofList_cons hQ16 (ofList_nil _))) (by kernel_rfl)) shFQ30 (spQ30 (GQ30 N SQ45 SQ16)) (anQ30 N SQ45 SQ16) 0 1 (by kernel_rfl) (fun i_ hi_ => by omega) ?_
 intro a k h
 unfold spQ30 at h
 split at h
 ·exact ⟨[_], rfl, rfl, (eqQ30 _ _ _ _ _ _).trans h⟩
 ·cases h
def anQ58 (N : Nat) (SQ9 : TSQ9) : Nat -> Option Ann := fun b_ => none
theorem eqQ58 (N : Nat) (SQ9 : TSQ9) (neg b : Bool) (b_1 b_2 : List Int) (c_ : V -> List Blk -> Bool) : bodyZ false ⟨Pg, ofList [(110, (FQ9 SQ9))], isref, N⟩ (anQ58 N SQ9) 106 (shFQ58.args [.bool neg, .bool b, .ints b_1, .ints b_2]) [⟨57, 1, .cells [.bool b, .roi .u32 b_1]⟩, ⟨156, 1, .ints .u32 b_2⟩] c_ = GQ58 N SQ9 neg b b_1 b_2 (fun r0 r1 r2 => c_ (.ptr 0 0) [⟨57, 1, .cells [.bool r0, .sl 1 r1 r2]⟩, ⟨156, 1, .ints .u32 b_2⟩]) := by kernel_rfl
theorem goodQ58 (N : Nat) (SQ9 : TSQ9) (hQ9 : GoodF Pg 110 (FQ9 SQ9)) : GoodF Pg 106 (FQ58 (GQ58 N SQ9)) := by
 refine good_fsZ (md := false) (cx := ⟨Pg, ofList [(110, (FQ9 SQ9))], isref, N⟩) (os_zero (ofList_cons hQ9 (ofList_nil _)) (by kernel_rfl)) shFQ58 (spQ58 (GQ58 N SQ9)) (anQ58 N SQ9) 0 2 (by kernel_rfl) (fun i_ hi_ => by omega) ?_
 intro a k h
 unfold spQ58 at h
 split at h
 ·exact ⟨[_, _], rfl, rfl, (eqQ58 _ _ _ _ _ _ _).trans h⟩
 ·cases h
def anQ55 (N : Nat) (SQ58 : TSQ58) : Nat -> Option Ann := fun b_ => none
theorem eqQ55 (N : Nat) (SQ58 : TSQ58) (b : Bool) (b_1 : List Int) (c_ : V -> List Blk -> Bool) : bodyZ false ⟨Pg, ofList [(106, (FQ58 SQ58))], isref, N⟩ (anQ55 N SQ58) 88 (shFQ55.args [.bool b, .ints b_1]) [⟨57, 1, .cells [.bool b, .roi .u32 b_1]⟩] c_ = GQ55 N SQ58 b b_1 (fun r0 r1 => c_ (.ptr 0 0) [⟨57, 1, .cells [.bool r0, .roi .u32 r1]⟩]) := by kernel_rfl
theorem goodQ55 (N : Nat) (SQ58 : TSQ58) (hQ58 : GoodF Pg 106 (FQ58 SQ58)) : GoodF Pg 88 (FQ55 (GQ55 N SQ58)) := by
 refine good_fsZ (md := false) (cx := ⟨Pg, ofList [(106, (FQ58 SQ58))], isref, N⟩) (os_zero (ofList_cons hQ58 (ofList_nil _)) (by kernel_rfl)) shFQ55 (spQ55 (GQ55 N SQ58)) (anQ55 N SQ58) 0 1 (by kernel_rfl) (fun i_ hi_ => by omega) ?_
 intro a k h
 unfold spQ55 at h
 split at h
 ·exact ⟨[_], rfl, rfl, (eqQ55 _ _ _ _ _).trans h⟩
 ·cases h
def anQ27 (N : Nat) (SQ67 : TSQ67) (SQ30 : TSQ30) (SQ55 : TSQ55) : Nat -> Option Ann := fun b_ => none
theorem eqQ27 (N : Nat) (SQ67 : TSQ67) (SQ30 : TSQ30) (SQ55 : TSQ55) (x : Fl) (c_ : V -> List Blk -> Bool) : bodyV ⟨Pg, ofList [(91, (FQ67 SQ67)), (92, (FQ30 SQ30)), (88, (FQ55 SQ55))], isref, N⟩ (anQ27 N SQ67 SQ30 SQ55) 37 (shFQ27.args [.fl x]) [] c_ = GQ27 N SQ67 SQ30 SQ55 x (fun r0 r1 r2 => c_ (.agg [.ptr 0 0, .int .i64 r0]) [⟨57, 1, .cells [.bool r1, .roi .u32 r2]⟩]) := by kernel_rfl
theorem goodQ27 (N : Nat) (SQ67 : TSQ67) (SQ30 : TSQ30) (SQ55 : TSQ55) (hQ67 : GoodF Pg 91 (FQ67 SQ67)) (hQ30 : GoodF Pg 92 (FQ30 SQ30)) (hQ55 : GoodF Pg 88 (FQ55 SQ55)) : GoodF Pg 37 (FQ27 (GQ27 N SQ67 SQ30 SQ55)) := by
 refine good_fs (cx := ⟨Pg, ofList [(91, (FQ67 SQ67)), (92, (FQ30 SQ30)), (88, (FQ55 SQ55))], isref, N⟩) (os_zero (ofList_cons hQ67 (ofList_cons hQ30 (ofList_cons hQ55 (ofList_nil _)))) (by kernel_rfl)) shFQ27 (spQ27 (GQ27 N SQ67 SQ30 SQ55)) (anQ27 N SQ67 SQ30 SQ55) 0 0 (by kernel_rfl) (fun i_ hi_ => by omega) ?_
 intro a k h
 unfold spQ27 at h
 split at h
 ·exact ⟨[], rfl, rfl, (eqQ27 _ _ _ _ _ _).trans h⟩
 ·cases h
def sh_st_binnacleref00_times_2 : StSh := ⟨(.roi .u32 :: (.roi .u32 :: (.any :: (.any :: (.any :: (.slw 0 :: (.int .i64 :: (.int .u64 :: (.int .i64 :: (sqs 59 [])))))))))), [some (156, 1, .ints .u32)]⟩
def sx0_st_binnacleref00_times_2 : StSh := ⟨(.roi .u32 :: (.roi .u32 :: (.any :: (.any :: (.any :: (.slw 0 :: (.int .i64 :: (.int .u64 :: (sqs 60 []))))))))), [some (156, 1, .ints .u32)]⟩
def hk_st_binnacleref00_times_2 (N : Nat) (SQ9 : TSQ9) : List Atom -> K -> Bool := fun a_ κ => match a_ with
 | [.ints a_2, .ints b_2, .int i_1, .int carry, .int k_, .ints out_1] => iterG N (st_z00_times_2 N SQ9 a_2 b_2 i_1 (fun r3 r4 => κ.ext 2 (sx0_st_binnacleref00_times_2.build [.ints a_2, .ints b_2, .int i_1, .int r3, .ints r4]))) (carry, k_, out_1)
 | _ => false
def sh_st_binnacleref00_times_0 : StSh := ⟨(.roi .u32 :: (.roi .u32 :: (.any :: (.any :: (.any :: (.slw 0 :: (.int .i64 :: (sqs 61 [])))))))), [some (156, 1, .ints .u32)]⟩
def sx0_st_binnacleref00_times_0 : StSh := ⟨(sqs 5 (.slw 0 :: (sqs 62 []))), [some (156, 1, .ints .u32)]⟩
def hk_st_binnacleref00_times_0 (N : Nat) (SQ9 : TSQ9) : List Atom -> K -> Bool := fun a_ κ => match a_ with
 | [.ints a_1, .ints b_1, .int i, .ints out] => iterG N (st_z00_times_0 N SQ9 a_1 b_1 (fun r0 => κ.ext 0 (sx0_st_binnacleref00_times_0.build [.ints r0]))) (i, out)
 | _ => false
def anQ65 (N : Nat) (SQ9 : TSQ9) : Nat -> Option Ann := fun b_ => cond (b_ == 2) (some ⟨⟨[0, 1, 5, 6, 7, 8], [], [], []⟩, [(2, ⟨[0, 1, 5, 6, 7], [], [], []⟩)], some ⟨[4], [], [], []⟩, some (mkHooks [(sh_st_binnacleref00_times_2, hk_st_binnacleref00_times_2 N SQ9)])⟩) (cond (b_ == 0) (some ⟨⟨[0, 1, 5, 6], [], [], []⟩, [(0, ⟨[5], [], [], []⟩)], some ⟨[4], [], [], []⟩, some (mkHooks [(sh_st_binnacleref00_times_0, hk_st_binnacleref00_times_0 N SQ9)])⟩) (none))
theorem eq_st_binnacleref00_times_2 (N : Nat) (SQ9 : TSQ9) (κ : K) (a_2 b_2 : List Int) (i_1 carry k_ : Int) (out_1 : List Int) : iter N (fun s k => codeV ⟨Pg, ofList [(110, (FQ9 SQ9))], isref, N⟩ 0 (anQ65 N SQ9) (lp Pg 65 1).2 (lp Pg 65 1).1 s (roundK Pg 0 ((anQ65 N SQ9) (lp Pg 65 1).1) κ k)) (sh_st_binnacleref00_times_2.build [.ints a_2, .ints b_2, .int i_1, .int carry, .int k_, .ints out_1]) = iterG N (st_z00_times_2 N SQ9 a_2 b_2 i_1 (fun r3 r4 => κ.ext 2 (sx0_st_binnacleref00_times_2.build [.ints a_2, .ints b_2, .int i_1, .int r3, .ints r4]))) (carry, k_, out_1) :=
 iter_tr (fun (v_ : Int × Int × List Int) => sh_st_binnacleref00_times_2.build [.ints a_2, .ints b_2, .int i_1, .int v_.1, .int v_.2.1, .ints v_.2.2]) (fun v_ K_ => by obtain ⟨carry, k_, out_1⟩ := v_; kernel_rfl) N (carry, k_, out_1)
theorem hk1_st_binnacleref00_times_2 (N : Nat) (SQ9 : TSQ9) : HookFor ⟨Pg, ofList [(110, (FQ9 SQ9))], isref, N⟩ 0 (anQ65 N SQ9) (lp Pg 65 1) (sh_st_binnacleref00_times_2, hk_st_binnacleref00_times_2 N SQ9) := by
 intro a κ h
 simp only at h
 unfold hk_st_binnacleref00_times_2 at h
 split at h
 ·exact (eq_st_binnacleref00_times_2 _ _ _ _ _ _ _ _ _).trans h
 ·cases h
theorem eq_st_binnacleref00_times_0 (N : Nat) (SQ9 : TSQ9) (κ : K) (a_1 b_1 : List Int) (i : Int) (out : List Int) : iter N (fun s k => codeV ⟨Pg, ofList [(110, (FQ9 SQ9))], isref, N⟩ 0 (anQ65 N SQ9) (lp Pg 65 0).2 (lp Pg 65 0).1 s (roundK Pg 0 ((anQ65 N SQ9) (lp Pg 65 0).1) κ k)) (sh_st_binnacleref00_times_0.build [.ints a_1, .ints b_1, .int i, .ints out]) = iterG N (st_z00_times_0 N SQ9 a_1 b_1 (fun r0 => κ.ext 0 (sx0_st_binnacleref00_times_0.build [.ints r0]))) (i, out) :=
 iter_tr (fun (v_ : Int × List Int) => sh_st_binnacleref00_times_0.build [.ints a_1, .ints b_1, .int v_.1, .ints v_.2]) (fun v_ K_ => by obtain ⟨i, out⟩ := v_; kernel_rfl) N (i, out)
theorem hk1_st_binnacleref00_times_0 (N : Nat) (SQ9 : TSQ9) : HookFor ⟨Pg, ofList [(110, (FQ9 SQ9))], isref, N⟩ 0 (anQ65 N SQ9) (lp Pg 65 0) (sh_st_binnacleref00_times_0, hk_st_binnacleref00_times_0 N SQ9) := by
 intro a κ h
 simp only at h
 unfold hk_st_binnacleref00_times_0 at h
 split at h
 ·exact (eq_st_binnacleref00_times_0 _ _ _ _ _ _ _).trans h
 ·cases h
theorem ho_binnacleref00_times_2 (N : Nat) (SQ9 : TSQ9) : HookOk ⟨Pg, ofList [(110, (FQ9 SQ9))], isref, N⟩ 0 (anQ65 N SQ9) (lp Pg 65 1) :=
 hooks_ok [(sh_st_binnacleref00_times_2, hk_st_binnacleref00_times_2 N SQ9)] (by kernel_rfl) ⟨hk1_st_binnacleref00_times_2 _ _, trivial⟩
theorem ho_binnacleref00_times_0 (N : Nat) (SQ9 : TSQ9) : HookOk ⟨Pg, ofList [(110, (FQ9 SQ9))], isref, N⟩ 0 (anQ65 N SQ9) (lp Pg 65 0) :=
 hooks_ok [(sh_st_binnacleref00_times_0, hk_st_binnacleref00_times_0 N SQ9)] (by kernel_rfl) ⟨hk1_st_binnacleref00_times_0 _ _, trivial⟩
theorem eqQ65 (N : Nat) (SQ9 : TSQ9) (a b : List Int) (c_ : V -> List Blk -> Bool) : bodyZ false ⟨Pg, ofList [(110, (FQ9 SQ9))], isref, N⟩ (anQ65 N SQ9) 65 (shFQ65.args [.ints a, .ints b]) [] c_ = GQ65 N SQ9 a b (fun r0 => c_ (.roi .u32 r0) []) := by kernel_rfl
theorem goodQ65 (N : Nat) (SQ9 : TSQ9) (hQ9 : GoodF Pg 110 (FQ9 SQ9)) : GoodF Pg 65 (FQ65 (GQ65 N SQ9)) := by
 refine good_fsZ (md := false) (cx := ⟨Pg, ofList [(110, (FQ9 SQ9))], isref, N⟩) (os_zero (ofList_cons hQ9 (ofList_nil _)) (by kernel_rfl)) shFQ65 (spQ65 (GQ65 N SQ9)) (anQ65 N SQ9) 2 0 (by kernel_rfl) (fun i_ hi_ => by
  match i_, hi_ with
  | 0, _ => exact ho_binnacleref00_times_0 _ _
  | 1, _ => exact ho_binnacleref00_times_2 _ _
  | (q + 2), h => omega) ?_
 intro a k h
 unfold spQ65 at h
 split at h
 ·exact ⟨[], rfl, rfl, (eqQ65 _ _ _ _ _).trans h⟩
 ·cases h
def anQ33 (N : Nat) (SQ65 : TSQ65) (SQ16 : TSQ16) : Nat -> Option Ann := fun b_ => none
theorem eqQ33 (N : Nat) (SQ65 : TSQ65) (SQ16 : TSQ16) (b b_1 : Bool) (b_2 : List Int) (b_3 : Bool) (b_4 : List Int) (c_ : V -> List Blk -> Bool) : bodyZ false ⟨Pg, ofList [(65, (FQ65 SQ65)), (106, (FQ16 SQ16))], isref, N⟩ (anQ33 N SQ65 SQ16) 93 (shFQ33.args [.bool b, .bool b_1, .ints b_2, .bool b_3, .ints b_4]) [⟨57, 1, .cells [.bool b, .nil]⟩, ⟨57, 1, .cells [.bool b_1, .roi .u32 b_2]⟩, ⟨57, 1, .cells [.bool b_3, .roi .u32 b_4]⟩] c_ = GQ33 N SQ65 SQ16 b b_1 b_2 b_3 b_4 (fun r0 r1 => c_ (.ptr 0 0) [⟨57, 1, .cells [.bool r0, .roi .u32 r1]⟩, ⟨57, 1, .cells [.bool b_1, .roi .u32 b_2]⟩, ⟨57, 1, .cells [.bool b_3, .roi .u32 b_4]⟩]) := by kernel_rfl
theorem goodQ33 (N : Nat) (SQ65 : TSQ65) (SQ16 : TSQ16) (hQ65 : GoodF Pg 65 (FQ65 SQ65)) (hQ16 : GoodF Pg 106 (FQ16 SQ16)) : GoodF Pg 93 (FQ33 (GQ33 N SQ65 SQ16)) := by
 refine good_fsZ (md := false) (cx := ⟨Pg, ofList [(65, (FQ65 SQ65)), (106, (FQ16 SQ16))], isref, N⟩) (os_zero (ofList_cons hQ65 (ofList_cons hQ16 (ofList_nil _))) (by kernel_rfl)) shFQ33 (spQ33 (GQ33 N SQ65 SQ16)) (anQ33 N SQ65 SQ16) 0 3 (by kernel_rfl) (fun i_ hi_ => by omega) ?_
 intro a k h
 unfold spQ33 at h
 split at h
 ·exact ⟨[_, _, _], rfl, rfl, (eqQ33 _ _ _ _ _ _ _ _ _).trans h⟩
 ·cases h
def anQ2 (N : Nat) (SQ33 : TSQ33) : Nat -> Option Ann := fun b_ => none
theorem eqQ2 (N : Nat) (SQ33 : TSQ33) (x y : Int) (b : Bool) (b_1 : List Int) (b_2 : Bool) (b_3 : List Int) (c_ : V -> List Blk -> Bool) : bodyV ⟨Pg, ofList [(93, (FQ33 SQ33))], isref, N⟩ (anQ2 N SQ33) 39 (shFQ2.args [.int x, .int y, .bool b, .ints b_1, .bool b_2, .ints b_3]) [⟨57, 1, .cells [.bool b, .roi .u32 b_1]⟩, ⟨57, 1, .cells [.bool b_2, .roi .u32 b_3]⟩] c_ = GQ2 N SQ33 x y b b_1 b_2 b_3 (fun r0 r5 r6 => c_ (.agg [.ptr 2 0, .int .i64 r0]) [⟨57, 1, .cells [.bool b, .roi .u32 b_1]⟩, ⟨57, 1, .cells [.bool b_2, .roi .u32 b_3]⟩, ⟨57, 1, .cells [.bool r5, .roi .u32 r6]⟩]) := by kernel_rfl
theorem goodQ2 (N : Nat) (SQ33 : TSQ33) (hQ33 : GoodF Pg 93 (FQ33 SQ33)) : GoodF Pg 39 (FQ2 (GQ2 N SQ33)) := by
 refine good_fs (cx := ⟨Pg, ofList [(93, (FQ33 SQ33))], isref, N⟩) (os_zero (ofList_cons hQ33 (ofList_nil _)) (by kernel_rfl)) shFQ2 (spQ2 (GQ2 N SQ33)) (anQ2 N SQ33) 0 2 (by kernel_rfl) (fun i_ hi_ => by omega) ?_
 intro a k h
 unfold spQ2 at h
 split at h
 ·exact ⟨[_, _], rfl, rfl, (eqQ2 _ _ _ _ _ _ _ _ _).trans h⟩
 ·cases h
def anQ1 (N : Nat) (SQ3 : TSQ3) (SQ0 : TSQ0) (SQ36 : TSQ36) : Nat -> Option Ann := fun b_ => none
theorem eqQ1 (N : Nat) (SQ3 : TSQ3) (SQ0 : TSQ0) (SQ36 : TSQ36) (x y : Int) (b : Bool) (b_1 : List Int) (b_2 : Bool) (b_3 : List Int) (c_ : V -> List Blk -> Bool) : bodyV ⟨Pg, ofList [(35, (FQ3 SQ3)), (33, (FQ0 SQ0)), (86, (FQ36 SQ36))], isref, N⟩ (anQ1 N SQ3 SQ0 SQ36) 38 (shFQ1.args [.int x, .int y, .bool b, .ints b_1, .bool b_2, .ints b_3]) [⟨57, 1, .cells [.bool b, .roi .u32 b_1]⟩, ⟨57, 1, .cells [.bool b_2, .roi .u32 b_3]⟩] c_ = GQ1 N SQ3 SQ0 SQ36 x y b b_1 b_2 b_3 (fun r0 => c_ (.int .i64 r0) [⟨57, 1, .cells [.bool b, .roi .u32 b_1]⟩, ⟨57, 1, .cells [.bool b_2, .roi .u32 b_3]⟩]) := by kernel_rfl
theorem goodQ1 (N : Nat) (SQ3 : TSQ3) (SQ0 : TSQ0) (SQ36 : TSQ36) (hQ3 : GoodF Pg 35 (FQ3 SQ3)) (hQ0 : GoodF Pg 33 (FQ0 SQ0)) (hQ36 : GoodF Pg 86 (FQ36 SQ36)) : GoodF Pg 38 (FQ1 (GQ1 N SQ3 SQ0 SQ36)) := by
 refine good_fs (cx := ⟨Pg, ofList [(35, (FQ3 SQ3)), (33, (FQ0 SQ0)), (86, (FQ36 SQ36))], isref, N⟩) (os_zero (ofList_cons hQ3 (ofList_cons hQ0 (ofList_cons hQ36 (ofList_nil _)))) (by kernel_rfl)) shFQ1 (spQ1 (GQ1 N SQ3 SQ0 SQ36)) (anQ1 N SQ3 SQ0 SQ36) 0 2 (by kernel_rfl) (fun i_ hi_ => by omega) ?_
 intro a k h
 unfold spQ1 at h
 split at h
 ·exact ⟨[_, _], rfl, rfl, (eqQ1 _ _ _ _ _ _ _ _ _ _ _).trans h⟩
 ·cases h
end Go.Proofs.YtjpaijnmiaoopaaGreatDoor
