/-
  The program's functions without a body, and those that look at bits, tied to their meanings.
  Conditions: none.
-/
import Derived.Test.YtjpaijnmiaoopaaGreatDoorGp
import Derived.Test.YtjpaijnmiaoopaaGreatDoorMachT
import Derived.Test.YtjpaijnmiaoopaaGreatDoorL1
import Derived.Test.YtjpaijnmiaoopaaGreatDoorGt0
import Derived.Test.YtjpaijnmiaoopaaGreatDoorGt1
import Derived.Test.YtjpaijnmiaoopaaGreatDoorGt2
import Derived.Test.YtjpaijnmiaoopaaGreatDoorGt3
section
namespace Go.Proofs.YtjpaijnmiaoopaaGreatDoor
open Go Go.Mach Go.Proofs
set_option maxRecDepth 20000
theorem gQ62 (N : Nat) : GoodF Pg 29 (FQ62 (sQ62 N)) :=
 good_mono (good_bits_fb (fn := Tryz.f29) (by kernel_rfl) (by kernel_rfl) (by kernel_rfl) (by kernel_rfl) (by kernel_rfl)) fun a k h => by
  unfold spQ62 at h; split at h
  ·exact h
  ·cases h
theorem gQ13 (N : Nat) : GoodF Pg 29 (FQ13 (sQ13 N)) :=
 good_mono (good_bits (fn := Tryz.f29) (by kernel_rfl) (by kernel_rfl) (by kernel_rfl) (by kernel_rfl) (by kernel_rfl)) fun a k h => by
  unfold spQ13 sQ13 at h; split at h
  ·split at h
   ·exact h
   ·cases h
  ·cases h
theorem gQ37 (N : Nat) : GoodF Pg 43 (FQ37 (sQ37 N)) :=
 good_mono (good_frombits (fn := Tryz.f43) (by kernel_rfl) (by kernel_rfl) (by kernel_rfl) (by kernel_rfl) (by kernel_rfl)) fun a k h => by
  unfold spQ37 at h; split at h
  ·exact h
  ·cases h
theorem gQ98 (N : Nat) : GoodF Pg 85 (FQ98 (sQ98 N)) :=
 good_mono (good_sqrt (fn := Tryz.f85) (by kernel_rfl) (by kernel_rfl) (by kernel_rfl) (by kernel_rfl) (by kernel_rfl) sqrt_nan) fun a k h => by
  unfold spQ98 at h; split at h
  ·exact h
  ·cases h
theorem xQ69 (N : Nat) (h : GoodF Pg 140 (FQ78 (sQ78 N))) : GoodF Pg 140 (FQ69 (sQ69 N)) := by
 have q : ∀ b, clsF (cn (some b)) = clsF (some b) := by
  intro b; by_cases hb : isNaN b = true <;> simp [cn, clsF, cls, hb]
 refine good_lift1 (spQ69 (sQ69 N)) (fun x => .int .i64 (clsF x)) h rfl (fun a k hk => ?_) (fun b k => ?_) (fun b => by rw [q])
 ·unfold spQ69 at hk; split at hk
  ·exact ⟨_, rfl, hk⟩
  ·cases hk
 ·have e : FQ78 (sQ78 N) [.val (.float .f64 b)] [] k = sQ78 N b (fun r0 => k (.int .i64 r0) []) := by kernel_rfl
  rw [e, law_Class, q]; rfl
theorem x_m_Abs (N : Nat) (h : GoodF Pg 51 (FQ94 (sQ94 N))) : GoodF Pg 51 (F_m_Abs (s_m_Abs N)) := by
 have q : ∀ b, absF (cn (some b)) = absF (some b) := by
  intro b
  by_cases hb : isNaN b = true
  ·have hb' := (isNaN_iff b).1 hb
   have : isNaN (b % 9223372036854775808) = true := (isNaN_iff _).2 (by omega)
   simp [cn, absF, canon, hb, this]
  ·simp [cn, hb]
 refine good_lift1 (sp_m_Abs (s_m_Abs N)) (fun x => .flt (absF x)) h rfl (fun a k hk => ?_) (fun b k => ?_) (fun b => by rw [q])
 ·unfold sp_m_Abs at hk; split at hk
  ·exact ⟨_, rfl, hk⟩
  ·cases hk
 ·have e : FQ94 (sQ94 N) [.val (.float .f64 b)] [] k = sQ94 N b (fun r0 => k (.flt r0) []) := by kernel_rfl
  rw [e, law_Abs, q]
end Go.Proofs.YtjpaijnmiaoopaaGreatDoor
end
section
namespace Go.Proofs.YtjpaijnmiaoopaaGreatDoor
open Go Go.Mach Go.Proofs
set_option linter.unusedVariables false
set_option maxRecDepth 50000
theorem g_slices_Clone___float64_float64_ (N_ : Nat) : GoodF Tryz.prog 79 (F_slices_Clone___float64_float64_ (s_slices_Clone___float64_float64_ N_)) := by
 refine good_clone (cx := ⟨Tryz.prog, ofList [], fun _ => false, 1⟩) (os_zero (ofList_nil _) (by kernel_rfl)) (e := 36) (fun _ _ => by kernel_rfl) (fun _ _ _ => by kernel_rfl) (fun _ _ _ => by kernel_rfl) rfl _ fun a k h => ?_
 unfold sp_slices_Clone___float64_float64_ s_slices_Clone___float64_float64_ at h
 split at h
 ·rename_i s
  rw [Bool.and_eq_true, decide_eq_true_eq] at h
  exact ⟨s, rfl, h.1, h.2⟩
 ·cases h
theorem face_191 (w : World) (v : Value) : Calls Tryz.prog 191 #[.nilIface, v] w fun e w' => e = .returned v /\ w' = w :=
 face_of (P := Tryz.prog) (fc := 191) (fn := Tryz.f191) (by kernel_rfl) (by kernel_rfl) (by kernel_rfl) rfl rfl rfl rfl rfl rfl rfl rfl rfl rfl rfl rfl rfl rfl rfl rfl rfl rfl rfl (fun _ => rfl) (fun _ => by kernel_rfl) w v
theorem d_190 : DefOk Tryz.prog 190 :=
 defOk_of (P := Tryz.prog) (g := 190) (fc := 191) (fg := Tryz.f190) (ff := Tryz.f191) (by kernel_rfl) (by kernel_rfl) (by kernel_rfl) (by kernel_rfl) rfl (by kernel_rfl) (by kernel_rfl) (by kernel_rfl) (by kernel_rfl) (by kernel_rfl) rfl rfl rfl rfl rfl rfl rfl rfl rfl rfl rfl (by kernel_rfl) (by kernel_rfl) face_191
def karith (S : Int -> Int -> Int -> (Int -> Int -> Bool) -> Bool) : List Atom -> (V -> List Blk -> Bool) -> Bool := fun a_ kk_ => match a_ with
 | [.int x, .int y, .int z] => S x y z fun r s => kk_ (.tup [.int .u64 r, .int .u64 s]) []
 | _ => false
def ksh3 : FnSh := ⟨[.int .u64, .int .u64, .int .u64], []⟩
def kadS : Int -> Int -> Int -> (Int -> Int -> Bool) -> Bool := fun x y c k => (decide (c.toNat <= 1)) && k (((x.toNat + y.toNat + c.toNat) % 18446744073709551616 : Nat) : Int) (((x.toNat + y.toNat + c.toNat) / 18446744073709551616 : Nat) : Int)
def ksbS : Int -> Int -> Int -> (Int -> Int -> Bool) -> Bool := fun x y c k => (decide (c.toNat <= 1)) && k (((x.toNat + 18446744073709551616 - y.toNat - c.toNat) % 18446744073709551616 : Nat) : Int) (cond (decide (x.toNat < y.toNat + c.toNat)) 1 0)
theorem g_add64 : GoodF Tryz.prog 269 (mkFs ksh3 (karith kadS)) :=
 good_mono (good_add64 (fn := Tryz.f269) (by kernel_rfl) (by kernel_rfl) (by kernel_rfl) (by kernel_rfl) (by kernel_rfl)) fun a k h => by
  unfold karith at h; split at h
  ·exact h
  ·cases h
theorem g_sub64 : GoodF Tryz.prog 278 (mkFs ksh3 (karith ksbS)) :=
 good_mono (good_sub64 (fn := Tryz.f278) (by kernel_rfl) (by kernel_rfl) (by kernel_rfl) (by kernel_rfl) (by kernel_rfl)) fun a k h => by
  unfold karith at h; split at h
  ·exact h
  ·cases h
def kref : Nat -> Bool := fun g => Nat.ble g 999999 || g == 2000190 || g == 3000081 || g == 3000080 || (Nat.ble 4000210 g && Nat.ble g 4000213) || g == 4000177 || g == 4000178 || g == 4000180 || g == 4000082
def kdf : Nat -> Bool := fun g => g == 168
noncomputable def kbase : List (Nat × Fs) := [(29, FQ13 (sQ13 1000)), (85, FQ98 (sQ98 1000)), (43, FQ37 (sQ37 1000)), (269, mkFs ksh3 (karith kadS)), (278, mkFs ksh3 (karith ksbS))]
theorem kbase_ok : OSound Tryz.prog (ofList kbase) /\ FrL kref kbase :=
 ⟨ofList_cons (gQ13 1000) (ofList_cons (gQ98 1000) (ofList_cons (gQ37 1000) (ofList_cons g_add64 (ofList_cons g_sub64 (ofList_nil _))))), frL_zero _ (by kernel_rfl)⟩
theorem khD : ∀ g, g < 1000000 -> kref (2000000 + g) = true -> DefOk Tryz.prog g := by
 intro g hg h
 have e : g = 190 := by
  unfold kref at h
  have hb : Nat.ble (2000000 + g) 999999 = false := by
   cases hh : Nat.ble (2000000 + g) 999999 with
   | false => rfl
   | true => have := Nat.le_of_ble_eq_true hh; omega
  rw [hb] at h
  simp at h; omega
 rcases e with rfl
 exact d_190
noncomputable def kcx (L : List Nat) : Cx := ⟨Tryz.prog, ofList (upS Tryz.prog kref 400 kdf kbase L), kref, 400⟩
theorem kos (L : List Nat) : OS (kcx L) := upS_os kbase_ok.1 kbase_ok.2 khD L
def kL : List Nat := [76, 75, 131, 173, 82, 78, 74, 128, 170, 126, 167, 188, 187, 166, 186, 204, 203, 202, 172, 171, 197, 196, 194, 142, 165, 185, 146, 210, 213, 212, 30, 211, 178, 177, 180, 205, 201, 195, 179, 189, 130, 129, 81, 80, 132, 51, 164, 169, 125, 163, 145, 144, 127, 168, 193, 209, 230, 246, 229, 245, 228, 244, 256, 257, 243, 242, 208, 227, 241, 255, 226, 240, 254, 253, 271, 279, 270, 258, 225, 192, 207, 224, 239, 223, 238, 222, 237, 249, 263, 262, 275, 274, 261, 260, 259, 251, 267, 273, 266, 277, 252, 268, 264, 276, 265, 272, 250, 221, 236, 220, 235, 219, 234, 218, 233, 248, 232, 217, 231, 247, 206, 97, 143, 94, 140, 175, 174, 198, 181, 200, 215, 199, 216, 214]
theorem gQ4 (N_ : Nat) : GoodF Tryz.prog 25 (FQ4 (sQ4 N_)) := by
 refine good_fs (cx := kcx kL) (kos kL) shFQ4 (spQ4 fun k => k true) (fun _ => none) 0 0 (by kernel_rfl) (fun i_ hi_ => by omega) ?_
 intro a k h
 unfold spQ4 at h
 split at h
 ·exact ⟨[], rfl, rfl, .trans (by kernel_rfl) h⟩
 ·cases h
end Go.Proofs.YtjpaijnmiaoopaaGreatDoor
end
section
namespace Go.Proofs.YtjpaijnmiaoopaaGreatDoor
open Go Go.Mach Go.Proofs
set_option linter.unusedVariables false
theorem g_an_of (N : Nat) : GoodF Pg 175 (F_an_of (s_an_of N)) := good_an_of N
theorem gQ75 (N : Nat) : GoodF Pg 214 (FQ75 (sQ75 N)) := goodQ75 N
theorem gQ42 (N : Nat) : GoodF Pg 216 (FQ42 (sQ42 N)) := goodQ42 N
theorem gQ41 (N : Nat) : GoodF Pg 199 (FQ41 (sQ41 N)) := goodQ41 N _ _ (gQ75 N) (gQ42 N)
theorem gQ61 (N : Nat) : GoodF Pg 215 (FQ61 (sQ61 N)) := goodQ61 N
theorem gQ88 (N : Nat) : GoodF Pg 200 (FQ88 (sQ88 N)) := goodQ88 N _ _ (gQ42 N) (gQ61 N)
theorem gQ19 (N : Nat) : GoodF Pg 181 (FQ19 (sQ19 N)) := goodQ19 N _ _ (gQ41 N) (gQ88 N)
theorem gQ32 (N : Nat) : GoodF Pg 198 (FQ32 (sQ32 N)) := goodQ32 N _ _ _ (gQ19 N) (gQ75 N) (gQ61 N)
theorem gQ31 (N : Nat) : GoodF Pg 174 (FQ31 (sQ31 N)) := goodQ31 N _ (gQ32 N)
theorem gQ78 (N : Nat) : GoodF Pg 140 (FQ78 (sQ78 N)) := goodQ78 N _ _ _ (gQ62 N) (g_an_of N) (gQ31 N)
theorem gQ94 (N : Nat) : GoodF Pg 51 (FQ94 (sQ94 N)) := goodQ94 N _ _ (gQ62 N) (gQ37 N)
theorem gQ12 (N : Nat) : GoodF Pg 31 (FQ12 (sQ12 N)) := goodQ12 N _ (gQ37 N)
theorem gQ6 (N : Nat) : GoodF Pg 23 (FQ6 (sQ6 N)) := goodQ6 N _ (gQ12 N)
theorem gQ72 (N : Nat) : GoodF Pg 160 (FQ72 (sQ72 N)) := goodQ72 N
theorem gQ64 (N : Nat) : GoodF Pg 162 (FQ64 (sQ64 N)) := goodQ64 N _ (gQ13 N)
theorem gQ44 (N : Nat) : GoodF Pg 137 (FQ44 (sQ44 N)) := goodQ44 N _ (gQ64 N)
theorem gQ56 (N : Nat) : GoodF Pg 184 (FQ56 (sQ56 N)) := goodQ56 N
theorem gQ71 (N : Nat) : GoodF Pg 161 (FQ71 (sQ71 N)) := goodQ71 N _ _ (gQ44 N) (gQ56 N)
theorem gQ50 (N : Nat) : GoodF Pg 120 (FQ50 (sQ50 N)) := goodQ50 N _ (gQ71 N)
theorem gQ26 (N : Nat) : GoodF Pg 71 (FQ26 (sQ26 N)) := goodQ26 N _ (gQ50 N)
theorem gQ39 (N : Nat) : GoodF Pg 119 (FQ39 (sQ39 N)) := goodQ39 N _ _ (gQ72 N) (gQ26 N)
theorem gQ79 (N : Nat) : GoodF Pg 70 (FQ79 (sQ79 N)) := goodQ79 N _ (gQ39 N)
theorem gQ54 (N : Nat) : GoodF Pg 123 (FQ54 (sQ54 N)) := goodQ54 N
theorem gQ52 (N : Nat) : GoodF Pg 121 (FQ52 (sQ52 N)) := goodQ52 N
theorem gQ40 (N : Nat) : GoodF Pg 124 (FQ40 (sQ40 N)) := goodQ40 N
theorem gQ73 (N : Nat) : GoodF Pg 73 (FQ73 (sQ73 N)) := goodQ73 N _ _ _ (gQ54 N) (gQ52 N) (gQ40 N)
theorem gQ53 (N : Nat) : GoodF Pg 122 (FQ53 (sQ53 N)) := goodQ53 N _ (gQ64 N)
theorem gQ46 (N : Nat) : GoodF Pg 72 (FQ46 (sQ46 N)) := goodQ46 N _ _ _ (gQ39 N) (gQ52 N) (gQ53 N)
theorem gQ8 (N : Nat) : GoodF Pg 24 (FQ8 (sQ8 N)) := goodQ8 N _ _ _ _ (gQ79 N) (gQ26 N) (gQ73 N) (gQ46 N)
theorem gQ7 (N : Nat) : GoodF Pg 27 (FQ7 (sQ7 N)) := goodQ7 N _ (gQ37 N)
theorem gQ59 (N : Nat) : GoodF Pg 143 (FQ59 (sQ59 N)) := goodQ59 N
theorem gQ69 (N : Nat) : GoodF Pg 140 (FQ69 (sQ69 N)) := xQ69 N (gQ78 N)
theorem gQ24 (N : Nat) : GoodF Pg 94 (FQ24 (sQ24 N)) := goodQ24 N _ (gQ69 N)
theorem gQ20 (N : Nat) : GoodF Pg 97 (FQ20 (sQ20 N)) := goodQ20 N _ _ (gQ59 N) (gQ24 N)
theorem g_info_CheckRoot (N : Nat) : GoodF Pg 77 (F_info_CheckRoot (s_info_CheckRoot N)) := good_info_CheckRoot N _ _ _ (gQ20 N) (gQ24 N) (gQ13 N)
theorem g_info_line (N : Nat) : GoodF Pg 78 (F_info_line (s_info_line N)) := good_info_line N _ (gQ24 N)
theorem gQ17 (N : Nat) : GoodF Pg 30 (FQ17 (sQ17 N)) := goodQ17 N _ (gQ98 N)
theorem g_m_Abs (N : Nat) : GoodF Pg 51 (F_m_Abs (s_m_Abs N)) := x_m_Abs N (gQ94 N)
theorem gQ63 (N : Nat) : GoodF Pg 132 (FQ63 (sQ63 N)) := goodQ63 N _ (g_m_Abs N)
theorem gQ25 (N : Nat) : GoodF Pg 80 (FQ25 (sQ25 N)) := goodQ25 N _ (gQ63 N)
theorem gQ21 (N : Nat) : GoodF Pg 81 (FQ21 (sQ21 N)) := goodQ21 N _ (gQ25 N)
theorem gQ22 (N : Nat) : GoodF Pg 82 (FQ22 (sQ22 N)) := goodQ22 N
theorem g_v_info_rotation_turn_p0 (N : Nat) : GoodF Pg 83 (F_v_info_rotation_turn_p0 (s_v_info_rotation_turn_p0 N)) := good_v_info_rotation_turn_p0 N _ _ (gQ21 N) (gQ25 N)
theorem g_info_UpdateRoot (N : Nat) : GoodF Pg 26 (F_info_UpdateRoot (s_info_UpdateRoot N)) := good_info_UpdateRoot N _ _ _ _ _ _ _ _ (g_info_CheckRoot N) (g_info_line N) (gQ17 N) (g_slices_Clone___float64_float64_ N) (gQ25 N) (gQ21 N) (gQ22 N) (g_v_info_rotation_turn_p0 N)
theorem gQ15 (N : Nat) : GoodF Pg 76 (FQ15 (sQ15 N)) := goodQ15 N _ (gQ13 N)
theorem gQ29 (N : Nat) : GoodF Pg 84 (FQ29 (sQ29 N)) := goodQ29 N _ (gQ15 N)
theorem gQ5 (N : Nat) : GoodF Pg 28 (FQ5 (sQ5 N)) := goodQ5 N _ _ (gQ15 N) (gQ29 N)
theorem gQ9 (N : Nat) : GoodF Pg 110 (FQ9 (sQ9 N)) := goodQ9 N
theorem gQ45 (N : Nat) : GoodF Pg 139 (FQ45 (sQ45 N)) := goodQ45 N _ (gQ9 N)
theorem gQ87 (N : Nat) : GoodF Pg 110 (FQ87 (sQ87 N)) := goodQ87 N
theorem gQ16 (N : Nat) : GoodF Pg 106 (FQ16 (sQ16 N)) := goodQ16 N _ (gQ87 N)
theorem gQ35 (N : Nat) : GoodF Pg 105 (FQ35 (sQ35 N)) := goodQ35 N _ _ (gQ45 N) (gQ16 N)
theorem gQ47 (N : Nat) : GoodF Pg 57 (FQ47 (sQ47 N)) := goodQ47 N _ (gQ35 N)
theorem gQ11 (N : Nat) : GoodF Pg 32 (FQ11 (sQ11 N)) := goodQ11 N _ (gQ47 N)
theorem gQ10 (N : Nat) : GoodF Pg 34 (FQ10 (sQ10 N)) := goodQ10 N _ (gQ47 N)
theorem gQ57 (N : Nat) : GoodF Pg 106 (FQ57 (sQ57 N)) := goodQ57 N _ (gQ9 N)
theorem gQ49 (N : Nat) : GoodF Pg 88 (FQ49 (sQ49 N)) := goodQ49 N _ (gQ57 N)
theorem gQ3 (N : Nat) : GoodF Pg 35 (FQ3 (sQ3 N)) := goodQ3 N _ (gQ49 N)
theorem gQ36 (N : Nat) : GoodF Pg 86 (FQ36 (sQ36 N)) := goodQ36 N
theorem gQ76 (N : Nat) : GoodF Pg 107 (FQ76 (sQ76 N)) := goodQ76 N _ (gQ9 N)
theorem gQ48 (N : Nat) : GoodF Pg 58 (FQ48 (sQ48 N)) := goodQ48 N _ _ (gQ76 N) (gQ16 N)
theorem gQ23 (N : Nat) : GoodF Pg 87 (FQ23 (sQ23 N)) := goodQ23 N _ (gQ48 N)
theorem gQ77 (N : Nat) : GoodF Pg 149 (FQ77 (sQ77 N)) := goodQ77 N _ (gQ9 N)
theorem gQ60 (N : Nat) : GoodF Pg 117 (FQ60 (sQ60 N)) := goodQ60 N
theorem gQ68 (N : Nat) : GoodF Pg 150 (FQ68 (sQ68 N)) := goodQ68 N _ (gQ9 N)
theorem gQ34 (N : Nat) : GoodF Pg 112 (FQ34 (sQ34 N)) := goodQ34 N _ _ _ _ (gQ77 N) (gQ16 N) (gQ60 N) (gQ68 N)
theorem gQ28 (N : Nat) : GoodF Pg 67 (FQ28 (sQ28 N)) := goodQ28 N _ (gQ34 N)
theorem gQ0 (N : Nat) : GoodF Pg 33 (FQ0 (sQ0 N)) := goodQ0 N _ _ _ (gQ36 N) (gQ23 N) (gQ28 N)
theorem gQ74 (N : Nat) : GoodF Pg 133 (FQ74 (sQ74 N)) := goodQ74 N
theorem gQ38 (N : Nat) : GoodF Pg 134 (FQ38 (sQ38 N)) := goodQ38 N _ (g_m_Abs N)
theorem gQ51 (N : Nat) : GoodF Pg 135 (FQ51 (sQ51 N)) := goodQ51 N _ _ (gQ13 N) (gQ37 N)
theorem g_m_Inf (N : Nat) : GoodF Pg 136 (F_m_Inf (s_m_Inf N)) := good_m_Inf N _ (gQ37 N)
theorem gQ83 (N : Nat) : GoodF Pg 90 (FQ83 (sQ83 N)) := goodQ83 N _ _ _ _ _ _ _ (gQ63 N) (gQ74 N) (gQ38 N) (gQ13 N) (gQ51 N) (g_m_Inf N) (gQ37 N)
theorem gQ18 (N : Nat) : GoodF Pg 36 (FQ18 (sQ18 N)) := goodQ18 N _ (gQ83 N)
theorem gQ70 (N : Nat) : GoodF Pg 138 (FQ70 (sQ70 N)) := goodQ70 N
theorem gQ67 (N : Nat) : GoodF Pg 91 (FQ67 (sQ67 N)) := goodQ67 N _ _ (gQ44 N) (gQ70 N)
theorem gQ30 (N : Nat) : GoodF Pg 92 (FQ30 (sQ30 N)) := goodQ30 N _ _ (gQ45 N) (gQ16 N)
theorem gQ58 (N : Nat) : GoodF Pg 106 (FQ58 (sQ58 N)) := goodQ58 N _ (gQ9 N)
theorem gQ55 (N : Nat) : GoodF Pg 88 (FQ55 (sQ55 N)) := goodQ55 N _ (gQ58 N)
theorem gQ27 (N : Nat) : GoodF Pg 37 (FQ27 (sQ27 N)) := goodQ27 N _ _ _ (gQ67 N) (gQ30 N) (gQ55 N)
theorem gQ65 (N : Nat) : GoodF Pg 65 (FQ65 (sQ65 N)) := goodQ65 N _ (gQ9 N)
theorem gQ33 (N : Nat) : GoodF Pg 93 (FQ33 (sQ33 N)) := goodQ33 N _ _ (gQ65 N) (gQ16 N)
theorem gQ2 (N : Nat) : GoodF Pg 39 (FQ2 (sQ2 N)) := goodQ2 N _ (gQ33 N)
theorem gQ1 (N : Nat) : GoodF Pg 38 (FQ1 (sQ1 N)) := goodQ1 N _ _ _ (gQ3 N) (gQ0 N) (gQ36 N)
theorem tQ14 (N : Nat) (z : List Int) (n : Int) (r w_0 : List Int) (w_1 w_2 : Int) (hG : sQ14 N z n r w_0 w_1 w_2 (fun b => b) = true) : OkC Pg 4 (shFQ14.args [.ints z, .int n, .ints r, .ints w_0, .int w_1, .int w_2]) [] (.bool true) [] :=
 topQ14 N _ _ _ _ _ _ _ _ _ _ _ _ _ _ _ _ _ (gQ6 N) (gQ8 N) (gQ4 N) (gQ7 N) (g_info_UpdateRoot N) (gQ5 N) (gQ13 N) (gQ17 N) (gQ12 N) (gQ11 N) (gQ10 N) (gQ3 N) (gQ0 N) (gQ18 N) (gQ27 N) (gQ2 N) (gQ1 N) z n r w_0 w_1 w_2 hG
end Go.Proofs.YtjpaijnmiaoopaaGreatDoor
end
