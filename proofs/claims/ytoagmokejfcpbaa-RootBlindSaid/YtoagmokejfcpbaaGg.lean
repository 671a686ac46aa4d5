/-
  THE TIES, put together (written by program).
  Conditions: none.
-/
import Derived.Test.YtoagmokejfcpbaaGx
import Derived.Test.YtoagmokejfcpbaaGt0
import Derived.Test.YtoagmokejfcpbaaGt1
import Derived.Test.YtoagmokejfcpbaaGt2
import Derived.Test.YtoagmokejfcpbaaGt3
import Derived.Test.YtoagmokejfcpbaaGt4
namespace Go.Proofs.Ytoagmokejfcpbaa
open Go Go.Mach Go.Proofs
set_option linter.unusedVariables false

theorem g_anatomy_of (N_ : Nat) : GoodF Try.prog 77 (F_anatomy_of (s_anatomy_of N_)) := good_anatomy_of N_
theorem g_v_anatomy_format_sign (N_ : Nat) : GoodF Try.prog 94 (F_v_anatomy_format_sign (s_v_anatomy_format_sign N_)) := good_v_anatomy_format_sign N_
theorem g_v_anatomy_format_infinite (N_ : Nat) : GoodF Try.prog 96 (F_v_anatomy_format_infinite (s_v_anatomy_format_infinite N_)) := good_v_anatomy_format_infinite N_
theorem g_anatomy_nan_uint64_ (N_ : Nat) : GoodF Try.prog 91 (F_anatomy_nan_uint64_ (s_anatomy_nan_uint64_ N_)) := good_anatomy_nan_uint64_ N_ _ _ (g_v_anatomy_format_sign N_) (g_v_anatomy_format_infinite N_)
theorem g_v_anatomy_format_hidden (N_ : Nat) : GoodF Try.prog 95 (F_v_anatomy_format_hidden (s_v_anatomy_format_hidden N_)) := good_v_anatomy_format_hidden N_
theorem g_v_anatomy_format_none (N_ : Nat) : GoodF Try.prog 92 (F_v_anatomy_format_none (s_v_anatomy_format_none N_)) := good_v_anatomy_format_none N_ _ _ (g_v_anatomy_format_infinite N_) (g_v_anatomy_format_hidden N_)
theorem g_anatomy_canon_uint64_ (N_ : Nat) : GoodF Try.prog 78 (F_anatomy_canon_uint64_ (s_anatomy_canon_uint64_ N_)) := good_anatomy_canon_uint64_ N_ _ _ (g_anatomy_nan_uint64_ N_) (g_v_anatomy_format_none N_)
theorem g_anatomy_split_uint64_ (N_ : Nat) : GoodF Try.prog 90 (F_anatomy_split_uint64_ (s_anatomy_split_uint64_ N_)) := good_anatomy_split_uint64_ N_ _ _ _ (g_anatomy_canon_uint64_ N_) (g_v_anatomy_format_sign N_) (g_v_anatomy_format_hidden N_)
theorem g_anatomy_class_uint64_ (N_ : Nat) : GoodF Try.prog 76 (F_anatomy_class_uint64_ (s_anatomy_class_uint64_ N_)) := good_anatomy_class_uint64_ N_ _ (g_anatomy_split_uint64_ N_)
theorem g_anatomy_Class (N_ : Nat) : GoodF Try.prog 59 (F_anatomy_Class (s_anatomy_Class N_)) := good_anatomy_Class N_ _ _ _ (g_math_Float64bits N_) (g_anatomy_of N_) (g_anatomy_class_uint64_ N_)
theorem g_anatomy_Same (N_ : Nat) : GoodF Try.prog 60 (F_anatomy_Same (s_anatomy_Same N_)) := good_anatomy_Same N_ _ _ _ (g_math_Float64bits N_) (g_anatomy_of N_) (g_anatomy_canon_uint64_ N_)
theorem g_math_Abs (N_ : Nat) : GoodF Try.prog 31 (F_math_Abs (s_math_Abs N_)) := good_math_Abs N_ _ _ (g_math_Float64bits N_) (g_math_Float64frombits N_)
theorem g_binnacleref01_Of64 (N_ : Nat) : GoodF Try.prog 40 (F_binnacleref01_Of64 (s_binnacleref01_Of64 N_)) := good_binnacleref01_Of64 N_ _ (g_math_Float64frombits N_)
theorem g_binnaclelaw16_l (N_ : Nat) : GoodF Try.prog 15 (F_binnaclelaw16_l (s_binnaclelaw16_l N_)) := good_binnaclelaw16_l N_ _ (g_binnacleref01_Of64 N_)
theorem g_binnaclelaw16_mat (N_ : Nat) : GoodF Try.prog 25 (F_binnaclelaw16_mat (s_binnaclelaw16_mat N_)) := good_binnaclelaw16_mat N_ _ (g_binnaclelaw16_l N_)
theorem g_binnaclelaw16_of (N_ : Nat) : GoodF Try.prog 7 (F_binnaclelaw16_of (s_binnaclelaw16_of N_)) := good_binnaclelaw16_of N_ _ _ (g_binnaclelaw16_l N_) (g_binnaclelaw16_mat N_)
theorem g_binnaclelaw16_f (N_ : Nat) : GoodF Try.prog 9 (F_binnaclelaw16_f (s_binnaclelaw16_f N_)) := good_binnaclelaw16_f N_ _ (g_math_Float64frombits N_)
theorem g_matrix_size (N_ : Nat) : GoodF Try.prog 58 (F_matrix_size (s_matrix_size N_)) := good_matrix_size N_
theorem g_anatomy_Class_2 (N_ : Nat) : GoodF Try.prog 59 (F_anatomy_Class_2 (s_anatomy_Class_2 N_)) := x_anatomy_Class_2 N_ (g_anatomy_Class N_)
theorem g_anatomy_Finite (N_ : Nat) : GoodF Try.prog 27 (F_anatomy_Finite (s_anatomy_Finite N_)) := good_anatomy_Finite N_ _ (g_anatomy_Class_2 N_)
theorem g_matrix_Check (N_ : Nat) : GoodF Try.prog 26 (F_matrix_Check (s_matrix_Check N_)) := good_matrix_Check N_ _ _ (g_matrix_size N_) (g_anatomy_Finite N_)
theorem g_matrix_at (N_ : Nat) : GoodF Try.prog 61 (F_matrix_at (s_matrix_at N_)) := good_matrix_at N_
theorem g_anatomy_Same_2 (N_ : Nat) : GoodF Try.prog 60 (F_anatomy_Same_2 (s_anatomy_Same_2 N_)) := x_anatomy_Same_2 N_ (g_anatomy_Same N_)
theorem g_matrix_Lower (N_ : Nat) : GoodF Try.prog 28 (F_matrix_Lower (s_matrix_Lower N_)) := good_matrix_Lower N_ _ _ _ (g_matrix_Check N_) (g_matrix_at N_) (g_anatomy_Same_2 N_)
theorem g_root_above (N_ : Nat) : GoodF Try.prog 29 (F_root_above (s_root_above N_)) := good_root_above N_
theorem g_root_Check (N_ : Nat) : GoodF Try.prog 8 (F_root_Check (s_root_Check N_)) := good_root_Check N_ _ _ _ _ (g_matrix_Check N_) (g_anatomy_Finite N_) (g_matrix_Lower N_) (g_root_above N_)
theorem g_root_finite (N_ : Nat) : GoodF Try.prog 34 (F_root_finite (s_root_finite N_)) := good_root_finite N_
theorem g_root_checkRow (N_ : Nat) : GoodF Try.prog 33 (F_root_checkRow (s_root_checkRow N_)) := good_root_checkRow N_ _ _ (g_anatomy_Finite N_) (g_root_finite N_)
theorem g_root_steps_see (N_ : Nat) : GoodF Try.prog 36 (F_root_steps_see (s_root_steps_see N_)) := good_root_steps_see N_ _ (g_root_finite N_)
theorem g_root_steps_dot (N_ : Nat) : GoodF Try.prog 57 (F_root_steps_dot (s_root_steps_dot N_)) := good_root_steps_dot N_ _ (g_root_steps_see N_)
theorem g_root_foresee (N_ : Nat) : GoodF Try.prog 35 (F_root_foresee (s_root_foresee N_)) := good_root_foresee N_ _ _ (g_root_steps_dot N_) (g_root_steps_see N_)
theorem g_root_Foresee (N_ : Nat) : GoodF Try.prog 14 (F_root_Foresee (s_root_Foresee N_)) := good_root_Foresee N_ _ _ _ (g_root_Check N_) (g_root_checkRow N_) (g_root_foresee N_)
theorem g_binnacleref01_Bits (N_ : Nat) : GoodF Try.prog 39 (F_binnacleref01_Bits (s_binnacleref01_Bits N_)) := good_binnacleref01_Bits N_ _ (g_math_Float64bits_2 N_)
theorem g_binnacleref01_Split (N_ : Nat) : GoodF Try.prog 62 (F_binnacleref01_Split (s_binnacleref01_Split N_)) := good_binnacleref01_Split N_ _ (g_binnacleref01_Bits N_)
theorem g_binnacleref01_classify (N_ : Nat) : GoodF Try.prog 63 (F_binnacleref01_classify (s_binnacleref01_classify N_)) := good_binnacleref01_classify N_
theorem g_binnacleref01_Class (N_ : Nat) : GoodF Try.prog 32 (F_binnacleref01_Class (s_binnacleref01_Class N_)) := good_binnacleref01_Class N_ _ _ (g_binnacleref01_Split N_) (g_binnacleref01_classify N_)
theorem g_binnacleref01_Finite (N_ : Nat) : GoodF Try.prog 11 (F_binnacleref01_Finite (s_binnacleref01_Finite N_)) := good_binnacleref01_Finite N_ _ (g_binnacleref01_Class N_)
theorem g_binnacleref01_AllFinite (N_ : Nat) : GoodF Try.prog 66 (F_binnacleref01_AllFinite (s_binnacleref01_AllFinite N_)) := good_binnacleref01_AllFinite N_ _ (g_binnacleref01_Finite N_)
theorem g_binnacleref08_Check (N_ : Nat) : GoodF Try.prog 65 (F_binnacleref08_Check (s_binnacleref08_Check N_)) := good_binnacleref08_Check N_ _ (g_binnacleref01_AllFinite N_)
theorem g_binnacleref03_shape (N_ : Nat) : GoodF Try.prog 93 (F_binnacleref03_shape (s_binnacleref03_shape N_)) := good_binnacleref03_shape N_
theorem g_binnacleref03_Good (N_ : Nat) : GoodF Try.prog 81 (F_binnacleref03_Good (s_binnacleref03_Good N_)) := good_binnacleref03_Good N_ _ _ (g_binnacleref03_shape N_) (g_binnacleref01_AllFinite N_)
theorem g_binnacleref09_At (N_ : Nat) : GoodF Try.prog 82 (F_binnacleref09_At (s_binnacleref09_At N_)) := good_binnacleref09_At N_
theorem g_binnacleref01_Same (N_ : Nat) : GoodF Try.prog 83 (F_binnacleref01_Same (s_binnacleref01_Same N_)) := good_binnacleref01_Same N_ _ (g_binnacleref01_Bits N_)
theorem g_binnacleref09_Triangle (N_ : Nat) : GoodF Try.prog 67 (F_binnacleref09_Triangle (s_binnacleref09_Triangle N_)) := good_binnacleref09_Triangle N_ _ _ _ (g_binnacleref03_Good N_) (g_binnacleref09_At N_) (g_binnacleref01_Same N_)
theorem g_binnacleref16_Check (N_ : Nat) : GoodF Try.prog 42 (F_binnacleref16_Check (s_binnacleref16_Check N_)) := good_binnacleref16_Check N_ _ _ _ (g_binnacleref08_Check N_) (g_binnacleref01_AllFinite N_) (g_binnacleref09_Triangle N_)
theorem g_binnacleref15_Row (N_ : Nat) : GoodF Try.prog 43 (F_binnacleref15_Row (s_binnacleref15_Row N_)) := good_binnacleref15_Row N_ _ _ (g_binnacleref01_AllFinite N_) (g_binnacleref01_Finite N_)
theorem g_binnacleref08_First (N_ : Nat) : GoodF Try.prog 41 (F_binnacleref08_First (s_binnacleref08_First N_)) := good_binnacleref08_First N_
theorem g_binnacleref09_Steps_S (N_ : Nat) : GoodF Try.prog 46 (F_binnacleref09_Steps_S (s_binnacleref09_Steps_S N_)) := good_binnacleref09_Steps_S N_ _ (g_binnacleref01_Finite N_)
theorem g_binnacleref09_Steps_Dot (N_ : Nat) : GoodF Try.prog 68 (F_binnacleref09_Steps_Dot (s_binnacleref09_Steps_Dot N_)) := good_binnacleref09_Steps_Dot N_ _ (g_binnacleref09_Steps_S N_)
theorem g_binnacleref08_At (N_ : Nat) : GoodF Try.prog 49 (F_binnacleref08_At (s_binnacleref08_At N_)) := good_binnacleref08_At N_
theorem g_binnacleref08_Col (N_ : Nat) : GoodF Try.prog 69 (F_binnacleref08_Col (s_binnacleref08_Col N_)) := good_binnacleref08_Col N_ _ (g_binnacleref08_At N_)
theorem g_binnacleref16_seen (N_ : Nat) : GoodF Try.prog 44 (F_binnacleref16_seen (s_binnacleref16_seen N_)) := good_binnacleref16_seen N_ _ _ _ (g_binnacleref09_Steps_Dot N_) (g_binnacleref08_Col N_) (g_binnacleref09_Steps_S N_)
theorem g_binnacleref16_Foresee (N_ : Nat) : GoodF Try.prog 16 (F_binnacleref16_Foresee (s_binnacleref16_Foresee N_)) := good_binnacleref16_Foresee N_ _ _ _ _ (g_binnacleref16_Check N_) (g_binnacleref15_Row N_) (g_binnacleref08_First N_) (g_binnacleref16_seen N_)
theorem g_binnaclelaw16_same (N_ : Nat) : GoodF Try.prog 13 (F_binnaclelaw16_same (s_binnaclelaw16_same N_)) := good_binnaclelaw16_same N_ _ _ (g_math_Float64bits_2 N_) (g_binnacleref01_Bits N_)
theorem g_matrix_Zero_1 (N_ : Nat) : GoodF Try.prog 80 (F_matrix_Zero_1 (s_matrix_Zero_1 N_)) := good_matrix_Zero_1 N_
theorem g_matrix_fill (N_ : Nat) : GoodF Try.prog 79 (F_matrix_fill (s_matrix_fill N_)) := good_matrix_fill N_ _ (g_matrix_Zero_1 N_)
theorem g_matrix_Zero (N_ : Nat) : GoodF Try.prog 64 (F_matrix_Zero (s_matrix_Zero N_)) := good_matrix_Zero N_ _ _ (g_matrix_size N_) (g_matrix_fill N_)
theorem g_math_Sqrt (N_ : Nat) : GoodF Try.prog 48 (F_math_Sqrt (s_math_Sqrt N_)) := good_math_Sqrt N_ _ (g_math_sqrt N_)
theorem g_root_carlson (N_ : Nat) : GoodF Try.prog 37 (F_root_carlson (s_root_carlson N_)) := good_root_carlson N_ _ _ _ (g_matrix_Zero N_) (g_math_Sqrt N_) (g_root_steps_see N_)
theorem g_root_Update (N_ : Nat) : GoodF Try.prog 12 (F_root_Update (s_root_Update N_)) := good_root_Update N_ _ _ _ _ _ _ _ (g_root_Check N_) (g_root_checkRow N_) (g_root_finite N_) (g_root_foresee N_) (g_root_steps_see N_) (g_root_carlson N_) (g_root_above N_)
theorem g_chol_at (N_ : Nat) : GoodF Try.prog 88 (F_chol_at (s_chol_at N_)) := good_chol_at N_
theorem g_chol_triangle (N_ : Nat) : GoodF Try.prog 84 (F_chol_triangle (s_chol_triangle N_)) := good_chol_triangle N_ _ _ _ (g_matrix_Check N_) (g_chol_at N_) (g_matrix_Lower N_)
theorem g_chol_fits (N_ : Nat) : GoodF Try.prog 85 (F_chol_fits (s_chol_fits N_)) := good_chol_fits N_ _ (g_anatomy_Finite N_)
theorem g_chol_steps_of (N_ : Nat) : GoodF Try.prog 89 (F_chol_steps_of (s_chol_steps_of N_)) := good_chol_steps_of N_ _ (g_anatomy_Finite N_)
theorem g_chol_steps_times (N_ : Nat) : GoodF Try.prog 87 (F_chol_steps_times (s_chol_steps_times N_)) := good_chol_steps_times N_ _ (g_chol_steps_of N_)
theorem g_chol_steps_less (N_ : Nat) : GoodF Try.prog 86 (F_chol_steps_less (s_chol_steps_less N_)) := good_chol_steps_less N_ _ (g_chol_steps_of N_)
theorem g_chol_steps_down (N_ : Nat) : GoodF Try.prog 75 (F_chol_steps_down (s_chol_steps_down N_)) := good_chol_steps_down N_ _ _ _ _ (g_chol_at N_) (g_chol_steps_times N_) (g_chol_steps_less N_) (g_chol_steps_of N_)
theorem g_chol_by (N_ : Nat) : GoodF Try.prog 74 (F_chol_by (s_chol_by N_)) := good_chol_by N_ _ _ _ (g_chol_triangle N_) (g_chol_fits N_) (g_chol_steps_down N_)
theorem g_chol_Lower (N_ : Nat) : GoodF Try.prog 56 (F_chol_Lower (s_chol_Lower N_)) := good_chol_Lower N_ _ (g_chol_by N_)
theorem g_root_Distance (N_ : Nat) : GoodF Try.prog 24 (F_root_Distance (s_root_Distance N_)) := good_root_Distance N_ _ _ _ _ _ (g_root_Check N_) (g_anatomy_Finite N_) (g_root_steps_see N_) (g_chol_Lower N_) (g_root_steps_dot N_)
theorem g_binnaclelaw16_awake (N_ : Nat) : GoodF Try.prog 6 (F_binnaclelaw16_awake (s_binnaclelaw16_awake N_)) := good_binnaclelaw16_awake N_ _ _ _ (g_root_Update N_) (g_root_Distance N_) (g_root_Check N_)
theorem g_binnacleref08_If (N_ : Nat) : GoodF Try.prog 45 (F_binnacleref08_If (s_binnacleref08_If N_)) := good_binnacleref08_If N_
theorem g_binnacleref08_Raw (N_ : Nat) : GoodF Try.prog 47 (F_binnacleref08_Raw (s_binnacleref08_Raw N_)) := good_binnacleref08_Raw N_
theorem g_binnacleref08_Put (N_ : Nat) : GoodF Try.prog 50 (F_binnacleref08_Put (s_binnacleref08_Put N_)) := good_binnacleref08_Put N_
theorem g_binnacleref08_At_2 (N_ : Nat) : GoodF Try.prog 49 (F_binnacleref08_At_2 (s_binnacleref08_At_2 N_)) := good_binnacleref08_At_2 N_
theorem g_binnacleref16_ended (N_ : Nat) : GoodF Try.prog 51 (F_binnacleref16_ended (s_binnacleref16_ended N_)) := good_binnacleref16_ended N_ _ (g_binnacleref08_At_2 N_)
theorem g_binnacleref16_Update (N_ : Nat) : GoodF Try.prog 17 (F_binnacleref16_Update (s_binnacleref16_Update N_)) := good_binnacleref16_Update N_ _ _ _ _ _ _ _ _ _ _ _ _ (g_binnacleref16_Check N_) (g_binnacleref15_Row N_) (g_binnacleref01_Finite N_) (g_binnacleref08_If N_) (g_binnacleref08_First N_) (g_binnacleref16_seen N_) (g_binnacleref09_Steps_S N_) (g_binnacleref08_Raw N_) (g_math_Sqrt N_) (g_binnacleref08_At N_) (g_binnacleref08_Put N_) (g_binnacleref16_ended N_)
theorem g_binnacleref01_SameList (N_ : Nat) : GoodF Try.prog 71 (F_binnacleref01_SameList (s_binnacleref01_SameList N_)) := good_binnacleref01_SameList N_ _ (g_binnacleref01_Same N_)
theorem g_binnacleref15_list (N_ : Nat) : GoodF Try.prog 53 (F_binnacleref15_list (s_binnacleref15_list N_)) := good_binnacleref15_list N_ _ (g_binnacleref01_SameList N_)
theorem g_binnacleref15_SameMat (N_ : Nat) : GoodF Try.prog 72 (F_binnacleref15_SameMat (s_binnacleref15_SameMat N_)) := good_binnacleref15_SameMat N_ _ (g_binnacleref15_list N_)
theorem g_binnacleref16_Same (N_ : Nat) : GoodF Try.prog 52 (F_binnacleref16_Same (s_binnacleref16_Same N_)) := good_binnacleref16_Same N_ _ _ (g_binnacleref01_SameList N_) (g_binnacleref15_SameMat N_)
theorem g_binnaclelaw16_told (N_ : Nat) : GoodF Try.prog 18 (F_binnaclelaw16_told (s_binnaclelaw16_told N_)) := good_binnaclelaw16_told N_ _ (g_binnacleref16_Same N_)
theorem g_binnacleref15_SameStep (N_ : Nat) : GoodF Try.prog 19 (F_binnacleref15_SameStep (s_binnacleref15_SameStep N_)) := good_binnacleref15_SameStep N_ _ (g_binnacleref15_list N_)
theorem g_binnaclelaw16_RootUpdates (N_ : Nat) : GoodF Try.prog 4 (F_binnaclelaw16_RootUpdates (s_binnaclelaw16_RootUpdates N_)) := good_binnaclelaw16_RootUpdates N_ _ _ _ _ _ _ _ _ _ _ _ (g_binnaclelaw16_of N_) (g_binnaclelaw16_l N_) (g_binnaclelaw16_f N_) (g_root_Foresee N_) (g_binnacleref16_Foresee N_) (g_binnaclelaw16_same N_) (g_binnaclelaw16_awake N_) (g_root_Update N_) (g_binnacleref16_Update N_) (g_binnaclelaw16_told N_) (g_binnacleref15_SameStep N_)
theorem t_binnaclelaw16_RootUpdates (N_ : Nat) (x : List Int) (m_0 : Int) (m_1 : Int) (m_2 : List Int) (w_0 : List Int) (w_1 : Int) (w_2 : Int) (hG : s_binnaclelaw16_RootUpdates N_ x m_0 m_1 m_2 w_0 w_1 w_2 (fun b => b) = true) : OkC Try.prog 4 (shF_binnaclelaw16_RootUpdates.args [.ints x, .int m_0, .int m_1, .ints m_2, .ints w_0, .int w_1, .int w_2]) [] (.bool true) [] :=
  top_binnaclelaw16_RootUpdates N_ _ _ _ _ _ _ _ _ _ _ _ (g_binnaclelaw16_of N_) (g_binnaclelaw16_l N_) (g_binnaclelaw16_f N_) (g_root_Foresee N_) (g_binnacleref16_Foresee N_) (g_binnaclelaw16_same N_) (g_binnaclelaw16_awake N_) (g_root_Update N_) (g_binnacleref16_Update N_) (g_binnaclelaw16_told N_) (g_binnacleref15_SameStep N_) x m_0 m_1 m_2 w_0 w_1 w_2 hG
theorem g_math_Abs_2 (N_ : Nat) : GoodF Try.prog 31 (F_math_Abs_2 (s_math_Abs_2 N_)) := x_math_Abs_2 N_ (g_math_Abs N_)
theorem g_math_IsInf (N_ : Nat) : GoodF Try.prog 10 (F_math_IsInf (s_math_IsInf N_)) := good_math_IsInf N_ _ (g_math_Abs_2 N_)
theorem g_binnaclelaw16_RootBlind (N_ : Nat) : GoodF Try.prog 3 (F_binnaclelaw16_RootBlind (s_binnaclelaw16_RootBlind N_)) := good_binnaclelaw16_RootBlind N_ _ _ _ _ _ _ _ _ (g_binnaclelaw16_awake N_) (g_binnaclelaw16_of N_) (g_root_Check N_) (g_binnaclelaw16_f N_) (g_math_IsInf N_) (g_binnacleref01_Finite N_) (g_root_Update N_) (g_binnaclelaw16_same N_)
theorem t_binnaclelaw16_RootBlind (N_ : Nat) (x : List Int) (m_0 : Int) (m_1 : Int) (m_2 : List Int) (r : Int) (z : Int) (hG : s_binnaclelaw16_RootBlind N_ x m_0 m_1 m_2 r z (fun b => b) = true) : OkC Try.prog 3 (shF_binnaclelaw16_RootBlind.args [.ints x, .int m_0, .int m_1, .ints m_2, .int r, .int z]) [] (.bool true) [] :=
  top_binnaclelaw16_RootBlind N_ _ _ _ _ _ _ _ _ (g_binnaclelaw16_awake N_) (g_binnaclelaw16_of N_) (g_root_Check N_) (g_binnaclelaw16_f N_) (g_math_IsInf N_) (g_binnacleref01_Finite N_) (g_root_Update N_) (g_binnaclelaw16_same N_) x m_0 m_1 m_2 r z hG
end Go.Proofs.Ytoagmokejfcpbaa
