/-
  THE PROGRAM's FUNCTIONS, as their meanings (written by program).
  Conditions: none.
-/
import Derived.Test.YtgngdkjghdohiaaGreatMachP
import Derived.Test.YtgngdkjghdohiaaGreatProg
section
namespace Go.Proofs.YtgngdkjghdohiaaGreat
open Go Go.Mach
set_option linter.unusedVariables false

abbrev TSZ78 : Type := Nat -> (Int -> Bool) -> Bool

def sZ78 (N : Nat) : TSZ78 := fun n k => k n

abbrev TS_an_of : Type := (Int -> Int -> Int -> Bool) -> Bool

def G_an_of (N : Nat) (k0 : Int -> Int -> Int -> Bool) : Bool :=
  (k0 52 2047 1075)

def s_an_of (N : Nat) : TS_an_of := G_an_of N

abbrev TSZ104 : Type := Int -> Int -> Int -> (Int -> Bool) -> Bool

def GZ104 (N : Nat) (f_0 f_1 f_2 : Int) (k0 : Int -> Bool) : Bool :=
  ((fits .i64 (f_1 + 1)) && ((decide (0 <= f_0)) && (k0 (IntKind.wrap .u64 ((IntKind.wrap .u64 (f_1 + 1)) * 2 ^ (min (Int.toNat f_0) 64))))))

def sZ104 (N : Nat) : TSZ104 := GZ104 N

abbrev TSZ44 : Type := Int -> Int -> Int -> (Int -> Bool) -> Bool

def GZ44 (N : Nat) (f_0 f_1 f_2 : Int) (k0 : Int -> Bool) : Bool :=
  ((decide (0 <= f_0)) && (k0 (IntKind.wrap .u64 ((IntKind.wrap .u64 f_1) * 2 ^ (min (Int.toNat f_0) 64)))))

def sZ44 (N : Nat) : TSZ44 := GZ44 N

abbrev TSZ42 : Type := Int -> Int -> Int -> Int -> (Bool -> Bool) -> Bool

def GZ42 (N : Nat) (SZ104 : TSZ104) (SZ44 : TSZ44) (b f_0 f_1 f_2 : Int) (k0 : Bool -> Bool) : Bool :=
  (SZ104 f_0 f_1 f_2 (fun nr => (SZ44 f_0 f_1 f_2 (fun nr_1 => (k0 (decide ((bitsN .andNot .u64 b nr) > nr_1)))))))

def sZ42 (N : Nat) : TSZ42 := GZ42 N (sZ104 N) (sZ44 N)

abbrev TSZ72 : Type := Int -> Int -> Int -> (Int -> Bool) -> Bool

def GZ72 (N : Nat) (f_0 f_1 f_2 : Int) (k0 : Int -> Bool) : Bool :=
  ((decide (0 <= f_0)) && (k0 (IntKind.wrap .u64 ((1 : Int) * 2 ^ (min (Int.toNat f_0) 64)))))

def sZ72 (N : Nat) : TSZ72 := GZ72 N

abbrev TSZ120 : Type := Int -> Int -> Int -> (Int -> Bool) -> Bool

def GZ120 (N : Nat) (SZ44 : TSZ44) (SZ72 : TSZ72) (f_0 f_1 f_2 : Int) (k0 : Int -> Bool) : Bool :=
  (SZ44 f_0 f_1 f_2 (fun nr => (SZ72 f_0 f_1 f_2 (fun nr_1 => (k0 (bitsN .or .u64 (bitsN .or .u64 nr (Int.fdiv nr_1 (2 ^ 1))) (IntKind.wrap .u64 (Int.tdiv f_0 52))))))))

def sZ120 (N : Nat) : TSZ120 := GZ120 N (sZ44 N) (sZ72 N)

abbrev TSZ18 : Type := Int -> Int -> Int -> Int -> (Int -> Bool) -> Bool

def GZ18 (N : Nat) (SZ42 : TSZ42) (SZ120 : TSZ120) (b f_0 f_1 f_2 : Int) (k0 : Int -> Bool) : Bool :=
  (SZ42 b f_0 f_1 f_2 (fun cr => (cond cr (SZ120 f_0 f_1 f_2 (fun nr => (k0 nr))) (k0 b))))

def sZ18 (N : Nat) : TSZ18 := GZ18 N (sZ42 N) (sZ120 N)

abbrev TSZ27 : Type := Int -> Int -> Int -> Int -> (Bool -> Int -> Int -> Bool) -> Bool

def GZ27 (N : Nat) (SZ18 : TSZ18) (SZ104 : TSZ104) (SZ72 : TSZ72) (b f_0 f_1 f_2 : Int) (k0 : Bool -> Int -> Int -> Bool) : Bool :=
  (SZ18 b f_0 f_1 f_2 (fun nr => (SZ104 f_0 f_1 f_2 (fun nr_1 => ((decide (0 <= f_0)) && ((fits .i64 (bitsN .and .u64 (Int.fdiv nr (2 ^ (min (Int.toNat f_0) 64))) (IntKind.wrap .u64 f_1))) && (SZ72 f_0 f_1 f_2 (fun nr_2 => (k0 ((bitsN .and .u64 nr nr_1) != 0) (bitsN .and .u64 (Int.fdiv nr (2 ^ (min (Int.toNat f_0) 64))) (IntKind.wrap .u64 f_1)) (bitsN .and .u64 nr (IntKind.wrap .u64 (nr_2 - 1))))))))))))

def sZ27 (N : Nat) : TSZ27 := GZ27 N (sZ18 N) (sZ104 N) (sZ72 N)

abbrev TSZ26 : Type := Int -> Int -> Int -> Int -> (Int -> Bool) -> Bool

def GZ26 (N : Nat) (SZ27 : TSZ27) (b f_0 f_1 f_2 : Int) (k0 : Int -> Bool) : Bool :=
  (SZ27 b f_0 f_1 f_2 (fun cr nr nr_1 => (cond ((nr == f_1) == true) (cond (nr_1 != 0) (k0 1) (cond (nr == f_1) (k0 2) (cond ((nr == 0) == true) (cond (nr_1 == 0) (k0 3) (cond (nr == 0) (k0 4) (k0 5))) (cond (nr == 0) (k0 4) (k0 5))))) (cond (nr == f_1) (k0 2) (cond ((nr == 0) == true) (cond (nr_1 == 0) (k0 3) (cond (nr == 0) (k0 4) (k0 5))) (cond (nr == 0) (k0 4) (k0 5)))))))

def sZ26 (N : Nat) : TSZ26 := GZ26 N (sZ27 N)

abbrev TSZ112 : Type := Nat -> (Int -> Bool) -> Bool

def GZ112 (N : Nat) (SZ78 : TSZ78) (S_an_of : TS_an_of) (SZ26 : TSZ26) (x : Nat) (k0 : Int -> Bool) : Bool :=
  (SZ78 x (fun nr => (S_an_of (fun nr_1 nr_2 nr_3 => (SZ26 nr nr_1 nr_2 nr_3 (fun nr_4 => (k0 nr_4)))))))

def sZ112 (N : Nat) : TSZ112 := GZ112 N (sZ78 N) (s_an_of N) (sZ26 N)

abbrev TSZ30 : Type := Int -> (Fl -> Bool) -> Bool

def sZ30 (N : Nat) : TSZ30 := fun n k => k (canon n.toNat)

abbrev TSZ125 : Type := Nat -> (Fl -> Bool) -> Bool

def GZ125 (N : Nat) (SZ78 : TSZ78) (SZ30 : TSZ30) (x : Nat) (k0 : Fl -> Bool) : Bool :=
  (SZ78 x (fun nr => (SZ30 (bitsN .andNot .u64 nr 9223372036854775808) (fun xr => (k0 xr)))))

def sZ125 (N : Nat) : TSZ125 := GZ125 N (sZ78 N) (sZ30 N)

abbrev TSZ61 : Type := List Int -> (List Fl -> Bool) -> Bool

def st_z01_Of64_0 (N : Nat) (SZ30 : TSZ30) (t6_1 : List Int) (t7_1 : Int) (e0 : List Fl -> Bool) : (Int × List Fl) -> ((Int × List Fl) -> Bool) -> Bool := fun v_ K => match v_ with
  | (t8_1, x) => (cond (decide (t8_1 < t7_1)) ((inR t8_1 (List.length t6_1)) && (SZ30 (List.getD t6_1 (Int.toNat t8_1) 0) (fun xr_1 => ((decide ((List.length (x ++ [xr_1])) * 8 <= 140737488355328)) && ((fits .i64 (t8_1 + 1)) && (K ((t8_1 + 1), (x ++ [xr_1])))))))) (e0 x))

def GZ61 (N : Nat) (SZ30 : TSZ30) (l : List Int) (k0 : List Fl -> Bool) : Bool :=
  (iterG N (st_z01_Of64_0 N SZ30 l (((List.length l) : Nat) : Int) (fun x_1 => (k0 x_1))) (0, []))

def sZ61 (N : Nat) : TSZ61 := GZ61 N (sZ30 N)

abbrev TSZ108 : Type := List Fl -> (Fl -> Fl -> Fl -> Fl -> Bool) -> Bool

def GZ108 (N : Nat) (l : List Fl) (k0 : Fl -> Fl -> Fl -> Fl -> Bool) : Bool :=
  ((inR 0 (List.length l)) && ((inR 1 (List.length l)) && ((inR 2 (List.length l)) && ((inR 3 (List.length l)) && (k0 (List.getD l 0 none) (List.getD l 1 none) (List.getD l 2 none) (List.getD l 3 none))))))

def sZ108 (N : Nat) : TSZ108 := GZ108 N

abbrev TS_zl_f : Type := Int -> (Fl -> Bool) -> Bool

def G_zl_f (N : Nat) (SZ30 : TSZ30) (b : Int) (k0 : Fl -> Bool) : Bool :=
  (SZ30 b (fun xr => (k0 xr)))

def s_zl_f (N : Nat) : TS_zl_f := G_zl_f N (sZ30 N)

abbrev TSZ107 : Type := Int -> Int -> Int -> (Fl -> Fl -> Fl -> Bool) -> Bool

def GZ107 (N : Nat) (S_zl_f : TS_zl_f) (b_0 b_1 b_2 : Int) (k0 : Fl -> Fl -> Fl -> Bool) : Bool :=
  (S_zl_f b_0 (fun xr => (S_zl_f b_1 (fun xr_1 => (S_zl_f b_2 (fun xr_2 => (k0 xr xr_1 xr_2)))))))

def sZ107 (N : Nat) : TSZ107 := GZ107 N (s_zl_f N)

abbrev TSZ64 : Type := Fl -> Fl -> Fl -> Fl -> (List Fl -> Bool) -> Bool

def GZ64 (N : Nat) (q_0 q_1 q_2 q_3 : Fl) (k0 : List Fl -> Bool) : Bool :=
  (k0 [q_0, q_1, q_2, q_3])

def sZ64 (N : Nat) : TSZ64 := GZ64 N

abbrev TSZ57 : Type := Fl -> (Int -> Bool) -> Bool

def sZ57 (N : Nat) : TSZ57 := fun x k => match x with | some b => k b | none => false

abbrev TSZ111 : Type := Fl -> (Int -> Bool) -> Bool

def GZ111 (N : Nat) (SZ57 : TSZ57) (x : Fl) (k0 : Int -> Bool) : Bool :=
  (cond (!feq x x) (k0 9221120237041090561) (SZ57 x (fun nr => (k0 nr))))

def sZ111 (N : Nat) : TSZ111 := GZ111 N (sZ57 N)

abbrev TSZ45 : Type := Fl -> (Bool -> Int -> Int -> Bool) -> Bool

def GZ45 (N : Nat) (SZ111 : TSZ111) (x : Fl) (k0 : Bool -> Int -> Int -> Bool) : Bool :=
  (SZ111 x (fun nr => ((fits .i64 (Int.tmod (Int.fdiv nr (2 ^ 52)) 2048)) && (k0 ((Int.fdiv nr (2 ^ 63)) == 1) (Int.tmod (Int.fdiv nr (2 ^ 52)) 2048) (Int.tmod nr 4503599627370496)))))

def sZ45 (N : Nat) : TSZ45 := GZ45 N (sZ111 N)

abbrev TSZ68 : Type := Int -> Int -> Int -> (Int -> Bool) -> Bool

def GZ68 (N : Nat) (exp frac most : Int) (k0 : Int -> Bool) : Bool :=
  (cond ((exp == most) == true) (cond (frac != 0) (k0 1) (cond (exp == most) (k0 2) (cond ((exp == 0) == true) (cond (frac == 0) (k0 3) (cond (exp == 0) (k0 4) (k0 5))) (cond (exp == 0) (k0 4) (k0 5))))) (cond (exp == most) (k0 2) (cond ((exp == 0) == true) (cond (frac == 0) (k0 3) (cond (exp == 0) (k0 4) (k0 5))) (cond (exp == 0) (k0 4) (k0 5)))))

def sZ68 (N : Nat) : TSZ68 := GZ68 N

abbrev TSZ97 : Type := Fl -> (Int -> Bool) -> Bool

def GZ97 (N : Nat) (SZ45 : TSZ45) (SZ68 : TSZ68) (x : Fl) (k0 : Int -> Bool) : Bool :=
  (SZ45 x (fun cr nr nr_1 => (SZ68 nr nr_1 2047 (fun nr_2 => (k0 nr_2)))))

def sZ97 (N : Nat) : TSZ97 := GZ97 N (sZ45 N) (sZ68 N)

abbrev TSZ53 : Type := Fl -> (Bool -> Bool) -> Bool

def GZ53 (N : Nat) (SZ97 : TSZ97) (x : Fl) (k0 : Bool -> Bool) : Bool :=
  (SZ97 x (fun nr => (k0 (decide (nr > 2)))))

def sZ53 (N : Nat) : TSZ53 := GZ53 N (sZ97 N)

abbrev TSZ46 : Type := List Fl -> (Bool -> Bool) -> Bool

def stZ135 (N : Nat) (SZ53 : TSZ53) (t5 : List Fl) (t6 : Int) (e0 : Bool -> Bool) (e1 : Bool) : (Int) -> ((Int) -> Bool) -> Bool := fun v_ K => match v_ with
  | t7 => (cond (decide (t7 < t6)) ((inR t7 (List.length t5)) && (SZ53 (List.getD t5 (Int.toNat t7) none) (fun cr => (cond (!cr) (e0 false) ((fits .i64 (t7 + 1)) && (K (t7 + 1))))))) e1)

def GZ46 (N : Nat) (SZ53 : TSZ53) (l : List Fl) (k0 : Bool -> Bool) : Bool :=
  (iterG N (stZ135 N SZ53 l (((List.length l) : Nat) : Int) (fun t2 => (k0 t2)) (k0 true)) 0)

def sZ46 (N : Nat) : TSZ46 := GZ46 N (sZ53 N)

abbrev TSZ87 : Type := Fl -> Fl -> Fl -> Fl -> (Bool -> Bool) -> Bool

def GZ87 (N : Nat) (SZ64 : TSZ64) (SZ46 : TSZ46) (q_0 q_1 q_2 q_3 : Fl) (k0 : Bool -> Bool) : Bool :=
  (SZ64 q_0 q_1 q_2 q_3 (fun xsr => (SZ46 xsr (fun cr => (k0 cr)))))

def sZ87 (N : Nat) : TSZ87 := GZ87 N (sZ64 N) (sZ46 N)

abbrev TSZ41 : Type := (Int -> Bool -> Bool) -> Bool

def GZ41 (N : Nat) (k0 : Int -> Bool -> Bool) : Bool :=
  (k0 0 false)

def sZ41 (N : Nat) : TSZ41 := GZ41 N

abbrev TSZ94 : Type := Int -> Int -> (Int -> Int -> Bool) -> Bool

def st_z01_odd_0 (N : Nat) (e0 : Int -> Int -> Bool) : (Int × Int) -> ((Int × Int) -> Bool) -> Bool := fun v_ K => match v_ with
  | (m_1, e_1) => (cond ((Int.tmod m_1 2) == 0) ((fits .i64 (e_1 + 1)) && (K ((IntKind.wrap .u64 (Int.tdiv m_1 2)), (e_1 + 1)))) (e0 m_1 e_1))

def GZ94 (N : Nat) (m e : Int) (k0 : Int -> Int -> Bool) : Bool :=
  (cond (m == 0) (k0 0 0) (iterG N (st_z01_odd_0 N (fun m_2 e_2 => (k0 m_2 e_2))) (m, e)))

def sZ94 (N : Nat) : TSZ94 := GZ94 N

abbrev TSZ88 : Type := Fl -> (Bool -> Int -> Int -> Int -> Bool) -> Bool

def JZ131 (N : Nat) (SZ45 : TSZ45) (SZ94 : TSZ94) (x : Fl) (neg : Bool) (e f : Int) (k0 : Bool -> Int -> Int -> Int -> Bool) : Bool :=
  ((fits .i64 (e - 1074)) && (SZ94 f (e - 1074) (fun nr_2 nr_3 => (k0 neg nr_2 nr_3 0))))

def GZ88 (N : Nat) (SZ45 : TSZ45) (SZ94 : TSZ94) (x : Fl) (k0 : Bool -> Int -> Int -> Int -> Bool) : Bool :=
  (SZ45 x (fun cr nr nr_1 => (cond (nr == 2047) (k0 false 0 0 4) (cond (decide (nr > 0)) ((fits .i64 (nr - 1)) && (JZ131 N SZ45 SZ94 x cr (nr - 1) (IntKind.wrap .u64 (nr_1 + 4503599627370496)) k0)) (JZ131 N SZ45 SZ94 x cr nr nr_1 k0)))))

def sZ88 (N : Nat) : TSZ88 := GZ88 N (sZ45 N) (sZ94 N)

abbrev TSZ7 : Type := List Int -> (Nat -> Nat -> Bool) -> Bool

def stZ134 (N m_1 : Nat) (m_3 : List Int) (e0 : Nat -> Bool) : (Nat) -> ((Nat) -> Bool) -> Bool := fun v_ K => match v_ with
  | m_2 => (cond ((decide (((m_2 : Nat) : Int) > 0)) == true) ((fits .i64 (((m_2 : Nat) : Int) - 1)) && ((inR (((m_2 : Nat) : Int) - 1) m_2) && ((decide ((m_1 + (Int.toNat (((m_2 : Nat) : Int) - 1))) < (List.length m_3))) && (cond ((List.getD m_3 (m_1 + (Int.toNat (((m_2 : Nat) : Int) - 1))) 0) == 0) ((fits .i64 (((m_2 : Nat) : Int) - 1)) && ((decide (0 <= (((m_2 : Nat) : Int) - 1) /\ (((m_2 : Nat) : Int) - 1) <= ((m_2 : Nat) : Int))) && (K ((Int.toNat (((m_2 : Nat) : Int) - 1)) - 0)))) (e0 m_2))))) (e0 m_2))

def GZ7 (N : Nat) (b : List Int) (k0 : Nat -> Nat -> Bool) : Bool :=
  (iterG N (stZ134 N 0 b (fun m_4 => (k0 0 m_4))) (List.length b))

def sZ7 (N : Nat) : TSZ7 := GZ7 N

abbrev TSZ71 : Type := Int -> (List Int -> Bool) -> Bool

def GZ71 (N : Nat) (SZ7 : TSZ7) (n : Int) (k0 : List Int -> Bool) : Bool :=
  (SZ7 [(IntKind.wrap .u32 n), (IntKind.wrap .u32 (Int.fdiv n (2 ^ 32)))] (fun mr mr_1 => ((decide ((mr + mr_1) <= (List.length [(IntKind.wrap .u32 n), (IntKind.wrap .u32 (Int.fdiv n (2 ^ 32)))]))) && (k0 (List.take mr_1 (List.drop mr [(IntKind.wrap .u32 n), (IntKind.wrap .u32 (Int.fdiv n (2 ^ 32)))]))))))

def sZ71 (N : Nat) : TSZ71 := GZ71 N (sZ7 N)

abbrev TSZ118 : Type := List Int -> (List Int -> Bool) -> Bool

def st_z00_cut_0 (N : Nat) (e0 : List Int -> Bool) : (List Int) -> ((List Int) -> Bool) -> Bool := fun v_ K => match v_ with
  | m_1 => (cond ((decide ((((List.length m_1) : Nat) : Int) > 0)) == true) ((fits .i64 ((((List.length m_1) : Nat) : Int) - 1)) && ((inR ((((List.length m_1) : Nat) : Int) - 1) (List.length m_1)) && (cond ((List.getD m_1 (Int.toNat ((((List.length m_1) : Nat) : Int) - 1)) 0) == 0) ((fits .i64 ((((List.length m_1) : Nat) : Int) - 1)) && ((decide (0 <= ((((List.length m_1) : Nat) : Int) - 1) /\ ((((List.length m_1) : Nat) : Int) - 1) <= (((List.length m_1) : Nat) : Int))) && (K (List.drop 0 (List.take (Int.toNat ((((List.length m_1) : Nat) : Int) - 1)) m_1))))) (e0 m_1)))) (e0 m_1))

def GZ118 (N : Nat) (m : List Int) (k0 : List Int -> Bool) : Bool :=
  (iterG N (st_z00_cut_0 N (fun m_2 => (k0 m_2))) m)

def sZ118 (N : Nat) : TSZ118 := GZ118 N

abbrev TSZ14 : Type := Bool -> List Int -> Bool -> (Bool -> List Int -> Bool) -> Bool

def GZ14 (N : Nat) (SZ118 : TSZ118) (neg : Bool) (m : List Int) (b : Bool) (k0 : Bool -> List Int -> Bool) : Bool :=
  (SZ118 m (fun nsr => (cond (neg == true) (k0 (decide ((((List.length nsr) : Nat) : Int) > 0)) nsr) (k0 false nsr))))

def sZ14 (N : Nat) : TSZ14 := GZ14 N (sZ118 N)

abbrev TSZ24 : Type := Int -> Bool -> (Bool -> List Int -> Bool) -> Bool

def GZ24 (N : Nat) (SZ71 : TSZ71) (SZ14 : TSZ14) (n : Int) (b : Bool) (k0 : Bool -> List Int -> Bool) : Bool :=
  (SZ71 n (fun nsr => (SZ14 false nsr b (fun cr nsr_1 => (k0 cr nsr_1)))))

def sZ24 (N : Nat) : TSZ24 := GZ24 N (sZ71 N) (sZ14 N)

abbrev TSZ69 : Type := Bool -> Bool -> List Int -> List Int -> (Bool -> Nat -> Nat -> Bool) -> Bool

def GZ69 (N : Nat) (SZ7 : TSZ7) (neg b : Bool) (b_1 b_2 : List Int) (k0 : Bool -> Nat -> Nat -> Bool) : Bool :=
  (SZ7 b_2 (fun mr mr_1 => (cond (neg == true) (k0 (decide (((mr_1 : Nat) : Int) > 0)) mr mr_1) (k0 false mr mr_1))))

def sZ69 (N : Nat) : TSZ69 := GZ69 N (sZ7 N)

abbrev TSZ66 : Type := Bool -> List Int -> (Bool -> List Int -> Bool) -> Bool

def GZ66 (N : Nat) (SZ69 : TSZ69) (b : Bool) (b_1 : List Int) (k0 : Bool -> List Int -> Bool) : Bool :=
  ((decide ((List.length ([] ++ b_1)) * 4 <= 140737488355328)) && (SZ69 (!b) b b_1 ([] ++ b_1) (fun cr mr mr_1 => ((decide ((mr + mr_1) <= (List.length ([] ++ b_1)))) && (k0 cr (List.take mr_1 (List.drop mr ([] ++ b_1))))))))

def sZ66 (N : Nat) : TSZ66 := GZ66 N (sZ69 N)

abbrev TSZ102 : Type := Fl -> (Int -> Bool -> List Int -> Bool) -> Bool

def GZ102 (N : Nat) (SZ88 : TSZ88) (SZ24 : TSZ24) (SZ66 : TSZ66) (x : Fl) (k0 : Int -> Bool -> List Int -> Bool) : Bool :=
  (SZ88 x (fun cr nr nr_1 nr_2 => (SZ24 nr false (fun cr_1 nsr => (cond cr (SZ66 cr_1 nsr (fun cr_2 nsr_1 => (k0 nr_1 cr_2 nsr_1))) (k0 nr_1 cr_1 nsr))))))

def sZ102 (N : Nat) : TSZ102 := GZ102 N (sZ88 N) (sZ24 N) (sZ66 N)

abbrev TSZ60 : Type := List Int -> List Int -> (List Int -> Bool) -> Bool

def st_z00_times_2 (N : Nat) (SZ7 : TSZ7) (a_2 b_2 : List Int) (i_1 : Int) (e0 : Int -> List Int -> Bool) : (Int × Int × List Int) -> ((Int × Int × List Int) -> Bool) -> Bool := fun v_ K => match v_ with
  | (carry, k_, out_1) => (cond (decide (k_ < (((List.length b_2) : Nat) : Int))) ((inR i_1 (List.length a_2)) && ((inR k_ (List.length b_2)) && ((fits .i64 (i_1 + k_)) && ((inR (i_1 + k_) (List.length out_1)) && ((decide ((Int.toNat (i_1 + k_)) < (List.length out_1))) && ((fits .i64 (i_1 + k_)) && ((inR (i_1 + k_) (List.length out_1)) && ((decide ((Int.toNat (i_1 + k_)) < (List.length out_1))) && ((fits .i64 (k_ + 1)) && (K ((Int.fdiv (IntKind.wrap .u64 ((IntKind.wrap .u64 ((IntKind.wrap .u64 ((IntKind.wrap .u64 (List.getD a_2 (Int.toNat i_1) 0)) * (IntKind.wrap .u64 (List.getD b_2 (Int.toNat k_) 0)))) + (IntKind.wrap .u64 (List.getD out_1 (Int.toNat (i_1 + k_)) 0)))) + carry)) (2 ^ 32)), (k_ + 1), (List.set out_1 (Int.toNat (i_1 + k_)) (IntKind.wrap .u32 (IntKind.wrap .u64 ((IntKind.wrap .u64 ((IntKind.wrap .u64 ((IntKind.wrap .u64 (List.getD a_2 (Int.toNat i_1) 0)) * (IntKind.wrap .u64 (List.getD b_2 (Int.toNat k_) 0)))) + (IntKind.wrap .u64 (List.getD out_1 (Int.toNat (i_1 + k_)) 0)))) + carry))))))))))))))) (e0 carry out_1))

def st_z00_times_0 (N : Nat) (SZ7 : TSZ7) (a_1 b_1 : List Int) (e0 : List Int -> Bool) : (Int × List Int) -> ((Int × List Int) -> Bool) -> Bool := fun v_ K => match v_ with
  | (i, out) => (cond (decide (i < (((List.length a_1) : Nat) : Int))) (iterG N (st_z00_times_2 N SZ7 a_1 b_1 i (fun carry_1 out_2 => ((fits .i64 (i + (((List.length b_1) : Nat) : Int))) && ((inR (i + (((List.length b_1) : Nat) : Int)) (List.length out_2)) && ((decide ((Int.toNat (i + (((List.length b_1) : Nat) : Int))) < (List.length out_2))) && ((fits .i64 (i + 1)) && (K ((i + 1), (List.set out_2 (Int.toNat (i + (((List.length b_1) : Nat) : Int))) (IntKind.wrap .u32 carry_1)))))))))) (0, 0, out)) (e0 out))

def GZ60 (N : Nat) (SZ7 : TSZ7) (a b : List Int) (k0 : List Int -> Bool) : Bool :=
  ((fits .i64 ((((List.length a) : Nat) : Int) + (((List.length b) : Nat) : Int))) && ((mkOk 4 ((((List.length a) : Nat) : Int) + (((List.length b) : Nat) : Int)) ((((List.length a) : Nat) : Int) + (((List.length b) : Nat) : Int))) && (iterG N (st_z00_times_0 N SZ7 a b (fun out_3 => (SZ7 out_3 (fun mr mr_1 => ((decide ((mr + mr_1) <= (List.length out_3))) && (k0 (List.take mr_1 (List.drop mr out_3)))))))) (0, (List.replicate (Int.toNat ((((List.length a) : Nat) : Int) + (((List.length b) : Nat) : Int))) (0 : Int))))))

def sZ60 (N : Nat) : TSZ60 := GZ60 N (sZ7 N)

abbrev TSZ28 : Type := Bool -> Bool -> List Int -> Bool -> List Int -> (Bool -> List Int -> Bool) -> Bool

def GZ28 (N : Nat) (SZ60 : TSZ60) (SZ14 : TSZ14) (b b_1 : Bool) (b_2 : List Int) (b_3 : Bool) (b_4 : List Int) (k0 : Bool -> List Int -> Bool) : Bool :=
  (SZ60 b_2 b_4 (fun nsr => (SZ14 (b_1 != b_3) nsr b (fun cr nsr_1 => (k0 cr nsr_1)))))

def sZ28 (N : Nat) : TSZ28 := GZ28 N (sZ60 N) (sZ14 N)

abbrev TSZ1 : Type := Int -> Int -> Bool -> List Int -> Bool -> List Int -> (Int -> Bool -> List Int -> Bool) -> Bool

def GZ1 (N : Nat) (SZ28 : TSZ28) (x y : Int) (b : Bool) (b_1 : List Int) (b_2 : Bool) (b_3 : List Int) (k0 : Int -> Bool -> List Int -> Bool) : Bool :=
  (SZ28 false b b_1 b_2 b_3 (fun cr nsr => ((fits .i64 (x + y)) && (k0 (x + y) cr nsr))))

def sZ1 (N : Nat) : TSZ1 := GZ1 N (sZ28 N)

abbrev TSZ77 : Type := Bool -> (Int -> List Int -> Bool) -> Bool

def GZ77 (N : Nat) (b : Bool) (k0 : Int -> List Int -> Bool) : Bool :=
  (k0 0 [])

def sZ77 (N : Nat) : TSZ77 := GZ77 N

abbrev TSZ11 : Type := Bool -> List Int -> (Int -> Bool) -> Bool

def GZ11 (N : Nat) (b : Bool) (b_1 : List Int) (k0 : Int -> Bool) : Bool :=
  (cond ((((List.length b_1) : Nat) : Int) == 0) (k0 0) (cond b (k0 (-1)) (k0 1)))

def sZ11 (N : Nat) : TSZ11 := GZ11 N

abbrev TSZ105 : Type := List Int -> Int -> (List Int -> Bool) -> Bool

def st_z00_left_0 (N : Nat) (SZ7 : TSZ7) (m_1 : List Int) (w s : Int) (e0 : List Int -> Bool) : (Int × List Int) -> ((Int × List Int) -> Bool) -> Bool := fun v_ K => match v_ with
  | (i, out) => (cond (decide (i < (((List.length m_1) : Nat) : Int))) ((inR i (List.length m_1)) && ((decide (0 <= s)) && ((fits .i64 (w + i)) && ((inR (w + i) (List.length out)) && ((decide ((Int.toNat (w + i)) < (List.length out))) && ((inR (w + i) (List.length out)) && ((decide ((Int.toNat (w + i)) < (List.length out))) && ((fits .i64 (w + i)) && ((fits .i64 ((w + i) + 1)) && ((inR ((w + i) + 1) (List.length (List.set out (Int.toNat (w + i)) (bitsN .or .u32 (List.getD out (Int.toNat (w + i)) 0) (IntKind.wrap .u32 (IntKind.wrap .u64 ((IntKind.wrap .u64 (List.getD m_1 (Int.toNat i) 0)) * 2 ^ (min (Int.toNat s) 64)))))))) && ((decide ((Int.toNat ((w + i) + 1)) < (List.length (List.set out (Int.toNat (w + i)) (bitsN .or .u32 (List.getD out (Int.toNat (w + i)) 0) (IntKind.wrap .u32 (IntKind.wrap .u64 ((IntKind.wrap .u64 (List.getD m_1 (Int.toNat i) 0)) * 2 ^ (min (Int.toNat s) 64))))))))) && ((fits .i64 (i + 1)) && (K ((i + 1), (List.set (List.set out (Int.toNat (w + i)) (bitsN .or .u32 (List.getD out (Int.toNat (w + i)) 0) (IntKind.wrap .u32 (IntKind.wrap .u64 ((IntKind.wrap .u64 (List.getD m_1 (Int.toNat i) 0)) * 2 ^ (min (Int.toNat s) 64)))))) (Int.toNat ((w + i) + 1)) (IntKind.wrap .u32 (Int.fdiv (IntKind.wrap .u64 ((IntKind.wrap .u64 (List.getD m_1 (Int.toNat i) 0)) * 2 ^ (min (Int.toNat s) 64))) (2 ^ 32)))))))))))))))))) (e0 out))

def GZ105 (N : Nat) (SZ7 : TSZ7) (m : List Int) (n : Int) (k0 : List Int -> Bool) : Bool :=
  (cond ((((List.length m) : Nat) : Int) == 0) (k0 []) ((fits .i64 (IntKind.wrap .u64 (Int.tdiv n 32))) && ((fits .i64 ((IntKind.wrap .u64 (Int.tdiv n 32)) + (((List.length m) : Nat) : Int))) && ((fits .i64 (((IntKind.wrap .u64 (Int.tdiv n 32)) + (((List.length m) : Nat) : Int)) + 1)) && ((mkOk 4 (((IntKind.wrap .u64 (Int.tdiv n 32)) + (((List.length m) : Nat) : Int)) + 1) (((IntKind.wrap .u64 (Int.tdiv n 32)) + (((List.length m) : Nat) : Int)) + 1)) && (iterG N (st_z00_left_0 N SZ7 m (IntKind.wrap .u64 (Int.tdiv n 32)) (Int.tmod n 32) (fun out_1 => (SZ7 out_1 (fun mr mr_1 => ((decide ((mr + mr_1) <= (List.length out_1))) && (k0 (List.take mr_1 (List.drop mr out_1)))))))) (0, (List.replicate (Int.toNat (((IntKind.wrap .u64 (Int.tdiv n 32)) + (((List.length m) : Nat) : Int)) + 1)) (0 : Int)))))))))

def sZ105 (N : Nat) : TSZ105 := GZ105 N (sZ7 N)

abbrev TSZ51 : Type := Int -> Bool -> Bool -> List Int -> (Bool -> List Int -> Bool) -> Bool

def GZ51 (N : Nat) (SZ105 : TSZ105) (SZ14 : TSZ14) (n : Int) (b b_1 : Bool) (b_2 : List Int) (k0 : Bool -> List Int -> Bool) : Bool :=
  (SZ105 b_2 n (fun nsr => (SZ14 b_1 nsr b (fun cr nsr_1 => (k0 cr nsr_1)))))

def sZ51 (N : Nat) : TSZ51 := GZ51 N (sZ105 N) (sZ14 N)

abbrev TSZ13 : Type := Int -> Int -> Bool -> List Int -> (Bool) -> (Bool -> List Int -> Bool) -> Bool

def GZ13 (N : Nat) (SZ51 : TSZ51) (x e : Int) (b : Bool) (b_1 : List Int) (k0 : Bool) (k1 : Bool -> List Int -> Bool) : Bool :=
  (cond (decide (e >= x)) k0 ((fits .i64 (x - e)) && (SZ51 (IntKind.wrap .u64 (x - e)) false b b_1 (fun cr nsr => (k1 cr nsr)))))

def sZ13 (N : Nat) : TSZ13 := GZ13 N (sZ51 N)

abbrev TSZ106 : Type := List Int -> List Int -> (List Int -> Bool) -> Bool

def st_z00_plus_0 (N : Nat) (SZ7 : TSZ7) (a_1 b_1 : List Int) (e0 : Int -> List Int -> Bool) : (Int × Int × List Int) -> ((Int × Int × List Int) -> Bool) -> Bool := fun v_ K => match v_ with
  | (carry, i, out) => (cond (decide (i < (((List.length a_1) : Nat) : Int))) ((inR i (List.length a_1)) && (cond (decide (i < (((List.length b_1) : Nat) : Int))) ((inR i (List.length b_1)) && ((inR i (List.length out)) && ((decide ((Int.toNat i) < (List.length out))) && ((fits .i64 (i + 1)) && (K ((Int.fdiv (IntKind.wrap .u64 ((IntKind.wrap .u64 ((IntKind.wrap .u64 (List.getD a_1 (Int.toNat i) 0)) + carry)) + (IntKind.wrap .u64 (List.getD b_1 (Int.toNat i) 0)))) (2 ^ 32)), (i + 1), (List.set out (Int.toNat i) (IntKind.wrap .u32 (IntKind.wrap .u64 ((IntKind.wrap .u64 ((IntKind.wrap .u64 (List.getD a_1 (Int.toNat i) 0)) + carry)) + (IntKind.wrap .u64 (List.getD b_1 (Int.toNat i) 0)))))))))))) ((inR i (List.length out)) && ((decide ((Int.toNat i) < (List.length out))) && ((fits .i64 (i + 1)) && (K ((Int.fdiv (IntKind.wrap .u64 ((IntKind.wrap .u64 (List.getD a_1 (Int.toNat i) 0)) + carry)) (2 ^ 32)), (i + 1), (List.set out (Int.toNat i) (IntKind.wrap .u32 (IntKind.wrap .u64 ((IntKind.wrap .u64 (List.getD a_1 (Int.toNat i) 0)) + carry))))))))))) (e0 carry out))

def GZ106 (N : Nat) (SZ7 : TSZ7) (a b : List Int) (k0 : List Int -> Bool) : Bool :=
  (cond (decide ((((List.length a) : Nat) : Int) < (((List.length b) : Nat) : Int))) ((fits .i64 ((((List.length b) : Nat) : Int) + 1)) && ((mkOk 4 ((((List.length b) : Nat) : Int) + 1) ((((List.length b) : Nat) : Int) + 1)) && (iterG N (st_z00_plus_0 N SZ7 b a (fun carry_1 out_1 => ((inR (((List.length b) : Nat) : Int) (List.length out_1)) && ((decide ((Int.toNat (((List.length b) : Nat) : Int)) < (List.length out_1))) && (SZ7 (List.set out_1 (Int.toNat (((List.length b) : Nat) : Int)) (IntKind.wrap .u32 carry_1)) (fun mr mr_1 => ((decide ((mr + mr_1) <= (List.length (List.set out_1 (Int.toNat (((List.length b) : Nat) : Int)) (IntKind.wrap .u32 carry_1))))) && (k0 (List.take mr_1 (List.drop mr (List.set out_1 (Int.toNat (((List.length b) : Nat) : Int)) (IntKind.wrap .u32 carry_1)))))))))))) (0, 0, (List.replicate (Int.toNat ((((List.length b) : Nat) : Int) + 1)) (0 : Int)))))) ((fits .i64 ((((List.length a) : Nat) : Int) + 1)) && ((mkOk 4 ((((List.length a) : Nat) : Int) + 1) ((((List.length a) : Nat) : Int) + 1)) && (iterG N (st_z00_plus_0 N SZ7 a b (fun carry_2 out_2 => ((inR (((List.length a) : Nat) : Int) (List.length out_2)) && ((decide ((Int.toNat (((List.length a) : Nat) : Int)) < (List.length out_2))) && (SZ7 (List.set out_2 (Int.toNat (((List.length a) : Nat) : Int)) (IntKind.wrap .u32 carry_2)) (fun mr_2 mr_3 => ((decide ((mr_2 + mr_3) <= (List.length (List.set out_2 (Int.toNat (((List.length a) : Nat) : Int)) (IntKind.wrap .u32 carry_2))))) && (k0 (List.take mr_3 (List.drop mr_2 (List.set out_2 (Int.toNat (((List.length a) : Nat) : Int)) (IntKind.wrap .u32 carry_2)))))))))))) (0, 0, (List.replicate (Int.toNat ((((List.length a) : Nat) : Int) + 1)) (0 : Int)))))))

def sZ106 (N : Nat) : TSZ106 := GZ106 N (sZ7 N)

abbrev TSZ70 : Type := List Int -> List Int -> (Int -> Bool) -> Bool

def stZ132 (N : Nat) (a_1 b_1 : List Int) (e0 : Int -> Bool) (e1 : Bool) : (Int) -> ((Int) -> Bool) -> Bool := fun v_ K => match v_ with
  | i => (cond (decide (i >= 0)) ((inR i (List.length a_1)) && ((inR i (List.length b_1)) && (cond (decide ((List.getD a_1 (Int.toNat i) 0) < (List.getD b_1 (Int.toNat i) 0))) (e0 (-1)) ((inR i (List.length a_1)) && ((inR i (List.length b_1)) && (cond (decide ((List.getD a_1 (Int.toNat i) 0) > (List.getD b_1 (Int.toNat i) 0))) (e0 1) ((fits .i64 (i - 1)) && (K (i - 1))))))))) e1)

def GZ70 (N : Nat) (a b : List Int) (k0 : Int -> Bool) : Bool :=
  (cond ((((List.length a) : Nat) : Int) != (((List.length b) : Nat) : Int)) (cond (decide ((((List.length a) : Nat) : Int) < (((List.length b) : Nat) : Int))) (k0 (-1)) (k0 1)) ((fits .i64 ((((List.length a) : Nat) : Int) - 1)) && (iterG N (stZ132 N a b (fun t4 => (k0 t4)) (k0 0)) ((((List.length a) : Nat) : Int) - 1))))

def sZ70 (N : Nat) : TSZ70 := GZ70 N

abbrev TSZ89 : Type := List Int -> List Int -> (List Int -> Bool) -> Bool

def st_z00_minus_0 (N : Nat) (SZ7 : TSZ7) (a_1 b_1 : List Int) (e0 : List Int -> Bool) : (Int × Int × List Int) -> ((Int × Int × List Int) -> Bool) -> Bool := fun v_ K => match v_ with
  | (borrow, i, out) => (cond (decide (i < (((List.length a_1) : Nat) : Int))) (cond (decide (i < (((List.length b_1) : Nat) : Int))) ((inR i (List.length b_1)) && ((inR i (List.length a_1)) && (cond (decide ((IntKind.wrap .u64 (List.getD a_1 (Int.toNat i) 0)) < (IntKind.wrap .u64 (borrow + (IntKind.wrap .u64 (List.getD b_1 (Int.toNat i) 0)))))) ((inR i (List.length out)) && ((decide ((Int.toNat i) < (List.length out))) && ((fits .i64 (i + 1)) && (K (1, (i + 1), (List.set out (Int.toNat i) (IntKind.wrap .u32 (IntKind.wrap .u64 ((IntKind.wrap .u64 ((IntKind.wrap .u64 (List.getD a_1 (Int.toNat i) 0)) + 4294967296)) - (IntKind.wrap .u64 (borrow + (IntKind.wrap .u64 (List.getD b_1 (Int.toNat i) 0))))))))))))) ((inR i (List.length out)) && ((decide ((Int.toNat i) < (List.length out))) && ((fits .i64 (i + 1)) && (K (0, (i + 1), (List.set out (Int.toNat i) (IntKind.wrap .u32 (IntKind.wrap .u64 ((IntKind.wrap .u64 (List.getD a_1 (Int.toNat i) 0)) - (IntKind.wrap .u64 (borrow + (IntKind.wrap .u64 (List.getD b_1 (Int.toNat i) 0)))))))))))))))) ((inR i (List.length a_1)) && (cond (decide ((IntKind.wrap .u64 (List.getD a_1 (Int.toNat i) 0)) < borrow)) ((inR i (List.length out)) && ((decide ((Int.toNat i) < (List.length out))) && ((fits .i64 (i + 1)) && (K (1, (i + 1), (List.set out (Int.toNat i) (IntKind.wrap .u32 (IntKind.wrap .u64 ((IntKind.wrap .u64 ((IntKind.wrap .u64 (List.getD a_1 (Int.toNat i) 0)) + 4294967296)) - borrow))))))))) ((inR i (List.length out)) && ((decide ((Int.toNat i) < (List.length out))) && ((fits .i64 (i + 1)) && (K (0, (i + 1), (List.set out (Int.toNat i) (IntKind.wrap .u32 (IntKind.wrap .u64 ((IntKind.wrap .u64 (List.getD a_1 (Int.toNat i) 0)) - borrow)))))))))))) (e0 out))

def GZ89 (N : Nat) (SZ7 : TSZ7) (a b : List Int) (k0 : List Int -> Bool) : Bool :=
  ((mkOk 4 (((List.length a) : Nat) : Int) (((List.length a) : Nat) : Int)) && (iterG N (st_z00_minus_0 N SZ7 a b (fun out_1 => (SZ7 out_1 (fun mr mr_1 => ((decide ((mr + mr_1) <= (List.length out_1))) && (k0 (List.take mr_1 (List.drop mr out_1)))))))) (0, 0, (List.replicate (Int.toNat (((List.length a) : Nat) : Int)) (0 : Int)))))

def sZ89 (N : Nat) : TSZ89 := GZ89 N (sZ7 N)

abbrev TSZ29 : Type := Bool -> Bool -> Bool -> List Int -> Bool -> List Int -> (Bool -> List Int -> Bool) -> Bool

def GZ29 (N : Nat) (SZ106 : TSZ106) (SZ14 : TSZ14) (SZ70 : TSZ70) (SZ89 : TSZ89) (turn b b_1 : Bool) (b_2 : List Int) (b_3 : Bool) (b_4 : List Int) (k0 : Bool -> List Int -> Bool) : Bool :=
  (cond (b_1 == (b_3 != turn)) (SZ106 b_2 b_4 (fun nsr => (SZ14 (b_3 != turn) nsr b (fun cr nsr_1 => (k0 cr nsr_1))))) (SZ70 b_2 b_4 (fun nr => (cond (decide (nr >= 0)) (SZ89 b_2 b_4 (fun nsr_2 => (SZ14 b_1 nsr_2 b (fun cr_1 nsr_3 => (k0 cr_1 nsr_3))))) (SZ89 b_4 b_2 (fun nsr_4 => (SZ14 (b_3 != turn) nsr_4 b (fun cr_2 s5 => (k0 cr_2 s5)))))))))

def sZ29 (N : Nat) : TSZ29 := GZ29 N (sZ106 N) (sZ14 N) (sZ70 N) (sZ89 N)

abbrev TSZ16 : Type := Bool -> Bool -> List Int -> Bool -> List Int -> (Bool -> List Int -> Bool) -> Bool

def GZ16 (N : Nat) (SZ29 : TSZ29) (b b_1 : Bool) (b_2 : List Int) (b_3 : Bool) (b_4 : List Int) (k0 : Bool -> List Int -> Bool) : Bool :=
  (SZ29 false b b_1 b_2 b_3 b_4 (fun cr nsr => (k0 cr nsr)))

def sZ16 (N : Nat) : TSZ16 := GZ16 N (sZ29 N)

abbrev TSZ2 : Type := Int -> Int -> Bool -> Bool -> List Int -> (List Int -> Bool) -> (List Int -> Bool) -> (Int -> List Int -> Bool -> List Int -> Bool) -> Bool

def GZ2 (N : Nat) (SZ77 : TSZ77) (SZ11 : TSZ11) (SZ13 : TSZ13) (SZ16 : TSZ16) (x y : Int) (b b_1 : Bool) (b_2 : List Int) (k0 : List Int -> Bool) (k1 : List Int -> Bool) (k2 : Int -> List Int -> Bool -> List Int -> Bool) : Bool :=
  (SZ77 b (fun nr nsr => (cond (nr == 0) (k0 nsr) (SZ11 b_1 b_2 (fun nr_1 => (cond (nr_1 == 0) (k1 nsr) (SZ13 x (imm false x y) b nsr (SZ13 y (imm false x y) b_1 b_2 (SZ16 false b nsr b_1 b_2 (fun cr nsr_1 => (k2 (imm false x y) nsr cr nsr_1))) (fun cr_1 nsr_2 => (SZ16 false b nsr cr_1 nsr_2 (fun cr_2 nsr_3 => (k2 (imm false x y) nsr cr_2 nsr_3))))) (fun cr_3 nsr_4 => (SZ13 y (imm false x y) b_1 b_2 (SZ16 false cr_3 nsr_4 b_1 b_2 (fun cr_4 s5 => (k2 (imm false x y) nsr cr_4 s5))) (fun cr_5 s6 => (SZ16 false cr_3 nsr_4 cr_5 s6 (fun cr_6 s7 => (k2 (imm false x y) nsr cr_6 s7)))))))))))))

def sZ2 (N : Nat) : TSZ2 := GZ2 N (sZ77 N) (sZ11 N) (sZ13 N) (sZ16 N)

abbrev TSZ0 : Type := Int -> Int -> Bool -> List Int -> Bool -> List Int -> (Bool) -> (Bool) -> (Int -> Bool -> List Int -> Bool) -> Bool

def GZ0 (N : Nat) (SZ11 : TSZ11) (SZ13 : TSZ13) (SZ16 : TSZ16) (x y : Int) (b : Bool) (b_1 : List Int) (b_2 : Bool) (b_3 : List Int) (k0 k1 : Bool) (k2 : Int -> Bool -> List Int -> Bool) : Bool :=
  (SZ11 b b_1 (fun nr => (cond (nr == 0) k0 (SZ11 b_2 b_3 (fun nr_1 => (cond (nr_1 == 0) k1 (SZ13 x (imm false x y) b b_1 (SZ13 y (imm false x y) b_2 b_3 (SZ16 false b b_1 b_2 b_3 (fun cr nsr => (k2 (imm false x y) cr nsr))) (fun cr_1 nsr_1 => (SZ16 false b b_1 cr_1 nsr_1 (fun cr_2 nsr_2 => (k2 (imm false x y) cr_2 nsr_2))))) (fun cr_3 nsr_3 => (SZ13 y (imm false x y) b_2 b_3 (SZ16 false cr_3 nsr_3 b_2 b_3 (fun cr_4 nsr_4 => (k2 (imm false x y) cr_4 nsr_4))) (fun cr_5 s5 => (SZ16 false cr_3 nsr_3 cr_5 s5 (fun cr_6 s6 => (k2 (imm false x y) cr_6 s6)))))))))))))

def sZ0 (N : Nat) : TSZ0 := GZ0 N (sZ11 N) (sZ13 N) (sZ16 N)

abbrev TSZ119 : Type := List Fl -> List Fl -> (Int -> Bool -> List Int -> Bool) -> Bool

def st_z03_Dot_0 (N : Nat) (SZ41 : TSZ41) (SZ102 : TSZ102) (SZ1 : TSZ1) (SZ2 : TSZ2) (SZ0 : TSZ0) (a_2 b_2 : List Fl) (t9_1 : Int) (t4_2 : Value) (t4_3 : Int) (e0 : Int -> Bool -> List Int -> Bool) : (Int × Int × Bool × List Int) -> ((Int × Int × Bool × List Int) -> Bool) -> Bool := fun v_ K => match v_ with
  | (t10_1, s_1, b2_1, b2_2) => (cond (decide (t10_1 < t9_1)) ((inR t10_1 (List.length a_2)) && (SZ102 (List.getD a_2 (Int.toNat t10_1) none) (fun nr_4 cr_4 nsr_4 => ((inR t10_1 (List.length b_2)) && (SZ102 (List.getD b_2 (Int.toNat t10_1) none) (fun n5 cr_5 s5 => (SZ1 nr_4 n5 cr_4 nsr_4 cr_5 s5 (fun n6 cr_6 s6 => (SZ0 s_1 n6 b2_1 b2_2 cr_6 s6 ((fits .i64 (t10_1 + 1)) && (K ((t10_1 + 1), n6, cr_6, s6))) ((fits .i64 (t10_1 + 1)) && (K ((t10_1 + 1), s_1, b2_1, b2_2))) (fun n7 c7 s7 => ((fits .i64 (t10_1 + 1)) && (K ((t10_1 + 1), n7, c7, s7))))))))))))) (e0 s_1 b2_1 b2_2))

def GZ119 (N : Nat) (SZ41 : TSZ41) (SZ102 : TSZ102) (SZ1 : TSZ1) (SZ2 : TSZ2) (SZ0 : TSZ0) (a b : List Fl) (k0 : Int -> Bool -> List Int -> Bool) : Bool :=
  (SZ41 (fun nr cr => (iterG N (st_z03_Dot_0 N SZ41 SZ102 SZ1 SZ2 SZ0 a b (((List.length a) : Nat) : Int) (.pointer none) 0 (fun s_2 b2_3 b2_4 => (k0 s_2 b2_3 b2_4))) (0, nr, cr, []))))

def sZ119 (N : Nat) : TSZ119 := GZ119 N (sZ41 N) (sZ102 N) (sZ1 N) (sZ2 N) (sZ0 N)

abbrev TSZ36 : Type := Int -> Bool -> (Bool -> List Int -> Bool) -> Bool

def GZ36 (N : Nat) (SZ71 : TSZ71) (SZ14 : TSZ14) (n : Int) (b : Bool) (k0 : Bool -> List Int -> Bool) : Bool :=
  (cond (decide (n < 0)) (SZ71 (IntKind.wrap .u64 (0 - (IntKind.wrap .u64 n))) (fun nsr => (SZ14 (decide (n < 0)) nsr b (fun cr nsr_1 => (k0 cr nsr_1))))) (SZ71 (IntKind.wrap .u64 n) (fun nsr_2 => (SZ14 (decide (n < 0)) nsr_2 b (fun cr_1 nsr_3 => (k0 cr_1 nsr_3))))))

def sZ36 (N : Nat) : TSZ36 := GZ36 N (sZ71 N) (sZ14 N)

abbrev TSZ47 : Type := Int -> (Bool -> List Int -> Bool) -> Bool

def GZ47 (N : Nat) (SZ36 : TSZ36) (n : Int) (k0 : Bool -> List Int -> Bool) : Bool :=
  (SZ36 n false (fun cr nsr => (k0 cr nsr)))

def sZ47 (N : Nat) : TSZ47 := GZ47 N (sZ36 N)

abbrev TSZ98 : Type := Int -> (Int -> Bool -> List Int -> Bool) -> Bool

def GZ98 (N : Nat) (SZ47 : TSZ47) (n : Int) (k0 : Int -> Bool -> List Int -> Bool) : Bool :=
  (SZ47 n (fun cr nsr => (k0 0 cr nsr)))

def sZ98 (N : Nat) : TSZ98 := GZ98 N (sZ47 N)

abbrev TSZ32 : Type := Bool -> Bool -> List Int -> (Bool -> Nat -> Nat -> Bool) -> Bool

def GZ32 (N : Nat) (SZ7 : TSZ7) (neg b : Bool) (b_1 : List Int) (k0 : Bool -> Nat -> Nat -> Bool) : Bool :=
  (SZ7 b_1 (fun mr mr_1 => (cond (neg == true) (k0 (decide (((mr_1 : Nat) : Int) > 0)) mr mr_1) (k0 false mr mr_1))))

def sZ32 (N : Nat) : TSZ32 := GZ32 N (sZ7 N)

abbrev TSZ50 : Type := Bool -> Bool -> List Int -> (Bool -> List Int -> Bool) -> Bool

def GZ50 (N : Nat) (SZ32 : TSZ32) (b b_1 : Bool) (b_2 : List Int) (k0 : Bool -> List Int -> Bool) : Bool :=
  ((decide ((List.length ([] ++ b_2)) * 4 <= 140737488355328)) && (SZ32 false b ([] ++ b_2) (fun cr mr mr_1 => ((decide ((mr + mr_1) <= (List.length ([] ++ b_2)))) && (k0 cr (List.take mr_1 (List.drop mr ([] ++ b_2))))))))

def sZ50 (N : Nat) : TSZ50 := GZ50 N (sZ32 N)

abbrev TSZ20 : Type := Int -> Bool -> List Int -> (Bool -> List Int -> Bool) -> Bool

def GZ20 (N : Nat) (SZ50 : TSZ50) (x : Int) (b : Bool) (b_1 : List Int) (k0 : Bool -> List Int -> Bool) : Bool :=
  (SZ50 false b b_1 (fun cr nsr => (k0 cr nsr)))

def sZ20 (N : Nat) : TSZ20 := GZ20 N (sZ50 N)

abbrev TSZ76 : Type := Fl -> Fl -> Fl -> Fl -> (Int -> Bool -> List Int -> Bool) -> Bool

def GZ76 (N : Nat) (SZ64 : TSZ64) (SZ119 : TSZ119) (SZ98 : TSZ98) (SZ0 : TSZ0) (SZ20 : TSZ20) (q_0 q_1 q_2 q_3 : Fl) (k0 : Int -> Bool -> List Int -> Bool) : Bool :=
  (SZ64 q_0 q_1 q_2 q_3 (fun xsr => (SZ64 q_0 q_1 q_2 q_3 (fun xsr_1 => (SZ119 xsr xsr_1 (fun nr cr nsr => (SZ98 (-1) (fun nr_1 cr_1 nsr_1 => (SZ0 nr nr_1 cr nsr cr_1 nsr_1 (SZ20 nr_1 cr_1 nsr_1 (fun cr_2 nsr_2 => (k0 nr_1 cr_2 nsr_2))) (SZ20 nr cr nsr (fun cr_3 nsr_3 => (k0 nr cr_3 nsr_3))) (fun nr_2 cr_4 nsr_4 => (SZ20 nr_2 cr_4 nsr_4 (fun cr_5 s5 => (k0 nr_2 cr_5 s5)))))))))))))

def sZ76 (N : Nat) : TSZ76 := GZ76 N (sZ64 N) (sZ119 N) (sZ98 N) (sZ0 N) (sZ20 N)

abbrev TSZ23 : Type := Int -> (Bool -> List Int -> Bool) -> Bool

def GZ23 (N : Nat) (SZ47 : TSZ47) (e : Int) (k0 : Bool -> List Int -> Bool) : Bool :=
  (SZ47 1 (fun cr nsr => (k0 cr nsr)))

def sZ23 (N : Nat) : TSZ23 := GZ23 N (sZ47 N)

abbrev TSZ52 : Type := Bool -> Bool -> List Int -> (Bool -> List Int -> Bool) -> Bool

def GZ52 (N : Nat) (SZ32 : TSZ32) (b b_1 : Bool) (b_2 : List Int) (k0 : Bool -> List Int -> Bool) : Bool :=
  ((decide ((List.length ([] ++ b_2)) * 4 <= 140737488355328)) && (SZ32 (!b_1) b ([] ++ b_2) (fun cr mr mr_1 => ((decide ((mr + mr_1) <= (List.length ([] ++ b_2)))) && (k0 cr (List.take mr_1 (List.drop mr ([] ++ b_2))))))))

def sZ52 (N : Nat) : TSZ52 := GZ52 N (sZ32 N)

abbrev TSZ6 : Type := Int -> Bool -> List Int -> (Bool -> List Int -> Bool) -> Bool

def GZ6 (N : Nat) (SZ52 : TSZ52) (x : Int) (b : Bool) (b_1 : List Int) (k0 : Bool -> List Int -> Bool) : Bool :=
  (SZ52 false b b_1 (fun cr nsr => (k0 cr nsr)))

def sZ6 (N : Nat) : TSZ6 := GZ6 N (sZ52 N)

abbrev TSZ4 : Type := Int -> Int -> Bool -> List Int -> Bool -> List Int -> (Int -> Bool) -> Bool

def GZ4 (N : Nat) (SZ6 : TSZ6) (SZ0 : TSZ0) (SZ11 : TSZ11) (x y : Int) (b : Bool) (b_1 : List Int) (b_2 : Bool) (b_3 : List Int) (k0 : Int -> Bool) : Bool :=
  (SZ6 y b_2 b_3 (fun cr nsr => (SZ0 x y b b_1 cr nsr (SZ11 cr nsr (fun nr => (k0 nr))) (SZ11 b b_1 (fun nr_1 => (k0 nr_1))) (fun nr_2 cr_1 nsr_1 => (SZ11 cr_1 nsr_1 (fun nr_3 => (k0 nr_3)))))))

def sZ4 (N : Nat) : TSZ4 := GZ4 N (sZ6 N) (sZ0 N) (sZ11 N)

abbrev TSZ63 : Type := Fl -> Fl -> Fl -> Fl -> (Bool -> Bool) -> Bool

def GZ63 (N : Nat) (SZ87 : TSZ87) (SZ76 : TSZ76) (SZ23 : TSZ23) (SZ4 : TSZ4) (q_0 q_1 q_2 q_3 : Fl) (k0 : Bool -> Bool) : Bool :=
  (SZ87 q_0 q_1 q_2 q_3 (fun cr => (cond (cr == true) (SZ76 q_0 q_1 q_2 q_3 (fun nr cr_1 nsr => (SZ23 (-48) (fun cr_2 nsr_1 => (SZ4 nr (-48) cr_1 nsr cr_2 nsr_1 (fun nr_1 => (k0 (decide (nr_1 <= 0))))))))) (k0 false))))

def sZ63 (N : Nat) : TSZ63 := GZ63 N (sZ87 N) (sZ76 N) (sZ23 N) (sZ4 N)

abbrev TS_m_Abs : Type := Fl -> (Fl -> Bool) -> Bool

def s_m_Abs (N : Nat) : TS_m_Abs := fun x k => k (absF x)

abbrev TSZ62 : Type := Fl -> Int -> (Bool -> Bool) -> Bool

def GZ62 (N : Nat) (S_m_Abs : TS_m_Abs) (f : Fl) (sign : Int) (k0 : Bool -> Bool) : Bool :=
  (cond (sign == 0) (S_m_Abs f (fun xr => (k0 (fgt xr (some 9218868437227405311))))) (cond (decide (sign < 0)) (k0 (fgt (fneg f) (some 9218868437227405311))) (k0 (fgt f (some 9218868437227405311)))))

def sZ62 (N : Nat) : TSZ62 := GZ62 N (s_m_Abs N)

abbrev TSZ84 : Type := Fl -> (Bool -> Bool) -> Bool

def GZ84 (N : Nat) (f : Fl) (k0 : Bool -> Bool) : Bool :=
  (k0 (!feq f f))

def sZ84 (N : Nat) : TSZ84 := GZ84 N

abbrev TSZ21 : Type := Fl -> (Fl -> Int -> Bool) -> Bool

def GZ21 (N : Nat) (S_m_Abs : TS_m_Abs) (x : Fl) (k0 : Fl -> Int -> Bool) : Bool :=
  (S_m_Abs x (fun xr => (cond (flt xr (some 4503599627370496)) (k0 (fmul x (some 4841369599423283200)) (-52)) (k0 x 0))))

def sZ21 (N : Nat) : TSZ21 := GZ21 N (s_m_Abs N)

abbrev TSZ56 : Type := Fl -> Fl -> (Fl -> Bool) -> Bool

def GZ56 (N : Nat) (SZ57 : TSZ57) (SZ30 : TSZ30) (f sign : Fl) (k0 : Fl -> Bool) : Bool :=
  (SZ57 f (fun nr => (SZ57 sign (fun nr_1 => (SZ30 (bitsN .or .u64 (bitsN .andNot .u64 nr 9223372036854775808) (bitsN .and .u64 nr_1 9223372036854775808)) (fun xr => (k0 xr)))))))

def sZ56 (N : Nat) : TSZ56 := GZ56 N (sZ57 N) (sZ30 N)

abbrev TS_m_Inf : Type := Int -> (Fl -> Bool) -> Bool

def J_m_Inf_0 (N : Nat) (SZ30 : TSZ30) (sign v : Int) (k0 : Fl -> Bool) : Bool :=
  (SZ30 v (fun xr => (k0 xr)))

def G_m_Inf (N : Nat) (SZ30 : TSZ30) (sign : Int) (k0 : Fl -> Bool) : Bool :=
  (cond (decide (sign >= 0)) (J_m_Inf_0 N SZ30 sign 9218868437227405312 k0) (J_m_Inf_0 N SZ30 sign 18442240474082181120 k0))

def s_m_Inf (N : Nat) : TS_m_Inf := G_m_Inf N (sZ30 N)

abbrev TSZ115 : Type := Fl -> Int -> (Fl -> Bool) -> Bool

def JZ133 (N : Nat) (SZ62 : TSZ62) (SZ84 : TSZ84) (SZ21 : TSZ21) (SZ57 : TSZ57) (SZ56 : TSZ56) (S_m_Inf : TS_m_Inf) (SZ30 : TSZ30) (frac : Fl) (exp exp_1 x : Int) (m : Fl) (k0 : Fl -> Bool) : Bool :=
  ((fits .i64 (exp_1 + 1023)) && (SZ30 (bitsN .or .u64 (bitsN .andNot .u64 x 9218868437227405312) (IntKind.wrap .u64 ((IntKind.wrap .u64 (exp_1 + 1023)) * 2 ^ 52))) (fun xr_4 => (k0 (fmul m xr_4)))))

def GZ115 (N : Nat) (SZ62 : TSZ62) (SZ84 : TSZ84) (SZ21 : TSZ21) (SZ57 : TSZ57) (SZ56 : TSZ56) (S_m_Inf : TS_m_Inf) (SZ30 : TSZ30) (frac : Fl) (exp : Int) (k0 : Fl -> Bool) : Bool :=
  (cond (feq frac (some 0)) (k0 frac) (SZ62 frac 0 (fun cr => (cond (cr == false) (SZ84 frac (fun cr_1 => (cond cr_1 (k0 frac) (SZ21 frac (fun xr nr => ((fits .i64 (exp + nr)) && (SZ57 xr (fun nr_1 => ((fits .i64 (Int.fdiv nr_1 (2 ^ 52))) && ((fits .i64 ((bitsN .and .i64 (Int.fdiv nr_1 (2 ^ 52)) 2047) - 1023)) && ((fits .i64 ((exp + nr) + ((bitsN .and .i64 (Int.fdiv nr_1 (2 ^ 52)) 2047) - 1023))) && (cond (decide (((exp + nr) + ((bitsN .and .i64 (Int.fdiv nr_1 (2 ^ 52)) 2047) - 1023)) < (-1075))) (SZ56 (some 0) xr (fun xr_1 => (k0 xr_1))) (cond (decide (((exp + nr) + ((bitsN .and .i64 (Int.fdiv nr_1 (2 ^ 52)) 2047) - 1023)) > 1023)) (cond (flt xr (some 0)) (S_m_Inf (-1) (fun xr_2 => (k0 xr_2))) (S_m_Inf 1 (fun xr_3 => (k0 xr_3)))) (cond (decide (((exp + nr) + ((bitsN .and .i64 (Int.fdiv nr_1 (2 ^ 52)) 2047) - 1023)) < (-1022))) ((fits .i64 (((exp + nr) + ((bitsN .and .i64 (Int.fdiv nr_1 (2 ^ 52)) 2047) - 1023)) + 53)) && (JZ133 N SZ62 SZ84 SZ21 SZ57 SZ56 S_m_Inf SZ30 frac exp (((exp + nr) + ((bitsN .and .i64 (Int.fdiv nr_1 (2 ^ 52)) 2047) - 1023)) + 53) nr_1 (some 4368491638549381120) k0)) (JZ133 N SZ62 SZ84 SZ21 SZ57 SZ56 S_m_Inf SZ30 frac exp ((exp + nr) + ((bitsN .and .i64 (Int.fdiv nr_1 (2 ^ 52)) 2047) - 1023)) nr_1 (some 4607182418800017408) k0))))))))))))))) (k0 frac)))))

def sZ115 (N : Nat) : TSZ115 := GZ115 N (sZ62 N) (sZ84 N) (sZ21 N) (sZ57 N) (sZ56 N) (s_m_Inf N) (sZ30 N)

abbrev TSZ19 : Type := Fl -> Int -> (Fl -> Bool) -> Bool

def GZ19 (N : Nat) (SZ115 : TSZ115) (frac : Fl) (exp : Int) (k0 : Fl -> Bool) : Bool :=
  (SZ115 frac exp (fun xr => (k0 xr)))

def sZ19 (N : Nat) : TSZ19 := GZ19 N (sZ115 N)

abbrev TSZ65 : Type := Fl -> Fl -> Fl -> (Bool -> Bool) -> Bool

def GZ65 (N : Nat) (S_m_Abs : TS_m_Abs) (SZ19 : TSZ19) (v_0 v_1 v_2 : Fl) (k0 : Bool -> Bool) : Bool :=
  (cond ((!feq v_0 (some 0)) == true) (S_m_Abs v_0 (fun xr => (SZ19 (some 4607182418800017408) (-20) (fun xr_1 => (cond ((fge xr xr_1) == true) (S_m_Abs v_0 (fun xr_2 => (SZ19 (some 4607182418800017408) 20 (fun xr_3 => (cond (!(fle xr_2 xr_3)) (k0 false) (cond ((!feq v_1 (some 0)) == true) (S_m_Abs v_1 (fun xr_4 => (SZ19 (some 4607182418800017408) (-20) (fun xr_5 => (cond ((fge xr_4 xr_5) == true) (S_m_Abs v_1 (fun xr_6 => (SZ19 (some 4607182418800017408) 20 (fun xr_7 => (cond (!(fle xr_6 xr_7)) (k0 false) (cond ((!feq v_2 (some 0)) == true) (S_m_Abs v_2 (fun xr_8 => (SZ19 (some 4607182418800017408) (-20) (fun xr_9 => (cond ((fge xr_8 xr_9) == true) (S_m_Abs v_2 (fun xr_10 => (SZ19 (some 4607182418800017408) 20 (fun xr_11 => (cond (!(fle xr_10 xr_11)) (k0 false) (k0 true)))))) (k0 false)))))) (k0 true))))))) (k0 false)))))) (cond ((!feq v_2 (some 0)) == true) (S_m_Abs v_2 (fun xr_12 => (SZ19 (some 4607182418800017408) (-20) (fun xr_13 => (cond ((fge xr_12 xr_13) == true) (S_m_Abs v_2 (fun xr_14 => (SZ19 (some 4607182418800017408) 20 (fun xr_15 => (cond (!(fle xr_14 xr_15)) (k0 false) (k0 true)))))) (k0 false)))))) (k0 true)))))))) (k0 false)))))) (cond ((!feq v_1 (some 0)) == true) (S_m_Abs v_1 (fun xr_16 => (SZ19 (some 4607182418800017408) (-20) (fun xr_17 => (cond ((fge xr_16 xr_17) == true) (S_m_Abs v_1 (fun x18 => (SZ19 (some 4607182418800017408) 20 (fun x19 => (cond (!(fle x18 x19)) (k0 false) (cond ((!feq v_2 (some 0)) == true) (S_m_Abs v_2 (fun x20 => (SZ19 (some 4607182418800017408) (-20) (fun x21 => (cond ((fge x20 x21) == true) (S_m_Abs v_2 (fun x22 => (SZ19 (some 4607182418800017408) 20 (fun x23 => (cond (!(fle x22 x23)) (k0 false) (k0 true)))))) (k0 false)))))) (k0 true))))))) (k0 false)))))) (cond ((!feq v_2 (some 0)) == true) (S_m_Abs v_2 (fun x24 => (SZ19 (some 4607182418800017408) (-20) (fun x25 => (cond ((fge x24 x25) == true) (S_m_Abs v_2 (fun x26 => (SZ19 (some 4607182418800017408) 20 (fun x27 => (cond (!(fle x26 x27)) (k0 false) (k0 true)))))) (k0 false)))))) (k0 true))))

def sZ65 (N : Nat) : TSZ65 := GZ65 (N + 24) (s_m_Abs N) (sZ19 N)

abbrev TSZ8 : Type := List Fl -> (Bool -> Bool) -> Bool

def st_quat_finite_0 (N : Nat) (l_1 : List Fl) (t5 : Int) (e0 : Bool -> Bool) (e1 : Bool) : (Int) -> ((Int) -> Bool) -> Bool := fun v_ K => match v_ with
  | t6 => (cond (decide (t6 < t5)) ((inR t6 (List.length l_1)) && ((inR t6 (List.length l_1)) && (cond (!feq (fsub (List.getD l_1 (Int.toNat t6) none) (List.getD l_1 (Int.toNat t6) none)) (some 0)) (e0 false) ((fits .i64 (t6 + 1)) && (K (t6 + 1)))))) e1)

def GZ8 (N : Nat) (l : List Fl) (k0 : Bool -> Bool) : Bool :=
  (iterG N (st_quat_finite_0 N l (((List.length l) : Nat) : Int) (fun t2 => (k0 t2)) (k0 true)) 0)

def sZ8 (N : Nat) : TSZ8 := GZ8 N

abbrev TSZ15 : Type := Fl -> Fl -> Fl -> Fl -> (Bool -> Bool) -> Bool

def GZ15 (N : Nat) (SZ8 : TSZ8) (qs_0 qs_1 qs_2 qs_3 : Fl) (k0 : Bool -> Bool) : Bool :=
  (SZ8 [qs_0, qs_1, qs_2, qs_3] (fun cr => (cond (!cr) (k0 false) (k0 true))))

def sZ15 (N : Nat) : TSZ15 := GZ15 (N + 24) (sZ8 N)

abbrev TSZ91 : Type := Fl -> Fl -> Fl -> Fl -> (Bool) -> Bool

def GZ91 (N : Nat) (q_0 q_1 q_2 q_3 : Fl) (k0 : Bool) : Bool :=
  k0

def sZ91 (N : Nat) : TSZ91 := GZ91 N

abbrev TSZ121 : Type := Fl -> (Fl -> Int -> Bool) -> Bool

def GZ121 (N : Nat) (SZ62 : TSZ62) (SZ84 : TSZ84) (SZ21 : TSZ21) (SZ57 : TSZ57) (SZ30 : TSZ30) (f : Fl) (k0 : Fl -> Int -> Bool) : Bool :=
  (cond (feq f (some 0)) (k0 f 0) (SZ62 f 0 (fun cr => (cond (cr == false) (SZ84 f (fun cr_1 => (cond cr_1 (k0 f 0) (SZ21 f (fun xr nr => (SZ57 xr (fun nr_1 => ((fits .i64 (bitsN .and .u64 (Int.fdiv nr_1 (2 ^ 52)) 2047)) && ((fits .i64 ((bitsN .and .u64 (Int.fdiv nr_1 (2 ^ 52)) 2047) - 1023)) && ((fits .i64 (((bitsN .and .u64 (Int.fdiv nr_1 (2 ^ 52)) 2047) - 1023) + 1)) && ((fits .i64 (nr + (((bitsN .and .u64 (Int.fdiv nr_1 (2 ^ 52)) 2047) - 1023) + 1))) && (SZ30 (bitsN .or .u64 (bitsN .andNot .u64 nr_1 9218868437227405312) 4602678819172646912) (fun xr_1 => (k0 xr_1 (nr + (((bitsN .and .u64 (Int.fdiv nr_1 (2 ^ 52)) 2047) - 1023) + 1)))))))))))))))) (k0 f 0)))))

def sZ121 (N : Nat) : TSZ121 := GZ121 N (sZ62 N) (sZ84 N) (sZ21 N) (sZ57 N) (sZ30 N)

abbrev TSZ74 : Type := Fl -> (Fl -> Int -> Bool) -> Bool

def GZ74 (N : Nat) (SZ121 : TSZ121) (f : Fl) (k0 : Fl -> Int -> Bool) : Bool :=
  (SZ121 f (fun xr nr => (k0 xr nr)))

def sZ74 (N : Nat) : TSZ74 := GZ74 N (sZ121 N)

abbrev TSZ130 : Type := Fl -> (Fl -> Bool) -> Bool

def sZ130 (N : Nat) : TSZ130 := fun x k => k (fsqrt x)

abbrev TSZ103 : Type := Fl -> (Fl -> Bool) -> Bool

def GZ103 (N : Nat) (SZ130 : TSZ130) (x : Fl) (k0 : Fl -> Bool) : Bool :=
  (SZ130 x (fun xr => (k0 xr)))

def sZ103 (N : Nat) : TSZ103 := GZ103 N (sZ130 N)

abbrev TSZ96 : Type := Fl -> Fl -> Fl -> Fl -> (Bool) -> Bool

def GZ96 (N : Nat) (l_0 l_1 l_2 l_3 : Fl) (k0 : Bool) : Bool :=
  k0

def sZ96 (N : Nat) : TSZ96 := GZ96 N

abbrev TSZ34 : Type := Fl -> Fl -> Fl -> Fl -> (Fl -> Fl -> Fl -> Fl -> Int -> Bool) -> Bool

def GZ34 (N : Nat) (SZ15 : TSZ15) (SZ91 : TSZ91) (S_m_Abs : TS_m_Abs) (SZ74 : TSZ74) (SZ19 : TSZ19) (SZ103 : TSZ103) (SZ96 : TSZ96) (q_0 q_1 q_2 q_3 : Fl) (k0 : Fl -> Fl -> Fl -> Fl -> Int -> Bool) : Bool :=
  (SZ15 q_0 q_1 q_2 q_3 (fun cr => (cond (!cr) (k0 (some 0) (some 0) (some 0) (some 0) 4) (SZ91 q_0 q_1 q_2 q_3 (S_m_Abs q_0 (fun xr => (S_m_Abs q_1 (fun xr_1 => (S_m_Abs q_2 (fun xr_2 => (S_m_Abs q_3 (fun xr_3 => (cond (feq (fmm true (fmm true (fmm true (fmm true (some 0) xr) xr_1) xr_2) xr_3) (some 0)) (k0 (some 0) (some 0) (some 0) (some 0) 120) (SZ74 (fmm true (fmm true (fmm true (fmm true (some 0) xr) xr_1) xr_2) xr_3) (fun xr_4 nr => ((fits .i64 (1 - nr)) && (SZ19 q_0 (1 - nr) (fun xr_5 => ((fits .i64 (1 - nr)) && (SZ19 q_1 (1 - nr) (fun xr_6 => ((fits .i64 (1 - nr)) && (SZ19 q_2 (1 - nr) (fun xr_7 => ((fits .i64 (1 - nr)) && (SZ19 q_3 (1 - nr) (fun xr_8 => (SZ103 (fadd (fadd (fadd (fadd (some 0) (fmul xr_5 xr_5)) (fmul xr_6 xr_6)) (fmul xr_7 xr_7)) (fmul xr_8 xr_8)) (fun xr_9 => (SZ96 (fdiv xr_5 xr_9) (fdiv xr_6 xr_9) (fdiv xr_7 xr_9) (fdiv xr_8 xr_9) (k0 (fdiv xr_5 xr_9) (fdiv xr_6 xr_9) (fdiv xr_7 xr_9) (fdiv xr_8 xr_9) 0)))))))))))))))))))))))))))))))

def sZ34 (N : Nat) : TSZ34 := GZ34 (N + 24) (sZ15 N) (sZ91 N) (s_m_Abs N) (sZ74 N) (sZ19 N) (sZ103 N) (sZ96 N)

abbrev TSZ93 : Type := Fl -> (Int -> Bool) -> Bool

def sZ93 (N : Nat) : TSZ93 := fun x k => k (clsF x)

abbrev TSZ17 : Type := List Fl -> (Bool -> Bool) -> Bool

def st_an_Finite_0 (N : Nat) (SZ93 : TSZ93) (t6 : List Fl) (t7 : Int) (e0 : Bool -> Bool) (e1 : Bool) : (Int) -> ((Int) -> Bool) -> Bool := fun v_ K => match v_ with
  | t8 => (cond (decide (t8 < t7)) ((inR t8 (List.length t6)) && (SZ93 (List.getD t6 (Int.toNat t8) none) (fun nr => (cond ((nr == 1) == false) (cond (nr == 2) (e0 false) ((fits .i64 (t8 + 1)) && (K (t8 + 1)))) (e0 false))))) e1)

def GZ17 (N : Nat) (SZ93 : TSZ93) (l : List Fl) (k0 : Bool -> Bool) : Bool :=
  (iterG N (st_an_Finite_0 N SZ93 l (((List.length l) : Nat) : Int) (fun t2 => (k0 t2)) (k0 true)) 0)

def sZ17 (N : Nat) : TSZ17 := GZ17 N (sZ93 N)

abbrev TSZ80 : Type := List Fl -> (Int -> Bool) -> Bool

def GZ80 (N : Nat) (SZ17 : TSZ17) (x : List Fl) (k0 : Int -> Bool) : Bool :=
  (cond (decide ((((List.length x) : Nat) : Int) > 12)) (k0 1) (SZ17 x (fun cr => (cond (!cr) (k0 4) (k0 0)))))

def sZ80 (N : Nat) : TSZ80 := GZ80 N (sZ17 N)

abbrev TSZ10 : Type := Int -> Int -> List Fl -> (Fl -> Bool) -> Bool

def GZ10 (N : Nat) (i j : Int) (b : List Fl) (k0 : Fl -> Bool) : Bool :=
  (cond (i == j) ((inR i (List.length b)) && (k0 (List.getD b (Int.toNat i) none))) (k0 (some 0)))

def sZ10 (N : Nat) : TSZ10 := GZ10 N

abbrev TSZ35 : Type := Int -> Int -> List Fl -> (List Fl -> Bool) -> Bool

def st_matrix_fill_fr_2 (N : Nat) (SZ10 : TSZ10) (cols_2 i t17_1 t18_1 t21 : Int) (at__1 : List Fl) (t6_2 t6_3 m_2 m_3 : Int) (e0 : List Fl -> Bool) : (Int × List Fl) -> ((Int × List Fl) -> Bool) -> Bool := fun v_ K => match v_ with
  | (t22, b3_1) => (cond (decide (t22 < t21)) (SZ10 i t22 at__1 (fun xr => ((decide ((List.length (b3_1 ++ [xr])) * 8 <= 140737488355328)) && ((fits .i64 (t22 + 1)) && (K ((t22 + 1), (b3_1 ++ [xr]))))))) (e0 b3_1))

def st_matrix_fill_fr_0 (N : Nat) (SZ10 : TSZ10) (cols_1 t17 : Int) (at_ : List Fl) (t6 t6_1 m m_1 : Int) (e0 : List Fl -> Bool) : (Int × List Fl) -> ((Int × List Fl) -> Bool) -> Bool := fun v_ K => match v_ with
  | (t18, b3) => (cond (decide (t18 < t17)) (iterG N (st_matrix_fill_fr_2 N SZ10 cols_1 t18 t17 t18 cols_1 at_ t6 t6_1 m m_1 (fun b3_2 => ((fits .i64 (t18 + 1)) && (K ((t18 + 1), b3_2))))) (0, b3)) (e0 b3))

def GZ35 (N : Nat) (SZ10 : TSZ10) (rows cols : Int) (b : List Fl) (k0 : List Fl -> Bool) : Bool :=
  ((fits .i64 (rows * cols)) && ((mkOk 8 0 (rows * cols)) && (iterG N (st_matrix_fill_fr_0 N SZ10 cols rows b 0 0 rows cols (fun b3_3 => (k0 b3_3))) (0, []))))

def sZ35 (N : Nat) : TSZ35 := GZ35 N (sZ10 N)

abbrev TSZ79 : Type := List Fl -> (Int -> Int -> Int -> Bool) -> (Int -> Int -> Int -> List Fl -> Bool) -> Bool

def GZ79 (N : Nat) (SZ80 : TSZ80) (SZ35 : TSZ35) (d : List Fl) (k0 : Int -> Int -> Int -> Bool) (k1 : Int -> Int -> Int -> List Fl -> Bool) : Bool :=
  (SZ80 d (fun nr => (cond (nr != 0) (k0 0 0 nr) (SZ35 (((List.length d) : Nat) : Int) (((List.length d) : Nat) : Int) d (fun xsr => (k1 (((List.length d) : Nat) : Int) (((List.length d) : Nat) : Int) 0 xsr))))))

def sZ79 (N : Nat) : TSZ79 := GZ79 N (sZ80 N) (sZ35 N)

abbrev TSZ101 : Type := Fl -> Fl -> (Int -> Int -> Int -> Bool) -> (Int -> Int -> Int -> List Fl -> Bool) -> Bool

def GZ101 (N : Nat) (SZ79 : TSZ79) (a b : Fl) (k0 : Int -> Int -> Int -> Bool) (k1 : Int -> Int -> Int -> List Fl -> Bool) : Bool :=
  (SZ79 [a, a, a, b, b, b] (fun nr nr_1 nr_2 => (k0 nr nr_1 nr_2)) (fun nr_3 nr_4 n5 xsr => (k1 nr_3 nr_4 n5 xsr)))

def sZ101 (N : Nat) : TSZ101 := GZ101 N (sZ79 N)

abbrev TSZ114 : Type := Fl -> Fl -> Fl -> Fl -> Fl -> Fl -> (Fl -> Fl -> Fl -> Fl -> Fl -> Fl -> Fl -> Int -> Int -> Int -> Bool) -> (Fl -> Fl -> Fl -> Fl -> Fl -> Fl -> Fl -> Int -> Int -> Int -> List Fl -> Bool) -> Bool

def GZ114 (N : Nat) (SZ34 : TSZ34) (SZ17 : TSZ17) (SZ101 : TSZ101) (q_0 q_1 q_2 q_3 turn bias : Fl) (k0 : Fl -> Fl -> Fl -> Fl -> Fl -> Fl -> Fl -> Int -> Int -> Int -> Bool) (k1 : Fl -> Fl -> Fl -> Fl -> Fl -> Fl -> Fl -> Int -> Int -> Int -> List Fl -> Bool) : Bool :=
  (SZ34 q_0 q_1 q_2 q_3 (fun xr xr_1 xr_2 xr_3 nr => (cond (nr != 0) (k0 (some 0) (some 0) (some 0) (some 0) (some 0) (some 0) (some 0) 0 0 nr) (SZ17 [turn] (fun cr => (cond (!cr) (k0 (some 0) (some 0) (some 0) (some 0) (some 0) (some 0) (some 0) 0 0 4) (cond (fle turn (some 0)) (k0 (some 0) (some 0) (some 0) (some 0) (some 0) (some 0) (some 0) 0 0 252) (SZ17 [bias] (fun cr_1 => (cond (!cr_1) (k0 (some 0) (some 0) (some 0) (some 0) (some 0) (some 0) (some 0) 0 0 4) (cond (fle bias (some 0)) (k0 (some 0) (some 0) (some 0) (some 0) (some 0) (some 0) (some 0) 0 0 252) (SZ101 turn bias (fun nr_1 nr_2 nr_3 => (k0 xr xr_1 xr_2 xr_3 (some 0) (some 0) (some 0) nr_1 nr_2 nr_3)) (fun nr_4 n5 n6 xsr => (k1 xr xr_1 xr_2 xr_3 (some 0) (some 0) (some 0) nr_4 n5 n6 xsr))))))))))))))

def sZ114 (N : Nat) : TSZ114 := GZ114 (N + 24) (sZ34 N) (sZ17 N) (sZ101 N)

abbrev TSZ123 : Type := Fl -> Fl -> Fl -> (Int -> Int -> Int -> Bool) -> (Int -> Int -> Int -> List Fl -> Bool) -> Bool

def GZ123 (N : Nat) (SZ17 : TSZ17) (v_0 v_1 v_2 : Fl) (k0 : Int -> Int -> Int -> Bool) (k1 : Int -> Int -> Int -> List Fl -> Bool) : Bool :=
  (SZ17 [v_0, v_1, v_2] (fun cr => (cond (!cr) (k0 0 0 4) (k1 3 3 0 [(some 0), (fsub (some 0) v_2), v_1, v_2, (some 0), (fsub (some 0) v_0), (fsub (some 0) v_1), v_0, (some 0)]))))

def sZ123 (N : Nat) : TSZ123 := GZ123 N (sZ17 N)

abbrev TSZ99 : Type := List Fl -> List Fl -> (Bool -> Bool) -> Bool

def st_zl_bits_0 (N : Nat) (SZ57 : TSZ57) (a_1 b_1 : List Fl) (t12 : Int) (e0 : Bool -> Bool) (e1 : Bool) : (Int) -> ((Int) -> Bool) -> Bool := fun v_ K => match v_ with
  | t13 => (cond (decide (t13 < t12)) ((inR t13 (List.length a_1)) && (SZ57 (List.getD a_1 (Int.toNat t13) none) (fun nr => ((inR t13 (List.length b_1)) && (SZ57 (List.getD b_1 (Int.toNat t13) none) (fun nr_1 => (cond (nr != nr_1) (e0 false) ((fits .i64 (t13 + 1)) && (K (t13 + 1)))))))))) e1)

def GZ99 (N : Nat) (SZ57 : TSZ57) (a b : List Fl) (k0 : Bool -> Bool) : Bool :=
  (cond ((((List.length a) : Nat) : Int) != (((List.length b) : Nat) : Int)) (k0 false) (iterG N (st_zl_bits_0 N SZ57 a b (((List.length a) : Nat) : Int) (fun t4 => (k0 t4)) (k0 true)) 0))

def sZ99 (N : Nat) : TSZ99 := GZ99 N (sZ57 N)

abbrev TSZ109 : Type := Fl -> Fl -> Fl -> Fl -> Fl -> Fl -> Fl -> Fl -> (Bool -> Bool) -> Bool

def GZ109 (N : Nat) (SZ64 : TSZ64) (SZ99 : TSZ99) (a_0 a_1 a_2 a_3 b_0 b_1 b_2 b_3 : Fl) (k0 : Bool -> Bool) : Bool :=
  (SZ64 a_0 a_1 a_2 a_3 (fun xsr => (SZ64 b_0 b_1 b_2 b_3 (fun xsr_1 => (SZ99 xsr xsr_1 (fun cr => (k0 cr)))))))

def sZ109 (N : Nat) : TSZ109 := GZ109 N (sZ64 N) (sZ99 N)

abbrev TSZ55 : Type := (Bool -> Bool) -> Bool

def GZ55 (N : Nat) (SZ114 : TSZ114) (SZ123 : TSZ123) (SZ109 : TSZ109) (SZ99 : TSZ99) (k0 : Bool -> Bool) : Bool :=
  (SZ114 (some 0) (some 0) (some 4613937818241073152) (some 4616189618054758400) (some 4602678819172646912) (some 4598175219545276416) (fun xr xr_1 xr_2 xr_3 xr_4 xr_5 xr_6 nr nr_1 nr_2 => (SZ123 (some 4607182418800017408) (some 4611686018427387904) (some 4613937818241073152) (fun n6 n7 n8 => (cond ((nr_2 == 0) == true) (cond ((n8 == 0) == true) (SZ109 xr xr_1 xr_2 xr_3 (some 0) (some 0) (some 4603579539098121011) (some 4605380978949069210) (fun cr => (cond (cr == true) (k0 false) (k0 false)))) (k0 false)) (k0 false))) (fun n9 n10 n11 xsr_1 => (cond ((nr_2 == 0) == true) (cond ((n11 == 0) == true) (SZ109 xr xr_1 xr_2 xr_3 (some 0) (some 0) (some 4603579539098121011) (some 4605380978949069210) (fun cr_1 => (cond (cr_1 == true) (k0 false) (k0 false)))) (k0 false)) (k0 false))))) (fun xr_7 xr_8 xr_9 xr_10 xr_11 xr_12 xr_13 nr_3 nr_4 n5 xsr => (SZ123 (some 4607182418800017408) (some 4611686018427387904) (some 4613937818241073152) (fun n12 n13 n14 => (cond ((n5 == 0) == true) (cond ((n14 == 0) == true) (SZ109 xr_7 xr_8 xr_9 xr_10 (some 0) (some 0) (some 4603579539098121011) (some 4605380978949069210) (fun cr_2 => (cond (cr_2 == true) (cond (((((List.length xsr) : Nat) : Int) == 36) == true) ((inR 0 (List.length xsr)) && ((decide (0 < (List.length xsr))) && (cond ((feq (List.getD xsr 0 none) (some 4602678819172646912)) == true) ((inR 35 (List.length xsr)) && ((decide (35 < (List.length xsr))) && (cond ((feq (List.getD xsr 35 none) (some 4598175219545276416)) == true) (SZ99 [] [(some 0), (some 13837309855095848960), (some 4611686018427387904), (some 4613937818241073152), (some 0), (some 13830554455654793216), (some 13835058055282163712), (some 4607182418800017408), (some 0)] (fun cr_3 => (k0 cr_3))) (k0 false)))) (k0 false)))) (k0 false)) (k0 false)))) (k0 false)) (k0 false))) (fun n15 n16 n17 xsr_2 => (cond ((n5 == 0) == true) (cond ((n17 == 0) == true) (SZ109 xr_7 xr_8 xr_9 xr_10 (some 0) (some 0) (some 4603579539098121011) (some 4605380978949069210) (fun cr_4 => (cond (cr_4 == true) (cond (((((List.length xsr) : Nat) : Int) == 36) == true) ((inR 0 (List.length xsr)) && ((decide (0 < (List.length xsr))) && (cond ((feq (List.getD xsr 0 none) (some 4602678819172646912)) == true) ((inR 35 (List.length xsr)) && ((decide (35 < (List.length xsr))) && (cond ((feq (List.getD xsr 35 none) (some 4598175219545276416)) == true) (SZ99 xsr_2 [(some 0), (some 13837309855095848960), (some 4611686018427387904), (some 4613937818241073152), (some 0), (some 13830554455654793216), (some 13835058055282163712), (some 4607182418800017408), (some 0)] (fun cr_5 => (k0 cr_5))) (k0 false)))) (k0 false)))) (k0 false)) (k0 false)))) (k0 false)) (k0 false))))))

def sZ55 (N : Nat) : TSZ55 := GZ55 N (sZ114 N) (sZ123 N) (sZ109 N) (sZ99 N)

abbrev TSZ67 : Type := Fl -> Fl -> Fl -> (Int -> Int -> Int -> Bool -> List Int -> Bool -> List Int -> Bool -> List Int -> Bool) -> Bool

def GZ67 (N : Nat) (SZ102 : TSZ102) (v_0 v_1 v_2 : Fl) (k0 : Int -> Int -> Int -> Bool -> List Int -> Bool -> List Int -> Bool -> List Int -> Bool) : Bool :=
  (SZ102 v_0 (fun nr cr nsr => (SZ102 v_1 (fun nr_1 cr_1 nsr_1 => (SZ102 v_2 (fun nr_2 cr_2 nsr_2 => (k0 nr nr_1 nr_2 cr nsr cr_1 nsr_1 cr_2 nsr_2)))))))

def sZ67 (N : Nat) : TSZ67 := GZ67 N (sZ102 N)

abbrev TSZ40 : Type := Bool -> Bool -> List Int -> (Bool -> List Int -> Bool) -> Bool

def GZ40 (N : Nat) (SZ60 : TSZ60) (SZ14 : TSZ14) (b b_1 : Bool) (b_2 : List Int) (k0 : Bool -> List Int -> Bool) : Bool :=
  (SZ60 b_2 b_2 (fun nsr => (SZ14 (b_1 != b_1) nsr b (fun cr nsr_1 => (k0 cr nsr_1)))))

def sZ40 (N : Nat) : TSZ40 := GZ40 N (sZ60 N) (sZ14 N)

abbrev TSZ5 : Type := Int -> Int -> Bool -> List Int -> (Int -> Bool -> List Int -> Bool) -> Bool

def GZ5 (N : Nat) (SZ40 : TSZ40) (x y : Int) (b : Bool) (b_1 : List Int) (k0 : Int -> Bool -> List Int -> Bool) : Bool :=
  (SZ40 false b b_1 (fun cr nsr => ((fits .i64 (x + y)) && (k0 (x + y) cr nsr))))

def sZ5 (N : Nat) : TSZ5 := GZ5 N (sZ40 N)

abbrev TSZ9 : Type := Int -> Int -> Int -> Bool -> List Int -> Bool -> List Int -> Bool -> List Int -> (Int -> Bool -> List Int -> Bool) -> Bool

def GZ9 (N : Nat) (SZ41 : TSZ41) (SZ5 : TSZ5) (SZ2 : TSZ2) (SZ0 : TSZ0) (b b_1 b_2 : Int) (b_3 : Bool) (b_4 : List Int) (b_5 : Bool) (b_6 : List Int) (b_7 : Bool) (b_8 : List Int) (k0 : Int -> Bool -> List Int -> Bool) : Bool :=
  (SZ41 (fun nr cr => (SZ5 b b b_3 b_4 (fun nr_1 cr_1 nsr => (SZ2 nr nr_1 cr cr_1 nsr (fun nsr_1 => (SZ5 b_1 b_1 b_5 b_6 (fun nr_2 cr_2 nsr_2 => (SZ0 nr_1 nr_2 cr_1 nsr cr_2 nsr_2 (SZ5 b_2 b_2 b_7 b_8 (fun nr_3 cr_3 nsr_3 => (SZ0 nr_2 nr_3 cr_2 nsr_2 cr_3 nsr_3 (k0 nr_3 cr_3 nsr_3) (k0 nr_2 cr_2 nsr_2) (fun nr_4 cr_4 nsr_4 => (k0 nr_4 cr_4 nsr_4))))) (SZ5 b_2 b_2 b_7 b_8 (fun n5 cr_5 s5 => (SZ0 nr_1 n5 cr_1 nsr cr_5 s5 (k0 n5 cr_5 s5) (k0 nr_1 cr_1 nsr) (fun n6 cr_6 s6 => (k0 n6 cr_6 s6))))) (fun n7 c7 s7 => (SZ5 b_2 b_2 b_7 b_8 (fun n8 c8 s8 => (SZ0 n7 n8 c7 s7 c8 s8 (k0 n8 c8 s8) (k0 n7 c7 s7) (fun n9 c9 s9 => (k0 n9 c9 s9)))))))))) (fun s10 => (SZ5 b_1 b_1 b_5 b_6 (fun n10 c10 s11 => (SZ0 nr n10 cr s10 c10 s11 (SZ5 b_2 b_2 b_7 b_8 (fun n11 c11 s12 => (SZ0 n10 n11 c10 s11 c11 s12 (k0 n11 c11 s12) (k0 n10 c10 s11) (fun n12 c12 s13 => (k0 n12 c12 s13))))) (SZ5 b_2 b_2 b_7 b_8 (fun n13 c13 s14 => (SZ0 nr n13 cr s10 c13 s14 (k0 n13 c13 s14) (k0 nr cr s10) (fun n14 c14 s15 => (k0 n14 c14 s15))))) (fun n15 c15 s16 => (SZ5 b_2 b_2 b_7 b_8 (fun n16 c16 s17 => (SZ0 n15 n16 c15 s16 c16 s17 (k0 n16 c16 s17) (k0 n15 c15 s16) (fun n17 c17 s18 => (k0 n17 c17 s18)))))))))) (fun n18 s19 c18 s20 => (SZ5 b_1 b_1 b_5 b_6 (fun n19 c19 s21 => (SZ0 n18 n19 c18 s20 c19 s21 (SZ5 b_2 b_2 b_7 b_8 (fun n20 cr_20 s22 => (SZ0 n19 n20 c19 s21 cr_20 s22 (k0 n20 cr_20 s22) (k0 n19 c19 s21) (fun n21 c21 s23 => (k0 n21 c21 s23))))) (SZ5 b_2 b_2 b_7 b_8 (fun n22 cr_22 s24 => (SZ0 n18 n22 c18 s20 cr_22 s24 (k0 n22 cr_22 s24) (k0 n18 c18 s20) (fun n23 cr_23 s25 => (k0 n23 cr_23 s25))))) (fun n24 cr_24 nsr_26 => (SZ5 b_2 b_2 b_7 b_8 (fun n25 c25 s27 => (SZ0 n24 n25 cr_24 nsr_26 c25 s27 (k0 n25 c25 s27) (k0 n24 cr_24 nsr_26) (fun n26 c26 s28 => (k0 n26 c26 s28)))))))))))))))

def sZ9 (N : Nat) : TSZ9 := GZ9 (N + 24) (sZ41 N) (sZ5 N) (sZ2 N) (sZ0 N)

abbrev TSZ3 : Type := Int -> Int -> Int -> Int -> Int -> Int -> Bool -> List Int -> Bool -> List Int -> Bool -> List Int -> Bool -> List Int -> Bool -> List Int -> Bool -> List Int -> (Int -> Bool -> List Int -> Bool) -> Bool

def GZ3 (N : Nat) (SZ41 : TSZ41) (SZ1 : TSZ1) (SZ2 : TSZ2) (SZ0 : TSZ0) (b b_1 b_2 b_3 b_4 b_5 : Int) (b_6 : Bool) (b_7 : List Int) (b_8 : Bool) (b_9 : List Int) (b_10 : Bool) (b_11 : List Int) (b_12 : Bool) (b_13 : List Int) (b_14 : Bool) (b_15 : List Int) (b_16 : Bool) (b_17 : List Int) (k0 : Int -> Bool -> List Int -> Bool) : Bool :=
  (SZ41 (fun nr cr => (SZ1 b b_3 b_6 b_7 b_12 b_13 (fun nr_1 cr_1 nsr => (SZ2 nr nr_1 cr cr_1 nsr (fun nsr_1 => (SZ1 b_1 b_4 b_8 b_9 b_14 b_15 (fun nr_2 cr_2 nsr_2 => (SZ0 nr_1 nr_2 cr_1 nsr cr_2 nsr_2 (SZ1 b_2 b_5 b_10 b_11 b_16 b_17 (fun nr_3 cr_3 nsr_3 => (SZ0 nr_2 nr_3 cr_2 nsr_2 cr_3 nsr_3 (k0 nr_3 cr_3 nsr_3) (k0 nr_2 cr_2 nsr_2) (fun nr_4 cr_4 nsr_4 => (k0 nr_4 cr_4 nsr_4))))) (SZ1 b_2 b_5 b_10 b_11 b_16 b_17 (fun n5 cr_5 s5 => (SZ0 nr_1 n5 cr_1 nsr cr_5 s5 (k0 n5 cr_5 s5) (k0 nr_1 cr_1 nsr) (fun n6 cr_6 s6 => (k0 n6 cr_6 s6))))) (fun n7 c7 s7 => (SZ1 b_2 b_5 b_10 b_11 b_16 b_17 (fun n8 c8 s8 => (SZ0 n7 n8 c7 s7 c8 s8 (k0 n8 c8 s8) (k0 n7 c7 s7) (fun n9 c9 s9 => (k0 n9 c9 s9)))))))))) (fun s10 => (SZ1 b_1 b_4 b_8 b_9 b_14 b_15 (fun n10 c10 s11 => (SZ0 nr n10 cr s10 c10 s11 (SZ1 b_2 b_5 b_10 b_11 b_16 b_17 (fun n11 c11 s12 => (SZ0 n10 n11 c10 s11 c11 s12 (k0 n11 c11 s12) (k0 n10 c10 s11) (fun n12 c12 s13 => (k0 n12 c12 s13))))) (SZ1 b_2 b_5 b_10 b_11 b_16 b_17 (fun n13 c13 s14 => (SZ0 nr n13 cr s10 c13 s14 (k0 n13 c13 s14) (k0 nr cr s10) (fun n14 c14 s15 => (k0 n14 c14 s15))))) (fun n15 c15 s16 => (SZ1 b_2 b_5 b_10 b_11 b_16 b_17 (fun n16 c16 s17 => (SZ0 n15 n16 c15 s16 c16 s17 (k0 n16 c16 s17) (k0 n15 c15 s16) (fun n17 c17 s18 => (k0 n17 c17 s18)))))))))) (fun n18 s19 c18 s20 => (SZ1 b_1 b_4 b_8 b_9 b_14 b_15 (fun n19 c19 s21 => (SZ0 n18 n19 c18 s20 c19 s21 (SZ1 b_2 b_5 b_10 b_11 b_16 b_17 (fun n20 cr_20 s22 => (SZ0 n19 n20 c19 s21 cr_20 s22 (k0 n20 cr_20 s22) (k0 n19 c19 s21) (fun n21 c21 s23 => (k0 n21 c21 s23))))) (SZ1 b_2 b_5 b_10 b_11 b_16 b_17 (fun n22 cr_22 s24 => (SZ0 n18 n22 c18 s20 cr_22 s24 (k0 n22 cr_22 s24) (k0 n18 c18 s20) (fun n23 cr_23 s25 => (k0 n23 cr_23 s25))))) (fun n24 cr_24 nsr_26 => (SZ1 b_2 b_5 b_10 b_11 b_16 b_17 (fun n25 c25 s27 => (SZ0 n24 n25 cr_24 nsr_26 c25 s27 (k0 n25 c25 s27) (k0 n24 cr_24 nsr_26) (fun n26 c26 s28 => (k0 n26 c26 s28)))))))))))))))

def sZ3 (N : Nat) : TSZ3 := GZ3 (N + 24) (sZ41 N) (sZ1 N) (sZ2 N) (sZ0 N)

abbrev TSZ49 : Type := Fl -> Fl -> Fl -> Fl -> Fl -> Fl -> (Fl -> Fl -> Fl -> Bool) -> Bool

def GZ49 (N : Nat) (a_0 a_1 a_2 b_0 b_1 b_2 : Fl) (k0 : Fl -> Fl -> Fl -> Bool) : Bool :=
  (k0 (fsub (fmul a_1 b_2) (fmul a_2 b_1)) (fsub (fmul a_2 b_0) (fmul a_0 b_2)) (fsub (fmul a_0 b_1) (fmul a_1 b_0)))

def sZ49 (N : Nat) : TSZ49 := GZ49 N

abbrev TSZ81 : Type := Fl -> Fl -> Fl -> (Fl -> Fl -> Fl -> Int -> Bool) -> Bool

def GZ81 (N : Nat) (SZ8 : TSZ8) (v_0 v_1 v_2 : Fl) (k0 : Fl -> Fl -> Fl -> Int -> Bool) : Bool :=
  (SZ8 [v_0, v_1, v_2] (fun cr => (cond (!cr) (k0 (some 0) (some 0) (some 0) 5) (k0 v_0 v_1 v_2 0))))

def sZ81 (N : Nat) : TSZ81 := GZ81 N (sZ8 N)

abbrev TSZ38 : Type := Fl -> Fl -> Fl -> Fl -> Fl -> Fl -> Fl -> (Fl -> Fl -> Fl -> Int -> Bool) -> Bool

def GZ38 (N : Nat) (SZ15 : TSZ15) (SZ8 : TSZ8) (SZ49 : TSZ49) (SZ81 : TSZ81) (q_0 q_1 q_2 q_3 v_0 v_1 v_2 : Fl) (k0 : Fl -> Fl -> Fl -> Int -> Bool) : Bool :=
  (SZ15 q_0 q_1 q_2 q_3 (fun cr => (cond ((!cr) == false) (SZ8 [v_0, v_1, v_2] (fun cr_1 => (cond (!cr_1) (k0 (some 0) (some 0) (some 0) 4) (SZ49 q_1 q_2 q_3 v_0 v_1 v_2 (fun xr xr_1 xr_2 => (SZ49 q_1 q_2 q_3 (fmul xr (some 4611686018427387904)) (fmul xr_1 (some 4611686018427387904)) (fmul xr_2 (some 4611686018427387904)) (fun xr_3 xr_4 xr_5 => (SZ81 (fadd (fadd v_0 (fmul q_0 (fmul xr (some 4611686018427387904)))) xr_3) (fadd (fadd v_1 (fmul q_0 (fmul xr_1 (some 4611686018427387904)))) xr_4) (fadd (fadd v_2 (fmul q_0 (fmul xr_2 (some 4611686018427387904)))) xr_5) (fun xr_6 xr_7 xr_8 nr => (k0 xr_6 xr_7 xr_8 nr)))))))))) (k0 (some 0) (some 0) (some 0) 4))))

def sZ38 (N : Nat) : TSZ38 := GZ38 (N + 24) (sZ15 N) (sZ8 N) (sZ49 N) (sZ81 N)

abbrev TSZ22 : Type := Fl -> Fl -> Fl -> (Int -> Bool) -> Bool

def GZ22 (N : Nat) (SZ17 : TSZ17) (v_0 v_1 v_2 : Fl) (k0 : Int -> Bool) : Bool :=
  (SZ17 [v_0, v_1, v_2] (fun cr => (cond (!cr) (k0 4) (cond ((feq v_0 (some 0)) == true) (cond ((feq v_1 (some 0)) == true) (cond (feq v_2 (some 0)) (k0 251) (k0 0)) (k0 0)) (k0 0)))))

def sZ22 (N : Nat) : TSZ22 := GZ22 N (sZ17 N)

abbrev TSZ117 : Type := List Fl -> (Int -> Bool) -> Bool

def GZ117 (N : Nat) (SZ17 : TSZ17) (x : List Fl) (k0 : Int -> Bool) : Bool :=
  (cond (decide ((((List.length x) : Nat) : Int) > 48)) (k0 1) (SZ17 x (fun cr => (cond (!cr) (k0 4) (k0 0)))))

def sZ117 (N : Nat) : TSZ117 := GZ117 N (sZ17 N)

abbrev TSZ100 : Type := List Fl -> (Int -> Bool -> Bool) -> Bool

def st_qr_power_0 (N : Nat) (S_m_Abs : TS_m_Abs) (SZ74 : TSZ74) (x_1 : List Fl) (t9 : Int) (e0 : Fl -> Bool) : (Fl × Int) -> ((Fl × Int) -> Bool) -> Bool := fun v_ K => match v_ with
  | (most, t10) => (cond (decide (t10 < t9)) ((inR t10 (List.length x_1)) && (S_m_Abs (List.getD x_1 (Int.toNat t10) none) (fun xr => ((fits .i64 (t10 + 1)) && (K ((fmm true most xr), (t10 + 1))))))) (e0 most))

def GZ100 (N : Nat) (S_m_Abs : TS_m_Abs) (SZ74 : TSZ74) (x : List Fl) (k0 : Int -> Bool -> Bool) : Bool :=
  (iterG N (st_qr_power_0 N S_m_Abs SZ74 x (((List.length x) : Nat) : Int) (fun most_1 => (cond (feq most_1 (some 0)) (k0 0 false) (SZ74 most_1 (fun xr_1 nr => ((fits .i64 (nr - 1)) && (k0 (nr - 1) true))))))) ((some 0), 0))

def sZ100 (N : Nat) : TSZ100 := GZ100 N (s_m_Abs N) (sZ74 N)

abbrev TSZ86 : Type := List Fl -> Int -> (Fl -> List Fl -> Bool) -> Bool

def st_qr_scaled_0 (N : Nat) (SZ19 : TSZ19) (SZ103 : TSZ103) (x_1 : List Fl) (k__1 t13 : Int) (e0 : Fl -> List Fl -> Bool) : (Fl × Int × List Fl) -> ((Fl × Int × List Fl) -> Bool) -> Bool := fun v_ K => match v_ with
  | (s, t14, y) => (cond (decide (t14 < t13)) ((inR t14 (List.length x_1)) && ((fits .i64 (0 - k__1)) && (SZ19 (List.getD x_1 (Int.toNat t14) none) (0 - k__1) (fun xr => ((inR t14 (List.length y)) && ((decide ((Int.toNat t14) < (List.length y))) && ((inR t14 (List.length (List.set y (Int.toNat t14) xr))) && ((decide ((Int.toNat t14) < (List.length (List.set y (Int.toNat t14) xr)))) && ((inR t14 (List.length (List.set y (Int.toNat t14) xr))) && ((decide ((Int.toNat t14) < (List.length (List.set y (Int.toNat t14) xr)))) && ((fits .i64 (t14 + 1)) && (K ((fadd s (fmul (List.getD (List.set y (Int.toNat t14) xr) (Int.toNat t14) none) (List.getD (List.set y (Int.toNat t14) xr) (Int.toNat t14) none))), (t14 + 1), (List.set y (Int.toNat t14) xr)))))))))))))) (e0 s y))

def GZ86 (N : Nat) (SZ19 : TSZ19) (SZ103 : TSZ103) (x : List Fl) (k_ : Int) (k0 : Fl -> List Fl -> Bool) : Bool :=
  ((mkOk 8 (((List.length x) : Nat) : Int) (((List.length x) : Nat) : Int)) && (iterG N (st_qr_scaled_0 N SZ19 SZ103 x k_ (((List.length x) : Nat) : Int) (fun s_1 y_1 => (SZ103 s_1 (fun xr_1 => (k0 xr_1 y_1))))) ((some 0), 0, (List.replicate (Int.toNat (((List.length x) : Nat) : Int)) (some 0)))))

def sZ86 (N : Nat) : TSZ86 := GZ86 N (sZ19 N) (sZ103 N)

abbrev TSZ85 : Type := List Fl -> (Fl -> Bool) -> Bool

def GZ85 (N : Nat) (SZ100 : TSZ100) (SZ86 : TSZ86) (SZ19 : TSZ19) (x : List Fl) (k0 : Fl -> Bool) : Bool :=
  (SZ100 x (fun nr cr => (cond (!cr) (k0 (some 0)) (SZ86 x nr (fun xr xsr => (SZ19 xr nr (fun xr_1 => (k0 xr_1))))))))

def sZ85 (N : Nat) : TSZ85 := GZ85 N (sZ100 N) (sZ86 N) (sZ19 N)

abbrev TSZ92 : Type := Fl -> (Bool -> Bool) -> Bool

def GZ92 (N : Nat) (x : Fl) (k0 : Bool -> Bool) : Bool :=
  (k0 (feq (fsub x x) (some 0)))

def sZ92 (N : Nat) : TSZ92 := GZ92 N

abbrev TSZ54 : Type := List Fl -> (Fl -> Int -> Bool) -> Bool

def GZ54 (N : Nat) (SZ117 : TSZ117) (SZ85 : TSZ85) (SZ92 : TSZ92) (x : List Fl) (k0 : Fl -> Int -> Bool) : Bool :=
  (SZ117 x (fun nr => (cond (nr != 0) (k0 (some 0) nr) (SZ85 x (fun xr => (SZ92 xr (fun cr => (cond (!cr) (k0 (some 0) 5) (k0 xr 0)))))))))

def sZ54 (N : Nat) : TSZ54 := GZ54 N (sZ117 N) (sZ85 N) (sZ92 N)

abbrev TSZ58 : Type := Fl -> Fl -> Fl -> (Fl -> Fl -> Fl -> Int -> Bool) -> Bool

def GZ58 (N : Nat) (SZ54 : TSZ54) (v_0 v_1 v_2 : Fl) (k0 : Fl -> Fl -> Fl -> Int -> Bool) : Bool :=
  (SZ54 [v_0, v_1, v_2] (fun xr nr => (cond (nr != 0) (k0 (some 0) (some 0) (some 0) nr) (k0 (fdiv v_0 xr) (fdiv v_1 xr) (fdiv v_2 xr) nr))))

def sZ58 (N : Nat) : TSZ58 := GZ58 (N + 24) (sZ54 N)

abbrev TSZ82 : Type := Fl -> Fl -> Fl -> Fl -> Fl -> Fl -> (Fl -> Fl -> Fl -> Int -> Bool) -> Bool

def GZ82 (N : Nat) (SZ8 : TSZ8) (SZ49 : TSZ49) (SZ81 : TSZ81) (a_0 a_1 a_2 b_0 b_1 b_2 : Fl) (k0 : Fl -> Fl -> Fl -> Int -> Bool) : Bool :=
  (SZ8 [a_0, a_1, a_2] (fun cr => (cond ((!cr) == false) (SZ8 [b_0, b_1, b_2] (fun cr_1 => (cond (!cr_1) (k0 (some 0) (some 0) (some 0) 4) (SZ49 a_0 a_1 a_2 b_0 b_1 b_2 (fun xr xr_1 xr_2 => (SZ81 xr xr_1 xr_2 (fun xr_3 xr_4 xr_5 nr => (k0 xr_3 xr_4 xr_5 nr)))))))) (k0 (some 0) (some 0) (some 0) 4))))

def sZ82 (N : Nat) : TSZ82 := GZ82 N (sZ8 N) (sZ49 N) (sZ81 N)

abbrev TSZ116 : Type := Fl -> Fl -> Fl -> Fl -> Fl -> Fl -> (Fl -> Fl -> Fl -> Fl -> Fl -> Fl -> Fl -> Fl -> Fl -> Int -> Bool) -> Bool

def GZ116 (N : Nat) (SZ58 : TSZ58) (SZ82 : TSZ82) (SZ22 : TSZ22) (a_0 a_1 a_2 b_0 b_1 b_2 : Fl) (k0 : Fl -> Fl -> Fl -> Fl -> Fl -> Fl -> Fl -> Fl -> Fl -> Int -> Bool) : Bool :=
  (SZ58 a_0 a_1 a_2 (fun xr xr_1 xr_2 nr => (cond (nr != 0) (k0 xr xr_1 xr_2 (some 0) (some 0) (some 0) (some 0) (some 0) (some 0) nr) (SZ82 xr xr_1 xr_2 b_0 b_1 b_2 (fun xr_3 xr_4 xr_5 nr_1 => (cond (nr_1 != 0) (k0 xr xr_1 xr_2 (some 0) (some 0) (some 0) (some 0) (some 0) (some 0) nr_1) (SZ22 xr_3 xr_4 xr_5 (fun nr_2 => (cond (nr_2 != 0) (k0 xr xr_1 xr_2 (some 0) (some 0) (some 0) (some 0) (some 0) (some 0) nr_2) (SZ58 xr_3 xr_4 xr_5 (fun xr_6 xr_7 xr_8 nr_3 => (cond (nr_3 != 0) (k0 xr xr_1 xr_2 xr_6 xr_7 xr_8 (some 0) (some 0) (some 0) nr_3) (SZ82 xr xr_1 xr_2 xr_6 xr_7 xr_8 (fun xr_9 xr_10 xr_11 nr_4 => (k0 xr xr_1 xr_2 xr_6 xr_7 xr_8 xr_9 xr_10 xr_11 nr_4)))))))))))))))

def sZ116 (N : Nat) : TSZ116 := GZ116 N (sZ58 N) (sZ82 N) (sZ22 N)

abbrev TSZ48 : Type := Fl -> Bool -> (Bool -> Bool) -> Bool

def GZ48 (N : Nat) (SZ62 : TSZ62) (x : Fl) (b : Bool) (k0 : Bool -> Bool) : Bool :=
  (cond ((!feq x x) == false) (SZ62 x 0 (fun cr => (cond cr (k0 true) (k0 b)))) (k0 true))

def sZ48 (N : Nat) : TSZ48 := GZ48 N (sZ62 N)

abbrev TSZ39 : Type := Fl -> Fl -> Bool -> (Fl -> Bool -> Bool) -> Bool

def GZ39 (N : Nat) (SZ48 : TSZ48) (a b : Fl) (b_1 : Bool) (k0 : Fl -> Bool -> Bool) : Bool :=
  (SZ48 (fmul a b) b_1 (fun cr => (k0 (fmul a b) cr)))

def sZ39 (N : Nat) : TSZ39 := GZ39 N (sZ48 N)

abbrev TSZ83 : Type := Bool -> (Bool) -> Bool

def GZ83 (N : Nat) (b k0 : Bool) : Bool :=
  k0

def sZ83 (N : Nat) : TSZ83 := GZ83 N

abbrev TSZ73 : Type := Int -> (Bool -> Bool) -> Bool

def GZ73 (N : Nat) (n : Int) (k0 : Bool -> Bool) : Bool :=
  (cond ((decide (n >= 0)) == true) (k0 (decide (n <= 12))) (k0 false))

def sZ73 (N : Nat) : TSZ73 := GZ73 N

abbrev TSZ25 : Type := Int -> Int -> List Fl -> (Int -> Bool) -> Bool

def GZ25 (N : Nat) (SZ73 : TSZ73) (SZ17 : TSZ17) (m_0 m_1 : Int) (m_2 : List Fl) (k0 : Int -> Bool) : Bool :=
  (SZ73 m_0 (fun cr => (cond ((!cr) == false) (SZ73 m_1 (fun cr_1 => (cond (!cr_1) (k0 1) ((fits .i64 (m_0 * m_1)) && (cond ((((List.length m_2) : Nat) : Int) != (m_0 * m_1)) (k0 3) (SZ17 m_2 (fun cr_2 => (cond (!cr_2) (k0 4) (k0 0))))))))) (k0 1))))

def sZ25 (N : Nat) : TSZ25 := GZ25 N (sZ73 N) (sZ17 N)

abbrev TSZ12 : Type := Int -> Int -> Int -> Int -> List Fl -> (Fl -> Bool) -> Bool

def GZ12 (N : Nat) (i j b b_1 : Int) (b_2 : List Fl) (k0 : Fl -> Bool) : Bool :=
  ((fits .i64 (3 * i)) && ((fits .i64 ((3 * i) + j)) && ((inR ((3 * i) + j) (List.length b_2)) && (k0 (List.getD b_2 (Int.toNat ((3 * i) + j)) none)))))

def sZ12 (N : Nat) : TSZ12 := GZ12 N

abbrev TSZ43 : Type := Fl -> Fl -> Fl -> Fl -> (Fl -> Fl -> Fl -> Fl -> Int -> Bool) -> Bool

def GZ43 (N : Nat) (SZ15 : TSZ15) (q_0 q_1 q_2 q_3 : Fl) (k0 : Fl -> Fl -> Fl -> Fl -> Int -> Bool) : Bool :=
  (SZ15 q_0 q_1 q_2 q_3 (fun cr => (cond (!cr) (k0 (some 0) (some 0) (some 0) (some 0) 5) (k0 q_0 q_1 q_2 q_3 0))))

def sZ43 (N : Nat) : TSZ43 := GZ43 N (sZ15 N)

abbrev TSZ75 : Type := Int -> Int -> List Fl -> (Fl -> Fl -> Fl -> Fl -> Int -> Bool) -> Bool

def JZ129 (N : Nat) (SZ25 : TSZ25) (SZ12 : TSZ12) (SZ8 : TSZ8) (SZ43 : TSZ43) (SZ34 : TSZ34) (m_0 m_1 : Int) (m_2 : List Fl) (k_ k__1 k__2 k__3 : Fl) (k0 : Fl -> Fl -> Fl -> Fl -> Int -> Bool) : Bool :=
  (SZ43 k_ k__1 k__2 k__3 (fun xr_15 xr_16 xr_17 x18 nr_1 => (cond (nr_1 != 0) (k0 xr_15 xr_16 xr_17 x18 nr_1) (SZ34 k_ k__1 k__2 k__3 (fun x19 x20 x21 x22 nr_2 => (k0 x19 x20 x21 x22 nr_2))))))

def GZ75 (N : Nat) (SZ25 : TSZ25) (SZ12 : TSZ12) (SZ8 : TSZ8) (SZ43 : TSZ43) (SZ34 : TSZ34) (m_0 m_1 : Int) (m_2 : List Fl) (k0 : Fl -> Fl -> Fl -> Fl -> Int -> Bool) : Bool :=
  (SZ25 m_0 m_1 m_2 (fun nr => (cond (nr != 0) (k0 (some 0) (some 0) (some 0) (some 0) nr) (cond ((m_0 != 3) == false) (cond (m_1 != 3) (k0 (some 0) (some 0) (some 0) (some 0) 3) (SZ12 0 0 m_0 m_1 m_2 (fun xr => (SZ12 1 1 m_0 m_1 m_2 (fun xr_1 => (SZ12 2 2 m_0 m_1 m_2 (fun xr_2 => (SZ8 [(fadd (fadd xr xr_1) xr_2)] (fun cr => (cond (!cr) (k0 (some 0) (some 0) (some 0) (some 0) 5) (SZ12 2 1 m_0 m_1 m_2 (fun xr_3 => (SZ12 1 2 m_0 m_1 m_2 (fun xr_4 => (SZ12 0 2 m_0 m_1 m_2 (fun xr_5 => (SZ12 2 0 m_0 m_1 m_2 (fun xr_6 => (SZ12 1 0 m_0 m_1 m_2 (fun xr_7 => (SZ12 0 1 m_0 m_1 m_2 (fun xr_8 => (SZ12 0 1 m_0 m_1 m_2 (fun xr_9 => (SZ12 1 0 m_0 m_1 m_2 (fun xr_10 => (SZ12 0 2 m_0 m_1 m_2 (fun xr_11 => (SZ12 2 0 m_0 m_1 m_2 (fun xr_12 => (SZ12 1 2 m_0 m_1 m_2 (fun xr_13 => (SZ12 2 1 m_0 m_1 m_2 (fun xr_14 => (cond (feq (fmm true (fmm true (fmm true (fadd (fadd xr xr_1) xr_2) xr) xr_1) xr_2) (fadd (fadd xr xr_1) xr_2)) (JZ129 N SZ25 SZ12 SZ8 SZ43 SZ34 m_0 m_1 m_2 (fadd (some 4607182418800017408) (fadd (fadd xr xr_1) xr_2)) (fsub xr_3 xr_4) (fsub xr_5 xr_6) (fsub xr_7 xr_8) k0) (cond (feq (fmm true (fmm true (fmm true (fadd (fadd xr xr_1) xr_2) xr) xr_1) xr_2) xr) (JZ129 N SZ25 SZ12 SZ8 SZ43 SZ34 m_0 m_1 m_2 (fsub xr_3 xr_4) (fsub (fsub (fadd (some 4607182418800017408) xr) xr_1) xr_2) (fadd xr_9 xr_10) (fadd xr_11 xr_12) k0) (cond (feq (fmm true (fmm true (fmm true (fadd (fadd xr xr_1) xr_2) xr) xr_1) xr_2) xr_1) (JZ129 N SZ25 SZ12 SZ8 SZ43 SZ34 m_0 m_1 m_2 (fsub xr_5 xr_6) (fadd xr_9 xr_10) (fsub (fadd (fsub (some 4607182418800017408) xr) xr_1) xr_2) (fadd xr_13 xr_14) k0) (JZ129 N SZ25 SZ12 SZ8 SZ43 SZ34 m_0 m_1 m_2 (fsub xr_7 xr_8) (fadd xr_11 xr_12) (fadd xr_13 xr_14) (fadd (fsub (fsub (some 4607182418800017408) xr) xr_1) xr_2) k0)))))))))))))))))))))))))))))))))))))) (k0 (some 0) (some 0) (some 0) (some 0) 3)))))

def sZ75 (N : Nat) : TSZ75 := GZ75 N (sZ25 N) (sZ12 N) (sZ8 N) (sZ43 N) (sZ34 N)

abbrev TSZ59 : Type := Fl -> Fl -> Fl -> Fl -> Fl -> Fl -> Fl -> Fl -> Fl -> Fl -> Fl -> Fl -> (Fl -> Fl -> Fl -> Fl -> Int -> Bool) -> Bool

def GZ59 (N : Nat) (SZ22 : TSZ22) (SZ116 : TSZ116) (SZ39 : TSZ39) (SZ48 : TSZ48) (SZ83 : TSZ83) (SZ75 : TSZ75) (a_0 a_1 a_2 b_0 b_1 b_2 seenA_0 seenA_1 seenA_2 seenB_0 seenB_1 seenB_2 : Fl) (k0 : Fl -> Fl -> Fl -> Fl -> Int -> Bool) : Bool :=
  (SZ22 a_0 a_1 a_2 (fun nr => (cond (nr != 0) (k0 (some 0) (some 0) (some 0) (some 0) nr) (SZ22 b_0 b_1 b_2 (fun nr_1 => (cond (nr_1 != 0) (k0 (some 0) (some 0) (some 0) (some 0) nr_1) (SZ22 seenA_0 seenA_1 seenA_2 (fun nr_2 => (cond (nr_2 != 0) (k0 (some 0) (some 0) (some 0) (some 0) nr_2) (SZ22 seenB_0 seenB_1 seenB_2 (fun nr_3 => (cond (nr_3 != 0) (k0 (some 0) (some 0) (some 0) (some 0) nr_3) (SZ116 a_0 a_1 a_2 b_0 b_1 b_2 (fun xr xr_1 xr_2 xr_3 xr_4 xr_5 xr_6 xr_7 xr_8 nr_4 => (cond (nr_4 != 0) (k0 (some 0) (some 0) (some 0) (some 0) nr_4) (SZ116 seenA_0 seenA_1 seenA_2 seenB_0 seenB_1 seenB_2 (fun xr_9 xr_10 xr_11 xr_12 xr_13 xr_14 xr_15 xr_16 xr_17 n5 => (cond (n5 != 0) (k0 (some 0) (some 0) (some 0) (some 0) n5) (SZ39 xr xr_9 false (fun x18 cr => (SZ39 xr_3 xr_12 cr (fun x19 cr_1 => (SZ48 (fadd x18 x19) cr_1 (fun cr_2 => (SZ39 xr_6 xr_15 cr_2 (fun x20 cr_3 => (SZ48 (fadd (fadd x18 x19) x20) cr_3 (fun cr_4 => (SZ39 xr xr_10 cr_4 (fun x21 cr_5 => (SZ39 xr_3 xr_13 cr_5 (fun x22 cr_6 => (SZ48 (fadd x21 x22) cr_6 (fun c7 => (SZ39 xr_6 xr_16 c7 (fun x23 c8 => (SZ48 (fadd (fadd x21 x22) x23) c8 (fun c9 => (SZ39 xr xr_11 c9 (fun x24 c10 => (SZ39 xr_3 xr_14 c10 (fun x25 c11 => (SZ48 (fadd x24 x25) c11 (fun c12 => (SZ39 xr_6 xr_17 c12 (fun x26 c13 => (SZ48 (fadd (fadd x24 x25) x26) c13 (fun c14 => (SZ39 xr_1 xr_9 c14 (fun x27 c15 => (SZ39 xr_4 xr_12 c15 (fun x28 c16 => (SZ48 (fadd x27 x28) c16 (fun c17 => (SZ39 xr_7 xr_15 c17 (fun x29 c18 => (SZ48 (fadd (fadd x27 x28) x29) c18 (fun c19 => (SZ39 xr_1 xr_10 c19 (fun x30 cr_20 => (SZ39 xr_4 xr_13 cr_20 (fun x31 c21 => (SZ48 (fadd x30 x31) c21 (fun cr_22 => (SZ39 xr_7 xr_16 cr_22 (fun x32 cr_23 => (SZ48 (fadd (fadd x30 x31) x32) cr_23 (fun cr_24 => (SZ39 xr_1 xr_11 cr_24 (fun x33 c25 => (SZ39 xr_4 xr_14 c25 (fun x34 c26 => (SZ48 (fadd x33 x34) c26 (fun c27 => (SZ39 xr_7 xr_17 c27 (fun x35 c28 => (SZ48 (fadd (fadd x33 x34) x35) c28 (fun c29 => (SZ39 xr_2 xr_9 c29 (fun x36 c30 => (SZ39 xr_5 xr_12 c30 (fun x37 c31 => (SZ48 (fadd x36 x37) c31 (fun c32 => (SZ39 xr_8 xr_15 c32 (fun x38 c33 => (SZ48 (fadd (fadd x36 x37) x38) c33 (fun c34 => (SZ39 xr_2 xr_10 c34 (fun x39 c35 => (SZ39 xr_5 xr_13 c35 (fun x40 c36 => (SZ48 (fadd x39 x40) c36 (fun c37 => (SZ39 xr_8 xr_16 c37 (fun x41 c38 => (SZ48 (fadd (fadd x39 x40) x41) c38 (fun c39 => (SZ39 xr_2 xr_11 c39 (fun x42 c40 => (SZ39 xr_5 xr_14 c40 (fun x43 c41 => (SZ48 (fadd x42 x43) c41 (fun c42 => (SZ39 xr_8 xr_17 c42 (fun x44 c43 => (SZ48 (fadd (fadd x42 x43) x44) c43 (fun c44 => (SZ83 c44 (cond c44 (k0 (some 0) (some 0) (some 0) (some 0) 5) (SZ75 3 3 ((((((((([] ++ [(fadd (fadd x18 x19) x20)]) ++ [(fadd (fadd x21 x22) x23)]) ++ [(fadd (fadd x24 x25) x26)]) ++ [(fadd (fadd x27 x28) x29)]) ++ [(fadd (fadd x30 x31) x32)]) ++ [(fadd (fadd x33 x34) x35)]) ++ [(fadd (fadd x36 x37) x38)]) ++ [(fadd (fadd x39 x40) x41)]) ++ [(fadd (fadd x42 x43) x44)]) (fun x45 x46 x47 x48 n6 => (k0 x45 x46 x47 x48 n6)))))))))))))))))))))))))))))))))))))))))))))))))))))))))))))))))))))))))))))))))))))))))))))))))))))))))))))))))

def sZ59 (N : Nat) : TSZ59 := GZ59 (N + 24) (sZ22 N) (sZ116 N) (sZ39 N) (sZ48 N) (sZ83 N) (sZ75 N)

abbrev TSZ31 : Type := Fl -> Fl -> Fl -> Fl -> Fl -> Fl -> Fl -> Fl -> (Bool -> Bool) -> Bool

def GZ31 (N : Nat) (SZ8 : TSZ8) (qs_0 qs_1 qs_2 qs_3 qs_4 qs_5 qs_6 qs_7 : Fl) (k0 : Bool -> Bool) : Bool :=
  (SZ8 [qs_0, qs_1, qs_2, qs_3] (fun cr => (cond (!cr) (k0 false) (SZ8 [qs_4, qs_5, qs_6, qs_7] (fun cr_1 => (cond (!cr_1) (k0 false) (k0 true)))))))

def sZ31 (N : Nat) : TSZ31 := GZ31 (N + 24) (sZ8 N)

abbrev TSZ95 : Type := Fl -> Fl -> Fl -> Fl -> (Fl -> Fl -> Fl -> Fl -> Int -> Bool) -> Bool

def GZ95 (N : Nat) (SZ15 : TSZ15) (q_0 q_1 q_2 q_3 : Fl) (k0 : Fl -> Fl -> Fl -> Fl -> Int -> Bool) : Bool :=
  (SZ15 q_0 q_1 q_2 q_3 (fun cr => (cond (!cr) (k0 (some 0) (some 0) (some 0) (some 0) 4) (k0 q_0 (fneg q_1) (fneg q_2) (fneg q_3) 0))))

def sZ95 (N : Nat) : TSZ95 := GZ95 N (sZ15 N)

abbrev TSZ113 : Type := Fl -> Fl -> Fl -> Fl -> Fl -> Fl -> Fl -> Fl -> (Fl -> Fl -> Fl -> Fl -> Bool) -> Bool

def GZ113 (N : Nat) (a_0 a_1 a_2 a_3 b_0 b_1 b_2 b_3 : Fl) (k0 : Fl -> Fl -> Fl -> Fl -> Bool) : Bool :=
  (k0 (fsub (fsub (fsub (fmul a_0 b_0) (fmul a_1 b_1)) (fmul a_2 b_2)) (fmul a_3 b_3)) (fsub (fadd (fadd (fmul a_0 b_1) (fmul a_1 b_0)) (fmul a_2 b_3)) (fmul a_3 b_2)) (fadd (fadd (fsub (fmul a_0 b_2) (fmul a_1 b_3)) (fmul a_2 b_0)) (fmul a_3 b_1)) (fadd (fsub (fadd (fmul a_0 b_3) (fmul a_1 b_2)) (fmul a_2 b_1)) (fmul a_3 b_0)))

def sZ113 (N : Nat) : TSZ113 := GZ113 N

abbrev TSZ110 : Type := Fl -> Fl -> Fl -> Fl -> Fl -> Fl -> Fl -> Fl -> (Fl -> Fl -> Fl -> Fl -> Int -> Bool) -> Bool

def GZ110 (N : Nat) (SZ31 : TSZ31) (SZ113 : TSZ113) (SZ43 : TSZ43) (a_0 a_1 a_2 a_3 b_0 b_1 b_2 b_3 : Fl) (k0 : Fl -> Fl -> Fl -> Fl -> Int -> Bool) : Bool :=
  (SZ31 a_0 a_1 a_2 a_3 b_0 b_1 b_2 b_3 (fun cr => (cond (!cr) (k0 (some 0) (some 0) (some 0) (some 0) 4) (SZ113 a_0 a_1 a_2 a_3 b_0 b_1 b_2 b_3 (fun xr xr_1 xr_2 xr_3 => (SZ43 xr xr_1 xr_2 xr_3 (fun xr_4 xr_5 xr_6 xr_7 nr => (k0 xr_4 xr_5 xr_6 xr_7 nr))))))))

def sZ110 (N : Nat) : TSZ110 := GZ110 N (sZ31 N) (sZ113 N) (sZ43 N)

abbrev TSZ33 : Type := Fl -> Fl -> Fl -> Fl -> Fl -> Fl -> Fl -> Fl -> (Fl -> Int -> Bool) -> Bool

def GZ33 (N : Nat) (SZ31 : TSZ31) (SZ95 : TSZ95) (SZ110 : TSZ110) (SZ54 : TSZ54) (a_0 a_1 a_2 a_3 b_0 b_1 b_2 b_3 : Fl) (k0 : Fl -> Int -> Bool) : Bool :=
  (SZ31 a_0 a_1 a_2 a_3 b_0 b_1 b_2 b_3 (fun cr => (cond (!cr) (k0 (some 0) 4) (SZ95 a_0 a_1 a_2 a_3 (fun xr xr_1 xr_2 xr_3 nr => (SZ110 xr xr_1 xr_2 xr_3 b_0 b_1 b_2 b_3 (fun xr_4 xr_5 xr_6 xr_7 nr_1 => (cond (nr_1 != 0) (k0 (some 0) nr_1) (SZ54 [xr_5, xr_6, xr_7] (fun xr_8 nr_2 => (k0 xr_8 nr_2)))))))))))

def sZ33 (N : Nat) : TSZ33 := GZ33 N (sZ31 N) (sZ95 N) (sZ110 N) (sZ54 N)

abbrev TSZ37 : Type := Int -> Int -> Int -> Int -> Int -> Int -> Int -> Int -> Int -> Int -> (Bool -> Bool) -> Bool

def JZ128 (N : Nat) (SZ61 : TSZ61) (SZ108 : TSZ108) (SZ107 : TSZ107) (SZ63 : TSZ63) (SZ65 : TSZ65) (SZ55 : TSZ55) (SZ67 : TSZ67) (SZ9 : TSZ9) (SZ1 : TSZ1) (SZ3 : TSZ3) (SZ11 : TSZ11) (SZ5 : TSZ5) (SZ6 : TSZ6) (SZ0 : TSZ0) (SZ23 : TSZ23) (SZ4 : TSZ4) (SZ38 : TSZ38) (SZ59 : TSZ59) (SZ33 : TSZ33) (SZ19 : TSZ19) (q_0 q_1 q_2 q_3 x_0 x_1 x_2 y_0 y_1 y_2 : Int) (k__4 k__5 k__6 k__7 a_3 a_4 a_5 b_3 b_4 b_5 : Fl) (k0 : Bool -> Bool) : Bool :=
  (SZ38 k__4 k__5 k__6 k__7 a_3 a_4 a_5 (fun x22 x23 x24 n23 => (SZ38 k__4 k__5 k__6 k__7 b_3 b_4 b_5 (fun x25 x26 x27 n24 => (SZ59 x22 x23 x24 x25 x26 x27 a_3 a_4 a_5 b_3 b_4 b_5 (fun x28 x29 x30 x31 n25 => (cond ((n23 != 0) == false) (cond ((n24 != 0) == false) (cond (n25 != 0) (k0 false) (SZ33 k__4 k__5 k__6 k__7 x28 x29 x30 x31 (fun x32 n26 => (cond ((n26 == 0) == true) (SZ19 (some 4607182418800017408) (-30) (fun x33 => (cond ((fle x32 x33) == true) (SZ55 (fun c30 => (k0 c30))) (k0 false)))) (k0 false))))) (k0 false)) (k0 false))))))))

def JZ127 (N : Nat) (SZ61 : TSZ61) (SZ108 : TSZ108) (SZ107 : TSZ107) (SZ63 : TSZ63) (SZ65 : TSZ65) (SZ55 : TSZ55) (SZ67 : TSZ67) (SZ9 : TSZ9) (SZ1 : TSZ1) (SZ3 : TSZ3) (SZ11 : TSZ11) (SZ5 : TSZ5) (SZ6 : TSZ6) (SZ0 : TSZ0) (SZ23 : TSZ23) (SZ4 : TSZ4) (SZ38 : TSZ38) (SZ59 : TSZ59) (SZ33 : TSZ33) (SZ19 : TSZ19) (q_0 q_1 q_2 q_3 x_0 x_1 x_2 y_0 y_1 y_2 : Int) (k_ k__1 k__2 k__3 a a_1 a_2 b b_1 b_2 : Fl) (k0 : Bool -> Bool) : Bool :=
  (SZ38 k_ k__1 k__2 k__3 a a_1 a_2 (fun xr_10 xr_11 xr_12 n19 => (SZ38 k_ k__1 k__2 k__3 b b_1 b_2 (fun xr_13 xr_14 xr_15 n20 => (SZ59 xr_10 xr_11 xr_12 xr_13 xr_14 xr_15 a a_1 a_2 b b_1 b_2 (fun xr_16 xr_17 x18 x19 n21 => (cond ((n19 != 0) == false) (cond ((n20 != 0) == false) (cond (n21 != 0) (k0 false) (SZ33 k_ k__1 k__2 k__3 xr_16 xr_17 x18 x19 (fun x20 n22 => (cond ((n22 == 0) == true) (SZ19 (some 4607182418800017408) (-30) (fun x21 => (cond ((fle x20 x21) == true) (SZ55 (fun c29 => (k0 c29))) (k0 false)))) (k0 false))))) (k0 false)) (k0 false))))))))

def GZ37 (N : Nat) (SZ61 : TSZ61) (SZ108 : TSZ108) (SZ107 : TSZ107) (SZ63 : TSZ63) (SZ65 : TSZ65) (SZ55 : TSZ55) (SZ67 : TSZ67) (SZ9 : TSZ9) (SZ1 : TSZ1) (SZ3 : TSZ3) (SZ11 : TSZ11) (SZ5 : TSZ5) (SZ6 : TSZ6) (SZ0 : TSZ0) (SZ23 : TSZ23) (SZ4 : TSZ4) (SZ38 : TSZ38) (SZ59 : TSZ59) (SZ33 : TSZ33) (SZ19 : TSZ19) (q_0 q_1 q_2 q_3 x_0 x_1 x_2 y_0 y_1 y_2 : Int) (k0 : Bool -> Bool) : Bool :=
  (SZ61 [q_0, q_1, q_2, q_3] (fun xsr => (SZ108 xsr (fun xr xr_1 xr_2 xr_3 => (SZ107 x_0 x_1 x_2 (fun xr_4 xr_5 xr_6 => (SZ107 y_0 y_1 y_2 (fun xr_7 xr_8 xr_9 => (SZ63 xr xr_1 xr_2 xr_3 (fun cr => (cond ((!cr) == false) (SZ65 xr_4 xr_5 xr_6 (fun cr_1 => (cond ((!cr_1) == false) (SZ65 xr_7 xr_8 xr_9 (fun cr_2 => (cond (!cr_2) (SZ55 (fun cr_3 => (k0 cr_3))) (SZ67 xr_4 xr_5 xr_6 (fun nr nr_1 nr_2 cr_6 nsr c7 nsr_1 c8 nsr_2 => (SZ67 xr_7 xr_8 xr_9 (fun nr_3 nr_4 n5 c9 nsr_3 c10 nsr_4 c11 s5 => (SZ9 nr nr_1 nr_2 cr_6 nsr c7 nsr_1 c8 nsr_2 (fun n6 c12 s6 => (SZ9 nr_3 nr_4 n5 c9 nsr_3 c10 nsr_4 c11 s5 (fun n7 c13 s7 => (SZ1 n6 n7 c12 s6 c13 s7 (fun n8 c14 s8 => (SZ3 nr nr_1 nr_2 nr_3 nr_4 n5 cr_6 nsr c7 nsr_1 c8 nsr_2 c9 nsr_3 c10 nsr_4 c11 s5 (fun n9 c15 s9 => (SZ11 c14 s8 (fun n10 => (cond ((n10 == 0) == false) (SZ5 n9 n9 c15 s9 (fun n11 c16 s10 => (SZ6 n11 c16 s10 (fun c17 s11 => (SZ0 n8 n11 c14 s8 c17 s11 (SZ23 (-12) (fun c18 s12 => (SZ1 n8 (-12) c14 s8 c18 s12 (fun n12 c19 s13 => (SZ4 n11 n12 c17 s11 c19 s13 (fun n13 => (cond (decide (n13 < 0)) (SZ55 (fun c25 => (k0 c25))) (JZ127 N SZ61 SZ108 SZ107 SZ63 SZ65 SZ55 SZ67 SZ9 SZ1 SZ3 SZ11 SZ5 SZ6 SZ0 SZ23 SZ4 SZ38 SZ59 SZ33 SZ19 q_0 q_1 q_2 q_3 x_0 x_1 x_2 y_0 y_1 y_2 xr xr_1 xr_2 xr_3 xr_4 xr_5 xr_6 xr_7 xr_8 xr_9 k0)))))))) (SZ23 (-12) (fun cr_20 s14 => (SZ1 n8 (-12) c14 s8 cr_20 s14 (fun n14 c21 s15 => (SZ4 n8 n14 c14 s8 c21 s15 (fun n15 => (cond (decide (n15 < 0)) (SZ55 (fun c26 => (k0 c26))) (JZ127 N SZ61 SZ108 SZ107 SZ63 SZ65 SZ55 SZ67 SZ9 SZ1 SZ3 SZ11 SZ5 SZ6 SZ0 SZ23 SZ4 SZ38 SZ59 SZ33 SZ19 q_0 q_1 q_2 q_3 x_0 x_1 x_2 y_0 y_1 y_2 xr xr_1 xr_2 xr_3 xr_4 xr_5 xr_6 xr_7 xr_8 xr_9 k0)))))))) (fun n16 cr_22 s16 => (SZ23 (-12) (fun cr_23 s17 => (SZ1 n8 (-12) c14 s8 cr_23 s17 (fun n17 cr_24 s18 => (SZ4 n16 n17 cr_22 s16 cr_24 s18 (fun n18 => (cond (decide (n18 < 0)) (SZ55 (fun c27 => (k0 c27))) (JZ128 N SZ61 SZ108 SZ107 SZ63 SZ65 SZ55 SZ67 SZ9 SZ1 SZ3 SZ11 SZ5 SZ6 SZ0 SZ23 SZ4 SZ38 SZ59 SZ33 SZ19 q_0 q_1 q_2 q_3 x_0 x_1 x_2 y_0 y_1 y_2 xr xr_1 xr_2 xr_3 xr_4 xr_5 xr_6 xr_7 xr_8 xr_9 k0)))))))))))))) (SZ55 (fun c28 => (k0 c28))))))))))))))))))))) (SZ55 (fun cr_4 => (k0 cr_4)))))) (SZ55 (fun cr_5 => (k0 cr_5))))))))))))))

def sZ37 (N : Nat) : TSZ37 := GZ37 N (sZ61 N) (sZ108 N) (sZ107 N) (sZ63 N) (sZ65 N) (sZ55 N) (sZ67 N) (sZ9 N) (sZ1 N) (sZ3 N) (sZ11 N) (sZ5 N) (sZ6 N) (sZ0 N) (sZ23 N) (sZ4 N) (sZ38 N) (sZ59 N) (sZ33 N) (sZ19 N)

end Go.Proofs.YtgngdkjghdohiaaGreat
end
section
namespace Go.Proofs.YtgngdkjghdohiaaGreat
open Go Go.Mach Go.Proofs
set_option linter.unusedVariables false
set_option maxRecDepth 50000

noncomputable abbrev Pg : Program := Tryz.prog
def sqs : Nat → List Sh → List Sh
  | 0, t => t
  | n + 1, t => .any :: sqs n t
def isref : Nat -> Bool := fun g => g == 131 || g == 140 || g == 78 || g == 174 || g == 164 || g == 96 || g == 12 || g == 1000167 || g == 1000165 || g == 1000087 || g == 1000139

def shFZ78 : FnSh := ⟨[.fb], []⟩
def spZ78 (SZ78 : TSZ78) : List Atom -> (V -> List Blk -> Bool) -> Bool := fun a_ c_ => match a_ with
  | [.nat a0] => SZ78 a0 (fun r0 => c_ (.int .u64 r0) [])
  | _ => false
abbrev FZ78 (SZ78 : TSZ78) : Fs := mkFs shFZ78 (spZ78 SZ78)

def shF_an_of : FnSh := ⟨[.litI .i64 0], []⟩
def sp_an_of (S_an_of : TS_an_of) : List Atom -> (V -> List Blk -> Bool) -> Bool := fun a_ c_ => match a_ with
  | [] => S_an_of (fun r0 r1 r2 => c_ (.agg [.int .u64 r0, .int .i64 r1, .int .i64 r2]) [])
  | _ => false
abbrev F_an_of (S_an_of : TS_an_of) : Fs := mkFs shF_an_of (sp_an_of S_an_of)

def shFZ104 : FnSh := ⟨[.agg [.int .u64, .int .i64, .int .i64]], []⟩
def spZ104 (SZ104 : TSZ104) : List Atom -> (V -> List Blk -> Bool) -> Bool := fun a_ c_ => match a_ with
  | [.int f_0, .int f_1, .int f_2] => SZ104 f_0 f_1 f_2 (fun r0 => c_ (.int .u64 r0) [])
  | _ => false
abbrev FZ104 (SZ104 : TSZ104) : Fs := mkFs shFZ104 (spZ104 SZ104)

def shFZ44 : FnSh := ⟨[.agg [.int .u64, .int .i64, .int .i64]], []⟩
def spZ44 (SZ44 : TSZ44) : List Atom -> (V -> List Blk -> Bool) -> Bool := fun a_ c_ => match a_ with
  | [.int f_0, .int f_1, .int f_2] => SZ44 f_0 f_1 f_2 (fun r0 => c_ (.int .u64 r0) [])
  | _ => false
abbrev FZ44 (SZ44 : TSZ44) : Fs := mkFs shFZ44 (spZ44 SZ44)

def shFZ42 : FnSh := ⟨[.int .u64, .agg [.int .u64, .int .i64, .int .i64]], []⟩
def spZ42 (SZ42 : TSZ42) : List Atom -> (V -> List Blk -> Bool) -> Bool := fun a_ c_ => match a_ with
  | [.int b, .int f_0, .int f_1, .int f_2] => SZ42 b f_0 f_1 f_2 (fun r0 => c_ (.bool r0) [])
  | _ => false
abbrev FZ42 (SZ42 : TSZ42) : Fs := mkFs shFZ42 (spZ42 SZ42)

def shFZ72 : FnSh := ⟨[.agg [.int .u64, .int .i64, .int .i64]], []⟩
def spZ72 (SZ72 : TSZ72) : List Atom -> (V -> List Blk -> Bool) -> Bool := fun a_ c_ => match a_ with
  | [.int f_0, .int f_1, .int f_2] => SZ72 f_0 f_1 f_2 (fun r0 => c_ (.int .u64 r0) [])
  | _ => false
abbrev FZ72 (SZ72 : TSZ72) : Fs := mkFs shFZ72 (spZ72 SZ72)

def shFZ120 : FnSh := ⟨[.agg [.int .u64, .int .i64, .int .i64]], []⟩
def spZ120 (SZ120 : TSZ120) : List Atom -> (V -> List Blk -> Bool) -> Bool := fun a_ c_ => match a_ with
  | [.int f_0, .int f_1, .int f_2] => SZ120 f_0 f_1 f_2 (fun r0 => c_ (.int .u64 r0) [])
  | _ => false
abbrev FZ120 (SZ120 : TSZ120) : Fs := mkFs shFZ120 (spZ120 SZ120)

def shFZ18 : FnSh := ⟨[.int .u64, .agg [.int .u64, .int .i64, .int .i64]], []⟩
def spZ18 (SZ18 : TSZ18) : List Atom -> (V -> List Blk -> Bool) -> Bool := fun a_ c_ => match a_ with
  | [.int b, .int f_0, .int f_1, .int f_2] => SZ18 b f_0 f_1 f_2 (fun r0 => c_ (.int .u64 r0) [])
  | _ => false
abbrev FZ18 (SZ18 : TSZ18) : Fs := mkFs shFZ18 (spZ18 SZ18)

def shFZ27 : FnSh := ⟨[.int .u64, .agg [.int .u64, .int .i64, .int .i64]], []⟩
def spZ27 (SZ27 : TSZ27) : List Atom -> (V -> List Blk -> Bool) -> Bool := fun a_ c_ => match a_ with
  | [.int b, .int f_0, .int f_1, .int f_2] => SZ27 b f_0 f_1 f_2 (fun r0 r1 r2 => c_ (.tup [.bool r0, .int .i64 r1, .int .u64 r2]) [])
  | _ => false
abbrev FZ27 (SZ27 : TSZ27) : Fs := mkFs shFZ27 (spZ27 SZ27)

def shFZ26 : FnSh := ⟨[.int .u64, .agg [.int .u64, .int .i64, .int .i64]], []⟩
def spZ26 (SZ26 : TSZ26) : List Atom -> (V -> List Blk -> Bool) -> Bool := fun a_ c_ => match a_ with
  | [.int b, .int f_0, .int f_1, .int f_2] => SZ26 b f_0 f_1 f_2 (fun r0 => c_ (.int .i64 r0) [])
  | _ => false
abbrev FZ26 (SZ26 : TSZ26) : Fs := mkFs shFZ26 (spZ26 SZ26)

def shFZ112 : FnSh := ⟨[.fb], []⟩
def spZ112 (SZ112 : TSZ112) : List Atom -> (V -> List Blk -> Bool) -> Bool := fun a_ c_ => match a_ with
  | [.nat x] => SZ112 x (fun r0 => c_ (.int .i64 r0) [])
  | _ => false
abbrev FZ112 (SZ112 : TSZ112) : Fs := mkFs shFZ112 (spZ112 SZ112)

def shFZ30 : FnSh := ⟨[.int .u64], []⟩
def spZ30 (SZ30 : TSZ30) : List Atom -> (V -> List Blk -> Bool) -> Bool := fun a_ c_ => match a_ with
  | [.int a0] => SZ30 a0 (fun r0 => c_ (.flt r0) [])
  | _ => false
abbrev FZ30 (SZ30 : TSZ30) : Fs := mkFs shFZ30 (spZ30 SZ30)

def shFZ125 : FnSh := ⟨[.fb], []⟩
def spZ125 (SZ125 : TSZ125) : List Atom -> (V -> List Blk -> Bool) -> Bool := fun a_ c_ => match a_ with
  | [.nat x] => SZ125 x (fun r0 => c_ (.flt r0) [])
  | _ => false
abbrev FZ125 (SZ125 : TSZ125) : Fs := mkFs shFZ125 (spZ125 SZ125)

def shFZ61 : FnSh := ⟨[.roi .u64], []⟩
def spZ61 (SZ61 : TSZ61) : List Atom -> (V -> List Blk -> Bool) -> Bool := fun a_ c_ => match a_ with
  | [.ints l] => SZ61 l (fun r0 => c_ (.slw 0) [⟨25, 1, .flts r0⟩])
  | _ => false
abbrev FZ61 (SZ61 : TSZ61) : Fs := mkFs shFZ61 (spZ61 SZ61)

def shFZ108 : FnSh := ⟨[.rof], []⟩
def spZ108 (SZ108 : TSZ108) : List Atom -> (V -> List Blk -> Bool) -> Bool := fun a_ c_ => match a_ with
  | [.fls l] => SZ108 l (fun r0 r1 r2 r3 => c_ (.agg [.flt r0, .flt r1, .flt r2, .flt r3]) [])
  | _ => false
abbrev FZ108 (SZ108 : TSZ108) : Fs := mkFs shFZ108 (spZ108 SZ108)

def shF_zl_f : FnSh := ⟨[.int .u64], []⟩
def sp_zl_f (S_zl_f : TS_zl_f) : List Atom -> (V -> List Blk -> Bool) -> Bool := fun a_ c_ => match a_ with
  | [.int b] => S_zl_f b (fun r0 => c_ (.flt r0) [])
  | _ => false
abbrev F_zl_f (S_zl_f : TS_zl_f) : Fs := mkFs shF_zl_f (sp_zl_f S_zl_f)

def shFZ107 : FnSh := ⟨[.agg [.int .u64, .int .u64, .int .u64]], []⟩
def spZ107 (SZ107 : TSZ107) : List Atom -> (V -> List Blk -> Bool) -> Bool := fun a_ c_ => match a_ with
  | [.int b_0, .int b_1, .int b_2] => SZ107 b_0 b_1 b_2 (fun r0 r1 r2 => c_ (.agg [.flt r0, .flt r1, .flt r2]) [])
  | _ => false
abbrev FZ107 (SZ107 : TSZ107) : Fs := mkFs shFZ107 (spZ107 SZ107)

def shFZ64 : FnSh := ⟨[.agg [.flt, .flt, .flt, .flt]], []⟩
def spZ64 (SZ64 : TSZ64) : List Atom -> (V -> List Blk -> Bool) -> Bool := fun a_ c_ => match a_ with
  | [.fl q_0, .fl q_1, .fl q_2, .fl q_3] => SZ64 q_0 q_1 q_2 q_3 (fun r0 => c_ (.slw 0) [⟨25, 1, .flts r0⟩])
  | _ => false
abbrev FZ64 (SZ64 : TSZ64) : Fs := mkFs shFZ64 (spZ64 SZ64)

def shFZ57 : FnSh := ⟨[.flt], []⟩
def spZ57 (SZ57 : TSZ57) : List Atom -> (V -> List Blk -> Bool) -> Bool := fun a_ c_ => match a_ with
  | [.fl a0] => SZ57 a0 (fun r0 => c_ (.int .u64 r0) [])
  | _ => false
abbrev FZ57 (SZ57 : TSZ57) : Fs := mkFs shFZ57 (spZ57 SZ57)

def shFZ111 : FnSh := ⟨[.flt], []⟩
def spZ111 (SZ111 : TSZ111) : List Atom -> (V -> List Blk -> Bool) -> Bool := fun a_ c_ => match a_ with
  | [.fl x] => SZ111 x (fun r0 => c_ (.int .u64 r0) [])
  | _ => false
abbrev FZ111 (SZ111 : TSZ111) : Fs := mkFs shFZ111 (spZ111 SZ111)

def shFZ45 : FnSh := ⟨[.flt], []⟩
def spZ45 (SZ45 : TSZ45) : List Atom -> (V -> List Blk -> Bool) -> Bool := fun a_ c_ => match a_ with
  | [.fl x] => SZ45 x (fun r0 r1 r2 => c_ (.tup [.bool r0, .int .i64 r1, .int .u64 r2]) [])
  | _ => false
abbrev FZ45 (SZ45 : TSZ45) : Fs := mkFs shFZ45 (spZ45 SZ45)

def shFZ68 : FnSh := ⟨[.int .i64, .int .u64, .int .i64], []⟩
def spZ68 (SZ68 : TSZ68) : List Atom -> (V -> List Blk -> Bool) -> Bool := fun a_ c_ => match a_ with
  | [.int exp, .int frac, .int most] => SZ68 exp frac most (fun r0 => c_ (.int .i64 r0) [])
  | _ => false
abbrev FZ68 (SZ68 : TSZ68) : Fs := mkFs shFZ68 (spZ68 SZ68)

def shFZ97 : FnSh := ⟨[.flt], []⟩
def spZ97 (SZ97 : TSZ97) : List Atom -> (V -> List Blk -> Bool) -> Bool := fun a_ c_ => match a_ with
  | [.fl x] => SZ97 x (fun r0 => c_ (.int .i64 r0) [])
  | _ => false
abbrev FZ97 (SZ97 : TSZ97) : Fs := mkFs shFZ97 (spZ97 SZ97)

def shFZ53 : FnSh := ⟨[.flt], []⟩
def spZ53 (SZ53 : TSZ53) : List Atom -> (V -> List Blk -> Bool) -> Bool := fun a_ c_ => match a_ with
  | [.fl x] => SZ53 x (fun r0 => c_ (.bool r0) [])
  | _ => false
abbrev FZ53 (SZ53 : TSZ53) : Fs := mkFs shFZ53 (spZ53 SZ53)

def shFZ46 : FnSh := ⟨[.rof], []⟩
def spZ46 (SZ46 : TSZ46) : List Atom -> (V -> List Blk -> Bool) -> Bool := fun a_ c_ => match a_ with
  | [.fls l] => SZ46 l (fun r0 => c_ (.bool r0) [])
  | _ => false
abbrev FZ46 (SZ46 : TSZ46) : Fs := mkFs shFZ46 (spZ46 SZ46)

def shFZ87 : FnSh := ⟨[.agg [.flt, .flt, .flt, .flt]], []⟩
def spZ87 (SZ87 : TSZ87) : List Atom -> (V -> List Blk -> Bool) -> Bool := fun a_ c_ => match a_ with
  | [.fl q_0, .fl q_1, .fl q_2, .fl q_3] => SZ87 q_0 q_1 q_2 q_3 (fun r0 => c_ (.bool r0) [])
  | _ => false
abbrev FZ87 (SZ87 : TSZ87) : Fs := mkFs shFZ87 (spZ87 SZ87)

def shFZ41 : FnSh := ⟨[], []⟩
def spZ41 (SZ41 : TSZ41) : List Atom -> (V -> List Blk -> Bool) -> Bool := fun a_ c_ => match a_ with
  | [] => SZ41 (fun r0 r1 => c_ (.agg [.ptr 0 0, .int .i64 r0]) [⟨91, 1, .cells [.bool r1, .nil]⟩])
  | _ => false
abbrev FZ41 (SZ41 : TSZ41) : Fs := mkFs shFZ41 (spZ41 SZ41)

def shFZ94 : FnSh := ⟨[.int .u64, .int .i64], []⟩
def spZ94 (SZ94 : TSZ94) : List Atom -> (V -> List Blk -> Bool) -> Bool := fun a_ c_ => match a_ with
  | [.int m, .int e] => SZ94 m e (fun r0 r1 => c_ (.tup [.int .u64 r0, .int .i64 r1]) [])
  | _ => false
abbrev FZ94 (SZ94 : TSZ94) : Fs := mkFs shFZ94 (spZ94 SZ94)

def shFZ88 : FnSh := ⟨[.flt], []⟩
def spZ88 (SZ88 : TSZ88) : List Atom -> (V -> List Blk -> Bool) -> Bool := fun a_ c_ => match a_ with
  | [.fl x] => SZ88 x (fun r0 r1 r2 r3 => c_ (.tup [.agg [.bool r0, .int .u64 r1, .int .i64 r2], .int .i64 r3]) [])
  | _ => false
abbrev FZ88 (SZ88 : TSZ88) : Fs := mkFs shFZ88 (spZ88 SZ88)

def shFZ7 : FnSh := ⟨[.slw 0], [some (213, 1, .ints .u32)]⟩
def spZ7 (SZ7 : TSZ7) : List Atom -> (V -> List Blk -> Bool) -> Bool := fun a_ c_ => match a_ with
  | [.ints b] => SZ7 b (fun r0 r1 => c_ (.sl 0 r0 r1) [⟨213, 1, .ints .u32 b⟩])
  | _ => false
abbrev FZ7 (SZ7 : TSZ7) : Fs := mkFs shFZ7 (spZ7 SZ7)

def shFZ71 : FnSh := ⟨[.int .u64], []⟩
def spZ71 (SZ71 : TSZ71) : List Atom -> (V -> List Blk -> Bool) -> Bool := fun a_ c_ => match a_ with
  | [.int n] => SZ71 n (fun r0 => c_ (.roi .u32 r0) [])
  | _ => false
abbrev FZ71 (SZ71 : TSZ71) : Fs := mkFs shFZ71 (spZ71 SZ71)

def shFZ118 : FnSh := ⟨[.roi .u32], []⟩
def spZ118 (SZ118 : TSZ118) : List Atom -> (V -> List Blk -> Bool) -> Bool := fun a_ c_ => match a_ with
  | [.ints m] => SZ118 m (fun r0 => c_ (.roi .u32 r0) [])
  | _ => false
abbrev FZ118 (SZ118 : TSZ118) : Fs := mkFs shFZ118 (spZ118 SZ118)

def shFZ14 : FnSh := ⟨[.ptr 0 0, .bool, .roi .u32], [some (91, 1, .cells [.bool, .nil])]⟩
def spZ14 (SZ14 : TSZ14) : List Atom -> (V -> List Blk -> Bool) -> Bool := fun a_ c_ => match a_ with
  | [.bool neg, .ints m, .bool b] => SZ14 neg m b (fun r0 r1 => c_ (.ptr 0 0) [⟨91, 1, .cells [.bool r0, .roi .u32 r1]⟩])
  | _ => false
abbrev FZ14 (SZ14 : TSZ14) : Fs := mkFs shFZ14 (spZ14 SZ14)

def shFZ24 : FnSh := ⟨[.ptr 0 0, .int .u64], [some (91, 1, .cells [.bool, .nil])]⟩
def spZ24 (SZ24 : TSZ24) : List Atom -> (V -> List Blk -> Bool) -> Bool := fun a_ c_ => match a_ with
  | [.int n, .bool b] => SZ24 n b (fun r0 r1 => c_ (.ptr 0 0) [⟨91, 1, .cells [.bool r0, .roi .u32 r1]⟩])
  | _ => false
abbrev FZ24 (SZ24 : TSZ24) : Fs := mkFs shFZ24 (spZ24 SZ24)

def shFZ69 : FnSh := ⟨[.ptr 0 0, .bool, .slw 1], [some (91, 1, .cells [.bool, .roi .u32]), some (213, 1, .ints .u32)]⟩
def spZ69 (SZ69 : TSZ69) : List Atom -> (V -> List Blk -> Bool) -> Bool := fun a_ c_ => match a_ with
  | [.bool neg, .bool b, .ints b_1, .ints b_2] => SZ69 neg b b_1 b_2 (fun r0 r1 r2 => c_ (.ptr 0 0) [⟨91, 1, .cells [.bool r0, .sl 1 r1 r2]⟩, ⟨213, 1, .ints .u32 b_2⟩])
  | _ => false
abbrev FZ69 (SZ69 : TSZ69) : Fs := mkFs shFZ69 (spZ69 SZ69)

def shFZ66 : FnSh := ⟨[.ptr 0 0, .ptr 0 0], [some (91, 1, .cells [.bool, .roi .u32])]⟩
def spZ66 (SZ66 : TSZ66) : List Atom -> (V -> List Blk -> Bool) -> Bool := fun a_ c_ => match a_ with
  | [.bool b, .ints b_1] => SZ66 b b_1 (fun r0 r1 => c_ (.ptr 0 0) [⟨91, 1, .cells [.bool r0, .roi .u32 r1]⟩])
  | _ => false
abbrev FZ66 (SZ66 : TSZ66) : Fs := mkFs shFZ66 (spZ66 SZ66)

def shFZ102 : FnSh := ⟨[.flt], []⟩
def spZ102 (SZ102 : TSZ102) : List Atom -> (V -> List Blk -> Bool) -> Bool := fun a_ c_ => match a_ with
  | [.fl x] => SZ102 x (fun r0 r1 r2 => c_ (.agg [.ptr 0 0, .int .i64 r0]) [⟨91, 1, .cells [.bool r1, .roi .u32 r2]⟩])
  | _ => false
abbrev FZ102 (SZ102 : TSZ102) : Fs := mkFs shFZ102 (spZ102 SZ102)

def shFZ60 : FnSh := ⟨[.roi .u32, .roi .u32], []⟩
def spZ60 (SZ60 : TSZ60) : List Atom -> (V -> List Blk -> Bool) -> Bool := fun a_ c_ => match a_ with
  | [.ints a, .ints b] => SZ60 a b (fun r0 => c_ (.roi .u32 r0) [])
  | _ => false
abbrev FZ60 (SZ60 : TSZ60) : Fs := mkFs shFZ60 (spZ60 SZ60)

def shFZ28 : FnSh := ⟨[.ptr 0 0, .ptr 1 0, .ptr 2 0], [some (91, 1, .cells [.bool, .nil]), some (91, 1, .cells [.bool, .roi .u32]), some (91, 1, .cells [.bool, .roi .u32])]⟩
def spZ28 (SZ28 : TSZ28) : List Atom -> (V -> List Blk -> Bool) -> Bool := fun a_ c_ => match a_ with
  | [.bool b, .bool b_1, .ints b_2, .bool b_3, .ints b_4] => SZ28 b b_1 b_2 b_3 b_4 (fun r0 r1 => c_ (.ptr 0 0) [⟨91, 1, .cells [.bool r0, .roi .u32 r1]⟩, ⟨91, 1, .cells [.bool b_1, .roi .u32 b_2]⟩, ⟨91, 1, .cells [.bool b_3, .roi .u32 b_4]⟩])
  | _ => false
abbrev FZ28 (SZ28 : TSZ28) : Fs := mkFs shFZ28 (spZ28 SZ28)

def shFZ1 : FnSh := ⟨[.agg [.ptr 0 0, .int .i64], .agg [.ptr 1 0, .int .i64]], [some (91, 1, .cells [.bool, .roi .u32]), some (91, 1, .cells [.bool, .roi .u32])]⟩
def spZ1 (SZ1 : TSZ1) : List Atom -> (V -> List Blk -> Bool) -> Bool := fun a_ c_ => match a_ with
  | [.int x, .int y, .bool b, .ints b_1, .bool b_2, .ints b_3] => SZ1 x y b b_1 b_2 b_3 (fun r0 r5 r6 => c_ (.agg [.ptr 2 0, .int .i64 r0]) [⟨91, 1, .cells [.bool b, .roi .u32 b_1]⟩, ⟨91, 1, .cells [.bool b_2, .roi .u32 b_3]⟩, ⟨91, 1, .cells [.bool r5, .roi .u32 r6]⟩])
  | _ => false
abbrev FZ1 (SZ1 : TSZ1) : Fs := mkFs shFZ1 (spZ1 SZ1)

def shFZ77 : FnSh := ⟨[.ptr 0 0], [some (91, 1, .cells [.bool, .nil])]⟩
def spZ77 (SZ77 : TSZ77) : List Atom -> (V -> List Blk -> Bool) -> Bool := fun a_ c_ => match a_ with
  | [.bool b] => SZ77 b (fun r0 r2 => c_ (.int .i64 r0) [⟨91, 1, .cells [.bool b, .roi .u32 r2]⟩])
  | _ => false
abbrev FZ77 (SZ77 : TSZ77) : Fs := mkFs shFZ77 (spZ77 SZ77)

def shFZ11 : FnSh := ⟨[.ptr 0 0], [some (91, 1, .cells [.bool, .roi .u32])]⟩
def spZ11 (SZ11 : TSZ11) : List Atom -> (V -> List Blk -> Bool) -> Bool := fun a_ c_ => match a_ with
  | [.bool b, .ints b_1] => SZ11 b b_1 (fun r0 => c_ (.int .i64 r0) [⟨91, 1, .cells [.bool b, .roi .u32 b_1]⟩])
  | _ => false
abbrev FZ11 (SZ11 : TSZ11) : Fs := mkFs shFZ11 (spZ11 SZ11)

def shFZ105 : FnSh := ⟨[.roi .u32, .int .u64], []⟩
def spZ105 (SZ105 : TSZ105) : List Atom -> (V -> List Blk -> Bool) -> Bool := fun a_ c_ => match a_ with
  | [.ints m, .int n] => SZ105 m n (fun r0 => c_ (.roi .u32 r0) [])
  | _ => false
abbrev FZ105 (SZ105 : TSZ105) : Fs := mkFs shFZ105 (spZ105 SZ105)

def shFZ51 : FnSh := ⟨[.ptr 0 0, .ptr 1 0, .int .u64], [some (91, 1, .cells [.bool, .nil]), some (91, 1, .cells [.bool, .roi .u32])]⟩
def spZ51 (SZ51 : TSZ51) : List Atom -> (V -> List Blk -> Bool) -> Bool := fun a_ c_ => match a_ with
  | [.int n, .bool b, .bool b_1, .ints b_2] => SZ51 n b b_1 b_2 (fun r0 r1 => c_ (.ptr 0 0) [⟨91, 1, .cells [.bool r0, .roi .u32 r1]⟩, ⟨91, 1, .cells [.bool b_1, .roi .u32 b_2]⟩])
  | _ => false
abbrev FZ51 (SZ51 : TSZ51) : Fs := mkFs shFZ51 (spZ51 SZ51)

def shFZ13 : FnSh := ⟨[.agg [.ptr 0 0, .int .i64], .int .i64], [some (91, 1, .cells [.bool, .roi .u32])]⟩
def spZ13 (SZ13 : TSZ13) : List Atom -> (V -> List Blk -> Bool) -> Bool := fun a_ c_ => match a_ with
  | [.int x, .int e, .bool b, .ints b_1] => SZ13 x e b b_1 (c_ (.agg [.ptr 0 0, .int .i64 x]) [⟨91, 1, .cells [.bool b, .roi .u32 b_1]⟩]) (fun r3 r4 => c_ (.agg [.ptr 1 0, .int .i64 e]) [⟨91, 1, .cells [.bool b, .roi .u32 b_1]⟩, ⟨91, 1, .cells [.bool r3, .roi .u32 r4]⟩])
  | _ => false
abbrev FZ13 (SZ13 : TSZ13) : Fs := mkFs shFZ13 (spZ13 SZ13)

def shFZ106 : FnSh := ⟨[.roi .u32, .roi .u32], []⟩
def spZ106 (SZ106 : TSZ106) : List Atom -> (V -> List Blk -> Bool) -> Bool := fun a_ c_ => match a_ with
  | [.ints a, .ints b] => SZ106 a b (fun r0 => c_ (.roi .u32 r0) [])
  | _ => false
abbrev FZ106 (SZ106 : TSZ106) : Fs := mkFs shFZ106 (spZ106 SZ106)

def shFZ70 : FnSh := ⟨[.roi .u32, .roi .u32], []⟩
def spZ70 (SZ70 : TSZ70) : List Atom -> (V -> List Blk -> Bool) -> Bool := fun a_ c_ => match a_ with
  | [.ints a, .ints b] => SZ70 a b (fun r0 => c_ (.int .i64 r0) [])
  | _ => false
abbrev FZ70 (SZ70 : TSZ70) : Fs := mkFs shFZ70 (spZ70 SZ70)

def shFZ89 : FnSh := ⟨[.roi .u32, .roi .u32], []⟩
def spZ89 (SZ89 : TSZ89) : List Atom -> (V -> List Blk -> Bool) -> Bool := fun a_ c_ => match a_ with
  | [.ints a, .ints b] => SZ89 a b (fun r0 => c_ (.roi .u32 r0) [])
  | _ => false
abbrev FZ89 (SZ89 : TSZ89) : Fs := mkFs shFZ89 (spZ89 SZ89)

def shFZ29 : FnSh := ⟨[.ptr 0 0, .ptr 1 0, .ptr 2 0, .bool], [some (91, 1, .cells [.bool, .nil]), some (91, 1, .cells [.bool, .roi .u32]), some (91, 1, .cells [.bool, .roi .u32])]⟩
def spZ29 (SZ29 : TSZ29) : List Atom -> (V -> List Blk -> Bool) -> Bool := fun a_ c_ => match a_ with
  | [.bool turn, .bool b, .bool b_1, .ints b_2, .bool b_3, .ints b_4] => SZ29 turn b b_1 b_2 b_3 b_4 (fun r0 r1 => c_ (.ptr 0 0) [⟨91, 1, .cells [.bool r0, .roi .u32 r1]⟩, ⟨91, 1, .cells [.bool b_1, .roi .u32 b_2]⟩, ⟨91, 1, .cells [.bool b_3, .roi .u32 b_4]⟩])
  | _ => false
abbrev FZ29 (SZ29 : TSZ29) : Fs := mkFs shFZ29 (spZ29 SZ29)

def shFZ16 : FnSh := ⟨[.ptr 0 0, .ptr 1 0, .ptr 2 0], [some (91, 1, .cells [.bool, .nil]), some (91, 1, .cells [.bool, .roi .u32]), some (91, 1, .cells [.bool, .roi .u32])]⟩
def spZ16 (SZ16 : TSZ16) : List Atom -> (V -> List Blk -> Bool) -> Bool := fun a_ c_ => match a_ with
  | [.bool b, .bool b_1, .ints b_2, .bool b_3, .ints b_4] => SZ16 b b_1 b_2 b_3 b_4 (fun r0 r1 => c_ (.ptr 0 0) [⟨91, 1, .cells [.bool r0, .roi .u32 r1]⟩, ⟨91, 1, .cells [.bool b_1, .roi .u32 b_2]⟩, ⟨91, 1, .cells [.bool b_3, .roi .u32 b_4]⟩])
  | _ => false
abbrev FZ16 (SZ16 : TSZ16) : Fs := mkFs shFZ16 (spZ16 SZ16)

def shFZ2 : FnSh := ⟨[.agg [.ptr 0 0, .int .i64], .agg [.ptr 1 0, .int .i64]], [some (91, 1, .cells [.bool, .nil]), some (91, 1, .cells [.bool, .roi .u32])]⟩
def spZ2 (SZ2 : TSZ2) : List Atom -> (V -> List Blk -> Bool) -> Bool := fun a_ c_ => match a_ with
  | [.int x, .int y, .bool b, .bool b_1, .ints b_2] => SZ2 x y b b_1 b_2 (fun r2 => c_ (.agg [.ptr 1 0, .int .i64 y]) [⟨91, 1, .cells [.bool b, .roi .u32 r2]⟩, ⟨91, 1, .cells [.bool b_1, .roi .u32 b_2]⟩]) (fun r2 => c_ (.agg [.ptr 0 0, .int .i64 x]) [⟨91, 1, .cells [.bool b, .roi .u32 r2]⟩, ⟨91, 1, .cells [.bool b_1, .roi .u32 b_2]⟩]) (fun r0 r2 r5 r6 => c_ (.agg [.ptr 2 0, .int .i64 r0]) [⟨91, 1, .cells [.bool b, .roi .u32 r2]⟩, ⟨91, 1, .cells [.bool b_1, .roi .u32 b_2]⟩, ⟨91, 1, .cells [.bool r5, .roi .u32 r6]⟩])
  | _ => false
abbrev FZ2 (SZ2 : TSZ2) : Fs := mkFs shFZ2 (spZ2 SZ2)

def shFZ0 : FnSh := ⟨[.agg [.ptr 0 0, .int .i64], .agg [.ptr 1 0, .int .i64]], [some (91, 1, .cells [.bool, .roi .u32]), some (91, 1, .cells [.bool, .roi .u32])]⟩
def spZ0 (SZ0 : TSZ0) : List Atom -> (V -> List Blk -> Bool) -> Bool := fun a_ c_ => match a_ with
  | [.int x, .int y, .bool b, .ints b_1, .bool b_2, .ints b_3] => SZ0 x y b b_1 b_2 b_3 (c_ (.agg [.ptr 1 0, .int .i64 y]) [⟨91, 1, .cells [.bool b, .roi .u32 b_1]⟩, ⟨91, 1, .cells [.bool b_2, .roi .u32 b_3]⟩]) (c_ (.agg [.ptr 0 0, .int .i64 x]) [⟨91, 1, .cells [.bool b, .roi .u32 b_1]⟩, ⟨91, 1, .cells [.bool b_2, .roi .u32 b_3]⟩]) (fun r0 r5 r6 => c_ (.agg [.ptr 2 0, .int .i64 r0]) [⟨91, 1, .cells [.bool b, .roi .u32 b_1]⟩, ⟨91, 1, .cells [.bool b_2, .roi .u32 b_3]⟩, ⟨91, 1, .cells [.bool r5, .roi .u32 r6]⟩])
  | _ => false
abbrev FZ0 (SZ0 : TSZ0) : Fs := mkFs shFZ0 (spZ0 SZ0)

def shFZ119 : FnSh := ⟨[.rof, .rof], []⟩
def spZ119 (SZ119 : TSZ119) : List Atom -> (V -> List Blk -> Bool) -> Bool := fun a_ c_ => match a_ with
  | [.fls a, .fls b] => SZ119 a b (fun r0 r1 r2 => c_ (.agg [.ptr 0 0, .int .i64 r0]) [⟨91, 1, .cells [.bool r1, .roi .u32 r2]⟩])
  | _ => false
abbrev FZ119 (SZ119 : TSZ119) : Fs := mkFs shFZ119 (spZ119 SZ119)

def shFZ36 : FnSh := ⟨[.ptr 0 0, .int .i64], [some (91, 1, .cells [.bool, .nil])]⟩
def spZ36 (SZ36 : TSZ36) : List Atom -> (V -> List Blk -> Bool) -> Bool := fun a_ c_ => match a_ with
  | [.int n, .bool b] => SZ36 n b (fun r0 r1 => c_ (.ptr 0 0) [⟨91, 1, .cells [.bool r0, .roi .u32 r1]⟩])
  | _ => false
abbrev FZ36 (SZ36 : TSZ36) : Fs := mkFs shFZ36 (spZ36 SZ36)

def shFZ47 : FnSh := ⟨[.int .i64], []⟩
def spZ47 (SZ47 : TSZ47) : List Atom -> (V -> List Blk -> Bool) -> Bool := fun a_ c_ => match a_ with
  | [.int n] => SZ47 n (fun r0 r1 => c_ (.ptr 0 0) [⟨91, 1, .cells [.bool r0, .roi .u32 r1]⟩])
  | _ => false
abbrev FZ47 (SZ47 : TSZ47) : Fs := mkFs shFZ47 (spZ47 SZ47)

def shFZ98 : FnSh := ⟨[.int .i64], []⟩
def spZ98 (SZ98 : TSZ98) : List Atom -> (V -> List Blk -> Bool) -> Bool := fun a_ c_ => match a_ with
  | [.int n] => SZ98 n (fun r0 r1 r2 => c_ (.agg [.ptr 0 0, .int .i64 r0]) [⟨91, 1, .cells [.bool r1, .roi .u32 r2]⟩])
  | _ => false
abbrev FZ98 (SZ98 : TSZ98) : Fs := mkFs shFZ98 (spZ98 SZ98)

def shFZ32 : FnSh := ⟨[.ptr 0 0, .bool, .slw 1], [some (91, 1, .cells [.bool, .nil]), some (213, 1, .ints .u32)]⟩
def spZ32 (SZ32 : TSZ32) : List Atom -> (V -> List Blk -> Bool) -> Bool := fun a_ c_ => match a_ with
  | [.bool neg, .bool b, .ints b_1] => SZ32 neg b b_1 (fun r0 r1 r2 => c_ (.ptr 0 0) [⟨91, 1, .cells [.bool r0, .sl 1 r1 r2]⟩, ⟨213, 1, .ints .u32 b_1⟩])
  | _ => false
abbrev FZ32 (SZ32 : TSZ32) : Fs := mkFs shFZ32 (spZ32 SZ32)

def shFZ50 : FnSh := ⟨[.ptr 0 0, .ptr 1 0], [some (91, 1, .cells [.bool, .nil]), some (91, 1, .cells [.bool, .roi .u32])]⟩
def spZ50 (SZ50 : TSZ50) : List Atom -> (V -> List Blk -> Bool) -> Bool := fun a_ c_ => match a_ with
  | [.bool b, .bool b_1, .ints b_2] => SZ50 b b_1 b_2 (fun r0 r1 => c_ (.ptr 0 0) [⟨91, 1, .cells [.bool r0, .roi .u32 r1]⟩, ⟨91, 1, .cells [.bool b_1, .roi .u32 b_2]⟩])
  | _ => false
abbrev FZ50 (SZ50 : TSZ50) : Fs := mkFs shFZ50 (spZ50 SZ50)

def shFZ20 : FnSh := ⟨[.agg [.ptr 0 0, .int .i64]], [some (91, 1, .cells [.bool, .roi .u32])]⟩
def spZ20 (SZ20 : TSZ20) : List Atom -> (V -> List Blk -> Bool) -> Bool := fun a_ c_ => match a_ with
  | [.int x, .bool b, .ints b_1] => SZ20 x b b_1 (fun r3 r4 => c_ (.agg [.ptr 1 0, .int .i64 x]) [⟨91, 1, .cells [.bool b, .roi .u32 b_1]⟩, ⟨91, 1, .cells [.bool r3, .roi .u32 r4]⟩])
  | _ => false
abbrev FZ20 (SZ20 : TSZ20) : Fs := mkFs shFZ20 (spZ20 SZ20)

def shFZ76 : FnSh := ⟨[.agg [.flt, .flt, .flt, .flt]], []⟩
def spZ76 (SZ76 : TSZ76) : List Atom -> (V -> List Blk -> Bool) -> Bool := fun a_ c_ => match a_ with
  | [.fl q_0, .fl q_1, .fl q_2, .fl q_3] => SZ76 q_0 q_1 q_2 q_3 (fun r0 r1 r2 => c_ (.agg [.ptr 0 0, .int .i64 r0]) [⟨91, 1, .cells [.bool r1, .roi .u32 r2]⟩])
  | _ => false
abbrev FZ76 (SZ76 : TSZ76) : Fs := mkFs shFZ76 (spZ76 SZ76)

def shFZ23 : FnSh := ⟨[.int .i64], []⟩
def spZ23 (SZ23 : TSZ23) : List Atom -> (V -> List Blk -> Bool) -> Bool := fun a_ c_ => match a_ with
  | [.int e] => SZ23 e (fun r1 r2 => c_ (.agg [.ptr 0 0, .int .i64 e]) [⟨91, 1, .cells [.bool r1, .roi .u32 r2]⟩])
  | _ => false
abbrev FZ23 (SZ23 : TSZ23) : Fs := mkFs shFZ23 (spZ23 SZ23)

def shFZ52 : FnSh := ⟨[.ptr 0 0, .ptr 1 0], [some (91, 1, .cells [.bool, .nil]), some (91, 1, .cells [.bool, .roi .u32])]⟩
def spZ52 (SZ52 : TSZ52) : List Atom -> (V -> List Blk -> Bool) -> Bool := fun a_ c_ => match a_ with
  | [.bool b, .bool b_1, .ints b_2] => SZ52 b b_1 b_2 (fun r0 r1 => c_ (.ptr 0 0) [⟨91, 1, .cells [.bool r0, .roi .u32 r1]⟩, ⟨91, 1, .cells [.bool b_1, .roi .u32 b_2]⟩])
  | _ => false
abbrev FZ52 (SZ52 : TSZ52) : Fs := mkFs shFZ52 (spZ52 SZ52)

def shFZ6 : FnSh := ⟨[.agg [.ptr 0 0, .int .i64]], [some (91, 1, .cells [.bool, .roi .u32])]⟩
def spZ6 (SZ6 : TSZ6) : List Atom -> (V -> List Blk -> Bool) -> Bool := fun a_ c_ => match a_ with
  | [.int x, .bool b, .ints b_1] => SZ6 x b b_1 (fun r3 r4 => c_ (.agg [.ptr 1 0, .int .i64 x]) [⟨91, 1, .cells [.bool b, .roi .u32 b_1]⟩, ⟨91, 1, .cells [.bool r3, .roi .u32 r4]⟩])
  | _ => false
abbrev FZ6 (SZ6 : TSZ6) : Fs := mkFs shFZ6 (spZ6 SZ6)

def shFZ4 : FnSh := ⟨[.agg [.ptr 0 0, .int .i64], .agg [.ptr 1 0, .int .i64]], [some (91, 1, .cells [.bool, .roi .u32]), some (91, 1, .cells [.bool, .roi .u32])]⟩
def spZ4 (SZ4 : TSZ4) : List Atom -> (V -> List Blk -> Bool) -> Bool := fun a_ c_ => match a_ with
  | [.int x, .int y, .bool b, .ints b_1, .bool b_2, .ints b_3] => SZ4 x y b b_1 b_2 b_3 (fun r0 => c_ (.int .i64 r0) [⟨91, 1, .cells [.bool b, .roi .u32 b_1]⟩, ⟨91, 1, .cells [.bool b_2, .roi .u32 b_3]⟩])
  | _ => false
abbrev FZ4 (SZ4 : TSZ4) : Fs := mkFs shFZ4 (spZ4 SZ4)

def shFZ63 : FnSh := ⟨[.agg [.flt, .flt, .flt, .flt]], []⟩
def spZ63 (SZ63 : TSZ63) : List Atom -> (V -> List Blk -> Bool) -> Bool := fun a_ c_ => match a_ with
  | [.fl q_0, .fl q_1, .fl q_2, .fl q_3] => SZ63 q_0 q_1 q_2 q_3 (fun r0 => c_ (.bool r0) [])
  | _ => false
abbrev FZ63 (SZ63 : TSZ63) : Fs := mkFs shFZ63 (spZ63 SZ63)

def shF_m_Abs : FnSh := ⟨[.flt], []⟩
def sp_m_Abs (S_m_Abs : TS_m_Abs) : List Atom -> (V -> List Blk -> Bool) -> Bool := fun a_ c_ => match a_ with
  | [.fl x] => S_m_Abs x (fun r0 => c_ (.flt r0) [])
  | _ => false
abbrev F_m_Abs (S_m_Abs : TS_m_Abs) : Fs := mkFs shF_m_Abs (sp_m_Abs S_m_Abs)

def shFZ62 : FnSh := ⟨[.flt, .int .i64], []⟩
def spZ62 (SZ62 : TSZ62) : List Atom -> (V -> List Blk -> Bool) -> Bool := fun a_ c_ => match a_ with
  | [.fl f, .int sign] => SZ62 f sign (fun r0 => c_ (.bool r0) [])
  | _ => false
abbrev FZ62 (SZ62 : TSZ62) : Fs := mkFs shFZ62 (spZ62 SZ62)

def shFZ84 : FnSh := ⟨[.flt], []⟩
def spZ84 (SZ84 : TSZ84) : List Atom -> (V -> List Blk -> Bool) -> Bool := fun a_ c_ => match a_ with
  | [.fl f] => SZ84 f (fun r0 => c_ (.bool r0) [])
  | _ => false
abbrev FZ84 (SZ84 : TSZ84) : Fs := mkFs shFZ84 (spZ84 SZ84)

def shFZ21 : FnSh := ⟨[.flt], []⟩
def spZ21 (SZ21 : TSZ21) : List Atom -> (V -> List Blk -> Bool) -> Bool := fun a_ c_ => match a_ with
  | [.fl x] => SZ21 x (fun r0 r1 => c_ (.tup [.flt r0, .int .i64 r1]) [])
  | _ => false
abbrev FZ21 (SZ21 : TSZ21) : Fs := mkFs shFZ21 (spZ21 SZ21)

def shFZ56 : FnSh := ⟨[.flt, .flt], []⟩
def spZ56 (SZ56 : TSZ56) : List Atom -> (V -> List Blk -> Bool) -> Bool := fun a_ c_ => match a_ with
  | [.fl f, .fl sign] => SZ56 f sign (fun r0 => c_ (.flt r0) [])
  | _ => false
abbrev FZ56 (SZ56 : TSZ56) : Fs := mkFs shFZ56 (spZ56 SZ56)

def shF_m_Inf : FnSh := ⟨[.int .i64], []⟩
def sp_m_Inf (S_m_Inf : TS_m_Inf) : List Atom -> (V -> List Blk -> Bool) -> Bool := fun a_ c_ => match a_ with
  | [.int sign] => S_m_Inf sign (fun r0 => c_ (.flt r0) [])
  | _ => false
abbrev F_m_Inf (S_m_Inf : TS_m_Inf) : Fs := mkFs shF_m_Inf (sp_m_Inf S_m_Inf)

def shFZ115 : FnSh := ⟨[.flt, .int .i64], []⟩
def spZ115 (SZ115 : TSZ115) : List Atom -> (V -> List Blk -> Bool) -> Bool := fun a_ c_ => match a_ with
  | [.fl frac, .int exp] => SZ115 frac exp (fun r0 => c_ (.flt r0) [])
  | _ => false
abbrev FZ115 (SZ115 : TSZ115) : Fs := mkFs shFZ115 (spZ115 SZ115)

def shFZ19 : FnSh := ⟨[.flt, .int .i64], []⟩
def spZ19 (SZ19 : TSZ19) : List Atom -> (V -> List Blk -> Bool) -> Bool := fun a_ c_ => match a_ with
  | [.fl frac, .int exp] => SZ19 frac exp (fun r0 => c_ (.flt r0) [])
  | _ => false
abbrev FZ19 (SZ19 : TSZ19) : Fs := mkFs shFZ19 (spZ19 SZ19)

def shFZ65 : FnSh := ⟨[.agg [.flt, .flt, .flt]], []⟩
def spZ65 (SZ65 : TSZ65) : List Atom -> (V -> List Blk -> Bool) -> Bool := fun a_ c_ => match a_ with
  | [.fl v_0, .fl v_1, .fl v_2] => SZ65 v_0 v_1 v_2 (fun r0 => c_ (.bool r0) [])
  | _ => false
abbrev FZ65 (SZ65 : TSZ65) : Fs := mkFs shFZ65 (spZ65 SZ65)

def shFZ8 : FnSh := ⟨[.rof], []⟩
def spZ8 (SZ8 : TSZ8) : List Atom -> (V -> List Blk -> Bool) -> Bool := fun a_ c_ => match a_ with
  | [.fls l] => SZ8 l (fun r0 => c_ (.bool r0) [])
  | _ => false
abbrev FZ8 (SZ8 : TSZ8) : Fs := mkFs shFZ8 (spZ8 SZ8)

def shFZ15 : FnSh := ⟨[.ro 4 [.flt, .flt, .flt, .flt]], []⟩
def spZ15 (SZ15 : TSZ15) : List Atom -> (V -> List Blk -> Bool) -> Bool := fun a_ c_ => match a_ with
  | [.fl qs_0, .fl qs_1, .fl qs_2, .fl qs_3] => SZ15 qs_0 qs_1 qs_2 qs_3 (fun r0 => c_ (.bool r0) [])
  | _ => false
abbrev FZ15 (SZ15 : TSZ15) : Fs := mkFs shFZ15 (spZ15 SZ15)

def shFZ91 : FnSh := ⟨[.agg [.flt, .flt, .flt, .flt]], []⟩
def spZ91 (SZ91 : TSZ91) : List Atom -> (V -> List Blk -> Bool) -> Bool := fun a_ c_ => match a_ with
  | [.fl q_0, .fl q_1, .fl q_2, .fl q_3] => SZ91 q_0 q_1 q_2 q_3 (c_ (.agg [.flt q_0, .flt q_1, .flt q_2, .flt q_3]) [])
  | _ => false
abbrev FZ91 (SZ91 : TSZ91) : Fs := mkFs shFZ91 (spZ91 SZ91)

def shFZ121 : FnSh := ⟨[.flt], []⟩
def spZ121 (SZ121 : TSZ121) : List Atom -> (V -> List Blk -> Bool) -> Bool := fun a_ c_ => match a_ with
  | [.fl f] => SZ121 f (fun r0 r1 => c_ (.tup [.flt r0, .int .i64 r1]) [])
  | _ => false
abbrev FZ121 (SZ121 : TSZ121) : Fs := mkFs shFZ121 (spZ121 SZ121)

def shFZ74 : FnSh := ⟨[.flt], []⟩
def spZ74 (SZ74 : TSZ74) : List Atom -> (V -> List Blk -> Bool) -> Bool := fun a_ c_ => match a_ with
  | [.fl f] => SZ74 f (fun r0 r1 => c_ (.tup [.flt r0, .int .i64 r1]) [])
  | _ => false
abbrev FZ74 (SZ74 : TSZ74) : Fs := mkFs shFZ74 (spZ74 SZ74)

def shFZ130 : FnSh := ⟨[.flt], []⟩
def spZ130 (SZ130 : TSZ130) : List Atom -> (V -> List Blk -> Bool) -> Bool := fun a_ c_ => match a_ with
  | [.fl a0] => SZ130 a0 (fun r0 => c_ (.flt r0) [])
  | _ => false
abbrev FZ130 (SZ130 : TSZ130) : Fs := mkFs shFZ130 (spZ130 SZ130)

def shFZ103 : FnSh := ⟨[.flt], []⟩
def spZ103 (SZ103 : TSZ103) : List Atom -> (V -> List Blk -> Bool) -> Bool := fun a_ c_ => match a_ with
  | [.fl x] => SZ103 x (fun r0 => c_ (.flt r0) [])
  | _ => false
abbrev FZ103 (SZ103 : TSZ103) : Fs := mkFs shFZ103 (spZ103 SZ103)

def shFZ96 : FnSh := ⟨[.agg [.flt, .flt, .flt, .flt]], []⟩
def spZ96 (SZ96 : TSZ96) : List Atom -> (V -> List Blk -> Bool) -> Bool := fun a_ c_ => match a_ with
  | [.fl l_0, .fl l_1, .fl l_2, .fl l_3] => SZ96 l_0 l_1 l_2 l_3 (c_ (.agg [.flt l_0, .flt l_1, .flt l_2, .flt l_3]) [])
  | _ => false
abbrev FZ96 (SZ96 : TSZ96) : Fs := mkFs shFZ96 (spZ96 SZ96)

def shFZ34 : FnSh := ⟨[.agg [.flt, .flt, .flt, .flt]], []⟩
def spZ34 (SZ34 : TSZ34) : List Atom -> (V -> List Blk -> Bool) -> Bool := fun a_ c_ => match a_ with
  | [.fl q_0, .fl q_1, .fl q_2, .fl q_3] => SZ34 q_0 q_1 q_2 q_3 (fun r0 r1 r2 r3 r4 => c_ (.tup [.agg [.flt r0, .flt r1, .flt r2, .flt r3], .int .i64 r4]) [])
  | _ => false
abbrev FZ34 (SZ34 : TSZ34) : Fs := mkFs shFZ34 (spZ34 SZ34)

def shFZ93 : FnSh := ⟨[.flt], []⟩
def spZ93 (SZ93 : TSZ93) : List Atom -> (V -> List Blk -> Bool) -> Bool := fun a_ c_ => match a_ with
  | [.fl x] => SZ93 x (fun r0 => c_ (.int .i64 r0) [])
  | _ => false
abbrev FZ93 (SZ93 : TSZ93) : Fs := mkFs shFZ93 (spZ93 SZ93)

def shFZ17 : FnSh := ⟨[.rof], []⟩
def spZ17 (SZ17 : TSZ17) : List Atom -> (V -> List Blk -> Bool) -> Bool := fun a_ c_ => match a_ with
  | [.fls l] => SZ17 l (fun r0 => c_ (.bool r0) [])
  | _ => false
abbrev FZ17 (SZ17 : TSZ17) : Fs := mkFs shFZ17 (spZ17 SZ17)

def shFZ80 : FnSh := ⟨[.rof], []⟩
def spZ80 (SZ80 : TSZ80) : List Atom -> (V -> List Blk -> Bool) -> Bool := fun a_ c_ => match a_ with
  | [.fls x] => SZ80 x (fun r0 => c_ (.int .i64 r0) [])
  | _ => false
abbrev FZ80 (SZ80 : TSZ80) : Fs := mkFs shFZ80 (spZ80 SZ80)

def shFZ10 : FnSh := ⟨[.int .i64, .int .i64, .ptr 0 0], [some (29, 1, .cells [.rof])]⟩
def spZ10 (SZ10 : TSZ10) : List Atom -> (V -> List Blk -> Bool) -> Bool := fun a_ c_ => match a_ with
  | [.int i, .int j, .fls b] => SZ10 i j b (fun r0 => c_ (.flt r0) [⟨29, 1, .cells [.rof b]⟩])
  | _ => false
abbrev FZ10 (SZ10 : TSZ10) : Fs := mkFs shFZ10 (spZ10 SZ10)

def shFZ35 : FnSh := ⟨[.int .i64, .int .i64, .fn 199 [.ptr 0 0]], [some (29, 1, .cells [.rof])]⟩
def spZ35 (SZ35 : TSZ35) : List Atom -> (V -> List Blk -> Bool) -> Bool := fun a_ c_ => match a_ with
  | [.int rows, .int cols, .fls b] => SZ35 rows cols b (fun r3 => c_ (.agg [.int .i64 rows, .int .i64 cols, .slw 1]) [⟨29, 1, .cells [.rof b]⟩, ⟨25, 1, .flts r3⟩])
  | _ => false
abbrev FZ35 (SZ35 : TSZ35) : Fs := mkFs shFZ35 (spZ35 SZ35)

def shFZ79 : FnSh := ⟨[.rof], []⟩
def spZ79 (SZ79 : TSZ79) : List Atom -> (V -> List Blk -> Bool) -> Bool := fun a_ c_ => match a_ with
  | [.fls d] => SZ79 d (fun r0 r1 r2 => c_ (.tup [.agg [.int .i64 r0, .int .i64 r1, .nil], .int .i64 r2]) []) (fun r0 r1 r2 r3 => c_ (.tup [.agg [.int .i64 r0, .int .i64 r1, .slw 0], .int .i64 r2]) [⟨25, 1, .flts r3⟩])
  | _ => false
abbrev FZ79 (SZ79 : TSZ79) : Fs := mkFs shFZ79 (spZ79 SZ79)

def shFZ101 : FnSh := ⟨[.flt, .flt], []⟩
def spZ101 (SZ101 : TSZ101) : List Atom -> (V -> List Blk -> Bool) -> Bool := fun a_ c_ => match a_ with
  | [.fl a, .fl b] => SZ101 a b (fun r0 r1 r2 => c_ (.tup [.agg [.int .i64 r0, .int .i64 r1, .nil], .int .i64 r2]) []) (fun r0 r1 r2 r3 => c_ (.tup [.agg [.int .i64 r0, .int .i64 r1, .slw 0], .int .i64 r2]) [⟨25, 1, .flts r3⟩])
  | _ => false
abbrev FZ101 (SZ101 : TSZ101) : Fs := mkFs shFZ101 (spZ101 SZ101)

def shFZ114 : FnSh := ⟨[.agg [.flt, .flt, .flt, .flt], .flt, .flt], []⟩
def spZ114 (SZ114 : TSZ114) : List Atom -> (V -> List Blk -> Bool) -> Bool := fun a_ c_ => match a_ with
  | [.fl q_0, .fl q_1, .fl q_2, .fl q_3, .fl turn, .fl bias] => SZ114 q_0 q_1 q_2 q_3 turn bias (fun r0 r1 r2 r3 r4 r5 r6 r7 r8 r9 => c_ (.tup [.agg [.flt r0, .flt r1, .flt r2, .flt r3, .flt r4, .flt r5, .flt r6, .int .i64 r7, .int .i64 r8, .nil], .int .i64 r9]) []) (fun r0 r1 r2 r3 r4 r5 r6 r7 r8 r9 r10 => c_ (.tup [.agg [.flt r0, .flt r1, .flt r2, .flt r3, .flt r4, .flt r5, .flt r6, .int .i64 r7, .int .i64 r8, .slw 0], .int .i64 r9]) [⟨25, 1, .flts r10⟩])
  | _ => false
abbrev FZ114 (SZ114 : TSZ114) : Fs := mkFs shFZ114 (spZ114 SZ114)

def shFZ123 : FnSh := ⟨[.agg [.flt, .flt, .flt]], []⟩
def spZ123 (SZ123 : TSZ123) : List Atom -> (V -> List Blk -> Bool) -> Bool := fun a_ c_ => match a_ with
  | [.fl v_0, .fl v_1, .fl v_2] => SZ123 v_0 v_1 v_2 (fun r0 r1 r2 => c_ (.tup [.agg [.int .i64 r0, .int .i64 r1, .nil], .int .i64 r2]) []) (fun r0 r1 r2 r3 => c_ (.tup [.agg [.int .i64 r0, .int .i64 r1, .slw 0], .int .i64 r2]) [⟨25, 1, .flts r3⟩])
  | _ => false
abbrev FZ123 (SZ123 : TSZ123) : Fs := mkFs shFZ123 (spZ123 SZ123)

def shFZ99 : FnSh := ⟨[.rof, .rof], []⟩
def spZ99 (SZ99 : TSZ99) : List Atom -> (V -> List Blk -> Bool) -> Bool := fun a_ c_ => match a_ with
  | [.fls a, .fls b] => SZ99 a b (fun r0 => c_ (.bool r0) [])
  | _ => false
abbrev FZ99 (SZ99 : TSZ99) : Fs := mkFs shFZ99 (spZ99 SZ99)

def shFZ109 : FnSh := ⟨[.agg [.flt, .flt, .flt, .flt], .agg [.flt, .flt, .flt, .flt]], []⟩
def spZ109 (SZ109 : TSZ109) : List Atom -> (V -> List Blk -> Bool) -> Bool := fun a_ c_ => match a_ with
  | [.fl a_0, .fl a_1, .fl a_2, .fl a_3, .fl b_0, .fl b_1, .fl b_2, .fl b_3] => SZ109 a_0 a_1 a_2 a_3 b_0 b_1 b_2 b_3 (fun r0 => c_ (.bool r0) [])
  | _ => false
abbrev FZ109 (SZ109 : TSZ109) : Fs := mkFs shFZ109 (spZ109 SZ109)

def shFZ55 : FnSh := ⟨[], []⟩
def spZ55 (SZ55 : TSZ55) : List Atom -> (V -> List Blk -> Bool) -> Bool := fun a_ c_ => match a_ with
  | [] => SZ55 (fun r0 => c_ (.bool r0) [])
  | _ => false
abbrev FZ55 (SZ55 : TSZ55) : Fs := mkFs shFZ55 (spZ55 SZ55)

def shFZ67 : FnSh := ⟨[.agg [.flt, .flt, .flt]], []⟩
def spZ67 (SZ67 : TSZ67) : List Atom -> (V -> List Blk -> Bool) -> Bool := fun a_ c_ => match a_ with
  | [.fl v_0, .fl v_1, .fl v_2] => SZ67 v_0 v_1 v_2 (fun r0 r1 r2 r3 r4 r5 r6 r7 r8 => c_ (.slw 0) [⟨42, 2, .cells [.ptr 1 0, .int .i64 r0, .ptr 2 0, .int .i64 r1, .ptr 3 0, .int .i64 r2]⟩, ⟨91, 1, .cells [.bool r3, .roi .u32 r4]⟩, ⟨91, 1, .cells [.bool r5, .roi .u32 r6]⟩, ⟨91, 1, .cells [.bool r7, .roi .u32 r8]⟩])
  | _ => false
abbrev FZ67 (SZ67 : TSZ67) : Fs := mkFs shFZ67 (spZ67 SZ67)

def shFZ40 : FnSh := ⟨[.ptr 0 0, .ptr 1 0, .ptr 1 0], [some (91, 1, .cells [.bool, .nil]), some (91, 1, .cells [.bool, .roi .u32])]⟩
def spZ40 (SZ40 : TSZ40) : List Atom -> (V -> List Blk -> Bool) -> Bool := fun a_ c_ => match a_ with
  | [.bool b, .bool b_1, .ints b_2] => SZ40 b b_1 b_2 (fun r0 r1 => c_ (.ptr 0 0) [⟨91, 1, .cells [.bool r0, .roi .u32 r1]⟩, ⟨91, 1, .cells [.bool b_1, .roi .u32 b_2]⟩])
  | _ => false
abbrev FZ40 (SZ40 : TSZ40) : Fs := mkFs shFZ40 (spZ40 SZ40)

def shFZ5 : FnSh := ⟨[.agg [.ptr 0 0, .int .i64], .agg [.ptr 0 0, .int .i64]], [some (91, 1, .cells [.bool, .roi .u32])]⟩
def spZ5 (SZ5 : TSZ5) : List Atom -> (V -> List Blk -> Bool) -> Bool := fun a_ c_ => match a_ with
  | [.int x, .int y, .bool b, .ints b_1] => SZ5 x y b b_1 (fun r0 r3 r4 => c_ (.agg [.ptr 1 0, .int .i64 r0]) [⟨91, 1, .cells [.bool b, .roi .u32 b_1]⟩, ⟨91, 1, .cells [.bool r3, .roi .u32 r4]⟩])
  | _ => false
abbrev FZ5 (SZ5 : TSZ5) : Fs := mkFs shFZ5 (spZ5 SZ5)

def shFZ9 : FnSh := ⟨[.slw 0, .slw 0], [some (42, 2, .cells [.ptr 1 0, .int .i64, .ptr 2 0, .int .i64, .ptr 3 0, .int .i64]), some (91, 1, .cells [.bool, .roi .u32]), some (91, 1, .cells [.bool, .roi .u32]), some (91, 1, .cells [.bool, .roi .u32])]⟩
def spZ9 (SZ9 : TSZ9) : List Atom -> (V -> List Blk -> Bool) -> Bool := fun a_ c_ => match a_ with
  | [.int b, .int b_1, .int b_2, .bool b_3, .ints b_4, .bool b_5, .ints b_6, .bool b_7, .ints b_8] => SZ9 b b_1 b_2 b_3 b_4 b_5 b_6 b_7 b_8 (fun r0 r10 r11 => c_ (.agg [.ptr 4 0, .int .i64 r0]) [⟨42, 2, .cells [.ptr 1 0, .int .i64 b, .ptr 2 0, .int .i64 b_1, .ptr 3 0, .int .i64 b_2]⟩, ⟨91, 1, .cells [.bool b_3, .roi .u32 b_4]⟩, ⟨91, 1, .cells [.bool b_5, .roi .u32 b_6]⟩, ⟨91, 1, .cells [.bool b_7, .roi .u32 b_8]⟩, ⟨91, 1, .cells [.bool r10, .roi .u32 r11]⟩])
  | _ => false
abbrev FZ9 (SZ9 : TSZ9) : Fs := mkFs shFZ9 (spZ9 SZ9)

def shFZ3 : FnSh := ⟨[.slw 0, .slw 1], [some (42, 2, .cells [.ptr 2 0, .int .i64, .ptr 3 0, .int .i64, .ptr 4 0, .int .i64]), some (42, 2, .cells [.ptr 5 0, .int .i64, .ptr 6 0, .int .i64, .ptr 7 0, .int .i64]), some (91, 1, .cells [.bool, .roi .u32]), some (91, 1, .cells [.bool, .roi .u32]), some (91, 1, .cells [.bool, .roi .u32]), some (91, 1, .cells [.bool, .roi .u32]), some (91, 1, .cells [.bool, .roi .u32]), some (91, 1, .cells [.bool, .roi .u32])]⟩
def spZ3 (SZ3 : TSZ3) : List Atom -> (V -> List Blk -> Bool) -> Bool := fun a_ c_ => match a_ with
  | [.int b, .int b_1, .int b_2, .int b_3, .int b_4, .int b_5, .bool b_6, .ints b_7, .bool b_8, .ints b_9, .bool b_10, .ints b_11, .bool b_12, .ints b_13, .bool b_14, .ints b_15, .bool b_16, .ints b_17] => SZ3 b b_1 b_2 b_3 b_4 b_5 b_6 b_7 b_8 b_9 b_10 b_11 b_12 b_13 b_14 b_15 b_16 b_17 (fun r0 r19 r20 => c_ (.agg [.ptr 8 0, .int .i64 r0]) [⟨42, 2, .cells [.ptr 2 0, .int .i64 b, .ptr 3 0, .int .i64 b_1, .ptr 4 0, .int .i64 b_2]⟩, ⟨42, 2, .cells [.ptr 5 0, .int .i64 b_3, .ptr 6 0, .int .i64 b_4, .ptr 7 0, .int .i64 b_5]⟩, ⟨91, 1, .cells [.bool b_6, .roi .u32 b_7]⟩, ⟨91, 1, .cells [.bool b_8, .roi .u32 b_9]⟩, ⟨91, 1, .cells [.bool b_10, .roi .u32 b_11]⟩, ⟨91, 1, .cells [.bool b_12, .roi .u32 b_13]⟩, ⟨91, 1, .cells [.bool b_14, .roi .u32 b_15]⟩, ⟨91, 1, .cells [.bool b_16, .roi .u32 b_17]⟩, ⟨91, 1, .cells [.bool r19, .roi .u32 r20]⟩])
  | _ => false
abbrev FZ3 (SZ3 : TSZ3) : Fs := mkFs shFZ3 (spZ3 SZ3)

def shFZ49 : FnSh := ⟨[.agg [.flt, .flt, .flt], .agg [.flt, .flt, .flt]], []⟩
def spZ49 (SZ49 : TSZ49) : List Atom -> (V -> List Blk -> Bool) -> Bool := fun a_ c_ => match a_ with
  | [.fl a_0, .fl a_1, .fl a_2, .fl b_0, .fl b_1, .fl b_2] => SZ49 a_0 a_1 a_2 b_0 b_1 b_2 (fun r0 r1 r2 => c_ (.agg [.flt r0, .flt r1, .flt r2]) [])
  | _ => false
abbrev FZ49 (SZ49 : TSZ49) : Fs := mkFs shFZ49 (spZ49 SZ49)

def shFZ81 : FnSh := ⟨[.agg [.flt, .flt, .flt]], []⟩
def spZ81 (SZ81 : TSZ81) : List Atom -> (V -> List Blk -> Bool) -> Bool := fun a_ c_ => match a_ with
  | [.fl v_0, .fl v_1, .fl v_2] => SZ81 v_0 v_1 v_2 (fun r0 r1 r2 r3 => c_ (.tup [.agg [.flt r0, .flt r1, .flt r2], .int .i64 r3]) [])
  | _ => false
abbrev FZ81 (SZ81 : TSZ81) : Fs := mkFs shFZ81 (spZ81 SZ81)

def shFZ38 : FnSh := ⟨[.agg [.flt, .flt, .flt, .flt], .agg [.flt, .flt, .flt]], []⟩
def spZ38 (SZ38 : TSZ38) : List Atom -> (V -> List Blk -> Bool) -> Bool := fun a_ c_ => match a_ with
  | [.fl q_0, .fl q_1, .fl q_2, .fl q_3, .fl v_0, .fl v_1, .fl v_2] => SZ38 q_0 q_1 q_2 q_3 v_0 v_1 v_2 (fun r0 r1 r2 r3 => c_ (.tup [.agg [.flt r0, .flt r1, .flt r2], .int .i64 r3]) [])
  | _ => false
abbrev FZ38 (SZ38 : TSZ38) : Fs := mkFs shFZ38 (spZ38 SZ38)

def shFZ22 : FnSh := ⟨[.agg [.flt, .flt, .flt]], []⟩
def spZ22 (SZ22 : TSZ22) : List Atom -> (V -> List Blk -> Bool) -> Bool := fun a_ c_ => match a_ with
  | [.fl v_0, .fl v_1, .fl v_2] => SZ22 v_0 v_1 v_2 (fun r0 => c_ (.int .i64 r0) [])
  | _ => false
abbrev FZ22 (SZ22 : TSZ22) : Fs := mkFs shFZ22 (spZ22 SZ22)

def shFZ117 : FnSh := ⟨[.rof], []⟩
def spZ117 (SZ117 : TSZ117) : List Atom -> (V -> List Blk -> Bool) -> Bool := fun a_ c_ => match a_ with
  | [.fls x] => SZ117 x (fun r0 => c_ (.int .i64 r0) [])
  | _ => false
abbrev FZ117 (SZ117 : TSZ117) : Fs := mkFs shFZ117 (spZ117 SZ117)

def shFZ100 : FnSh := ⟨[.rof], []⟩
def spZ100 (SZ100 : TSZ100) : List Atom -> (V -> List Blk -> Bool) -> Bool := fun a_ c_ => match a_ with
  | [.fls x] => SZ100 x (fun r0 r1 => c_ (.tup [.int .i64 r0, .bool r1]) [])
  | _ => false
abbrev FZ100 (SZ100 : TSZ100) : Fs := mkFs shFZ100 (spZ100 SZ100)

def shFZ86 : FnSh := ⟨[.rof, .int .i64], []⟩
def spZ86 (SZ86 : TSZ86) : List Atom -> (V -> List Blk -> Bool) -> Bool := fun a_ c_ => match a_ with
  | [.fls x, .int k_] => SZ86 x k_ (fun r0 r1 => c_ (.tup [.slw 0, .flt r0]) [⟨25, 1, .flts r1⟩])
  | _ => false
abbrev FZ86 (SZ86 : TSZ86) : Fs := mkFs shFZ86 (spZ86 SZ86)

def shFZ85 : FnSh := ⟨[.rof], []⟩
def spZ85 (SZ85 : TSZ85) : List Atom -> (V -> List Blk -> Bool) -> Bool := fun a_ c_ => match a_ with
  | [.fls x] => SZ85 x (fun r0 => c_ (.flt r0) [])
  | _ => false
abbrev FZ85 (SZ85 : TSZ85) : Fs := mkFs shFZ85 (spZ85 SZ85)

def shFZ92 : FnSh := ⟨[.flt], []⟩
def spZ92 (SZ92 : TSZ92) : List Atom -> (V -> List Blk -> Bool) -> Bool := fun a_ c_ => match a_ with
  | [.fl x] => SZ92 x (fun r0 => c_ (.bool r0) [])
  | _ => false
abbrev FZ92 (SZ92 : TSZ92) : Fs := mkFs shFZ92 (spZ92 SZ92)

def shFZ54 : FnSh := ⟨[.rof], []⟩
def spZ54 (SZ54 : TSZ54) : List Atom -> (V -> List Blk -> Bool) -> Bool := fun a_ c_ => match a_ with
  | [.fls x] => SZ54 x (fun r0 r1 => c_ (.tup [.flt r0, .int .i64 r1]) [])
  | _ => false
abbrev FZ54 (SZ54 : TSZ54) : Fs := mkFs shFZ54 (spZ54 SZ54)

def shFZ58 : FnSh := ⟨[.agg [.flt, .flt, .flt]], []⟩
def spZ58 (SZ58 : TSZ58) : List Atom -> (V -> List Blk -> Bool) -> Bool := fun a_ c_ => match a_ with
  | [.fl v_0, .fl v_1, .fl v_2] => SZ58 v_0 v_1 v_2 (fun r0 r1 r2 r3 => c_ (.tup [.agg [.flt r0, .flt r1, .flt r2], .int .i64 r3]) [])
  | _ => false
abbrev FZ58 (SZ58 : TSZ58) : Fs := mkFs shFZ58 (spZ58 SZ58)

def shFZ82 : FnSh := ⟨[.agg [.flt, .flt, .flt], .agg [.flt, .flt, .flt]], []⟩
def spZ82 (SZ82 : TSZ82) : List Atom -> (V -> List Blk -> Bool) -> Bool := fun a_ c_ => match a_ with
  | [.fl a_0, .fl a_1, .fl a_2, .fl b_0, .fl b_1, .fl b_2] => SZ82 a_0 a_1 a_2 b_0 b_1 b_2 (fun r0 r1 r2 r3 => c_ (.tup [.agg [.flt r0, .flt r1, .flt r2], .int .i64 r3]) [])
  | _ => false
abbrev FZ82 (SZ82 : TSZ82) : Fs := mkFs shFZ82 (spZ82 SZ82)

def shFZ116 : FnSh := ⟨[.agg [.flt, .flt, .flt], .agg [.flt, .flt, .flt]], []⟩
def spZ116 (SZ116 : TSZ116) : List Atom -> (V -> List Blk -> Bool) -> Bool := fun a_ c_ => match a_ with
  | [.fl a_0, .fl a_1, .fl a_2, .fl b_0, .fl b_1, .fl b_2] => SZ116 a_0 a_1 a_2 b_0 b_1 b_2 (fun r0 r1 r2 r3 r4 r5 r6 r7 r8 r9 => c_ (.tup [.agg [.flt r0, .flt r1, .flt r2, .flt r3, .flt r4, .flt r5, .flt r6, .flt r7, .flt r8], .int .i64 r9]) [])
  | _ => false
abbrev FZ116 (SZ116 : TSZ116) : Fs := mkFs shFZ116 (spZ116 SZ116)

def shFZ48 : FnSh := ⟨[.ptr 0 0, .flt], [some (106, 1, .cells [.bool])]⟩
def spZ48 (SZ48 : TSZ48) : List Atom -> (V -> List Blk -> Bool) -> Bool := fun a_ c_ => match a_ with
  | [.fl x, .bool b] => SZ48 x b (fun r1 => c_ (.flt x) [⟨106, 1, .cells [.bool r1]⟩])
  | _ => false
abbrev FZ48 (SZ48 : TSZ48) : Fs := mkFs shFZ48 (spZ48 SZ48)

def shFZ39 : FnSh := ⟨[.ptr 0 0, .flt, .flt], [some (106, 1, .cells [.bool])]⟩
def spZ39 (SZ39 : TSZ39) : List Atom -> (V -> List Blk -> Bool) -> Bool := fun a_ c_ => match a_ with
  | [.fl a, .fl b, .bool b_1] => SZ39 a b b_1 (fun r0 r1 => c_ (.flt r0) [⟨106, 1, .cells [.bool r1]⟩])
  | _ => false
abbrev FZ39 (SZ39 : TSZ39) : Fs := mkFs shFZ39 (spZ39 SZ39)

def shFZ83 : FnSh := ⟨[.ptr 0 0], [some (106, 1, .cells [.bool])]⟩
def spZ83 (SZ83 : TSZ83) : List Atom -> (V -> List Blk -> Bool) -> Bool := fun a_ c_ => match a_ with
  | [.bool b] => SZ83 b (c_ (.bool b) [⟨106, 1, .cells [.bool b]⟩])
  | _ => false
abbrev FZ83 (SZ83 : TSZ83) : Fs := mkFs shFZ83 (spZ83 SZ83)

def shFZ73 : FnSh := ⟨[.int .i64], []⟩
def spZ73 (SZ73 : TSZ73) : List Atom -> (V -> List Blk -> Bool) -> Bool := fun a_ c_ => match a_ with
  | [.int n] => SZ73 n (fun r0 => c_ (.bool r0) [])
  | _ => false
abbrev FZ73 (SZ73 : TSZ73) : Fs := mkFs shFZ73 (spZ73 SZ73)

def shFZ25 : FnSh := ⟨[.agg [.int .i64, .int .i64, .rof]], []⟩
def spZ25 (SZ25 : TSZ25) : List Atom -> (V -> List Blk -> Bool) -> Bool := fun a_ c_ => match a_ with
  | [.int m_0, .int m_1, .fls m_2] => SZ25 m_0 m_1 m_2 (fun r0 => c_ (.int .i64 r0) [])
  | _ => false
abbrev FZ25 (SZ25 : TSZ25) : Fs := mkFs shFZ25 (spZ25 SZ25)

def shFZ12 : FnSh := ⟨[.int .i64, .int .i64, .ptr 0 0], [some (64, 1, .cells [.int .i64, .int .i64, .rof])]⟩
def spZ12 (SZ12 : TSZ12) : List Atom -> (V -> List Blk -> Bool) -> Bool := fun a_ c_ => match a_ with
  | [.int i, .int j, .int b, .int b_1, .fls b_2] => SZ12 i j b b_1 b_2 (fun r0 => c_ (.flt r0) [⟨64, 1, .cells [.int .i64 b, .int .i64 b_1, .rof b_2]⟩])
  | _ => false
abbrev FZ12 (SZ12 : TSZ12) : Fs := mkFs shFZ12 (spZ12 SZ12)

def shFZ43 : FnSh := ⟨[.agg [.flt, .flt, .flt, .flt]], []⟩
def spZ43 (SZ43 : TSZ43) : List Atom -> (V -> List Blk -> Bool) -> Bool := fun a_ c_ => match a_ with
  | [.fl q_0, .fl q_1, .fl q_2, .fl q_3] => SZ43 q_0 q_1 q_2 q_3 (fun r0 r1 r2 r3 r4 => c_ (.tup [.agg [.flt r0, .flt r1, .flt r2, .flt r3], .int .i64 r4]) [])
  | _ => false
abbrev FZ43 (SZ43 : TSZ43) : Fs := mkFs shFZ43 (spZ43 SZ43)

def shFZ75 : FnSh := ⟨[.agg [.int .i64, .int .i64, .rof]], []⟩
def spZ75 (SZ75 : TSZ75) : List Atom -> (V -> List Blk -> Bool) -> Bool := fun a_ c_ => match a_ with
  | [.int m_0, .int m_1, .fls m_2] => SZ75 m_0 m_1 m_2 (fun r0 r1 r2 r3 r4 => c_ (.tup [.agg [.flt r0, .flt r1, .flt r2, .flt r3], .int .i64 r4]) [])
  | _ => false
abbrev FZ75 (SZ75 : TSZ75) : Fs := mkFs shFZ75 (spZ75 SZ75)

def shFZ59 : FnSh := ⟨[.agg [.flt, .flt, .flt], .agg [.flt, .flt, .flt], .agg [.flt, .flt, .flt], .agg [.flt, .flt, .flt]], []⟩
def spZ59 (SZ59 : TSZ59) : List Atom -> (V -> List Blk -> Bool) -> Bool := fun a_ c_ => match a_ with
  | [.fl a_0, .fl a_1, .fl a_2, .fl b_0, .fl b_1, .fl b_2, .fl seenA_0, .fl seenA_1, .fl seenA_2, .fl seenB_0, .fl seenB_1, .fl seenB_2] => SZ59 a_0 a_1 a_2 b_0 b_1 b_2 seenA_0 seenA_1 seenA_2 seenB_0 seenB_1 seenB_2 (fun r0 r1 r2 r3 r4 => c_ (.tup [.agg [.flt r0, .flt r1, .flt r2, .flt r3], .int .i64 r4]) [])
  | _ => false
abbrev FZ59 (SZ59 : TSZ59) : Fs := mkFs shFZ59 (spZ59 SZ59)

def shFZ31 : FnSh := ⟨[.ro 4 [.flt, .flt, .flt, .flt, .flt, .flt, .flt, .flt]], []⟩
def spZ31 (SZ31 : TSZ31) : List Atom -> (V -> List Blk -> Bool) -> Bool := fun a_ c_ => match a_ with
  | [.fl qs_0, .fl qs_1, .fl qs_2, .fl qs_3, .fl qs_4, .fl qs_5, .fl qs_6, .fl qs_7] => SZ31 qs_0 qs_1 qs_2 qs_3 qs_4 qs_5 qs_6 qs_7 (fun r0 => c_ (.bool r0) [])
  | _ => false
abbrev FZ31 (SZ31 : TSZ31) : Fs := mkFs shFZ31 (spZ31 SZ31)

def shFZ95 : FnSh := ⟨[.agg [.flt, .flt, .flt, .flt]], []⟩
def spZ95 (SZ95 : TSZ95) : List Atom -> (V -> List Blk -> Bool) -> Bool := fun a_ c_ => match a_ with
  | [.fl q_0, .fl q_1, .fl q_2, .fl q_3] => SZ95 q_0 q_1 q_2 q_3 (fun r0 r1 r2 r3 r4 => c_ (.tup [.agg [.flt r0, .flt r1, .flt r2, .flt r3], .int .i64 r4]) [])
  | _ => false
abbrev FZ95 (SZ95 : TSZ95) : Fs := mkFs shFZ95 (spZ95 SZ95)

def shFZ113 : FnSh := ⟨[.agg [.flt, .flt, .flt, .flt], .agg [.flt, .flt, .flt, .flt]], []⟩
def spZ113 (SZ113 : TSZ113) : List Atom -> (V -> List Blk -> Bool) -> Bool := fun a_ c_ => match a_ with
  | [.fl a_0, .fl a_1, .fl a_2, .fl a_3, .fl b_0, .fl b_1, .fl b_2, .fl b_3] => SZ113 a_0 a_1 a_2 a_3 b_0 b_1 b_2 b_3 (fun r0 r1 r2 r3 => c_ (.agg [.flt r0, .flt r1, .flt r2, .flt r3]) [])
  | _ => false
abbrev FZ113 (SZ113 : TSZ113) : Fs := mkFs shFZ113 (spZ113 SZ113)

def shFZ110 : FnSh := ⟨[.agg [.flt, .flt, .flt, .flt], .agg [.flt, .flt, .flt, .flt]], []⟩
def spZ110 (SZ110 : TSZ110) : List Atom -> (V -> List Blk -> Bool) -> Bool := fun a_ c_ => match a_ with
  | [.fl a_0, .fl a_1, .fl a_2, .fl a_3, .fl b_0, .fl b_1, .fl b_2, .fl b_3] => SZ110 a_0 a_1 a_2 a_3 b_0 b_1 b_2 b_3 (fun r0 r1 r2 r3 r4 => c_ (.tup [.agg [.flt r0, .flt r1, .flt r2, .flt r3], .int .i64 r4]) [])
  | _ => false
abbrev FZ110 (SZ110 : TSZ110) : Fs := mkFs shFZ110 (spZ110 SZ110)

def shFZ33 : FnSh := ⟨[.agg [.flt, .flt, .flt, .flt], .agg [.flt, .flt, .flt, .flt]], []⟩
def spZ33 (SZ33 : TSZ33) : List Atom -> (V -> List Blk -> Bool) -> Bool := fun a_ c_ => match a_ with
  | [.fl a_0, .fl a_1, .fl a_2, .fl a_3, .fl b_0, .fl b_1, .fl b_2, .fl b_3] => SZ33 a_0 a_1 a_2 a_3 b_0 b_1 b_2 b_3 (fun r0 r1 => c_ (.tup [.flt r0, .int .i64 r1]) [])
  | _ => false
abbrev FZ33 (SZ33 : TSZ33) : Fs := mkFs shFZ33 (spZ33 SZ33)

def shFZ37 : FnSh := ⟨[.agg [.int .u64, .int .u64, .int .u64, .int .u64], .agg [.int .u64, .int .u64, .int .u64], .agg [.int .u64, .int .u64, .int .u64]], []⟩
end Go.Proofs.YtgngdkjghdohiaaGreat
end
