/- Which flags an opcode uses, and sets: contracts. By program (gentab.py). -/
import Derived.Test.YtdjmpilegommlaaT9a
import Derived.Test.YtdjmpilegommlaaT10a
import Derived.Test.YtdjmpilegommlaaT10b
import Derived.Test.YtdjmpilegommlaaT11a
import Derived.Test.YtdjmpilegommlaaT12a
import Derived.Test.YtdjmpilegommlaaT12b
import Derived.Test.YtdjmpilegommlaaT12c
import Derived.Test.YtdjmpilegommlaaT12d
import Derived.Test.YtdjmpilegommlaaT12e
import Derived.Test.YtdjmpilegommlaaT12f
namespace Go.Proofs.Ytdjmpilegommlaa
open Go Go.Ly Go.RowKit
theorem tab9_all (n : Nat) (h : n < 256) : tabI (Ly.run env.bare 60000 [] (Ly.start Try.f9 [.int .u8 ((n : Nat) : Int)] H0)).val? (usesT ((n : Nat) : Int)) = true := by
  rcases Nat.lt_or_ge n 8 with g0 | g0
  · exact range_all (p := fun n => tabI (Ly.run env.bare 60000 [] (Ly.start Try.f9 [.int .u8 ((n : Nat) : Int)] H0)).val? (usesT ((n : Nat) : Int))) tab9_0 n (by omega) (by omega)
  rcases Nat.lt_or_ge n 16 with g1 | g1
  · exact range_all (p := fun n => tabI (Ly.run env.bare 60000 [] (Ly.start Try.f9 [.int .u8 ((n : Nat) : Int)] H0)).val? (usesT ((n : Nat) : Int))) tab9_1 n (by omega) (by omega)
  rcases Nat.lt_or_ge n 24 with g2 | g2
  · exact range_all (p := fun n => tabI (Ly.run env.bare 60000 [] (Ly.start Try.f9 [.int .u8 ((n : Nat) : Int)] H0)).val? (usesT ((n : Nat) : Int))) tab9_2 n (by omega) (by omega)
  rcases Nat.lt_or_ge n 32 with g3 | g3
  · exact range_all (p := fun n => tabI (Ly.run env.bare 60000 [] (Ly.start Try.f9 [.int .u8 ((n : Nat) : Int)] H0)).val? (usesT ((n : Nat) : Int))) tab9_3 n (by omega) (by omega)
  rcases Nat.lt_or_ge n 40 with g4 | g4
  · exact range_all (p := fun n => tabI (Ly.run env.bare 60000 [] (Ly.start Try.f9 [.int .u8 ((n : Nat) : Int)] H0)).val? (usesT ((n : Nat) : Int))) tab9_4 n (by omega) (by omega)
  rcases Nat.lt_or_ge n 48 with g5 | g5
  · exact range_all (p := fun n => tabI (Ly.run env.bare 60000 [] (Ly.start Try.f9 [.int .u8 ((n : Nat) : Int)] H0)).val? (usesT ((n : Nat) : Int))) tab9_5 n (by omega) (by omega)
  rcases Nat.lt_or_ge n 56 with g6 | g6
  · exact range_all (p := fun n => tabI (Ly.run env.bare 60000 [] (Ly.start Try.f9 [.int .u8 ((n : Nat) : Int)] H0)).val? (usesT ((n : Nat) : Int))) tab9_6 n (by omega) (by omega)
  rcases Nat.lt_or_ge n 64 with g7 | g7
  · exact range_all (p := fun n => tabI (Ly.run env.bare 60000 [] (Ly.start Try.f9 [.int .u8 ((n : Nat) : Int)] H0)).val? (usesT ((n : Nat) : Int))) tab9_7 n (by omega) (by omega)
  rcases Nat.lt_or_ge n 72 with g8 | g8
  · exact range_all (p := fun n => tabI (Ly.run env.bare 60000 [] (Ly.start Try.f9 [.int .u8 ((n : Nat) : Int)] H0)).val? (usesT ((n : Nat) : Int))) tab9_8 n (by omega) (by omega)
  rcases Nat.lt_or_ge n 80 with g9 | g9
  · exact range_all (p := fun n => tabI (Ly.run env.bare 60000 [] (Ly.start Try.f9 [.int .u8 ((n : Nat) : Int)] H0)).val? (usesT ((n : Nat) : Int))) tab9_9 n (by omega) (by omega)
  rcases Nat.lt_or_ge n 88 with g10 | g10
  · exact range_all (p := fun n => tabI (Ly.run env.bare 60000 [] (Ly.start Try.f9 [.int .u8 ((n : Nat) : Int)] H0)).val? (usesT ((n : Nat) : Int))) tab9_10 n (by omega) (by omega)
  rcases Nat.lt_or_ge n 96 with g11 | g11
  · exact range_all (p := fun n => tabI (Ly.run env.bare 60000 [] (Ly.start Try.f9 [.int .u8 ((n : Nat) : Int)] H0)).val? (usesT ((n : Nat) : Int))) tab9_11 n (by omega) (by omega)
  rcases Nat.lt_or_ge n 104 with g12 | g12
  · exact range_all (p := fun n => tabI (Ly.run env.bare 60000 [] (Ly.start Try.f9 [.int .u8 ((n : Nat) : Int)] H0)).val? (usesT ((n : Nat) : Int))) tab9_12 n (by omega) (by omega)
  rcases Nat.lt_or_ge n 112 with g13 | g13
  · exact range_all (p := fun n => tabI (Ly.run env.bare 60000 [] (Ly.start Try.f9 [.int .u8 ((n : Nat) : Int)] H0)).val? (usesT ((n : Nat) : Int))) tab9_13 n (by omega) (by omega)
  rcases Nat.lt_or_ge n 120 with g14 | g14
  · exact range_all (p := fun n => tabI (Ly.run env.bare 60000 [] (Ly.start Try.f9 [.int .u8 ((n : Nat) : Int)] H0)).val? (usesT ((n : Nat) : Int))) tab9_14 n (by omega) (by omega)
  rcases Nat.lt_or_ge n 128 with g15 | g15
  · exact range_all (p := fun n => tabI (Ly.run env.bare 60000 [] (Ly.start Try.f9 [.int .u8 ((n : Nat) : Int)] H0)).val? (usesT ((n : Nat) : Int))) tab9_15 n (by omega) (by omega)
  rcases Nat.lt_or_ge n 136 with g16 | g16
  · exact range_all (p := fun n => tabI (Ly.run env.bare 60000 [] (Ly.start Try.f9 [.int .u8 ((n : Nat) : Int)] H0)).val? (usesT ((n : Nat) : Int))) tab9_16 n (by omega) (by omega)
  rcases Nat.lt_or_ge n 144 with g17 | g17
  · exact range_all (p := fun n => tabI (Ly.run env.bare 60000 [] (Ly.start Try.f9 [.int .u8 ((n : Nat) : Int)] H0)).val? (usesT ((n : Nat) : Int))) tab9_17 n (by omega) (by omega)
  rcases Nat.lt_or_ge n 152 with g18 | g18
  · exact range_all (p := fun n => tabI (Ly.run env.bare 60000 [] (Ly.start Try.f9 [.int .u8 ((n : Nat) : Int)] H0)).val? (usesT ((n : Nat) : Int))) tab9_18 n (by omega) (by omega)
  rcases Nat.lt_or_ge n 160 with g19 | g19
  · exact range_all (p := fun n => tabI (Ly.run env.bare 60000 [] (Ly.start Try.f9 [.int .u8 ((n : Nat) : Int)] H0)).val? (usesT ((n : Nat) : Int))) tab9_19 n (by omega) (by omega)
  rcases Nat.lt_or_ge n 168 with g20 | g20
  · exact range_all (p := fun n => tabI (Ly.run env.bare 60000 [] (Ly.start Try.f9 [.int .u8 ((n : Nat) : Int)] H0)).val? (usesT ((n : Nat) : Int))) tab9_20 n (by omega) (by omega)
  rcases Nat.lt_or_ge n 176 with g21 | g21
  · exact range_all (p := fun n => tabI (Ly.run env.bare 60000 [] (Ly.start Try.f9 [.int .u8 ((n : Nat) : Int)] H0)).val? (usesT ((n : Nat) : Int))) tab9_21 n (by omega) (by omega)
  rcases Nat.lt_or_ge n 184 with g22 | g22
  · exact range_all (p := fun n => tabI (Ly.run env.bare 60000 [] (Ly.start Try.f9 [.int .u8 ((n : Nat) : Int)] H0)).val? (usesT ((n : Nat) : Int))) tab9_22 n (by omega) (by omega)
  rcases Nat.lt_or_ge n 192 with g23 | g23
  · exact range_all (p := fun n => tabI (Ly.run env.bare 60000 [] (Ly.start Try.f9 [.int .u8 ((n : Nat) : Int)] H0)).val? (usesT ((n : Nat) : Int))) tab9_23 n (by omega) (by omega)
  rcases Nat.lt_or_ge n 200 with g24 | g24
  · exact range_all (p := fun n => tabI (Ly.run env.bare 60000 [] (Ly.start Try.f9 [.int .u8 ((n : Nat) : Int)] H0)).val? (usesT ((n : Nat) : Int))) tab9_24 n (by omega) (by omega)
  rcases Nat.lt_or_ge n 208 with g25 | g25
  · exact range_all (p := fun n => tabI (Ly.run env.bare 60000 [] (Ly.start Try.f9 [.int .u8 ((n : Nat) : Int)] H0)).val? (usesT ((n : Nat) : Int))) tab9_25 n (by omega) (by omega)
  rcases Nat.lt_or_ge n 216 with g26 | g26
  · exact range_all (p := fun n => tabI (Ly.run env.bare 60000 [] (Ly.start Try.f9 [.int .u8 ((n : Nat) : Int)] H0)).val? (usesT ((n : Nat) : Int))) tab9_26 n (by omega) (by omega)
  rcases Nat.lt_or_ge n 224 with g27 | g27
  · exact range_all (p := fun n => tabI (Ly.run env.bare 60000 [] (Ly.start Try.f9 [.int .u8 ((n : Nat) : Int)] H0)).val? (usesT ((n : Nat) : Int))) tab9_27 n (by omega) (by omega)
  rcases Nat.lt_or_ge n 232 with g28 | g28
  · exact range_all (p := fun n => tabI (Ly.run env.bare 60000 [] (Ly.start Try.f9 [.int .u8 ((n : Nat) : Int)] H0)).val? (usesT ((n : Nat) : Int))) tab9_28 n (by omega) (by omega)
  rcases Nat.lt_or_ge n 240 with g29 | g29
  · exact range_all (p := fun n => tabI (Ly.run env.bare 60000 [] (Ly.start Try.f9 [.int .u8 ((n : Nat) : Int)] H0)).val? (usesT ((n : Nat) : Int))) tab9_29 n (by omega) (by omega)
  rcases Nat.lt_or_ge n 248 with g30 | g30
  · exact range_all (p := fun n => tabI (Ly.run env.bare 60000 [] (Ly.start Try.f9 [.int .u8 ((n : Nat) : Int)] H0)).val? (usesT ((n : Nat) : Int))) tab9_30 n (by omega) (by omega)
  rcases Nat.lt_or_ge n 256 with g31 | g31
  · exact range_all (p := fun n => tabI (Ly.run env.bare 60000 [] (Ly.start Try.f9 [.int .u8 ((n : Nat) : Int)] H0)).val? (usesT ((n : Nat) : Int))) tab9_31 n (by omega) (by omega)
  omega
theorem tab9_get : env.bare.fn.get 9 = some Try.f9 := by kernel_rfl
theorem tab9_ans : Answers Try.prog 9 (tabC usesT) := tab_ans tab9_get (by kernel_rfl) (fun n h => tab9_all n h)
theorem tab10_all (n : Nat) (h : n < 256) : tabI (Ly.run env.bare 60000 [] (Ly.start Try.f10 [.int .u8 ((n : Nat) : Int)] H0)).val? (usesT ((n : Nat) : Int)) = true := by
  rcases Nat.lt_or_ge n 8 with g0 | g0
  · exact range_all (p := fun n => tabI (Ly.run env.bare 60000 [] (Ly.start Try.f10 [.int .u8 ((n : Nat) : Int)] H0)).val? (usesT ((n : Nat) : Int))) tab10_0 n (by omega) (by omega)
  rcases Nat.lt_or_ge n 16 with g1 | g1
  · exact range_all (p := fun n => tabI (Ly.run env.bare 60000 [] (Ly.start Try.f10 [.int .u8 ((n : Nat) : Int)] H0)).val? (usesT ((n : Nat) : Int))) tab10_1 n (by omega) (by omega)
  rcases Nat.lt_or_ge n 24 with g2 | g2
  · exact range_all (p := fun n => tabI (Ly.run env.bare 60000 [] (Ly.start Try.f10 [.int .u8 ((n : Nat) : Int)] H0)).val? (usesT ((n : Nat) : Int))) tab10_2 n (by omega) (by omega)
  rcases Nat.lt_or_ge n 32 with g3 | g3
  · exact range_all (p := fun n => tabI (Ly.run env.bare 60000 [] (Ly.start Try.f10 [.int .u8 ((n : Nat) : Int)] H0)).val? (usesT ((n : Nat) : Int))) tab10_3 n (by omega) (by omega)
  rcases Nat.lt_or_ge n 40 with g4 | g4
  · exact range_all (p := fun n => tabI (Ly.run env.bare 60000 [] (Ly.start Try.f10 [.int .u8 ((n : Nat) : Int)] H0)).val? (usesT ((n : Nat) : Int))) tab10_4 n (by omega) (by omega)
  rcases Nat.lt_or_ge n 48 with g5 | g5
  · exact range_all (p := fun n => tabI (Ly.run env.bare 60000 [] (Ly.start Try.f10 [.int .u8 ((n : Nat) : Int)] H0)).val? (usesT ((n : Nat) : Int))) tab10_5 n (by omega) (by omega)
  rcases Nat.lt_or_ge n 56 with g6 | g6
  · exact range_all (p := fun n => tabI (Ly.run env.bare 60000 [] (Ly.start Try.f10 [.int .u8 ((n : Nat) : Int)] H0)).val? (usesT ((n : Nat) : Int))) tab10_6 n (by omega) (by omega)
  rcases Nat.lt_or_ge n 64 with g7 | g7
  · exact range_all (p := fun n => tabI (Ly.run env.bare 60000 [] (Ly.start Try.f10 [.int .u8 ((n : Nat) : Int)] H0)).val? (usesT ((n : Nat) : Int))) tab10_7 n (by omega) (by omega)
  rcases Nat.lt_or_ge n 72 with g8 | g8
  · exact range_all (p := fun n => tabI (Ly.run env.bare 60000 [] (Ly.start Try.f10 [.int .u8 ((n : Nat) : Int)] H0)).val? (usesT ((n : Nat) : Int))) tab10_8 n (by omega) (by omega)
  rcases Nat.lt_or_ge n 80 with g9 | g9
  · exact range_all (p := fun n => tabI (Ly.run env.bare 60000 [] (Ly.start Try.f10 [.int .u8 ((n : Nat) : Int)] H0)).val? (usesT ((n : Nat) : Int))) tab10_9 n (by omega) (by omega)
  rcases Nat.lt_or_ge n 88 with g10 | g10
  · exact range_all (p := fun n => tabI (Ly.run env.bare 60000 [] (Ly.start Try.f10 [.int .u8 ((n : Nat) : Int)] H0)).val? (usesT ((n : Nat) : Int))) tab10_10 n (by omega) (by omega)
  rcases Nat.lt_or_ge n 96 with g11 | g11
  · exact range_all (p := fun n => tabI (Ly.run env.bare 60000 [] (Ly.start Try.f10 [.int .u8 ((n : Nat) : Int)] H0)).val? (usesT ((n : Nat) : Int))) tab10_11 n (by omega) (by omega)
  rcases Nat.lt_or_ge n 104 with g12 | g12
  · exact range_all (p := fun n => tabI (Ly.run env.bare 60000 [] (Ly.start Try.f10 [.int .u8 ((n : Nat) : Int)] H0)).val? (usesT ((n : Nat) : Int))) tab10_12 n (by omega) (by omega)
  rcases Nat.lt_or_ge n 112 with g13 | g13
  · exact range_all (p := fun n => tabI (Ly.run env.bare 60000 [] (Ly.start Try.f10 [.int .u8 ((n : Nat) : Int)] H0)).val? (usesT ((n : Nat) : Int))) tab10_13 n (by omega) (by omega)
  rcases Nat.lt_or_ge n 120 with g14 | g14
  · exact range_all (p := fun n => tabI (Ly.run env.bare 60000 [] (Ly.start Try.f10 [.int .u8 ((n : Nat) : Int)] H0)).val? (usesT ((n : Nat) : Int))) tab10_14 n (by omega) (by omega)
  rcases Nat.lt_or_ge n 128 with g15 | g15
  · exact range_all (p := fun n => tabI (Ly.run env.bare 60000 [] (Ly.start Try.f10 [.int .u8 ((n : Nat) : Int)] H0)).val? (usesT ((n : Nat) : Int))) tab10_15 n (by omega) (by omega)
  rcases Nat.lt_or_ge n 136 with g16 | g16
  · exact range_all (p := fun n => tabI (Ly.run env.bare 60000 [] (Ly.start Try.f10 [.int .u8 ((n : Nat) : Int)] H0)).val? (usesT ((n : Nat) : Int))) tab10_16 n (by omega) (by omega)
  rcases Nat.lt_or_ge n 144 with g17 | g17
  · exact range_all (p := fun n => tabI (Ly.run env.bare 60000 [] (Ly.start Try.f10 [.int .u8 ((n : Nat) : Int)] H0)).val? (usesT ((n : Nat) : Int))) tab10_17 n (by omega) (by omega)
  rcases Nat.lt_or_ge n 152 with g18 | g18
  · exact range_all (p := fun n => tabI (Ly.run env.bare 60000 [] (Ly.start Try.f10 [.int .u8 ((n : Nat) : Int)] H0)).val? (usesT ((n : Nat) : Int))) tab10_18 n (by omega) (by omega)
  rcases Nat.lt_or_ge n 160 with g19 | g19
  · exact range_all (p := fun n => tabI (Ly.run env.bare 60000 [] (Ly.start Try.f10 [.int .u8 ((n : Nat) : Int)] H0)).val? (usesT ((n : Nat) : Int))) tab10_19 n (by omega) (by omega)
  rcases Nat.lt_or_ge n 168 with g20 | g20
  · exact range_all (p := fun n => tabI (Ly.run env.bare 60000 [] (Ly.start Try.f10 [.int .u8 ((n : Nat) : Int)] H0)).val? (usesT ((n : Nat) : Int))) tab10_20 n (by omega) (by omega)
  rcases Nat.lt_or_ge n 176 with g21 | g21
  · exact range_all (p := fun n => tabI (Ly.run env.bare 60000 [] (Ly.start Try.f10 [.int .u8 ((n : Nat) : Int)] H0)).val? (usesT ((n : Nat) : Int))) tab10_21 n (by omega) (by omega)
  rcases Nat.lt_or_ge n 184 with g22 | g22
  · exact range_all (p := fun n => tabI (Ly.run env.bare 60000 [] (Ly.start Try.f10 [.int .u8 ((n : Nat) : Int)] H0)).val? (usesT ((n : Nat) : Int))) tab10_22 n (by omega) (by omega)
  rcases Nat.lt_or_ge n 192 with g23 | g23
  · exact range_all (p := fun n => tabI (Ly.run env.bare 60000 [] (Ly.start Try.f10 [.int .u8 ((n : Nat) : Int)] H0)).val? (usesT ((n : Nat) : Int))) tab10_23 n (by omega) (by omega)
  rcases Nat.lt_or_ge n 200 with g24 | g24
  · exact range_all (p := fun n => tabI (Ly.run env.bare 60000 [] (Ly.start Try.f10 [.int .u8 ((n : Nat) : Int)] H0)).val? (usesT ((n : Nat) : Int))) tab10_24 n (by omega) (by omega)
  rcases Nat.lt_or_ge n 208 with g25 | g25
  · exact range_all (p := fun n => tabI (Ly.run env.bare 60000 [] (Ly.start Try.f10 [.int .u8 ((n : Nat) : Int)] H0)).val? (usesT ((n : Nat) : Int))) tab10_25 n (by omega) (by omega)
  rcases Nat.lt_or_ge n 216 with g26 | g26
  · exact range_all (p := fun n => tabI (Ly.run env.bare 60000 [] (Ly.start Try.f10 [.int .u8 ((n : Nat) : Int)] H0)).val? (usesT ((n : Nat) : Int))) tab10_26 n (by omega) (by omega)
  rcases Nat.lt_or_ge n 224 with g27 | g27
  · exact range_all (p := fun n => tabI (Ly.run env.bare 60000 [] (Ly.start Try.f10 [.int .u8 ((n : Nat) : Int)] H0)).val? (usesT ((n : Nat) : Int))) tab10_27 n (by omega) (by omega)
  rcases Nat.lt_or_ge n 232 with g28 | g28
  · exact range_all (p := fun n => tabI (Ly.run env.bare 60000 [] (Ly.start Try.f10 [.int .u8 ((n : Nat) : Int)] H0)).val? (usesT ((n : Nat) : Int))) tab10_28 n (by omega) (by omega)
  rcases Nat.lt_or_ge n 240 with g29 | g29
  · exact range_all (p := fun n => tabI (Ly.run env.bare 60000 [] (Ly.start Try.f10 [.int .u8 ((n : Nat) : Int)] H0)).val? (usesT ((n : Nat) : Int))) tab10_29 n (by omega) (by omega)
  rcases Nat.lt_or_ge n 248 with g30 | g30
  · exact range_all (p := fun n => tabI (Ly.run env.bare 60000 [] (Ly.start Try.f10 [.int .u8 ((n : Nat) : Int)] H0)).val? (usesT ((n : Nat) : Int))) tab10_30 n (by omega) (by omega)
  rcases Nat.lt_or_ge n 256 with g31 | g31
  · exact range_all (p := fun n => tabI (Ly.run env.bare 60000 [] (Ly.start Try.f10 [.int .u8 ((n : Nat) : Int)] H0)).val? (usesT ((n : Nat) : Int))) tab10_31 n (by omega) (by omega)
  omega
theorem tab10_get : env.bare.fn.get 10 = some Try.f10 := by kernel_rfl
theorem tab10_ans : Answers Try.prog 10 (tabC usesT) := tab_ans tab10_get (by kernel_rfl) (fun n h => tab10_all n h)
theorem tab11_all (n : Nat) (h : n < 256) : tabI (Ly.run env.bare 60000 [] (Ly.start Try.f11 [.int .u8 ((n : Nat) : Int)] H0)).val? (setsT ((n : Nat) : Int)) = true := by
  rcases Nat.lt_or_ge n 8 with g0 | g0
  · exact range_all (p := fun n => tabI (Ly.run env.bare 60000 [] (Ly.start Try.f11 [.int .u8 ((n : Nat) : Int)] H0)).val? (setsT ((n : Nat) : Int))) tab11_0 n (by omega) (by omega)
  rcases Nat.lt_or_ge n 16 with g1 | g1
  · exact range_all (p := fun n => tabI (Ly.run env.bare 60000 [] (Ly.start Try.f11 [.int .u8 ((n : Nat) : Int)] H0)).val? (setsT ((n : Nat) : Int))) tab11_1 n (by omega) (by omega)
  rcases Nat.lt_or_ge n 24 with g2 | g2
  · exact range_all (p := fun n => tabI (Ly.run env.bare 60000 [] (Ly.start Try.f11 [.int .u8 ((n : Nat) : Int)] H0)).val? (setsT ((n : Nat) : Int))) tab11_2 n (by omega) (by omega)
  rcases Nat.lt_or_ge n 32 with g3 | g3
  · exact range_all (p := fun n => tabI (Ly.run env.bare 60000 [] (Ly.start Try.f11 [.int .u8 ((n : Nat) : Int)] H0)).val? (setsT ((n : Nat) : Int))) tab11_3 n (by omega) (by omega)
  rcases Nat.lt_or_ge n 40 with g4 | g4
  · exact range_all (p := fun n => tabI (Ly.run env.bare 60000 [] (Ly.start Try.f11 [.int .u8 ((n : Nat) : Int)] H0)).val? (setsT ((n : Nat) : Int))) tab11_4 n (by omega) (by omega)
  rcases Nat.lt_or_ge n 48 with g5 | g5
  · exact range_all (p := fun n => tabI (Ly.run env.bare 60000 [] (Ly.start Try.f11 [.int .u8 ((n : Nat) : Int)] H0)).val? (setsT ((n : Nat) : Int))) tab11_5 n (by omega) (by omega)
  rcases Nat.lt_or_ge n 56 with g6 | g6
  · exact range_all (p := fun n => tabI (Ly.run env.bare 60000 [] (Ly.start Try.f11 [.int .u8 ((n : Nat) : Int)] H0)).val? (setsT ((n : Nat) : Int))) tab11_6 n (by omega) (by omega)
  rcases Nat.lt_or_ge n 64 with g7 | g7
  · exact range_all (p := fun n => tabI (Ly.run env.bare 60000 [] (Ly.start Try.f11 [.int .u8 ((n : Nat) : Int)] H0)).val? (setsT ((n : Nat) : Int))) tab11_7 n (by omega) (by omega)
  rcases Nat.lt_or_ge n 72 with g8 | g8
  · exact range_all (p := fun n => tabI (Ly.run env.bare 60000 [] (Ly.start Try.f11 [.int .u8 ((n : Nat) : Int)] H0)).val? (setsT ((n : Nat) : Int))) tab11_8 n (by omega) (by omega)
  rcases Nat.lt_or_ge n 80 with g9 | g9
  · exact range_all (p := fun n => tabI (Ly.run env.bare 60000 [] (Ly.start Try.f11 [.int .u8 ((n : Nat) : Int)] H0)).val? (setsT ((n : Nat) : Int))) tab11_9 n (by omega) (by omega)
  rcases Nat.lt_or_ge n 88 with g10 | g10
  · exact range_all (p := fun n => tabI (Ly.run env.bare 60000 [] (Ly.start Try.f11 [.int .u8 ((n : Nat) : Int)] H0)).val? (setsT ((n : Nat) : Int))) tab11_10 n (by omega) (by omega)
  rcases Nat.lt_or_ge n 96 with g11 | g11
  · exact range_all (p := fun n => tabI (Ly.run env.bare 60000 [] (Ly.start Try.f11 [.int .u8 ((n : Nat) : Int)] H0)).val? (setsT ((n : Nat) : Int))) tab11_11 n (by omega) (by omega)
  rcases Nat.lt_or_ge n 104 with g12 | g12
  · exact range_all (p := fun n => tabI (Ly.run env.bare 60000 [] (Ly.start Try.f11 [.int .u8 ((n : Nat) : Int)] H0)).val? (setsT ((n : Nat) : Int))) tab11_12 n (by omega) (by omega)
  rcases Nat.lt_or_ge n 112 with g13 | g13
  · exact range_all (p := fun n => tabI (Ly.run env.bare 60000 [] (Ly.start Try.f11 [.int .u8 ((n : Nat) : Int)] H0)).val? (setsT ((n : Nat) : Int))) tab11_13 n (by omega) (by omega)
  rcases Nat.lt_or_ge n 120 with g14 | g14
  · exact range_all (p := fun n => tabI (Ly.run env.bare 60000 [] (Ly.start Try.f11 [.int .u8 ((n : Nat) : Int)] H0)).val? (setsT ((n : Nat) : Int))) tab11_14 n (by omega) (by omega)
  rcases Nat.lt_or_ge n 128 with g15 | g15
  · exact range_all (p := fun n => tabI (Ly.run env.bare 60000 [] (Ly.start Try.f11 [.int .u8 ((n : Nat) : Int)] H0)).val? (setsT ((n : Nat) : Int))) tab11_15 n (by omega) (by omega)
  rcases Nat.lt_or_ge n 136 with g16 | g16
  · exact range_all (p := fun n => tabI (Ly.run env.bare 60000 [] (Ly.start Try.f11 [.int .u8 ((n : Nat) : Int)] H0)).val? (setsT ((n : Nat) : Int))) tab11_16 n (by omega) (by omega)
  rcases Nat.lt_or_ge n 144 with g17 | g17
  · exact range_all (p := fun n => tabI (Ly.run env.bare 60000 [] (Ly.start Try.f11 [.int .u8 ((n : Nat) : Int)] H0)).val? (setsT ((n : Nat) : Int))) tab11_17 n (by omega) (by omega)
  rcases Nat.lt_or_ge n 152 with g18 | g18
  · exact range_all (p := fun n => tabI (Ly.run env.bare 60000 [] (Ly.start Try.f11 [.int .u8 ((n : Nat) : Int)] H0)).val? (setsT ((n : Nat) : Int))) tab11_18 n (by omega) (by omega)
  rcases Nat.lt_or_ge n 160 with g19 | g19
  · exact range_all (p := fun n => tabI (Ly.run env.bare 60000 [] (Ly.start Try.f11 [.int .u8 ((n : Nat) : Int)] H0)).val? (setsT ((n : Nat) : Int))) tab11_19 n (by omega) (by omega)
  rcases Nat.lt_or_ge n 168 with g20 | g20
  · exact range_all (p := fun n => tabI (Ly.run env.bare 60000 [] (Ly.start Try.f11 [.int .u8 ((n : Nat) : Int)] H0)).val? (setsT ((n : Nat) : Int))) tab11_20 n (by omega) (by omega)
  rcases Nat.lt_or_ge n 176 with g21 | g21
  · exact range_all (p := fun n => tabI (Ly.run env.bare 60000 [] (Ly.start Try.f11 [.int .u8 ((n : Nat) : Int)] H0)).val? (setsT ((n : Nat) : Int))) tab11_21 n (by omega) (by omega)
  rcases Nat.lt_or_ge n 184 with g22 | g22
  · exact range_all (p := fun n => tabI (Ly.run env.bare 60000 [] (Ly.start Try.f11 [.int .u8 ((n : Nat) : Int)] H0)).val? (setsT ((n : Nat) : Int))) tab11_22 n (by omega) (by omega)
  rcases Nat.lt_or_ge n 192 with g23 | g23
  · exact range_all (p := fun n => tabI (Ly.run env.bare 60000 [] (Ly.start Try.f11 [.int .u8 ((n : Nat) : Int)] H0)).val? (setsT ((n : Nat) : Int))) tab11_23 n (by omega) (by omega)
  rcases Nat.lt_or_ge n 200 with g24 | g24
  · exact range_all (p := fun n => tabI (Ly.run env.bare 60000 [] (Ly.start Try.f11 [.int .u8 ((n : Nat) : Int)] H0)).val? (setsT ((n : Nat) : Int))) tab11_24 n (by omega) (by omega)
  rcases Nat.lt_or_ge n 208 with g25 | g25
  · exact range_all (p := fun n => tabI (Ly.run env.bare 60000 [] (Ly.start Try.f11 [.int .u8 ((n : Nat) : Int)] H0)).val? (setsT ((n : Nat) : Int))) tab11_25 n (by omega) (by omega)
  rcases Nat.lt_or_ge n 216 with g26 | g26
  · exact range_all (p := fun n => tabI (Ly.run env.bare 60000 [] (Ly.start Try.f11 [.int .u8 ((n : Nat) : Int)] H0)).val? (setsT ((n : Nat) : Int))) tab11_26 n (by omega) (by omega)
  rcases Nat.lt_or_ge n 224 with g27 | g27
  · exact range_all (p := fun n => tabI (Ly.run env.bare 60000 [] (Ly.start Try.f11 [.int .u8 ((n : Nat) : Int)] H0)).val? (setsT ((n : Nat) : Int))) tab11_27 n (by omega) (by omega)
  rcases Nat.lt_or_ge n 232 with g28 | g28
  · exact range_all (p := fun n => tabI (Ly.run env.bare 60000 [] (Ly.start Try.f11 [.int .u8 ((n : Nat) : Int)] H0)).val? (setsT ((n : Nat) : Int))) tab11_28 n (by omega) (by omega)
  rcases Nat.lt_or_ge n 240 with g29 | g29
  · exact range_all (p := fun n => tabI (Ly.run env.bare 60000 [] (Ly.start Try.f11 [.int .u8 ((n : Nat) : Int)] H0)).val? (setsT ((n : Nat) : Int))) tab11_29 n (by omega) (by omega)
  rcases Nat.lt_or_ge n 248 with g30 | g30
  · exact range_all (p := fun n => tabI (Ly.run env.bare 60000 [] (Ly.start Try.f11 [.int .u8 ((n : Nat) : Int)] H0)).val? (setsT ((n : Nat) : Int))) tab11_30 n (by omega) (by omega)
  rcases Nat.lt_or_ge n 256 with g31 | g31
  · exact range_all (p := fun n => tabI (Ly.run env.bare 60000 [] (Ly.start Try.f11 [.int .u8 ((n : Nat) : Int)] H0)).val? (setsT ((n : Nat) : Int))) tab11_31 n (by omega) (by omega)
  omega
theorem tab11_get : env.bare.fn.get 11 = some Try.f11 := by kernel_rfl
theorem tab11_ans : Answers Try.prog 11 (tabC setsT) := tab_ans tab11_get (by kernel_rfl) (fun n h => tab11_all n h)
theorem tab12_all (n : Nat) (h : n < 256) : tabI (Ly.run env.bare 60000 [] (Ly.start Try.f12 [.int .u8 ((n : Nat) : Int)] H0)).val? (setsT ((n : Nat) : Int)) = true := by
  rcases Nat.lt_or_ge n 8 with g0 | g0
  · exact range_all (p := fun n => tabI (Ly.run env.bare 60000 [] (Ly.start Try.f12 [.int .u8 ((n : Nat) : Int)] H0)).val? (setsT ((n : Nat) : Int))) tab12_0 n (by omega) (by omega)
  rcases Nat.lt_or_ge n 16 with g1 | g1
  · exact range_all (p := fun n => tabI (Ly.run env.bare 60000 [] (Ly.start Try.f12 [.int .u8 ((n : Nat) : Int)] H0)).val? (setsT ((n : Nat) : Int))) tab12_1 n (by omega) (by omega)
  rcases Nat.lt_or_ge n 24 with g2 | g2
  · exact range_all (p := fun n => tabI (Ly.run env.bare 60000 [] (Ly.start Try.f12 [.int .u8 ((n : Nat) : Int)] H0)).val? (setsT ((n : Nat) : Int))) tab12_2 n (by omega) (by omega)
  rcases Nat.lt_or_ge n 32 with g3 | g3
  · exact range_all (p := fun n => tabI (Ly.run env.bare 60000 [] (Ly.start Try.f12 [.int .u8 ((n : Nat) : Int)] H0)).val? (setsT ((n : Nat) : Int))) tab12_3 n (by omega) (by omega)
  rcases Nat.lt_or_ge n 40 with g4 | g4
  · exact range_all (p := fun n => tabI (Ly.run env.bare 60000 [] (Ly.start Try.f12 [.int .u8 ((n : Nat) : Int)] H0)).val? (setsT ((n : Nat) : Int))) tab12_4 n (by omega) (by omega)
  rcases Nat.lt_or_ge n 48 with g5 | g5
  · exact range_all (p := fun n => tabI (Ly.run env.bare 60000 [] (Ly.start Try.f12 [.int .u8 ((n : Nat) : Int)] H0)).val? (setsT ((n : Nat) : Int))) tab12_5 n (by omega) (by omega)
  rcases Nat.lt_or_ge n 56 with g6 | g6
  · exact range_all (p := fun n => tabI (Ly.run env.bare 60000 [] (Ly.start Try.f12 [.int .u8 ((n : Nat) : Int)] H0)).val? (setsT ((n : Nat) : Int))) tab12_6 n (by omega) (by omega)
  rcases Nat.lt_or_ge n 64 with g7 | g7
  · exact range_all (p := fun n => tabI (Ly.run env.bare 60000 [] (Ly.start Try.f12 [.int .u8 ((n : Nat) : Int)] H0)).val? (setsT ((n : Nat) : Int))) tab12_7 n (by omega) (by omega)
  rcases Nat.lt_or_ge n 72 with g8 | g8
  · exact range_all (p := fun n => tabI (Ly.run env.bare 60000 [] (Ly.start Try.f12 [.int .u8 ((n : Nat) : Int)] H0)).val? (setsT ((n : Nat) : Int))) tab12_8 n (by omega) (by omega)
  rcases Nat.lt_or_ge n 80 with g9 | g9
  · exact range_all (p := fun n => tabI (Ly.run env.bare 60000 [] (Ly.start Try.f12 [.int .u8 ((n : Nat) : Int)] H0)).val? (setsT ((n : Nat) : Int))) tab12_9 n (by omega) (by omega)
  rcases Nat.lt_or_ge n 88 with g10 | g10
  · exact range_all (p := fun n => tabI (Ly.run env.bare 60000 [] (Ly.start Try.f12 [.int .u8 ((n : Nat) : Int)] H0)).val? (setsT ((n : Nat) : Int))) tab12_10 n (by omega) (by omega)
  rcases Nat.lt_or_ge n 96 with g11 | g11
  · exact range_all (p := fun n => tabI (Ly.run env.bare 60000 [] (Ly.start Try.f12 [.int .u8 ((n : Nat) : Int)] H0)).val? (setsT ((n : Nat) : Int))) tab12_11 n (by omega) (by omega)
  rcases Nat.lt_or_ge n 104 with g12 | g12
  · exact range_all (p := fun n => tabI (Ly.run env.bare 60000 [] (Ly.start Try.f12 [.int .u8 ((n : Nat) : Int)] H0)).val? (setsT ((n : Nat) : Int))) tab12_12 n (by omega) (by omega)
  rcases Nat.lt_or_ge n 112 with g13 | g13
  · exact range_all (p := fun n => tabI (Ly.run env.bare 60000 [] (Ly.start Try.f12 [.int .u8 ((n : Nat) : Int)] H0)).val? (setsT ((n : Nat) : Int))) tab12_13 n (by omega) (by omega)
  rcases Nat.lt_or_ge n 120 with g14 | g14
  · exact range_all (p := fun n => tabI (Ly.run env.bare 60000 [] (Ly.start Try.f12 [.int .u8 ((n : Nat) : Int)] H0)).val? (setsT ((n : Nat) : Int))) tab12_14 n (by omega) (by omega)
  rcases Nat.lt_or_ge n 128 with g15 | g15
  · exact range_all (p := fun n => tabI (Ly.run env.bare 60000 [] (Ly.start Try.f12 [.int .u8 ((n : Nat) : Int)] H0)).val? (setsT ((n : Nat) : Int))) tab12_15 n (by omega) (by omega)
  rcases Nat.lt_or_ge n 136 with g16 | g16
  · exact range_all (p := fun n => tabI (Ly.run env.bare 60000 [] (Ly.start Try.f12 [.int .u8 ((n : Nat) : Int)] H0)).val? (setsT ((n : Nat) : Int))) tab12_16 n (by omega) (by omega)
  rcases Nat.lt_or_ge n 144 with g17 | g17
  · exact range_all (p := fun n => tabI (Ly.run env.bare 60000 [] (Ly.start Try.f12 [.int .u8 ((n : Nat) : Int)] H0)).val? (setsT ((n : Nat) : Int))) tab12_17 n (by omega) (by omega)
  rcases Nat.lt_or_ge n 152 with g18 | g18
  · exact range_all (p := fun n => tabI (Ly.run env.bare 60000 [] (Ly.start Try.f12 [.int .u8 ((n : Nat) : Int)] H0)).val? (setsT ((n : Nat) : Int))) tab12_18 n (by omega) (by omega)
  rcases Nat.lt_or_ge n 160 with g19 | g19
  · exact range_all (p := fun n => tabI (Ly.run env.bare 60000 [] (Ly.start Try.f12 [.int .u8 ((n : Nat) : Int)] H0)).val? (setsT ((n : Nat) : Int))) tab12_19 n (by omega) (by omega)
  rcases Nat.lt_or_ge n 168 with g20 | g20
  · exact range_all (p := fun n => tabI (Ly.run env.bare 60000 [] (Ly.start Try.f12 [.int .u8 ((n : Nat) : Int)] H0)).val? (setsT ((n : Nat) : Int))) tab12_20 n (by omega) (by omega)
  rcases Nat.lt_or_ge n 176 with g21 | g21
  · exact range_all (p := fun n => tabI (Ly.run env.bare 60000 [] (Ly.start Try.f12 [.int .u8 ((n : Nat) : Int)] H0)).val? (setsT ((n : Nat) : Int))) tab12_21 n (by omega) (by omega)
  rcases Nat.lt_or_ge n 184 with g22 | g22
  · exact range_all (p := fun n => tabI (Ly.run env.bare 60000 [] (Ly.start Try.f12 [.int .u8 ((n : Nat) : Int)] H0)).val? (setsT ((n : Nat) : Int))) tab12_22 n (by omega) (by omega)
  rcases Nat.lt_or_ge n 192 with g23 | g23
  · exact range_all (p := fun n => tabI (Ly.run env.bare 60000 [] (Ly.start Try.f12 [.int .u8 ((n : Nat) : Int)] H0)).val? (setsT ((n : Nat) : Int))) tab12_23 n (by omega) (by omega)
  rcases Nat.lt_or_ge n 200 with g24 | g24
  · exact range_all (p := fun n => tabI (Ly.run env.bare 60000 [] (Ly.start Try.f12 [.int .u8 ((n : Nat) : Int)] H0)).val? (setsT ((n : Nat) : Int))) tab12_24 n (by omega) (by omega)
  rcases Nat.lt_or_ge n 208 with g25 | g25
  · exact range_all (p := fun n => tabI (Ly.run env.bare 60000 [] (Ly.start Try.f12 [.int .u8 ((n : Nat) : Int)] H0)).val? (setsT ((n : Nat) : Int))) tab12_25 n (by omega) (by omega)
  rcases Nat.lt_or_ge n 216 with g26 | g26
  · exact range_all (p := fun n => tabI (Ly.run env.bare 60000 [] (Ly.start Try.f12 [.int .u8 ((n : Nat) : Int)] H0)).val? (setsT ((n : Nat) : Int))) tab12_26 n (by omega) (by omega)
  rcases Nat.lt_or_ge n 224 with g27 | g27
  · exact range_all (p := fun n => tabI (Ly.run env.bare 60000 [] (Ly.start Try.f12 [.int .u8 ((n : Nat) : Int)] H0)).val? (setsT ((n : Nat) : Int))) tab12_27 n (by omega) (by omega)
  rcases Nat.lt_or_ge n 232 with g28 | g28
  · exact range_all (p := fun n => tabI (Ly.run env.bare 60000 [] (Ly.start Try.f12 [.int .u8 ((n : Nat) : Int)] H0)).val? (setsT ((n : Nat) : Int))) tab12_28 n (by omega) (by omega)
  rcases Nat.lt_or_ge n 240 with g29 | g29
  · exact range_all (p := fun n => tabI (Ly.run env.bare 60000 [] (Ly.start Try.f12 [.int .u8 ((n : Nat) : Int)] H0)).val? (setsT ((n : Nat) : Int))) tab12_29 n (by omega) (by omega)
  rcases Nat.lt_or_ge n 248 with g30 | g30
  · exact range_all (p := fun n => tabI (Ly.run env.bare 60000 [] (Ly.start Try.f12 [.int .u8 ((n : Nat) : Int)] H0)).val? (setsT ((n : Nat) : Int))) tab12_30 n (by omega) (by omega)
  rcases Nat.lt_or_ge n 256 with g31 | g31
  · exact range_all (p := fun n => tabI (Ly.run env.bare 60000 [] (Ly.start Try.f12 [.int .u8 ((n : Nat) : Int)] H0)).val? (setsT ((n : Nat) : Int))) tab12_31 n (by omega) (by omega)
  omega
theorem tab12_get : env.bare.fn.get 12 = some Try.f12 := by kernel_rfl
theorem tab12_ans : Answers Try.prog 12 (tabC setsT) := tab_ans tab12_get (by kernel_rfl) (fun n h => tab12_all n h)
end Go.Proofs.Ytdjmpilegommlaa
