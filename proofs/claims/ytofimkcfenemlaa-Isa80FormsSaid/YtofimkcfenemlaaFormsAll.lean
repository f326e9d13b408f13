/- Function 3 at all 256 inputs by number. By program (batch.py). -/
import Derived.Test.YtofimkcfenemlaaForms0
import Derived.Test.YtofimkcfenemlaaForms1
import Derived.Test.YtofimkcfenemlaaForms2
import Derived.Test.YtofimkcfenemlaaForms3
import Derived.Test.YtofimkcfenemlaaForms4
import Derived.Test.YtofimkcfenemlaaForms5
import Derived.Test.YtofimkcfenemlaaForms6
import Derived.Test.YtofimkcfenemlaaForms7
import Derived.OpenShut
namespace Go.Proofs.Ytofimkcfenemlaa
open Go.Lx
theorem forms_yes (n : Nat) (h : n < 256) : yes (Lx.run (env.shut 3000 [16]) 6000 [] (Lx.start Try.f3 [.int .u8 ((n : Nat) : Int)] H0)).val? = true := by
  rcases Nat.lt_or_ge n 8 with g0 | g0
  · exact range_all (p := fun n => yes (Lx.run (env.shut 3000 [16]) 6000 [] (Lx.start Try.f3 [.int .u8 ((n : Nat) : Int)] H0)).val?) forms0 n (by omega) (by omega)
  rcases Nat.lt_or_ge n 16 with g1 | g1
  · exact range_all (p := fun n => yes (Lx.run (env.shut 3000 [16]) 6000 [] (Lx.start Try.f3 [.int .u8 ((n : Nat) : Int)] H0)).val?) forms1 n (by omega) (by omega)
  rcases Nat.lt_or_ge n 24 with g2 | g2
  · exact range_all (p := fun n => yes (Lx.run (env.shut 3000 [16]) 6000 [] (Lx.start Try.f3 [.int .u8 ((n : Nat) : Int)] H0)).val?) forms2 n (by omega) (by omega)
  rcases Nat.lt_or_ge n 32 with g3 | g3
  · exact range_all (p := fun n => yes (Lx.run (env.shut 3000 [16]) 6000 [] (Lx.start Try.f3 [.int .u8 ((n : Nat) : Int)] H0)).val?) forms3 n (by omega) (by omega)
  rcases Nat.lt_or_ge n 40 with g4 | g4
  · exact range_all (p := fun n => yes (Lx.run (env.shut 3000 [16]) 6000 [] (Lx.start Try.f3 [.int .u8 ((n : Nat) : Int)] H0)).val?) forms4 n (by omega) (by omega)
  rcases Nat.lt_or_ge n 48 with g5 | g5
  · exact range_all (p := fun n => yes (Lx.run (env.shut 3000 [16]) 6000 [] (Lx.start Try.f3 [.int .u8 ((n : Nat) : Int)] H0)).val?) forms5 n (by omega) (by omega)
  rcases Nat.lt_or_ge n 56 with g6 | g6
  · exact range_all (p := fun n => yes (Lx.run (env.shut 3000 [16]) 6000 [] (Lx.start Try.f3 [.int .u8 ((n : Nat) : Int)] H0)).val?) forms6 n (by omega) (by omega)
  rcases Nat.lt_or_ge n 64 with g7 | g7
  · exact range_all (p := fun n => yes (Lx.run (env.shut 3000 [16]) 6000 [] (Lx.start Try.f3 [.int .u8 ((n : Nat) : Int)] H0)).val?) forms7 n (by omega) (by omega)
  rcases Nat.lt_or_ge n 72 with g8 | g8
  · exact range_all (p := fun n => yes (Lx.run (env.shut 3000 [16]) 6000 [] (Lx.start Try.f3 [.int .u8 ((n : Nat) : Int)] H0)).val?) forms8 n (by omega) (by omega)
  rcases Nat.lt_or_ge n 80 with g9 | g9
  · exact range_all (p := fun n => yes (Lx.run (env.shut 3000 [16]) 6000 [] (Lx.start Try.f3 [.int .u8 ((n : Nat) : Int)] H0)).val?) forms9 n (by omega) (by omega)
  rcases Nat.lt_or_ge n 88 with g10 | g10
  · exact range_all (p := fun n => yes (Lx.run (env.shut 3000 [16]) 6000 [] (Lx.start Try.f3 [.int .u8 ((n : Nat) : Int)] H0)).val?) forms10 n (by omega) (by omega)
  rcases Nat.lt_or_ge n 96 with g11 | g11
  · exact range_all (p := fun n => yes (Lx.run (env.shut 3000 [16]) 6000 [] (Lx.start Try.f3 [.int .u8 ((n : Nat) : Int)] H0)).val?) forms11 n (by omega) (by omega)
  rcases Nat.lt_or_ge n 104 with g12 | g12
  · exact range_all (p := fun n => yes (Lx.run (env.shut 3000 [16]) 6000 [] (Lx.start Try.f3 [.int .u8 ((n : Nat) : Int)] H0)).val?) forms12 n (by omega) (by omega)
  rcases Nat.lt_or_ge n 112 with g13 | g13
  · exact range_all (p := fun n => yes (Lx.run (env.shut 3000 [16]) 6000 [] (Lx.start Try.f3 [.int .u8 ((n : Nat) : Int)] H0)).val?) forms13 n (by omega) (by omega)
  rcases Nat.lt_or_ge n 120 with g14 | g14
  · exact range_all (p := fun n => yes (Lx.run (env.shut 3000 [16]) 6000 [] (Lx.start Try.f3 [.int .u8 ((n : Nat) : Int)] H0)).val?) forms14 n (by omega) (by omega)
  rcases Nat.lt_or_ge n 128 with g15 | g15
  · exact range_all (p := fun n => yes (Lx.run (env.shut 3000 [16]) 6000 [] (Lx.start Try.f3 [.int .u8 ((n : Nat) : Int)] H0)).val?) forms15 n (by omega) (by omega)
  rcases Nat.lt_or_ge n 136 with g16 | g16
  · exact range_all (p := fun n => yes (Lx.run (env.shut 3000 [16]) 6000 [] (Lx.start Try.f3 [.int .u8 ((n : Nat) : Int)] H0)).val?) forms16 n (by omega) (by omega)
  rcases Nat.lt_or_ge n 144 with g17 | g17
  · exact range_all (p := fun n => yes (Lx.run (env.shut 3000 [16]) 6000 [] (Lx.start Try.f3 [.int .u8 ((n : Nat) : Int)] H0)).val?) forms17 n (by omega) (by omega)
  rcases Nat.lt_or_ge n 152 with g18 | g18
  · exact range_all (p := fun n => yes (Lx.run (env.shut 3000 [16]) 6000 [] (Lx.start Try.f3 [.int .u8 ((n : Nat) : Int)] H0)).val?) forms18 n (by omega) (by omega)
  rcases Nat.lt_or_ge n 160 with g19 | g19
  · exact range_all (p := fun n => yes (Lx.run (env.shut 3000 [16]) 6000 [] (Lx.start Try.f3 [.int .u8 ((n : Nat) : Int)] H0)).val?) forms19 n (by omega) (by omega)
  rcases Nat.lt_or_ge n 168 with g20 | g20
  · exact range_all (p := fun n => yes (Lx.run (env.shut 3000 [16]) 6000 [] (Lx.start Try.f3 [.int .u8 ((n : Nat) : Int)] H0)).val?) forms20 n (by omega) (by omega)
  rcases Nat.lt_or_ge n 176 with g21 | g21
  · exact range_all (p := fun n => yes (Lx.run (env.shut 3000 [16]) 6000 [] (Lx.start Try.f3 [.int .u8 ((n : Nat) : Int)] H0)).val?) forms21 n (by omega) (by omega)
  rcases Nat.lt_or_ge n 184 with g22 | g22
  · exact range_all (p := fun n => yes (Lx.run (env.shut 3000 [16]) 6000 [] (Lx.start Try.f3 [.int .u8 ((n : Nat) : Int)] H0)).val?) forms22 n (by omega) (by omega)
  rcases Nat.lt_or_ge n 192 with g23 | g23
  · exact range_all (p := fun n => yes (Lx.run (env.shut 3000 [16]) 6000 [] (Lx.start Try.f3 [.int .u8 ((n : Nat) : Int)] H0)).val?) forms23 n (by omega) (by omega)
  rcases Nat.lt_or_ge n 200 with g24 | g24
  · exact range_all (p := fun n => yes (Lx.run (env.shut 3000 [16]) 6000 [] (Lx.start Try.f3 [.int .u8 ((n : Nat) : Int)] H0)).val?) forms24 n (by omega) (by omega)
  rcases Nat.lt_or_ge n 208 with g25 | g25
  · exact range_all (p := fun n => yes (Lx.run (env.shut 3000 [16]) 6000 [] (Lx.start Try.f3 [.int .u8 ((n : Nat) : Int)] H0)).val?) forms25 n (by omega) (by omega)
  rcases Nat.lt_or_ge n 216 with g26 | g26
  · exact range_all (p := fun n => yes (Lx.run (env.shut 3000 [16]) 6000 [] (Lx.start Try.f3 [.int .u8 ((n : Nat) : Int)] H0)).val?) forms26 n (by omega) (by omega)
  rcases Nat.lt_or_ge n 224 with g27 | g27
  · exact range_all (p := fun n => yes (Lx.run (env.shut 3000 [16]) 6000 [] (Lx.start Try.f3 [.int .u8 ((n : Nat) : Int)] H0)).val?) forms27 n (by omega) (by omega)
  rcases Nat.lt_or_ge n 232 with g28 | g28
  · exact range_all (p := fun n => yes (Lx.run (env.shut 3000 [16]) 6000 [] (Lx.start Try.f3 [.int .u8 ((n : Nat) : Int)] H0)).val?) forms28 n (by omega) (by omega)
  rcases Nat.lt_or_ge n 240 with g29 | g29
  · exact range_all (p := fun n => yes (Lx.run (env.shut 3000 [16]) 6000 [] (Lx.start Try.f3 [.int .u8 ((n : Nat) : Int)] H0)).val?) forms29 n (by omega) (by omega)
  rcases Nat.lt_or_ge n 248 with g30 | g30
  · exact range_all (p := fun n => yes (Lx.run (env.shut 3000 [16]) 6000 [] (Lx.start Try.f3 [.int .u8 ((n : Nat) : Int)] H0)).val?) forms30 n (by omega) (by omega)
  rcases Nat.lt_or_ge n 256 with g31 | g31
  · exact range_all (p := fun n => yes (Lx.run (env.shut 3000 [16]) 6000 [] (Lx.start Try.f3 [.int .u8 ((n : Nat) : Int)] H0)).val?) forms31 n (by omega) (by omega)
  omega
end Go.Proofs.Ytofimkcfenemlaa
