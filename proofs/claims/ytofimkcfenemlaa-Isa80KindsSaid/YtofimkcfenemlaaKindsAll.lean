/- Function 8 at all 256 inputs by number. By program (batch.py). -/
import Derived.Test.YtofimkcfenemlaaKinds0
import Derived.Test.YtofimkcfenemlaaKinds1
import Derived.OpenShut
namespace Go.Proofs.Ytofimkcfenemlaa
open Go.Lx
theorem kinds_yes (n : Nat) (h : n < 256) : yes (Lx.run (env.shut 3000 [16]) 6000 [] (Lx.start Try.f8 [.int .u8 ((n : Nat) : Int)] H0)).val? = true := by
  rcases Nat.lt_or_ge n 16 with g0 | g0
  · exact range_all (p := fun n => yes (Lx.run (env.shut 3000 [16]) 6000 [] (Lx.start Try.f8 [.int .u8 ((n : Nat) : Int)] H0)).val?) kinds0 n (by omega) (by omega)
  rcases Nat.lt_or_ge n 32 with g1 | g1
  · exact range_all (p := fun n => yes (Lx.run (env.shut 3000 [16]) 6000 [] (Lx.start Try.f8 [.int .u8 ((n : Nat) : Int)] H0)).val?) kinds1 n (by omega) (by omega)
  rcases Nat.lt_or_ge n 48 with g2 | g2
  · exact range_all (p := fun n => yes (Lx.run (env.shut 3000 [16]) 6000 [] (Lx.start Try.f8 [.int .u8 ((n : Nat) : Int)] H0)).val?) kinds2 n (by omega) (by omega)
  rcases Nat.lt_or_ge n 64 with g3 | g3
  · exact range_all (p := fun n => yes (Lx.run (env.shut 3000 [16]) 6000 [] (Lx.start Try.f8 [.int .u8 ((n : Nat) : Int)] H0)).val?) kinds3 n (by omega) (by omega)
  rcases Nat.lt_or_ge n 80 with g4 | g4
  · exact range_all (p := fun n => yes (Lx.run (env.shut 3000 [16]) 6000 [] (Lx.start Try.f8 [.int .u8 ((n : Nat) : Int)] H0)).val?) kinds4 n (by omega) (by omega)
  rcases Nat.lt_or_ge n 96 with g5 | g5
  · exact range_all (p := fun n => yes (Lx.run (env.shut 3000 [16]) 6000 [] (Lx.start Try.f8 [.int .u8 ((n : Nat) : Int)] H0)).val?) kinds5 n (by omega) (by omega)
  rcases Nat.lt_or_ge n 112 with g6 | g6
  · exact range_all (p := fun n => yes (Lx.run (env.shut 3000 [16]) 6000 [] (Lx.start Try.f8 [.int .u8 ((n : Nat) : Int)] H0)).val?) kinds6 n (by omega) (by omega)
  rcases Nat.lt_or_ge n 128 with g7 | g7
  · exact range_all (p := fun n => yes (Lx.run (env.shut 3000 [16]) 6000 [] (Lx.start Try.f8 [.int .u8 ((n : Nat) : Int)] H0)).val?) kinds7 n (by omega) (by omega)
  rcases Nat.lt_or_ge n 144 with g8 | g8
  · exact range_all (p := fun n => yes (Lx.run (env.shut 3000 [16]) 6000 [] (Lx.start Try.f8 [.int .u8 ((n : Nat) : Int)] H0)).val?) kinds8 n (by omega) (by omega)
  rcases Nat.lt_or_ge n 160 with g9 | g9
  · exact range_all (p := fun n => yes (Lx.run (env.shut 3000 [16]) 6000 [] (Lx.start Try.f8 [.int .u8 ((n : Nat) : Int)] H0)).val?) kinds9 n (by omega) (by omega)
  rcases Nat.lt_or_ge n 176 with g10 | g10
  · exact range_all (p := fun n => yes (Lx.run (env.shut 3000 [16]) 6000 [] (Lx.start Try.f8 [.int .u8 ((n : Nat) : Int)] H0)).val?) kinds10 n (by omega) (by omega)
  rcases Nat.lt_or_ge n 192 with g11 | g11
  · exact range_all (p := fun n => yes (Lx.run (env.shut 3000 [16]) 6000 [] (Lx.start Try.f8 [.int .u8 ((n : Nat) : Int)] H0)).val?) kinds11 n (by omega) (by omega)
  rcases Nat.lt_or_ge n 208 with g12 | g12
  · exact range_all (p := fun n => yes (Lx.run (env.shut 3000 [16]) 6000 [] (Lx.start Try.f8 [.int .u8 ((n : Nat) : Int)] H0)).val?) kinds12 n (by omega) (by omega)
  rcases Nat.lt_or_ge n 224 with g13 | g13
  · exact range_all (p := fun n => yes (Lx.run (env.shut 3000 [16]) 6000 [] (Lx.start Try.f8 [.int .u8 ((n : Nat) : Int)] H0)).val?) kinds13 n (by omega) (by omega)
  rcases Nat.lt_or_ge n 240 with g14 | g14
  · exact range_all (p := fun n => yes (Lx.run (env.shut 3000 [16]) 6000 [] (Lx.start Try.f8 [.int .u8 ((n : Nat) : Int)] H0)).val?) kinds14 n (by omega) (by omega)
  rcases Nat.lt_or_ge n 256 with g15 | g15
  · exact range_all (p := fun n => yes (Lx.run (env.shut 3000 [16]) 6000 [] (Lx.start Try.f8 [.int .u8 ((n : Nat) : Int)] H0)).val?) kinds15 n (by omega) (by omega)
  omega
end Go.Proofs.Ytofimkcfenemlaa
