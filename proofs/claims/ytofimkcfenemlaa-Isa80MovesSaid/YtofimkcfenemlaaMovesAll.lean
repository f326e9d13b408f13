/- Function 4 at all 64 inputs by number. By program (batch.py). -/
import Derived.Test.YtofimkcfenemlaaMoves0
import Derived.OpenShut
namespace Go.Proofs.Ytofimkcfenemlaa
open Go.Lx
theorem moves_yes (n : Nat) (h : n < 64) : yes (Lx.run (env.shut 3000 [9, 14, 16]) 6000 [] (Lx.start Try.f4 [.int .u8 ((n / 8 : Nat) : Int), .int .u8 ((n % 8 : Nat) : Int)] H0)).val? = true := by
  have key : ∀ t : Nat, t < 4 → ∀ n : Nat, 16 * t ≤ n → n < 16 * t + 16 → n < 64 → yes (Lx.run (env.shut 3000 [9, 14, 16]) 6000 [] (Lx.start Try.f4 [.int .u8 ((n / 8 : Nat) : Int), .int .u8 ((n % 8 : Nat) : Int)] H0)).val? = true := by
    intro t ht n h1 h2 h3
    match t, ht with
    | 0, _ => exact range_all (p := fun n => yes (Lx.run (env.shut 3000 [9, 14, 16]) 6000 [] (Lx.start Try.f4 [.int .u8 ((n / 8 : Nat) : Int), .int .u8 ((n % 8 : Nat) : Int)] H0)).val?) moves0 n (by omega) (by omega)
    | 1, _ => exact range_all (p := fun n => yes (Lx.run (env.shut 3000 [9, 14, 16]) 6000 [] (Lx.start Try.f4 [.int .u8 ((n / 8 : Nat) : Int), .int .u8 ((n % 8 : Nat) : Int)] H0)).val?) moves1 n (by omega) (by omega)
    | 2, _ => exact range_all (p := fun n => yes (Lx.run (env.shut 3000 [9, 14, 16]) 6000 [] (Lx.start Try.f4 [.int .u8 ((n / 8 : Nat) : Int), .int .u8 ((n % 8 : Nat) : Int)] H0)).val?) moves2 n (by omega) (by omega)
    | 3, _ => exact range_all (p := fun n => yes (Lx.run (env.shut 3000 [9, 14, 16]) 6000 [] (Lx.start Try.f4 [.int .u8 ((n / 8 : Nat) : Int), .int .u8 ((n % 8 : Nat) : Int)] H0)).val?) moves3 n (by omega) (by omega)
  exact key (n / 16) (by omega) n (by omega) (by omega) h
end Go.Proofs.Ytofimkcfenemlaa
