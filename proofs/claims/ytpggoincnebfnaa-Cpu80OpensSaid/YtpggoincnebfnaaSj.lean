/- A machine's step, first part: up to where its opcode is known; the program's machine and the document's. -/
import Derived.Test.YtpggoincnebfnaaSc
import Derived.KernelRfl
namespace Go.Proofs.Ytpggoincnebfnaa
open Go Go.Ly Go.RowKit
set_option linter.unusedVariables false
set_option linter.unusedSimpArgs false
noncomputable def m0 : Mc := ⟨0, 0, 0, 0, 0, 0, 0, false, false, false, false, false, 0, 0, false, false⟩
noncomputable def hP (m : Mc) (g : Nat → Int) : List (Option LO) := [some (.cells (cellsP m (tokV 17) (tokV 18)) 60), some (memL g)]
noncomputable def hR (m : Mc) (g : Nat → Int) : List (Option LO) := [some (.cells (cellsR m (tokV 10) (tokV 11)) 56), some (memL g), some (regsR m)]
noncomputable def pathP : Path := [(1, false), (0, true), (0, true), (0, true), (0, true), (0, true), (0, true)]
noncomputable def pathR : Path := [(0, false), (0, true), (0, true)]
noncomputable def dP : St := Ly.start Try.f13 [] H0
noncomputable def dR : St := Ly.start Try.f14 [] H0
/-- where a run comes to, by its code alone -/
noncomputable def skipK : Nat → List Bool → List KI → List KI
  | 0, _, k => k
  | n + 1, ds, .code .skip :: k => skipK n ds k
  | n + 1, ds, .code (.seq a b) :: k => skipK n ds (.code a :: .code b :: k)
  | n + 1, ds, .code (.region _ _ _) :: k => skipK n ds k
  | n + 1, d :: ds, .code (.cond _ a b) :: k => skipK n ds (.code (bif d then a else b) :: k)
  | n + 1, ds, .code (.block id a) :: k => skipK n ds (.code a :: .inBlock id :: k)
  | n + 1, ds, .code (.exit id) :: k => match exitK id k with | some k' => skipK n ds k' | none => k
  | n + 1, ds, .inBlock _ :: k => skipK n ds k
  | _, _, k => k
noncomputable def bodyK (f : Func) : List KI := match f.body with | some c => [.code c] | none => []
noncomputable def opsAt (j : Nat) : List KI → List KI
  | .code (.region _ ops _) :: k => .ops ops (ops.toList.drop j) :: k
  | k => k
noncomputable def kP : List KI := opsAt 1 (skipK 15 [false, false] (bodyK Try.f13))
noncomputable def kR : List KI := opsAt 1 (skipK 10 [false, false] (bodyK Try.f14))
noncomputable def at1 (pc : Int) (k : Int) : Nat := 0 + (IntKind.u16.wrap (pc + k)).toNat * 1
noncomputable def tP (m : Mc) : List (Bool × Bool) := [(m.halt, false), (decide (0 ≤ m.pc) && decide (m.pc < 65536), true), (Nat.blt (0 + m.pc.toNat * 1) 65536, true),
  (decide (0 ≤ IntKind.u16.wrap (m.pc + 1)) && decide (IntKind.u16.wrap (m.pc + 1) < 65536), true), (Nat.blt (at1 m.pc 1) 65536, true),
  (decide (0 ≤ IntKind.u16.wrap (m.pc + 2)) && decide (IntKind.u16.wrap (m.pc + 2) < 65536), true), (Nat.blt (at1 m.pc 2) 65536, true)]
noncomputable def tR (m : Mc) : List (Bool × Bool) := [(m.halt, false), (decide (0 ≤ m.pc) && decide (m.pc < 65536), true), (Nat.blt (0 + m.pc.toNat * 1) 65536, true)]
/-- the state where the program's opcode is known -/
noncomputable def sP (m : Mc) (g : Nat → Int) (b0 b1 b2 : Int) : St :=
  atSt Try.f13 kP none 2 (slots 130 [(0, ptr 0), (53, .slice (some ⟨2, 0, none⟩) 3 3)]) ((mkH (hP m g)).new (.cells [.int .u8 b0, .int .u8 b1, .int .u8 b2] 5))
noncomputable def sR (m : Mc) (g : Nat → Int) (b0 : Int) : St :=
  atSt Try.f14 kR none 3 (slots 109 [(0, ptr 0), (3, .int .u8 b0), (20, .int .u8 b0)]) (mkH (hR m g))
theorem juncP (m : Mc) (g : Nat → Int) : haltF [0, 53] dP (Ly.run (haltAt ctx3 27) 300 pathP (Ly.start Try.f13 [ptr 0] (mkH (hP m g)))) =
    (true, tP m, true, (Try.f13, kP, none, 2), slots 130 [(0, ptr 0), (53, .slice (some ⟨2, 0, none⟩) 3 3)],
      (mkH (hP m g)).new (.cells [.int .u8 (g (0 + m.pc.toNat * 1)), .int .u8 (g (at1 m.pc 1)), .int .u8 (g (at1 m.pc 2))] 5)) := by kernel_rfl
theorem juncR (m : Mc) (g : Nat → Int) : haltF [0, 3, 20] dR (Ly.run (haltAt ctx3 32) 300 pathR (Ly.start Try.f14 [ptr 0] (mkH (hR m g)))) =
    (true, tR m, true, (Try.f14, kR, none, 3), slots 109 [(0, ptr 0), (3, .int .u8 (g (0 + m.pc.toNat * 1))), (20, .int .u8 (g (0 + m.pc.toNat * 1)))], mkH (hR m g)) := by kernel_rfl
end Go.Proofs.Ytpggoincnebfnaa
