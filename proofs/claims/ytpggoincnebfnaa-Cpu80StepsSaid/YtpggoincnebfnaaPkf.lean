/- Part 6 of the texts that the law needs, laid together. By program (pack.py). -/
import Derived.Test.YtpggoincnebfnaaPke
import Derived.WalkKit
import Derived.ProofKit
import Derived.Laws.StructEq
import Derived.Laws.IdiomCopy
import Derived.Laws.Slices
import Derived.Laws.BytesString
import Derived.Laws.Tables
import Derived.Laws.AppendOwn
import Derived.Laws.MakeOwn
import Derived.StillTail
import Derived.Deep.Quiet
import Derived.Below
import Derived.Scope
import Derived.Laws.BitsAllLaws
import Derived.Laws.BitsLemmas
import Derived.Laws.Bits64
import Derived.Deep.Slices
import Derived.OpenShut
import Derived.Carry
import Derived.Test.YtpggoincnebfnaaProg
import Derived.KernelRfl
import Derived.ShutString
import Derived.ChangeOld
set_option linter.unusedVariables false
set_option linter.unusedSimpArgs false
noncomputable section
namespace Go.Proofs.Ytpggoincnebfnaa
open Go Go.Ly Go.RowKit
variable (m : Mc) (g : Nat → Int) (b1 b2 : Int)
theorem pc0_0 : endsAt [0, 1] (Ly.run ctx3 3000 [(43, true), (0, true), (0, true), (0, true), (0, true)] (sP m g 192 b1 b2)) = some (T [m.fz == false, rg (w16 (w16 (m.sp + 2) - 2)), bl (ix (w16 (w16 (m.sp + 2) - 2))), rg (w16 (w16 (w16 (m.sp + 2) - 2) + 1)), bl (ix (w16 (w16 (w16 (m.sp + 2) - 2) + 1)))], .int .i64 0, 6, hPm { m with pc := or16 (w16 (g (ix (w16 (w16 (m.sp + 2) - 2))))) (w16 (w16 (g (ix (w16 (w16 (w16 (m.sp + 2) - 2) + 1)))) * 256)), sp := w16 (m.sp + 2) } (memL g)) := by kernel_rfl
theorem pc0_1 : endsAt [0, 1] (Ly.run ctx3 3000 [(43, false)] (sP m g 192 b1 b2)) = some ([(m.fz == false, false)], .int .i64 0, 6, hPm { m with pc := w16 (m.pc + 1) } (memL g)) := by kernel_rfl
theorem rc0_0 : endsAt [0, 1, 2] (Ly.run ctx3 3000 [(4, true), (46, true), (0, true), (0, true), (0, true), (0, true), (0, true), (0, true), (0, true)] (sR m g 192)) = some (T [inw m.pc && true, !m.fz, inw m.sp && true, rg (w16 (m.sp + 1)), bl (ix (w16 (m.sp + 1))), rg (m.sp), bl (ix m.sp), inb (g (ix (w16 (m.sp + 1)))) && inb (g (ix m.sp)), inw m.sp && true], .int .i64 0, 4, hRm { m with pc := 256 * g (ix (w16 (m.sp + 1))) + g (ix m.sp), sp := w16 (m.sp + 2) } (memL g)) := by kernel_rfl
theorem rc0_1 : endsAt [0, 1, 2] (Ly.run ctx3 3000 [(4, true), (46, false)] (sR m g 192)) = some ([(inw m.pc && true, true), (!m.fz, false)], .int .i64 0, 4, hRm { m with pc := w16 (m.pc + 1) } (memL g)) := by kernel_rfl
theorem oc0 (hm : m.Ok) (hg : ∀ e, B8 (g e)) (hh : m.halt = false) (h0 : g (ix m.pc) = 192) : Both m g := by
  obtain ⟨r0, r1, r2, r3, r4, r5, r7, sp, pc⟩ := id hm
  cases hf : m.fz
  · exact joinA (m' := { m with pc := or16 (w16 (g (ix (w16 (w16 (m.sp + 2) - 2))))) (w16 (w16 (g (ix (w16 (w16 (w16 (m.sp + 2) - 2) + 1)))) * 256)), sp := w16 (m.sp + 2) }) hm hh h0 (pc0_0 m g _ _) (rc0_0 m g) hg
  · exact joinA (m' := { m with pc := w16 (m.pc + 1) }) hm hh h0 (pc0_1 m g _ _) (rc0_1 m g) hg
theorem pc1_0 : endsAt [0, 1] (Ly.run ctx3 3000 [(45, true), (0, true), (0, true), (0, true)] (sP m g 193 b1 b2)) = some (T [rg (w16 (w16 (m.sp + 2) - 2)), bl (ix (w16 (w16 (m.sp + 2) - 2))), rg (w16 (w16 (w16 (m.sp + 2) - 2) + 1)), bl (ix (w16 (w16 (w16 (m.sp + 2) - 2) + 1)))], .int .i64 0, 5, hPm { m with pc := w16 (m.pc + 1), r0 := w8 ((or16 (w16 (g (ix (w16 (w16 (m.sp + 2) - 2))))) (w16 (w16 (g (ix (w16 (w16 (w16 (m.sp + 2) - 2) + 1)))) * 256))).fdiv 256), r1 := w8 (or16 (w16 (g (ix (w16 (w16 (m.sp + 2) - 2))))) (w16 (w16 (g (ix (w16 (w16 (w16 (m.sp + 2) - 2) + 1)))) * 256))), sp := w16 (m.sp + 2) } (memL g)) := by kernel_rfl
theorem rc1_0 : endsAt [0, 1, 2] (Ly.run ctx3 3000 [(4, true), (34, true), (0, true), (0, true), (0, true), (0, true), (0, true), (0, true)] (sR m g 193)) = some (T [inw m.pc && true, inw m.sp && true, rg (w16 (m.sp + 1)), bl (ix (w16 (m.sp + 1))), rg (m.sp), bl (ix m.sp), inb (g (ix (w16 (m.sp + 1)))) && inb (g (ix m.sp)), inw m.sp && true], .int .i64 0, 3, hRm { m with pc := w16 (m.pc + 1), r0 := w8 ((256 * g (ix (w16 (m.sp + 1))) + g (ix m.sp)).fdiv 256), r1 := w8 (and16 (256 * g (ix (w16 (m.sp + 1))) + g (ix m.sp)) 255), sp := w16 (m.sp + 2) } (memL g)) := by kernel_rfl
theorem oc1 (hm : m.Ok) (hg : ∀ e, B8 (g e)) (hh : m.halt = false) (h0 : g (ix m.pc) = 193) : Both m g := by
  obtain ⟨r0, r1, r2, r3, r4, r5, r7, sp, pc⟩ := id hm
  exact joinA (m' := { m with pc := w16 (m.pc + 1), r0 := w8 ((or16 (w16 (g (ix (w16 (w16 (m.sp + 2) - 2))))) (w16 (w16 (g (ix (w16 (w16 (w16 (m.sp + 2) - 2) + 1)))) * 256))).fdiv 256), r1 := w8 (or16 (w16 (g (ix (w16 (w16 (m.sp + 2) - 2))))) (w16 (w16 (g (ix (w16 (w16 (w16 (m.sp + 2) - 2) + 1)))) * 256))), sp := w16 (m.sp + 2) }) hm hh h0 (pc1_0 m g _ _) (rc1_0 m g) hg
theorem pc2_0 : endsAt [0, 1] (Ly.run ctx3 3000 [(51, true)] (sP m g 194 b1 b2)) = some (T [m.fz == false], .int .i64 0, 6, hPm { m with pc := or16 (w16 (or16 0 (w16 b2) * 256)) (w16 b1) } (memL g)) := by kernel_rfl
theorem pc2_1 : endsAt [0, 1] (Ly.run ctx3 3000 [(51, false)] (sP m g 194 b1 b2)) = some ([(m.fz == false, false)], .int .i64 0, 6, hPm { m with pc := w16 (m.pc + 3) } (memL g)) := by kernel_rfl
theorem rc2_0 : endsAt [0, 1, 2] (Ly.run ctx3 3000 [(3, true), (0, true), (0, true), (1, true), (0, true), (0, true), (0, true), (56, true)] (sR m g 194)) = some (T [inw m.pc && true, rg (w16 (m.pc + 1)), bl (ix (w16 (m.pc + 1))), inw m.pc && true, rg (w16 (m.pc + 2)), bl (ix (w16 (m.pc + 2))), inw m.pc && true, !m.fz], .int .i64 0, 4, hRm { m with pc := w16 (w16 (g (ix (w16 (m.pc + 1)))) + w16 (w16 (g (ix (w16 (m.pc + 2)))) * 256)) } (memL g)) := by kernel_rfl
theorem rc2_1 : endsAt [0, 1, 2] (Ly.run ctx3 3000 [(3, true), (0, true), (0, true), (1, true), (0, true), (0, true), (0, true), (56, false)] (sR m g 194)) = some ([(inw m.pc && true, true), (rg (w16 (m.pc + 1)), true), (bl (ix (w16 (m.pc + 1))), true), (inw m.pc && true, true), (rg (w16 (m.pc + 2)), true), (bl (ix (w16 (m.pc + 2))), true), (inw m.pc && true, true), (!m.fz, false)], .int .i64 0, 4, hRm { m with pc := w16 (m.pc + 3) } (memL g)) := by kernel_rfl
theorem oc2 (hm : m.Ok) (hg : ∀ e, B8 (g e)) (hh : m.halt = false) (h0 : g (ix m.pc) = 194) : Both m g := by
  obtain ⟨r0, r1, r2, r3, r4, r5, r7, sp, pc⟩ := id hm
  cases hf : m.fz
  · exact joinA (m' := { m with pc := or16 (w16 (or16 0 (w16 (g (at1 m.pc 2))) * 256)) (w16 (g (at1 m.pc 1))) }) hm hh h0 (pc2_0 m g _ _) (rc2_0 m g) hg
  · exact joinA (m' := { m with pc := w16 (m.pc + 3) }) hm hh h0 (pc2_1 m g _ _) (rc2_1 m g) hg
theorem pc3_0 : endsAt [0, 1] (Ly.run ctx3 3000 [] (sP m g 195 b1 b2)) = some (T [], .int .i64 0, 5, hPm { m with pc := or16 (w16 (or16 0 (w16 b2) * 256)) (w16 b1) } (memL g)) := by kernel_rfl
theorem rc3_0 : endsAt [0, 1, 2] (Ly.run ctx3 3000 [(3, true), (0, true), (0, true), (1, true), (0, true), (0, true), (0, true)] (sR m g 195)) = some (T [inw m.pc && true, rg (w16 (m.pc + 1)), bl (ix (w16 (m.pc + 1))), inw m.pc && true, rg (w16 (m.pc + 2)), bl (ix (w16 (m.pc + 2))), inw m.pc && true], .int .i64 0, 3, hRm { m with pc := w16 (w16 (g (ix (w16 (m.pc + 1)))) + w16 (w16 (g (ix (w16 (m.pc + 2)))) * 256)) } (memL g)) := by kernel_rfl
theorem oc3 (hm : m.Ok) (hg : ∀ e, B8 (g e)) (hh : m.halt = false) (h0 : g (ix m.pc) = 195) : Both m g := by
  obtain ⟨r0, r1, r2, r3, r4, r5, r7, sp, pc⟩ := id hm
  exact joinA (m' := { m with pc := or16 (w16 (or16 0 (w16 (g (at1 m.pc 2))) * 256)) (w16 (g (at1 m.pc 1))) }) hm hh h0 (pc3_0 m g _ _) (rc3_0 m g) hg
theorem pc4_0 : endsAt [0, 1] (Ly.run ctx3 3000 [(53, true), (3, true), (0, true), (2, true), (0, true)] (sP m g 196 b1 b2)) = some (T [m.fz == false, rg (w16 (m.sp - 2)), bl (ix (w16 (m.sp - 2))), rg (w16 (w16 (m.sp - 2) + 1)), bl (ix (w16 (w16 (m.sp - 2) + 1)))], .int .i64 0, 7, hPm { m with pc := or16 (w16 (or16 0 (w16 b2) * 256)) (w16 b1), sp := w16 (m.sp - 2) } (M2 g (ix (w16 (m.sp - 2))) (w8 (w16 (m.pc + 3))) (ix (w16 (w16 (m.sp - 2) + 1))) (w8 ((w16 (m.pc + 3)).fdiv 256)))) := by kernel_rfl
theorem pc4_1 : endsAt [0, 1] (Ly.run ctx3 3000 [(53, false)] (sP m g 196 b1 b2)) = some ([(m.fz == false, false)], .int .i64 0, 6, hPm { m with pc := w16 (m.pc + 3) } (memL g)) := by kernel_rfl
theorem rc4_0 : endsAt [0, 1, 2] (Ly.run ctx3 3000 [(3, true), (0, true), (0, true), (1, true), (0, true), (0, true), (0, true), (66, true), (0, true), (0, true), (1, true), (0, true), (0, true), (0, true)] (sR m g 196)) = some (T [inw m.pc && true, rg (w16 (m.pc + 1)), bl (ix (w16 (m.pc + 1))), inw m.pc && true, rg (w16 (m.pc + 2)), bl (ix (w16 (m.pc + 2))), inw m.pc && true, !m.fz, inw m.sp && true, inw (w16 (m.sp + -2)) && true, rg (w16 (w16 (m.sp + -2) + 1)), bl (ix (w16 (w16 (m.sp + -2) + 1))), rg (w16 (m.sp + -2)), bl (ix (w16 (m.sp + -2)))], .int .i64 0, 4, hRm { m with pc := w16 (w16 (g (ix (w16 (m.pc + 1)))) + w16 (w16 (g (ix (w16 (m.pc + 2)))) * 256)), sp := w16 (m.sp + -2) } (M2 g (ix (w16 (w16 (m.sp + -2) + 1))) (w8 ((w16 (m.pc + 3)).fdiv 256)) (ix (w16 (m.sp + -2))) (w8 (and16 (w16 (m.pc + 3)) 255)))) := by kernel_rfl
theorem rc4_1 : endsAt [0, 1, 2] (Ly.run ctx3 3000 [(3, true), (0, true), (0, true), (1, true), (0, true), (0, true), (0, true), (66, false)] (sR m g 196)) = some ([(inw m.pc && true, true), (rg (w16 (m.pc + 1)), true), (bl (ix (w16 (m.pc + 1))), true), (inw m.pc && true, true), (rg (w16 (m.pc + 2)), true), (bl (ix (w16 (m.pc + 2))), true), (inw m.pc && true, true), (!m.fz, false)], .int .i64 0, 4, hRm { m with pc := w16 (m.pc + 3) } (memL g)) := by kernel_rfl
theorem oc4 (hm : m.Ok) (hg : ∀ e, B8 (g e)) (hh : m.halt = false) (h0 : g (ix m.pc) = 196) : Both m g := by
  obtain ⟨r0, r1, r2, r3, r4, r5, r7, sp, pc⟩ := id hm
  cases hf : m.fz
  · exact join (m' := { m with pc := or16 (w16 (or16 0 (w16 (g (at1 m.pc 2))) * 256)) (w16 (g (at1 m.pc 1))), sp := w16 (m.sp - 2) }) (g' := (upd (upd g (ix (w16 (m.sp - 2))) (w8 (w16 (m.pc + 3)))) (ix (w16 (w16 (m.sp - 2) + 1))) (w8 ((w16 (m.pc + 3)).fdiv 256)))) hm hh h0 (pc4_0 m g _ _) (rc4_0 m g) (by simp [*]) (by simp [*]) (by decide) (by decide) (eP (m2s rfl rfl rfl rfl)) (eR (by simp [*]) (m2c (by simp [*]) (by simp [*]) (by simp [*]) (by simp [*]) (by simp [*]))) (by constructor <;> simp [*]) (upd_b8 (upd_b8 hg (by simp [*])) (by simp [*]))
  · exact joinA (m' := { m with pc := w16 (m.pc + 3) }) hm hh h0 (pc4_1 m g _ _) (rc4_1 m g) hg
theorem pc5_0 : endsAt [0, 1] (Ly.run ctx3 3000 [(59, true), (0, true), (2, true), (0, true)] (sP m g 197 b1 b2)) = some (T [rg (w16 (m.sp - 2)), bl (ix (w16 (m.sp - 2))), rg (w16 (w16 (m.sp - 2) + 1)), bl (ix (w16 (w16 (m.sp - 2) + 1)))], .int .i64 0, 6, hPm { m with pc := w16 (m.pc + 1), sp := w16 (m.sp - 2) } (M2 g (ix (w16 (m.sp - 2))) (w8 (or16 (w16 (w16 m.r0 * 256)) (w16 m.r1))) (ix (w16 (w16 (m.sp - 2) + 1))) (w8 ((or16 (w16 (w16 m.r0 * 256)) (w16 m.r1)).fdiv 256)))) := by kernel_rfl
theorem rc5_0 : endsAt [0, 1, 2] (Ly.run ctx3 3000 [(4, true), (35, true), (0, true), (0, true), (1, true), (0, true), (0, true), (0, true)] (sR m g 197)) = some (T [inw m.pc && true, inb m.r0 && inb m.r1, inw m.sp && true, inw (w16 (m.sp + -2)) && true, rg (w16 (w16 (m.sp + -2) + 1)), bl (ix (w16 (w16 (m.sp + -2) + 1))), rg (w16 (m.sp + -2)), bl (ix (w16 (m.sp + -2)))], .int .i64 0, 3, hRm { m with pc := w16 (m.pc + 1), sp := w16 (m.sp + -2) } (M2 g (ix (w16 (w16 (m.sp + -2) + 1))) (w8 ((256 * m.r0 + m.r1).fdiv 256)) (ix (w16 (m.sp + -2))) (w8 (and16 (256 * m.r0 + m.r1) 255)))) := by kernel_rfl
theorem oc5 (hm : m.Ok) (hg : ∀ e, B8 (g e)) (hh : m.halt = false) (h0 : g (ix m.pc) = 197) : Both m g := by
  obtain ⟨r0, r1, r2, r3, r4, r5, r7, sp, pc⟩ := id hm
  exact join (m' := { m with pc := w16 (m.pc + 1), sp := w16 (m.sp - 2) }) (g' := (upd (upd g (ix (w16 (m.sp - 2))) (w8 (or16 (w16 (w16 m.r0 * 256)) (w16 m.r1)))) (ix (w16 (w16 (m.sp - 2) + 1))) (w8 ((or16 (w16 (w16 m.r0 * 256)) (w16 m.r1)).fdiv 256)))) hm hh h0 (pc5_0 m g _ _) (rc5_0 m g) (by simp [*]) (by simp [*]) (by decide) (by decide) (eP (m2s rfl rfl rfl rfl)) (eR (by simp [*]) (m2c (by simp [*]) (by simp [*]) (by simp [*]) (by simp [*]) (by simp [*]))) (by constructor <;> simp [*]) (upd_b8 (upd_b8 hg (by simp [*])) (by simp [*]))
theorem pc6_0 : endsAt [0, 1] (Ly.run ctx3 3000 [(21, true), (5, true)] (sP m g 198 b1 b2)) = some (T [m.fc == true, inb m.r7 && inb (w8 (or16 0 (w16 b1)))], .int .i64 0, 5, hPm { m with fc := decide (255 < m.r7 + w8 (or16 0 (w16 b1)) + 0), fp := par ((m.r7 + w8 (or16 0 (w16 b1)) + 0) % 256), fs := decide (128 ≤ (m.r7 + w8 (or16 0 (w16 b1)) + 0) % 256), fx := decide (15 < m.r7 % 16 + w8 (or16 0 (w16 b1)) % 16 + 0), fz := (m.r7 + w8 (or16 0 (w16 b1)) + 0) % 256 == 0, pc := w16 (m.pc + 2), r7 := (m.r7 + w8 (or16 0 (w16 b1)) + 0) % 256 } (memL g)) := by kernel_rfl
theorem pc6_1 : endsAt [0, 1] (Ly.run ctx3 3000 [(21, false), (5, true)] (sP m g 198 b1 b2)) = some ([(m.fc == true, false), (inb m.r7 && inb (w8 (or16 0 (w16 b1))), true)], .int .i64 0, 5, hPm { m with fc := decide (255 < m.r7 + w8 (or16 0 (w16 b1)) + 0), fp := par ((m.r7 + w8 (or16 0 (w16 b1)) + 0) % 256), fs := decide (128 ≤ (m.r7 + w8 (or16 0 (w16 b1)) + 0) % 256), fx := decide (15 < m.r7 % 16 + w8 (or16 0 (w16 b1)) % 16 + 0), fz := (m.r7 + w8 (or16 0 (w16 b1)) + 0) % 256 == 0, pc := w16 (m.pc + 2), r7 := (m.r7 + w8 (or16 0 (w16 b1)) + 0) % 256 } (memL g)) := by kernel_rfl
theorem rc6_0 : endsAt [0, 1, 2] (Ly.run ctx3 3000 [(3, true), (0, true), (0, true), (1, true), (32, true)] (sR m g 198)) = some (T [inw m.pc && true, rg (w16 (m.pc + 1)), bl (ix (w16 (m.pc + 1))), inw m.pc && true, inb m.r7 && inb (w8 (w16 (g (ix (w16 (m.pc + 1))))))], .int .i64 0, 4, hRm { m with fc := decide (255 < m.r7 + w8 (w16 (g (ix (w16 (m.pc + 1))))) + 0), fp := par ((m.r7 + w8 (w16 (g (ix (w16 (m.pc + 1))))) + 0) % 256), fs := decide (128 ≤ (m.r7 + w8 (w16 (g (ix (w16 (m.pc + 1))))) + 0) % 256), fx := decide (15 < m.r7 % 16 + w8 (w16 (g (ix (w16 (m.pc + 1))))) % 16 + 0), fz := (m.r7 + w8 (w16 (g (ix (w16 (m.pc + 1))))) + 0) % 256 == 0, pc := w16 (m.pc + 2), r7 := (m.r7 + w8 (w16 (g (ix (w16 (m.pc + 1))))) + 0) % 256 } (memL g)) := by kernel_rfl
theorem oc6 (hm : m.Ok) (hg : ∀ e, B8 (g e)) (hh : m.halt = false) (h0 : g (ix m.pc) = 198) : Both m g := by
  obtain ⟨r0, r1, r2, r3, r4, r5, r7, sp, pc⟩ := id hm
  cases hf : m.fc
  · exact joinA (m' := { m with fc := decide (255 < m.r7 + w8 (or16 0 (w16 (g (at1 m.pc 1)))) + 0), fp := par ((m.r7 + w8 (or16 0 (w16 (g (at1 m.pc 1)))) + 0) % 256), fs := decide (128 ≤ (m.r7 + w8 (or16 0 (w16 (g (at1 m.pc 1)))) + 0) % 256), fx := decide (15 < m.r7 % 16 + w8 (or16 0 (w16 (g (at1 m.pc 1)))) % 16 + 0), fz := (m.r7 + w8 (or16 0 (w16 (g (at1 m.pc 1)))) + 0) % 256 == 0, pc := w16 (m.pc + 2), r7 := (m.r7 + w8 (or16 0 (w16 (g (at1 m.pc 1)))) + 0) % 256 }) hm hh h0 (pc6_1 m g _ _) (rc6_0 m g) hg
  · exact joinA (m' := { m with fc := decide (255 < m.r7 + w8 (or16 0 (w16 (g (at1 m.pc 1)))) + 0), fp := par ((m.r7 + w8 (or16 0 (w16 (g (at1 m.pc 1)))) + 0) % 256), fs := decide (128 ≤ (m.r7 + w8 (or16 0 (w16 (g (at1 m.pc 1)))) + 0) % 256), fx := decide (15 < m.r7 % 16 + w8 (or16 0 (w16 (g (at1 m.pc 1)))) % 16 + 0), fz := (m.r7 + w8 (or16 0 (w16 (g (at1 m.pc 1)))) + 0) % 256 == 0, pc := w16 (m.pc + 2), r7 := (m.r7 + w8 (or16 0 (w16 (g (at1 m.pc 1)))) + 0) % 256 }) hm hh h0 (pc6_0 m g _ _) (rc6_0 m g) hg
theorem pc7_0 : endsAt [0, 1] (Ly.run ctx3 3000 [(44, true), (0, true), (2, true), (0, true)] (sP m g 199 b1 b2)) = some (T [rg (w16 (m.sp - 2)), bl (ix (w16 (m.sp - 2))), rg (w16 (w16 (m.sp - 2) + 1)), bl (ix (w16 (w16 (m.sp - 2) + 1)))], .int .i64 0, 6, hPm { m with pc := 0, sp := w16 (m.sp - 2) } (M2 g (ix (w16 (m.sp - 2))) (w8 (w16 (m.pc + 1))) (ix (w16 (w16 (m.sp - 2) + 1))) (w8 ((w16 (m.pc + 1)).fdiv 256)))) := by kernel_rfl
theorem rc7_0 : endsAt [0, 1, 2] (Ly.run ctx3 3000 [(4, true), (24, true), (0, true), (1, true), (0, true), (0, true), (0, true)] (sR m g 199)) = some (T [inw m.pc && true, inw m.sp && true, inw (w16 (m.sp + -2)) && true, rg (w16 (w16 (m.sp + -2) + 1)), bl (ix (w16 (w16 (m.sp + -2) + 1))), rg (w16 (m.sp + -2)), bl (ix (w16 (m.sp + -2)))], .int .i64 0, 3, hRm { m with pc := 0, sp := w16 (m.sp + -2) } (M2 g (ix (w16 (w16 (m.sp + -2) + 1))) (w8 ((w16 (m.pc + 1)).fdiv 256)) (ix (w16 (m.sp + -2))) (w8 (and16 (w16 (m.pc + 1)) 255)))) := by kernel_rfl
theorem oc7 (hm : m.Ok) (hg : ∀ e, B8 (g e)) (hh : m.halt = false) (h0 : g (ix m.pc) = 199) : Both m g := by
  obtain ⟨r0, r1, r2, r3, r4, r5, r7, sp, pc⟩ := id hm
  exact join (m' := { m with pc := 0, sp := w16 (m.sp - 2) }) (g' := (upd (upd g (ix (w16 (m.sp - 2))) (w8 (w16 (m.pc + 1)))) (ix (w16 (w16 (m.sp - 2) + 1))) (w8 ((w16 (m.pc + 1)).fdiv 256)))) hm hh h0 (pc7_0 m g _ _) (rc7_0 m g) (by simp [*]) (by simp [*]) (by decide) (by decide) (eP (m2s rfl rfl rfl rfl)) (eR (by simp [*]) (m2c (by simp [*]) (by simp [*]) (by simp [*]) (by simp [*]) (by simp [*]))) (by constructor <;> simp [*]) (upd_b8 (upd_b8 hg (by simp [*])) (by simp [*]))
theorem pc8_0 : endsAt [0, 1] (Ly.run ctx3 3000 [(43, true), (0, true), (0, true), (0, true), (0, true)] (sP m g 200 b1 b2)) = some (T [m.fz == true, rg (w16 (w16 (m.sp + 2) - 2)), bl (ix (w16 (w16 (m.sp + 2) - 2))), rg (w16 (w16 (w16 (m.sp + 2) - 2) + 1)), bl (ix (w16 (w16 (w16 (m.sp + 2) - 2) + 1)))], .int .i64 0, 6, hPm { m with pc := or16 (w16 (g (ix (w16 (w16 (m.sp + 2) - 2))))) (w16 (w16 (g (ix (w16 (w16 (w16 (m.sp + 2) - 2) + 1)))) * 256)), sp := w16 (m.sp + 2) } (memL g)) := by kernel_rfl
theorem pc8_1 : endsAt [0, 1] (Ly.run ctx3 3000 [(43, false)] (sP m g 200 b1 b2)) = some ([(m.fz == true, false)], .int .i64 0, 6, hPm { m with pc := w16 (m.pc + 1) } (memL g)) := by kernel_rfl
theorem rc8_0 : endsAt [0, 1, 2] (Ly.run ctx3 3000 [(4, true), (47, true), (0, true), (0, true), (0, true), (0, true), (0, true), (0, true), (0, true)] (sR m g 200)) = some (T [inw m.pc && true, m.fz, inw m.sp && true, rg (w16 (m.sp + 1)), bl (ix (w16 (m.sp + 1))), rg (m.sp), bl (ix m.sp), inb (g (ix (w16 (m.sp + 1)))) && inb (g (ix m.sp)), inw m.sp && true], .int .i64 0, 4, hRm { m with pc := 256 * g (ix (w16 (m.sp + 1))) + g (ix m.sp), sp := w16 (m.sp + 2) } (memL g)) := by kernel_rfl
theorem rc8_1 : endsAt [0, 1, 2] (Ly.run ctx3 3000 [(4, true), (47, false)] (sR m g 200)) = some ([(inw m.pc && true, true), (m.fz, false)], .int .i64 0, 4, hRm { m with pc := w16 (m.pc + 1) } (memL g)) := by kernel_rfl
theorem oc8 (hm : m.Ok) (hg : ∀ e, B8 (g e)) (hh : m.halt = false) (h0 : g (ix m.pc) = 200) : Both m g := by
  obtain ⟨r0, r1, r2, r3, r4, r5, r7, sp, pc⟩ := id hm
  cases hf : m.fz
  · exact joinA (m' := { m with pc := w16 (m.pc + 1) }) hm hh h0 (pc8_1 m g _ _) (rc8_1 m g) hg
  · exact joinA (m' := { m with pc := or16 (w16 (g (ix (w16 (w16 (m.sp + 2) - 2))))) (w16 (w16 (g (ix (w16 (w16 (w16 (m.sp + 2) - 2) + 1)))) * 256)), sp := w16 (m.sp + 2) }) hm hh h0 (pc8_0 m g _ _) (rc8_0 m g) hg
theorem pc9_0 : endsAt [0, 1] (Ly.run ctx3 3000 [(37, true), (0, true), (0, true), (0, true)] (sP m g 201 b1 b2)) = some (T [rg (w16 (w16 (m.sp + 2) - 2)), bl (ix (w16 (w16 (m.sp + 2) - 2))), rg (w16 (w16 (w16 (m.sp + 2) - 2) + 1)), bl (ix (w16 (w16 (w16 (m.sp + 2) - 2) + 1)))], .int .i64 0, 5, hPm { m with pc := or16 (w16 (g (ix (w16 (w16 (m.sp + 2) - 2))))) (w16 (w16 (g (ix (w16 (w16 (w16 (m.sp + 2) - 2) + 1)))) * 256)), sp := w16 (m.sp + 2) } (memL g)) := by kernel_rfl
theorem rc9_0 : endsAt [0, 1, 2] (Ly.run ctx3 3000 [(4, true), (41, true), (0, true), (0, true), (0, true), (0, true), (0, true), (0, true)] (sR m g 201)) = some (T [inw m.pc && true, inw m.sp && true, rg (w16 (m.sp + 1)), bl (ix (w16 (m.sp + 1))), rg (m.sp), bl (ix m.sp), inb (g (ix (w16 (m.sp + 1)))) && inb (g (ix m.sp)), inw m.sp && true], .int .i64 0, 3, hRm { m with pc := 256 * g (ix (w16 (m.sp + 1))) + g (ix m.sp), sp := w16 (m.sp + 2) } (memL g)) := by kernel_rfl
theorem oc9 (hm : m.Ok) (hg : ∀ e, B8 (g e)) (hh : m.halt = false) (h0 : g (ix m.pc) = 201) : Both m g := by
  obtain ⟨r0, r1, r2, r3, r4, r5, r7, sp, pc⟩ := id hm
  exact joinA (m' := { m with pc := or16 (w16 (g (ix (w16 (w16 (m.sp + 2) - 2))))) (w16 (w16 (g (ix (w16 (w16 (w16 (m.sp + 2) - 2) + 1)))) * 256)), sp := w16 (m.sp + 2) }) hm hh h0 (pc9_0 m g _ _) (rc9_0 m g) hg
theorem pca_0 : endsAt [0, 1] (Ly.run ctx3 3000 [(51, true)] (sP m g 202 b1 b2)) = some (T [m.fz == true], .int .i64 0, 6, hPm { m with pc := or16 (w16 (or16 0 (w16 b2) * 256)) (w16 b1) } (memL g)) := by kernel_rfl
theorem pca_1 : endsAt [0, 1] (Ly.run ctx3 3000 [(51, false)] (sP m g 202 b1 b2)) = some ([(m.fz == true, false)], .int .i64 0, 6, hPm { m with pc := w16 (m.pc + 3) } (memL g)) := by kernel_rfl
theorem rca_0 : endsAt [0, 1, 2] (Ly.run ctx3 3000 [(3, true), (0, true), (0, true), (1, true), (0, true), (0, true), (0, true), (57, true)] (sR m g 202)) = some (T [inw m.pc && true, rg (w16 (m.pc + 1)), bl (ix (w16 (m.pc + 1))), inw m.pc && true, rg (w16 (m.pc + 2)), bl (ix (w16 (m.pc + 2))), inw m.pc && true, m.fz], .int .i64 0, 4, hRm { m with pc := w16 (w16 (g (ix (w16 (m.pc + 1)))) + w16 (w16 (g (ix (w16 (m.pc + 2)))) * 256)) } (memL g)) := by kernel_rfl
theorem rca_1 : endsAt [0, 1, 2] (Ly.run ctx3 3000 [(3, true), (0, true), (0, true), (1, true), (0, true), (0, true), (0, true), (57, false)] (sR m g 202)) = some ([(inw m.pc && true, true), (rg (w16 (m.pc + 1)), true), (bl (ix (w16 (m.pc + 1))), true), (inw m.pc && true, true), (rg (w16 (m.pc + 2)), true), (bl (ix (w16 (m.pc + 2))), true), (inw m.pc && true, true), (m.fz, false)], .int .i64 0, 4, hRm { m with pc := w16 (m.pc + 3) } (memL g)) := by kernel_rfl
theorem oca (hm : m.Ok) (hg : ∀ e, B8 (g e)) (hh : m.halt = false) (h0 : g (ix m.pc) = 202) : Both m g := by
  obtain ⟨r0, r1, r2, r3, r4, r5, r7, sp, pc⟩ := id hm
  cases hf : m.fz
  · exact joinA (m' := { m with pc := w16 (m.pc + 3) }) hm hh h0 (pca_1 m g _ _) (rca_1 m g) hg
  · exact joinA (m' := { m with pc := or16 (w16 (or16 0 (w16 (g (at1 m.pc 2))) * 256)) (w16 (g (at1 m.pc 1))) }) hm hh h0 (pca_0 m g _ _) (rca_0 m g) hg
theorem pcb_0 : endsAt [0, 1] (Ly.run ctx3 3000 [] (sP m g 203 b1 b2)) = some (T [], .int .i64 8, 5, hPm m (memL g)) := by kernel_rfl
theorem rcb_0 : endsAt [0, 1, 2] (Ly.run ctx3 3000 [] (sR m g 203)) = some (T [], .int .i64 8, 3, hRm m (memL g)) := by kernel_rfl
theorem ocb (hm : m.Ok) (hg : ∀ e, B8 (g e)) (hh : m.halt = false) (h0 : g (ix m.pc) = 203) : Both m g := by
  obtain ⟨r0, r1, r2, r3, r4, r5, r7, sp, pc⟩ := id hm
  exact join (m' := m) (g' := g) hm hh h0 (pcb_0 m g _ _) (rcb_0 m g) (by simp [*]) (by simp [*]) (by decide) (by decide) (eP (.inl rfl)) (eR rfl (.inl rfl)) (by constructor <;> simp [*]) hg
theorem pcc_0 : endsAt [0, 1] (Ly.run ctx3 3000 [(53, true), (3, true), (0, true), (2, true), (0, true)] (sP m g 204 b1 b2)) = some (T [m.fz == true, rg (w16 (m.sp - 2)), bl (ix (w16 (m.sp - 2))), rg (w16 (w16 (m.sp - 2) + 1)), bl (ix (w16 (w16 (m.sp - 2) + 1)))], .int .i64 0, 7, hPm { m with pc := or16 (w16 (or16 0 (w16 b2) * 256)) (w16 b1), sp := w16 (m.sp - 2) } (M2 g (ix (w16 (m.sp - 2))) (w8 (w16 (m.pc + 3))) (ix (w16 (w16 (m.sp - 2) + 1))) (w8 ((w16 (m.pc + 3)).fdiv 256)))) := by kernel_rfl
theorem pcc_1 : endsAt [0, 1] (Ly.run ctx3 3000 [(53, false)] (sP m g 204 b1 b2)) = some ([(m.fz == true, false)], .int .i64 0, 6, hPm { m with pc := w16 (m.pc + 3) } (memL g)) := by kernel_rfl
theorem rcc_0 : endsAt [0, 1, 2] (Ly.run ctx3 3000 [(3, true), (0, true), (0, true), (1, true), (0, true), (0, true), (0, true), (67, true), (0, true), (0, true), (1, true), (0, true), (0, true), (0, true)] (sR m g 204)) = some (T [inw m.pc && true, rg (w16 (m.pc + 1)), bl (ix (w16 (m.pc + 1))), inw m.pc && true, rg (w16 (m.pc + 2)), bl (ix (w16 (m.pc + 2))), inw m.pc && true, m.fz, inw m.sp && true, inw (w16 (m.sp + -2)) && true, rg (w16 (w16 (m.sp + -2) + 1)), bl (ix (w16 (w16 (m.sp + -2) + 1))), rg (w16 (m.sp + -2)), bl (ix (w16 (m.sp + -2)))], .int .i64 0, 4, hRm { m with pc := w16 (w16 (g (ix (w16 (m.pc + 1)))) + w16 (w16 (g (ix (w16 (m.pc + 2)))) * 256)), sp := w16 (m.sp + -2) } (M2 g (ix (w16 (w16 (m.sp + -2) + 1))) (w8 ((w16 (m.pc + 3)).fdiv 256)) (ix (w16 (m.sp + -2))) (w8 (and16 (w16 (m.pc + 3)) 255)))) := by kernel_rfl
theorem rcc_1 : endsAt [0, 1, 2] (Ly.run ctx3 3000 [(3, true), (0, true), (0, true), (1, true), (0, true), (0, true), (0, true), (67, false)] (sR m g 204)) = some ([(inw m.pc && true, true), (rg (w16 (m.pc + 1)), true), (bl (ix (w16 (m.pc + 1))), true), (inw m.pc && true, true), (rg (w16 (m.pc + 2)), true), (bl (ix (w16 (m.pc + 2))), true), (inw m.pc && true, true), (m.fz, false)], .int .i64 0, 4, hRm { m with pc := w16 (m.pc + 3) } (memL g)) := by kernel_rfl
theorem occ (hm : m.Ok) (hg : ∀ e, B8 (g e)) (hh : m.halt = false) (h0 : g (ix m.pc) = 204) : Both m g := by
  obtain ⟨r0, r1, r2, r3, r4, r5, r7, sp, pc⟩ := id hm
  cases hf : m.fz
  · exact joinA (m' := { m with pc := w16 (m.pc + 3) }) hm hh h0 (pcc_1 m g _ _) (rcc_1 m g) hg
  · exact join (m' := { m with pc := or16 (w16 (or16 0 (w16 (g (at1 m.pc 2))) * 256)) (w16 (g (at1 m.pc 1))), sp := w16 (m.sp - 2) }) (g' := (upd (upd g (ix (w16 (m.sp - 2))) (w8 (w16 (m.pc + 3)))) (ix (w16 (w16 (m.sp - 2) + 1))) (w8 ((w16 (m.pc + 3)).fdiv 256)))) hm hh h0 (pcc_0 m g _ _) (rcc_0 m g) (by simp [*]) (by simp [*]) (by decide) (by decide) (eP (m2s rfl rfl rfl rfl)) (eR (by simp [*]) (m2c (by simp [*]) (by simp [*]) (by simp [*]) (by simp [*]) (by simp [*]))) (by constructor <;> simp [*]) (upd_b8 (upd_b8 hg (by simp [*])) (by simp [*]))
theorem pcd_0 : endsAt [0, 1] (Ly.run ctx3 3000 [(50, true), (0, true), (2, true), (0, true)] (sP m g 205 b1 b2)) = some (T [rg (w16 (m.sp - 2)), bl (ix (w16 (m.sp - 2))), rg (w16 (w16 (m.sp - 2) + 1)), bl (ix (w16 (w16 (m.sp - 2) + 1)))], .int .i64 0, 6, hPm { m with pc := or16 (w16 (or16 0 (w16 b2) * 256)) (w16 b1), sp := w16 (m.sp - 2) } (M2 g (ix (w16 (m.sp - 2))) (w8 (w16 (m.pc + 3))) (ix (w16 (w16 (m.sp - 2) + 1))) (w8 ((w16 (m.pc + 3)).fdiv 256)))) := by kernel_rfl
theorem rcd_0 : endsAt [0, 1, 2] (Ly.run ctx3 3000 [(3, true), (0, true), (0, true), (1, true), (0, true), (0, true), (0, true), (61, true), (0, true), (1, true), (0, true), (0, true), (0, true)] (sR m g 205)) = some (T [inw m.pc && true, rg (w16 (m.pc + 1)), bl (ix (w16 (m.pc + 1))), inw m.pc && true, rg (w16 (m.pc + 2)), bl (ix (w16 (m.pc + 2))), inw m.pc && true, inw m.sp && true, inw (w16 (m.sp + -2)) && true, rg (w16 (w16 (m.sp + -2) + 1)), bl (ix (w16 (w16 (m.sp + -2) + 1))), rg (w16 (m.sp + -2)), bl (ix (w16 (m.sp + -2)))], .int .i64 0, 3, hRm { m with pc := w16 (w16 (g (ix (w16 (m.pc + 1)))) + w16 (w16 (g (ix (w16 (m.pc + 2)))) * 256)), sp := w16 (m.sp + -2) } (M2 g (ix (w16 (w16 (m.sp + -2) + 1))) (w8 ((w16 (m.pc + 3)).fdiv 256)) (ix (w16 (m.sp + -2))) (w8 (and16 (w16 (m.pc + 3)) 255)))) := by kernel_rfl
theorem ocd (hm : m.Ok) (hg : ∀ e, B8 (g e)) (hh : m.halt = false) (h0 : g (ix m.pc) = 205) : Both m g := by
  obtain ⟨r0, r1, r2, r3, r4, r5, r7, sp, pc⟩ := id hm
  exact join (m' := { m with pc := or16 (w16 (or16 0 (w16 (g (at1 m.pc 2))) * 256)) (w16 (g (at1 m.pc 1))), sp := w16 (m.sp - 2) }) (g' := (upd (upd g (ix (w16 (m.sp - 2))) (w8 (w16 (m.pc + 3)))) (ix (w16 (w16 (m.sp - 2) + 1))) (w8 ((w16 (m.pc + 3)).fdiv 256)))) hm hh h0 (pcd_0 m g _ _) (rcd_0 m g) (by simp [*]) (by simp [*]) (by decide) (by decide) (eP (m2s rfl rfl rfl rfl)) (eR (by simp [*]) (m2c (by simp [*]) (by simp [*]) (by simp [*]) (by simp [*]) (by simp [*]))) (by constructor <;> simp [*]) (upd_b8 (upd_b8 hg (by simp [*])) (by simp [*]))
theorem pce_0 : endsAt [0, 1] (Ly.run ctx3 3000 [(21, true), (5, true)] (sP m g 206 b1 b2)) = some (T [m.fc == true, inb m.r7 && inb (w8 (or16 0 (w16 b1)))], .int .i64 0, 5, hPm { m with fc := decide (255 < m.r7 + w8 (or16 0 (w16 b1)) + 1), fp := par ((m.r7 + w8 (or16 0 (w16 b1)) + 1) % 256), fs := decide (128 ≤ (m.r7 + w8 (or16 0 (w16 b1)) + 1) % 256), fx := decide (15 < m.r7 % 16 + w8 (or16 0 (w16 b1)) % 16 + 1), fz := (m.r7 + w8 (or16 0 (w16 b1)) + 1) % 256 == 0, pc := w16 (m.pc + 2), r7 := (m.r7 + w8 (or16 0 (w16 b1)) + 1) % 256 } (memL g)) := by kernel_rfl
theorem pce_1 : endsAt [0, 1] (Ly.run ctx3 3000 [(21, false), (5, true)] (sP m g 206 b1 b2)) = some ([(m.fc == true, false), (inb m.r7 && inb (w8 (or16 0 (w16 b1))), true)], .int .i64 0, 5, hPm { m with fc := decide (255 < m.r7 + w8 (or16 0 (w16 b1)) + 0), fp := par ((m.r7 + w8 (or16 0 (w16 b1)) + 0) % 256), fs := decide (128 ≤ (m.r7 + w8 (or16 0 (w16 b1)) + 0) % 256), fx := decide (15 < m.r7 % 16 + w8 (or16 0 (w16 b1)) % 16 + 0), fz := (m.r7 + w8 (or16 0 (w16 b1)) + 0) % 256 == 0, pc := w16 (m.pc + 2), r7 := (m.r7 + w8 (or16 0 (w16 b1)) + 0) % 256 } (memL g)) := by kernel_rfl
theorem rce_0 : endsAt [0, 1, 2] (Ly.run ctx3 3000 [(3, true), (0, true), (0, true), (1, true), (32, true)] (sR m g 206)) = some (T [inw m.pc && true, rg (w16 (m.pc + 1)), bl (ix (w16 (m.pc + 1))), inw m.pc && true, inb m.r7 && inb (w8 (w16 (g (ix (w16 (m.pc + 1))))))], .int .i64 0, 4, hRm { m with fc := decide (255 < m.r7 + w8 (w16 (g (ix (w16 (m.pc + 1))))) + cI m.fc), fp := par ((m.r7 + w8 (w16 (g (ix (w16 (m.pc + 1))))) + cI m.fc) % 256), fs := decide (128 ≤ (m.r7 + w8 (w16 (g (ix (w16 (m.pc + 1))))) + cI m.fc) % 256), fx := decide (15 < m.r7 % 16 + w8 (w16 (g (ix (w16 (m.pc + 1))))) % 16 + cI m.fc), fz := (m.r7 + w8 (w16 (g (ix (w16 (m.pc + 1))))) + cI m.fc) % 256 == 0, pc := w16 (m.pc + 2), r7 := (m.r7 + w8 (w16 (g (ix (w16 (m.pc + 1))))) + cI m.fc) % 256 } (memL g)) := by kernel_rfl
theorem oce (hm : m.Ok) (hg : ∀ e, B8 (g e)) (hh : m.halt = false) (h0 : g (ix m.pc) = 206) : Both m g := by
  obtain ⟨r0, r1, r2, r3, r4, r5, r7, sp, pc⟩ := id hm
  cases hf : m.fc
  · exact joinA (m' := { m with fc := decide (255 < m.r7 + w8 (or16 0 (w16 (g (at1 m.pc 1)))) + 0), fp := par ((m.r7 + w8 (or16 0 (w16 (g (at1 m.pc 1)))) + 0) % 256), fs := decide (128 ≤ (m.r7 + w8 (or16 0 (w16 (g (at1 m.pc 1)))) + 0) % 256), fx := decide (15 < m.r7 % 16 + w8 (or16 0 (w16 (g (at1 m.pc 1)))) % 16 + 0), fz := (m.r7 + w8 (or16 0 (w16 (g (at1 m.pc 1)))) + 0) % 256 == 0, pc := w16 (m.pc + 2), r7 := (m.r7 + w8 (or16 0 (w16 (g (at1 m.pc 1)))) + 0) % 256 }) hm hh h0 (pce_1 m g _ _) (rce_0 m g) hg
  · exact joinA (m' := { m with fc := decide (255 < m.r7 + w8 (or16 0 (w16 (g (at1 m.pc 1)))) + 1), fp := par ((m.r7 + w8 (or16 0 (w16 (g (at1 m.pc 1)))) + 1) % 256), fs := decide (128 ≤ (m.r7 + w8 (or16 0 (w16 (g (at1 m.pc 1)))) + 1) % 256), fx := decide (15 < m.r7 % 16 + w8 (or16 0 (w16 (g (at1 m.pc 1)))) % 16 + 1), fz := (m.r7 + w8 (or16 0 (w16 (g (at1 m.pc 1)))) + 1) % 256 == 0, pc := w16 (m.pc + 2), r7 := (m.r7 + w8 (or16 0 (w16 (g (at1 m.pc 1)))) + 1) % 256 }) hm hh h0 (pce_0 m g _ _) (rce_0 m g) hg
theorem pcf_0 : endsAt [0, 1] (Ly.run ctx3 3000 [(44, true), (0, true), (2, true), (0, true)] (sP m g 207 b1 b2)) = some (T [rg (w16 (m.sp - 2)), bl (ix (w16 (m.sp - 2))), rg (w16 (w16 (m.sp - 2) + 1)), bl (ix (w16 (w16 (m.sp - 2) + 1)))], .int .i64 0, 6, hPm { m with pc := 8, sp := w16 (m.sp - 2) } (M2 g (ix (w16 (m.sp - 2))) (w8 (w16 (m.pc + 1))) (ix (w16 (w16 (m.sp - 2) + 1))) (w8 ((w16 (m.pc + 1)).fdiv 256)))) := by kernel_rfl
theorem rcf_0 : endsAt [0, 1, 2] (Ly.run ctx3 3000 [(4, true), (24, true), (0, true), (1, true), (0, true), (0, true), (0, true)] (sR m g 207)) = some (T [inw m.pc && true, inw m.sp && true, inw (w16 (m.sp + -2)) && true, rg (w16 (w16 (m.sp + -2) + 1)), bl (ix (w16 (w16 (m.sp + -2) + 1))), rg (w16 (m.sp + -2)), bl (ix (w16 (m.sp + -2)))], .int .i64 0, 3, hRm { m with pc := 8, sp := w16 (m.sp + -2) } (M2 g (ix (w16 (w16 (m.sp + -2) + 1))) (w8 ((w16 (m.pc + 1)).fdiv 256)) (ix (w16 (m.sp + -2))) (w8 (and16 (w16 (m.pc + 1)) 255)))) := by kernel_rfl
theorem ocf (hm : m.Ok) (hg : ∀ e, B8 (g e)) (hh : m.halt = false) (h0 : g (ix m.pc) = 207) : Both m g := by
  obtain ⟨r0, r1, r2, r3, r4, r5, r7, sp, pc⟩ := id hm
  exact join (m' := { m with pc := 8, sp := w16 (m.sp - 2) }) (g' := (upd (upd g (ix (w16 (m.sp - 2))) (w8 (w16 (m.pc + 1)))) (ix (w16 (w16 (m.sp - 2) + 1))) (w8 ((w16 (m.pc + 1)).fdiv 256)))) hm hh h0 (pcf_0 m g _ _) (rcf_0 m g) (by simp [*]) (by simp [*]) (by decide) (by decide) (eP (m2s rfl rfl rfl rfl)) (eR (by simp [*]) (m2c (by simp [*]) (by simp [*]) (by simp [*]) (by simp [*]) (by simp [*]))) (by constructor <;> simp [*]) (upd_b8 (upd_b8 hg (by simp [*])) (by simp [*]))
theorem blk12 (m : Mc) (g : Nat → Int) (hm : m.Ok) (hg : ∀ e, B8 (g e)) (hh : m.halt = false) (h1 : 192 ≤ g (ix m.pc)) (h2 : g (ix m.pc) < 208) : Both m g := by
  have h : g (ix m.pc) = 192 ∨ g (ix m.pc) = 193 ∨ g (ix m.pc) = 194 ∨ g (ix m.pc) = 195 ∨ g (ix m.pc) = 196 ∨ g (ix m.pc) = 197 ∨ g (ix m.pc) = 198 ∨ g (ix m.pc) = 199 ∨ g (ix m.pc) = 200 ∨ g (ix m.pc) = 201 ∨ g (ix m.pc) = 202 ∨ g (ix m.pc) = 203 ∨ g (ix m.pc) = 204 ∨ g (ix m.pc) = 205 ∨ g (ix m.pc) = 206 ∨ g (ix m.pc) = 207 := by omega
  rcases h with h | h | h | h | h | h | h | h | h | h | h | h | h | h | h | h
  · exact oc0 m g hm hg hh h
  · exact oc1 m g hm hg hh h
  · exact oc2 m g hm hg hh h
  · exact oc3 m g hm hg hh h
  · exact oc4 m g hm hg hh h
  · exact oc5 m g hm hg hh h
  · exact oc6 m g hm hg hh h
  · exact oc7 m g hm hg hh h
  · exact oc8 m g hm hg hh h
  · exact oc9 m g hm hg hh h
  · exact oca m g hm hg hh h
  · exact ocb m g hm hg hh h
  · exact occ m g hm hg hh h
  · exact ocd m g hm hg hh h
  · exact oce m g hm hg hh h
  · exact ocf m g hm hg hh h
end Go.Proofs.Ytpggoincnebfnaa
namespace Go.Proofs.Ytpggoincnebfnaa
open Go Go.Ly Go.RowKit
variable (m : Mc) (g : Nat → Int) (b1 b2 : Int)
theorem pd0_0 : endsAt [0, 1] (Ly.run ctx3 3000 [(43, true), (0, true), (0, true), (0, true), (0, true)] (sP m g 208 b1 b2)) = some (T [m.fc == false, rg (w16 (w16 (m.sp + 2) - 2)), bl (ix (w16 (w16 (m.sp + 2) - 2))), rg (w16 (w16 (w16 (m.sp + 2) - 2) + 1)), bl (ix (w16 (w16 (w16 (m.sp + 2) - 2) + 1)))], .int .i64 0, 6, hPm { m with pc := or16 (w16 (g (ix (w16 (w16 (m.sp + 2) - 2))))) (w16 (w16 (g (ix (w16 (w16 (w16 (m.sp + 2) - 2) + 1)))) * 256)), sp := w16 (m.sp + 2) } (memL g)) := by kernel_rfl
theorem pd0_1 : endsAt [0, 1] (Ly.run ctx3 3000 [(43, false)] (sP m g 208 b1 b2)) = some ([(m.fc == false, false)], .int .i64 0, 6, hPm { m with pc := w16 (m.pc + 1) } (memL g)) := by kernel_rfl
theorem rd0_0 : endsAt [0, 1, 2] (Ly.run ctx3 3000 [(4, true), (48, true), (0, true), (0, true), (0, true), (0, true), (0, true), (0, true), (0, true)] (sR m g 208)) = some (T [inw m.pc && true, !m.fc, inw m.sp && true, rg (w16 (m.sp + 1)), bl (ix (w16 (m.sp + 1))), rg (m.sp), bl (ix m.sp), inb (g (ix (w16 (m.sp + 1)))) && inb (g (ix m.sp)), inw m.sp && true], .int .i64 0, 4, hRm { m with pc := 256 * g (ix (w16 (m.sp + 1))) + g (ix m.sp), sp := w16 (m.sp + 2) } (memL g)) := by kernel_rfl
theorem rd0_1 : endsAt [0, 1, 2] (Ly.run ctx3 3000 [(4, true), (48, false)] (sR m g 208)) = some ([(inw m.pc && true, true), (!m.fc, false)], .int .i64 0, 4, hRm { m with pc := w16 (m.pc + 1) } (memL g)) := by kernel_rfl
theorem od0 (hm : m.Ok) (hg : ∀ e, B8 (g e)) (hh : m.halt = false) (h0 : g (ix m.pc) = 208) : Both m g := by
  obtain ⟨r0, r1, r2, r3, r4, r5, r7, sp, pc⟩ := id hm
  cases hf : m.fc
  · exact joinA (m' := { m with pc := or16 (w16 (g (ix (w16 (w16 (m.sp + 2) - 2))))) (w16 (w16 (g (ix (w16 (w16 (w16 (m.sp + 2) - 2) + 1)))) * 256)), sp := w16 (m.sp + 2) }) hm hh h0 (pd0_0 m g _ _) (rd0_0 m g) hg
  · exact joinA (m' := { m with pc := w16 (m.pc + 1) }) hm hh h0 (pd0_1 m g _ _) (rd0_1 m g) hg
theorem pd1_0 : endsAt [0, 1] (Ly.run ctx3 3000 [(45, true), (0, true), (0, true), (0, true)] (sP m g 209 b1 b2)) = some (T [rg (w16 (w16 (m.sp + 2) - 2)), bl (ix (w16 (w16 (m.sp + 2) - 2))), rg (w16 (w16 (w16 (m.sp + 2) - 2) + 1)), bl (ix (w16 (w16 (w16 (m.sp + 2) - 2) + 1)))], .int .i64 0, 5, hPm { m with pc := w16 (m.pc + 1), r2 := w8 ((or16 (w16 (g (ix (w16 (w16 (m.sp + 2) - 2))))) (w16 (w16 (g (ix (w16 (w16 (w16 (m.sp + 2) - 2) + 1)))) * 256))).fdiv 256), r3 := w8 (or16 (w16 (g (ix (w16 (w16 (m.sp + 2) - 2))))) (w16 (w16 (g (ix (w16 (w16 (w16 (m.sp + 2) - 2) + 1)))) * 256))), sp := w16 (m.sp + 2) } (memL g)) := by kernel_rfl
theorem rd1_0 : endsAt [0, 1, 2] (Ly.run ctx3 3000 [(4, true), (34, true), (0, true), (0, true), (0, true), (0, true), (0, true), (0, true)] (sR m g 209)) = some (T [inw m.pc && true, inw m.sp && true, rg (w16 (m.sp + 1)), bl (ix (w16 (m.sp + 1))), rg (m.sp), bl (ix m.sp), inb (g (ix (w16 (m.sp + 1)))) && inb (g (ix m.sp)), inw m.sp && true], .int .i64 0, 3, hRm { m with pc := w16 (m.pc + 1), r2 := w8 ((256 * g (ix (w16 (m.sp + 1))) + g (ix m.sp)).fdiv 256), r3 := w8 (and16 (256 * g (ix (w16 (m.sp + 1))) + g (ix m.sp)) 255), sp := w16 (m.sp + 2) } (memL g)) := by kernel_rfl
theorem od1 (hm : m.Ok) (hg : ∀ e, B8 (g e)) (hh : m.halt = false) (h0 : g (ix m.pc) = 209) : Both m g := by
  obtain ⟨r0, r1, r2, r3, r4, r5, r7, sp, pc⟩ := id hm
  exact joinA (m' := { m with pc := w16 (m.pc + 1), r2 := w8 ((or16 (w16 (g (ix (w16 (w16 (m.sp + 2) - 2))))) (w16 (w16 (g (ix (w16 (w16 (w16 (m.sp + 2) - 2) + 1)))) * 256))).fdiv 256), r3 := w8 (or16 (w16 (g (ix (w16 (w16 (m.sp + 2) - 2))))) (w16 (w16 (g (ix (w16 (w16 (w16 (m.sp + 2) - 2) + 1)))) * 256))), sp := w16 (m.sp + 2) }) hm hh h0 (pd1_0 m g _ _) (rd1_0 m g) hg
theorem pd2_0 : endsAt [0, 1] (Ly.run ctx3 3000 [(51, true)] (sP m g 210 b1 b2)) = some (T [m.fc == false], .int .i64 0, 6, hPm { m with pc := or16 (w16 (or16 0 (w16 b2) * 256)) (w16 b1) } (memL g)) := by kernel_rfl
theorem pd2_1 : endsAt [0, 1] (Ly.run ctx3 3000 [(51, false)] (sP m g 210 b1 b2)) = some ([(m.fc == false, false)], .int .i64 0, 6, hPm { m with pc := w16 (m.pc + 3) } (memL g)) := by kernel_rfl
theorem rd2_0 : endsAt [0, 1, 2] (Ly.run ctx3 3000 [(3, true), (0, true), (0, true), (1, true), (0, true), (0, true), (0, true), (58, true)] (sR m g 210)) = some (T [inw m.pc && true, rg (w16 (m.pc + 1)), bl (ix (w16 (m.pc + 1))), inw m.pc && true, rg (w16 (m.pc + 2)), bl (ix (w16 (m.pc + 2))), inw m.pc && true, !m.fc], .int .i64 0, 4, hRm { m with pc := w16 (w16 (g (ix (w16 (m.pc + 1)))) + w16 (w16 (g (ix (w16 (m.pc + 2)))) * 256)) } (memL g)) := by kernel_rfl
theorem rd2_1 : endsAt [0, 1, 2] (Ly.run ctx3 3000 [(3, true), (0, true), (0, true), (1, true), (0, true), (0, true), (0, true), (58, false)] (sR m g 210)) = some ([(inw m.pc && true, true), (rg (w16 (m.pc + 1)), true), (bl (ix (w16 (m.pc + 1))), true), (inw m.pc && true, true), (rg (w16 (m.pc + 2)), true), (bl (ix (w16 (m.pc + 2))), true), (inw m.pc && true, true), (!m.fc, false)], .int .i64 0, 4, hRm { m with pc := w16 (m.pc + 3) } (memL g)) := by kernel_rfl
theorem od2 (hm : m.Ok) (hg : ∀ e, B8 (g e)) (hh : m.halt = false) (h0 : g (ix m.pc) = 210) : Both m g := by
  obtain ⟨r0, r1, r2, r3, r4, r5, r7, sp, pc⟩ := id hm
  cases hf : m.fc
  · exact joinA (m' := { m with pc := or16 (w16 (or16 0 (w16 (g (at1 m.pc 2))) * 256)) (w16 (g (at1 m.pc 1))) }) hm hh h0 (pd2_0 m g _ _) (rd2_0 m g) hg
  · exact joinA (m' := { m with pc := w16 (m.pc + 3) }) hm hh h0 (pd2_1 m g _ _) (rd2_1 m g) hg
theorem pd4_0 : endsAt [0, 1] (Ly.run ctx3 3000 [(53, true), (3, true), (0, true), (2, true), (0, true)] (sP m g 212 b1 b2)) = some (T [m.fc == false, rg (w16 (m.sp - 2)), bl (ix (w16 (m.sp - 2))), rg (w16 (w16 (m.sp - 2) + 1)), bl (ix (w16 (w16 (m.sp - 2) + 1)))], .int .i64 0, 7, hPm { m with pc := or16 (w16 (or16 0 (w16 b2) * 256)) (w16 b1), sp := w16 (m.sp - 2) } (M2 g (ix (w16 (m.sp - 2))) (w8 (w16 (m.pc + 3))) (ix (w16 (w16 (m.sp - 2) + 1))) (w8 ((w16 (m.pc + 3)).fdiv 256)))) := by kernel_rfl
theorem pd4_1 : endsAt [0, 1] (Ly.run ctx3 3000 [(53, false)] (sP m g 212 b1 b2)) = some ([(m.fc == false, false)], .int .i64 0, 6, hPm { m with pc := w16 (m.pc + 3) } (memL g)) := by kernel_rfl
theorem rd4_0 : endsAt [0, 1, 2] (Ly.run ctx3 3000 [(3, true), (0, true), (0, true), (1, true), (0, true), (0, true), (0, true), (68, true), (0, true), (0, true), (1, true), (0, true), (0, true), (0, true)] (sR m g 212)) = some (T [inw m.pc && true, rg (w16 (m.pc + 1)), bl (ix (w16 (m.pc + 1))), inw m.pc && true, rg (w16 (m.pc + 2)), bl (ix (w16 (m.pc + 2))), inw m.pc && true, !m.fc, inw m.sp && true, inw (w16 (m.sp + -2)) && true, rg (w16 (w16 (m.sp + -2) + 1)), bl (ix (w16 (w16 (m.sp + -2) + 1))), rg (w16 (m.sp + -2)), bl (ix (w16 (m.sp + -2)))], .int .i64 0, 4, hRm { m with pc := w16 (w16 (g (ix (w16 (m.pc + 1)))) + w16 (w16 (g (ix (w16 (m.pc + 2)))) * 256)), sp := w16 (m.sp + -2) } (M2 g (ix (w16 (w16 (m.sp + -2) + 1))) (w8 ((w16 (m.pc + 3)).fdiv 256)) (ix (w16 (m.sp + -2))) (w8 (and16 (w16 (m.pc + 3)) 255)))) := by kernel_rfl
theorem rd4_1 : endsAt [0, 1, 2] (Ly.run ctx3 3000 [(3, true), (0, true), (0, true), (1, true), (0, true), (0, true), (0, true), (68, false)] (sR m g 212)) = some ([(inw m.pc && true, true), (rg (w16 (m.pc + 1)), true), (bl (ix (w16 (m.pc + 1))), true), (inw m.pc && true, true), (rg (w16 (m.pc + 2)), true), (bl (ix (w16 (m.pc + 2))), true), (inw m.pc && true, true), (!m.fc, false)], .int .i64 0, 4, hRm { m with pc := w16 (m.pc + 3) } (memL g)) := by kernel_rfl
theorem od4 (hm : m.Ok) (hg : ∀ e, B8 (g e)) (hh : m.halt = false) (h0 : g (ix m.pc) = 212) : Both m g := by
  obtain ⟨r0, r1, r2, r3, r4, r5, r7, sp, pc⟩ := id hm
  cases hf : m.fc
  · exact join (m' := { m with pc := or16 (w16 (or16 0 (w16 (g (at1 m.pc 2))) * 256)) (w16 (g (at1 m.pc 1))), sp := w16 (m.sp - 2) }) (g' := (upd (upd g (ix (w16 (m.sp - 2))) (w8 (w16 (m.pc + 3)))) (ix (w16 (w16 (m.sp - 2) + 1))) (w8 ((w16 (m.pc + 3)).fdiv 256)))) hm hh h0 (pd4_0 m g _ _) (rd4_0 m g) (by simp [*]) (by simp [*]) (by decide) (by decide) (eP (m2s rfl rfl rfl rfl)) (eR (by simp [*]) (m2c (by simp [*]) (by simp [*]) (by simp [*]) (by simp [*]) (by simp [*]))) (by constructor <;> simp [*]) (upd_b8 (upd_b8 hg (by simp [*])) (by simp [*]))
  · exact joinA (m' := { m with pc := w16 (m.pc + 3) }) hm hh h0 (pd4_1 m g _ _) (rd4_1 m g) hg
theorem pd5_0 : endsAt [0, 1] (Ly.run ctx3 3000 [(59, true), (0, true), (2, true), (0, true)] (sP m g 213 b1 b2)) = some (T [rg (w16 (m.sp - 2)), bl (ix (w16 (m.sp - 2))), rg (w16 (w16 (m.sp - 2) + 1)), bl (ix (w16 (w16 (m.sp - 2) + 1)))], .int .i64 0, 6, hPm { m with pc := w16 (m.pc + 1), sp := w16 (m.sp - 2) } (M2 g (ix (w16 (m.sp - 2))) (w8 (or16 (w16 (w16 m.r2 * 256)) (w16 m.r3))) (ix (w16 (w16 (m.sp - 2) + 1))) (w8 ((or16 (w16 (w16 m.r2 * 256)) (w16 m.r3)).fdiv 256)))) := by kernel_rfl
theorem rd5_0 : endsAt [0, 1, 2] (Ly.run ctx3 3000 [(4, true), (35, true), (0, true), (0, true), (1, true), (0, true), (0, true), (0, true)] (sR m g 213)) = some (T [inw m.pc && true, inb m.r2 && inb m.r3, inw m.sp && true, inw (w16 (m.sp + -2)) && true, rg (w16 (w16 (m.sp + -2) + 1)), bl (ix (w16 (w16 (m.sp + -2) + 1))), rg (w16 (m.sp + -2)), bl (ix (w16 (m.sp + -2)))], .int .i64 0, 3, hRm { m with pc := w16 (m.pc + 1), sp := w16 (m.sp + -2) } (M2 g (ix (w16 (w16 (m.sp + -2) + 1))) (w8 ((256 * m.r2 + m.r3).fdiv 256)) (ix (w16 (m.sp + -2))) (w8 (and16 (256 * m.r2 + m.r3) 255)))) := by kernel_rfl
theorem od5 (hm : m.Ok) (hg : ∀ e, B8 (g e)) (hh : m.halt = false) (h0 : g (ix m.pc) = 213) : Both m g := by
  obtain ⟨r0, r1, r2, r3, r4, r5, r7, sp, pc⟩ := id hm
  exact join (m' := { m with pc := w16 (m.pc + 1), sp := w16 (m.sp - 2) }) (g' := (upd (upd g (ix (w16 (m.sp - 2))) (w8 (or16 (w16 (w16 m.r2 * 256)) (w16 m.r3)))) (ix (w16 (w16 (m.sp - 2) + 1))) (w8 ((or16 (w16 (w16 m.r2 * 256)) (w16 m.r3)).fdiv 256)))) hm hh h0 (pd5_0 m g _ _) (rd5_0 m g) (by simp [*]) (by simp [*]) (by decide) (by decide) (eP (m2s rfl rfl rfl rfl)) (eR (by simp [*]) (m2c (by simp [*]) (by simp [*]) (by simp [*]) (by simp [*]) (by simp [*]))) (by constructor <;> simp [*]) (upd_b8 (upd_b8 hg (by simp [*])) (by simp [*]))
theorem pd6_0 : endsAt [0, 1] (Ly.run ctx3 3000 [(21, true), (7, true)] (sP m g 214 b1 b2)) = some (T [m.fc == true, inb m.r7 && inb (w8 (or16 0 (w16 b1)))], .int .i64 0, 5, hPm { m with fc := decide (m.r7 - w8 (or16 0 (w16 b1)) - 0 < 0), fp := par ((m.r7 - w8 (or16 0 (w16 b1)) - 0) % 256), fs := decide (128 ≤ (m.r7 - w8 (or16 0 (w16 b1)) - 0) % 256), fx := decide (15 < m.r7 % 16 + 15 - w8 (or16 0 (w16 b1)) % 16 + 1), fz := (m.r7 - w8 (or16 0 (w16 b1)) - 0) % 256 == 0, pc := w16 (m.pc + 2), r7 := (m.r7 - w8 (or16 0 (w16 b1)) - 0) % 256 } (memL g)) := by kernel_rfl
theorem pd6_1 : endsAt [0, 1] (Ly.run ctx3 3000 [(21, false), (7, true)] (sP m g 214 b1 b2)) = some ([(m.fc == true, false), (inb m.r7 && inb (w8 (or16 0 (w16 b1))), true)], .int .i64 0, 5, hPm { m with fc := decide (m.r7 - w8 (or16 0 (w16 b1)) - 0 < 0), fp := par ((m.r7 - w8 (or16 0 (w16 b1)) - 0) % 256), fs := decide (128 ≤ (m.r7 - w8 (or16 0 (w16 b1)) - 0) % 256), fx := decide (15 < m.r7 % 16 + 15 - w8 (or16 0 (w16 b1)) % 16 + 1), fz := (m.r7 - w8 (or16 0 (w16 b1)) - 0) % 256 == 0, pc := w16 (m.pc + 2), r7 := (m.r7 - w8 (or16 0 (w16 b1)) - 0) % 256 } (memL g)) := by kernel_rfl
theorem rd6_0 : endsAt [0, 1, 2] (Ly.run ctx3 3000 [(3, true), (0, true), (0, true), (1, true), (34, true)] (sR m g 214)) = some (T [inw m.pc && true, rg (w16 (m.pc + 1)), bl (ix (w16 (m.pc + 1))), inw m.pc && true, inb m.r7 && inb (w8 (w16 (g (ix (w16 (m.pc + 1))))))], .int .i64 0, 4, hRm { m with fc := decide (m.r7 - w8 (w16 (g (ix (w16 (m.pc + 1))))) - 0 < 0), fp := par ((m.r7 - w8 (w16 (g (ix (w16 (m.pc + 1))))) - 0) % 256), fs := decide (128 ≤ (m.r7 - w8 (w16 (g (ix (w16 (m.pc + 1))))) - 0) % 256), fx := decide (15 < m.r7 % 16 + 15 - w8 (w16 (g (ix (w16 (m.pc + 1))))) % 16 + 1), fz := (m.r7 - w8 (w16 (g (ix (w16 (m.pc + 1))))) - 0) % 256 == 0, pc := w16 (m.pc + 2), r7 := (m.r7 - w8 (w16 (g (ix (w16 (m.pc + 1))))) - 0) % 256 } (memL g)) := by kernel_rfl
theorem od6 (hm : m.Ok) (hg : ∀ e, B8 (g e)) (hh : m.halt = false) (h0 : g (ix m.pc) = 214) : Both m g := by
  obtain ⟨r0, r1, r2, r3, r4, r5, r7, sp, pc⟩ := id hm
  cases hf : m.fc
  · exact joinA (m' := { m with fc := decide (m.r7 - w8 (or16 0 (w16 (g (at1 m.pc 1)))) - 0 < 0), fp := par ((m.r7 - w8 (or16 0 (w16 (g (at1 m.pc 1)))) - 0) % 256), fs := decide (128 ≤ (m.r7 - w8 (or16 0 (w16 (g (at1 m.pc 1)))) - 0) % 256), fx := decide (15 < m.r7 % 16 + 15 - w8 (or16 0 (w16 (g (at1 m.pc 1)))) % 16 + 1), fz := (m.r7 - w8 (or16 0 (w16 (g (at1 m.pc 1)))) - 0) % 256 == 0, pc := w16 (m.pc + 2), r7 := (m.r7 - w8 (or16 0 (w16 (g (at1 m.pc 1)))) - 0) % 256 }) hm hh h0 (pd6_1 m g _ _) (rd6_0 m g) hg
  · exact joinA (m' := { m with fc := decide (m.r7 - w8 (or16 0 (w16 (g (at1 m.pc 1)))) - 0 < 0), fp := par ((m.r7 - w8 (or16 0 (w16 (g (at1 m.pc 1)))) - 0) % 256), fs := decide (128 ≤ (m.r7 - w8 (or16 0 (w16 (g (at1 m.pc 1)))) - 0) % 256), fx := decide (15 < m.r7 % 16 + 15 - w8 (or16 0 (w16 (g (at1 m.pc 1)))) % 16 + 1), fz := (m.r7 - w8 (or16 0 (w16 (g (at1 m.pc 1)))) - 0) % 256 == 0, pc := w16 (m.pc + 2), r7 := (m.r7 - w8 (or16 0 (w16 (g (at1 m.pc 1)))) - 0) % 256 }) hm hh h0 (pd6_0 m g _ _) (rd6_0 m g) hg
theorem pd7_0 : endsAt [0, 1] (Ly.run ctx3 3000 [(44, true), (0, true), (2, true), (0, true)] (sP m g 215 b1 b2)) = some (T [rg (w16 (m.sp - 2)), bl (ix (w16 (m.sp - 2))), rg (w16 (w16 (m.sp - 2) + 1)), bl (ix (w16 (w16 (m.sp - 2) + 1)))], .int .i64 0, 6, hPm { m with pc := 16, sp := w16 (m.sp - 2) } (M2 g (ix (w16 (m.sp - 2))) (w8 (w16 (m.pc + 1))) (ix (w16 (w16 (m.sp - 2) + 1))) (w8 ((w16 (m.pc + 1)).fdiv 256)))) := by kernel_rfl
theorem rd7_0 : endsAt [0, 1, 2] (Ly.run ctx3 3000 [(4, true), (24, true), (0, true), (1, true), (0, true), (0, true), (0, true)] (sR m g 215)) = some (T [inw m.pc && true, inw m.sp && true, inw (w16 (m.sp + -2)) && true, rg (w16 (w16 (m.sp + -2) + 1)), bl (ix (w16 (w16 (m.sp + -2) + 1))), rg (w16 (m.sp + -2)), bl (ix (w16 (m.sp + -2)))], .int .i64 0, 3, hRm { m with pc := 16, sp := w16 (m.sp + -2) } (M2 g (ix (w16 (w16 (m.sp + -2) + 1))) (w8 ((w16 (m.pc + 1)).fdiv 256)) (ix (w16 (m.sp + -2))) (w8 (and16 (w16 (m.pc + 1)) 255)))) := by kernel_rfl
theorem od7 (hm : m.Ok) (hg : ∀ e, B8 (g e)) (hh : m.halt = false) (h0 : g (ix m.pc) = 215) : Both m g := by
  obtain ⟨r0, r1, r2, r3, r4, r5, r7, sp, pc⟩ := id hm
  exact join (m' := { m with pc := 16, sp := w16 (m.sp - 2) }) (g' := (upd (upd g (ix (w16 (m.sp - 2))) (w8 (w16 (m.pc + 1)))) (ix (w16 (w16 (m.sp - 2) + 1))) (w8 ((w16 (m.pc + 1)).fdiv 256)))) hm hh h0 (pd7_0 m g _ _) (rd7_0 m g) (by simp [*]) (by simp [*]) (by decide) (by decide) (eP (m2s rfl rfl rfl rfl)) (eR (by simp [*]) (m2c (by simp [*]) (by simp [*]) (by simp [*]) (by simp [*]) (by simp [*]))) (by constructor <;> simp [*]) (upd_b8 (upd_b8 hg (by simp [*])) (by simp [*]))
theorem pd8_0 : endsAt [0, 1] (Ly.run ctx3 3000 [(43, true), (0, true), (0, true), (0, true), (0, true)] (sP m g 216 b1 b2)) = some (T [m.fc == true, rg (w16 (w16 (m.sp + 2) - 2)), bl (ix (w16 (w16 (m.sp + 2) - 2))), rg (w16 (w16 (w16 (m.sp + 2) - 2) + 1)), bl (ix (w16 (w16 (w16 (m.sp + 2) - 2) + 1)))], .int .i64 0, 6, hPm { m with pc := or16 (w16 (g (ix (w16 (w16 (m.sp + 2) - 2))))) (w16 (w16 (g (ix (w16 (w16 (w16 (m.sp + 2) - 2) + 1)))) * 256)), sp := w16 (m.sp + 2) } (memL g)) := by kernel_rfl
theorem pd8_1 : endsAt [0, 1] (Ly.run ctx3 3000 [(43, false)] (sP m g 216 b1 b2)) = some ([(m.fc == true, false)], .int .i64 0, 6, hPm { m with pc := w16 (m.pc + 1) } (memL g)) := by kernel_rfl
theorem rd8_0 : endsAt [0, 1, 2] (Ly.run ctx3 3000 [(4, true), (49, true), (0, true), (0, true), (0, true), (0, true), (0, true), (0, true), (0, true)] (sR m g 216)) = some (T [inw m.pc && true, m.fc, inw m.sp && true, rg (w16 (m.sp + 1)), bl (ix (w16 (m.sp + 1))), rg (m.sp), bl (ix m.sp), inb (g (ix (w16 (m.sp + 1)))) && inb (g (ix m.sp)), inw m.sp && true], .int .i64 0, 4, hRm { m with pc := 256 * g (ix (w16 (m.sp + 1))) + g (ix m.sp), sp := w16 (m.sp + 2) } (memL g)) := by kernel_rfl
theorem rd8_1 : endsAt [0, 1, 2] (Ly.run ctx3 3000 [(4, true), (49, false)] (sR m g 216)) = some ([(inw m.pc && true, true), (m.fc, false)], .int .i64 0, 4, hRm { m with pc := w16 (m.pc + 1) } (memL g)) := by kernel_rfl
theorem od8 (hm : m.Ok) (hg : ∀ e, B8 (g e)) (hh : m.halt = false) (h0 : g (ix m.pc) = 216) : Both m g := by
  obtain ⟨r0, r1, r2, r3, r4, r5, r7, sp, pc⟩ := id hm
  cases hf : m.fc
  · exact joinA (m' := { m with pc := w16 (m.pc + 1) }) hm hh h0 (pd8_1 m g _ _) (rd8_1 m g) hg
  · exact joinA (m' := { m with pc := or16 (w16 (g (ix (w16 (w16 (m.sp + 2) - 2))))) (w16 (w16 (g (ix (w16 (w16 (w16 (m.sp + 2) - 2) + 1)))) * 256)), sp := w16 (m.sp + 2) }) hm hh h0 (pd8_0 m g _ _) (rd8_0 m g) hg
theorem pd9_0 : endsAt [0, 1] (Ly.run ctx3 3000 [] (sP m g 217 b1 b2)) = some (T [], .int .i64 8, 5, hPm m (memL g)) := by kernel_rfl
theorem rd9_0 : endsAt [0, 1, 2] (Ly.run ctx3 3000 [] (sR m g 217)) = some (T [], .int .i64 8, 3, hRm m (memL g)) := by kernel_rfl
theorem od9 (hm : m.Ok) (hg : ∀ e, B8 (g e)) (hh : m.halt = false) (h0 : g (ix m.pc) = 217) : Both m g := by
  obtain ⟨r0, r1, r2, r3, r4, r5, r7, sp, pc⟩ := id hm
  exact join (m' := m) (g' := g) hm hh h0 (pd9_0 m g _ _) (rd9_0 m g) (by simp [*]) (by simp [*]) (by decide) (by decide) (eP (.inl rfl)) (eR rfl (.inl rfl)) (by constructor <;> simp [*]) hg
theorem pda_0 : endsAt [0, 1] (Ly.run ctx3 3000 [(51, true)] (sP m g 218 b1 b2)) = some (T [m.fc == true], .int .i64 0, 6, hPm { m with pc := or16 (w16 (or16 0 (w16 b2) * 256)) (w16 b1) } (memL g)) := by kernel_rfl
theorem pda_1 : endsAt [0, 1] (Ly.run ctx3 3000 [(51, false)] (sP m g 218 b1 b2)) = some ([(m.fc == true, false)], .int .i64 0, 6, hPm { m with pc := w16 (m.pc + 3) } (memL g)) := by kernel_rfl
theorem rda_0 : endsAt [0, 1, 2] (Ly.run ctx3 3000 [(3, true), (0, true), (0, true), (1, true), (0, true), (0, true), (0, true), (59, true)] (sR m g 218)) = some (T [inw m.pc && true, rg (w16 (m.pc + 1)), bl (ix (w16 (m.pc + 1))), inw m.pc && true, rg (w16 (m.pc + 2)), bl (ix (w16 (m.pc + 2))), inw m.pc && true, m.fc], .int .i64 0, 4, hRm { m with pc := w16 (w16 (g (ix (w16 (m.pc + 1)))) + w16 (w16 (g (ix (w16 (m.pc + 2)))) * 256)) } (memL g)) := by kernel_rfl
theorem rda_1 : endsAt [0, 1, 2] (Ly.run ctx3 3000 [(3, true), (0, true), (0, true), (1, true), (0, true), (0, true), (0, true), (59, false)] (sR m g 218)) = some ([(inw m.pc && true, true), (rg (w16 (m.pc + 1)), true), (bl (ix (w16 (m.pc + 1))), true), (inw m.pc && true, true), (rg (w16 (m.pc + 2)), true), (bl (ix (w16 (m.pc + 2))), true), (inw m.pc && true, true), (m.fc, false)], .int .i64 0, 4, hRm { m with pc := w16 (m.pc + 3) } (memL g)) := by kernel_rfl
theorem oda (hm : m.Ok) (hg : ∀ e, B8 (g e)) (hh : m.halt = false) (h0 : g (ix m.pc) = 218) : Both m g := by
  obtain ⟨r0, r1, r2, r3, r4, r5, r7, sp, pc⟩ := id hm
  cases hf : m.fc
  · exact joinA (m' := { m with pc := w16 (m.pc + 3) }) hm hh h0 (pda_1 m g _ _) (rda_1 m g) hg
  · exact joinA (m' := { m with pc := or16 (w16 (or16 0 (w16 (g (at1 m.pc 2))) * 256)) (w16 (g (at1 m.pc 1))) }) hm hh h0 (pda_0 m g _ _) (rda_0 m g) hg
theorem pdc_0 : endsAt [0, 1] (Ly.run ctx3 3000 [(53, true), (3, true), (0, true), (2, true), (0, true)] (sP m g 220 b1 b2)) = some (T [m.fc == true, rg (w16 (m.sp - 2)), bl (ix (w16 (m.sp - 2))), rg (w16 (w16 (m.sp - 2) + 1)), bl (ix (w16 (w16 (m.sp - 2) + 1)))], .int .i64 0, 7, hPm { m with pc := or16 (w16 (or16 0 (w16 b2) * 256)) (w16 b1), sp := w16 (m.sp - 2) } (M2 g (ix (w16 (m.sp - 2))) (w8 (w16 (m.pc + 3))) (ix (w16 (w16 (m.sp - 2) + 1))) (w8 ((w16 (m.pc + 3)).fdiv 256)))) := by kernel_rfl
theorem pdc_1 : endsAt [0, 1] (Ly.run ctx3 3000 [(53, false)] (sP m g 220 b1 b2)) = some ([(m.fc == true, false)], .int .i64 0, 6, hPm { m with pc := w16 (m.pc + 3) } (memL g)) := by kernel_rfl
theorem rdc_0 : endsAt [0, 1, 2] (Ly.run ctx3 3000 [(3, true), (0, true), (0, true), (1, true), (0, true), (0, true), (0, true), (69, true), (0, true), (0, true), (1, true), (0, true), (0, true), (0, true)] (sR m g 220)) = some (T [inw m.pc && true, rg (w16 (m.pc + 1)), bl (ix (w16 (m.pc + 1))), inw m.pc && true, rg (w16 (m.pc + 2)), bl (ix (w16 (m.pc + 2))), inw m.pc && true, m.fc, inw m.sp && true, inw (w16 (m.sp + -2)) && true, rg (w16 (w16 (m.sp + -2) + 1)), bl (ix (w16 (w16 (m.sp + -2) + 1))), rg (w16 (m.sp + -2)), bl (ix (w16 (m.sp + -2)))], .int .i64 0, 4, hRm { m with pc := w16 (w16 (g (ix (w16 (m.pc + 1)))) + w16 (w16 (g (ix (w16 (m.pc + 2)))) * 256)), sp := w16 (m.sp + -2) } (M2 g (ix (w16 (w16 (m.sp + -2) + 1))) (w8 ((w16 (m.pc + 3)).fdiv 256)) (ix (w16 (m.sp + -2))) (w8 (and16 (w16 (m.pc + 3)) 255)))) := by kernel_rfl
theorem rdc_1 : endsAt [0, 1, 2] (Ly.run ctx3 3000 [(3, true), (0, true), (0, true), (1, true), (0, true), (0, true), (0, true), (69, false)] (sR m g 220)) = some ([(inw m.pc && true, true), (rg (w16 (m.pc + 1)), true), (bl (ix (w16 (m.pc + 1))), true), (inw m.pc && true, true), (rg (w16 (m.pc + 2)), true), (bl (ix (w16 (m.pc + 2))), true), (inw m.pc && true, true), (m.fc, false)], .int .i64 0, 4, hRm { m with pc := w16 (m.pc + 3) } (memL g)) := by kernel_rfl
theorem odc (hm : m.Ok) (hg : ∀ e, B8 (g e)) (hh : m.halt = false) (h0 : g (ix m.pc) = 220) : Both m g := by
  obtain ⟨r0, r1, r2, r3, r4, r5, r7, sp, pc⟩ := id hm
  cases hf : m.fc
  · exact joinA (m' := { m with pc := w16 (m.pc + 3) }) hm hh h0 (pdc_1 m g _ _) (rdc_1 m g) hg
  · exact join (m' := { m with pc := or16 (w16 (or16 0 (w16 (g (at1 m.pc 2))) * 256)) (w16 (g (at1 m.pc 1))), sp := w16 (m.sp - 2) }) (g' := (upd (upd g (ix (w16 (m.sp - 2))) (w8 (w16 (m.pc + 3)))) (ix (w16 (w16 (m.sp - 2) + 1))) (w8 ((w16 (m.pc + 3)).fdiv 256)))) hm hh h0 (pdc_0 m g _ _) (rdc_0 m g) (by simp [*]) (by simp [*]) (by decide) (by decide) (eP (m2s rfl rfl rfl rfl)) (eR (by simp [*]) (m2c (by simp [*]) (by simp [*]) (by simp [*]) (by simp [*]) (by simp [*]))) (by constructor <;> simp [*]) (upd_b8 (upd_b8 hg (by simp [*])) (by simp [*]))
theorem pdd_0 : endsAt [0, 1] (Ly.run ctx3 3000 [] (sP m g 221 b1 b2)) = some (T [], .int .i64 8, 5, hPm m (memL g)) := by kernel_rfl
theorem rdd_0 : endsAt [0, 1, 2] (Ly.run ctx3 3000 [] (sR m g 221)) = some (T [], .int .i64 8, 3, hRm m (memL g)) := by kernel_rfl
theorem odd (hm : m.Ok) (hg : ∀ e, B8 (g e)) (hh : m.halt = false) (h0 : g (ix m.pc) = 221) : Both m g := by
  obtain ⟨r0, r1, r2, r3, r4, r5, r7, sp, pc⟩ := id hm
  exact join (m' := m) (g' := g) hm hh h0 (pdd_0 m g _ _) (rdd_0 m g) (by simp [*]) (by simp [*]) (by decide) (by decide) (eP (.inl rfl)) (eR rfl (.inl rfl)) (by constructor <;> simp [*]) hg
theorem pde_0 : endsAt [0, 1] (Ly.run ctx3 3000 [(21, true), (7, true)] (sP m g 222 b1 b2)) = some (T [m.fc == true, inb m.r7 && inb (w8 (or16 0 (w16 b1)))], .int .i64 0, 5, hPm { m with fc := decide (m.r7 - w8 (or16 0 (w16 b1)) - 1 < 0), fp := par ((m.r7 - w8 (or16 0 (w16 b1)) - 1) % 256), fs := decide (128 ≤ (m.r7 - w8 (or16 0 (w16 b1)) - 1) % 256), fx := decide (15 < m.r7 % 16 + 15 - w8 (or16 0 (w16 b1)) % 16 + 0), fz := (m.r7 - w8 (or16 0 (w16 b1)) - 1) % 256 == 0, pc := w16 (m.pc + 2), r7 := (m.r7 - w8 (or16 0 (w16 b1)) - 1) % 256 } (memL g)) := by kernel_rfl
theorem pde_1 : endsAt [0, 1] (Ly.run ctx3 3000 [(21, false), (7, true)] (sP m g 222 b1 b2)) = some ([(m.fc == true, false), (inb m.r7 && inb (w8 (or16 0 (w16 b1))), true)], .int .i64 0, 5, hPm { m with fc := decide (m.r7 - w8 (or16 0 (w16 b1)) - 0 < 0), fp := par ((m.r7 - w8 (or16 0 (w16 b1)) - 0) % 256), fs := decide (128 ≤ (m.r7 - w8 (or16 0 (w16 b1)) - 0) % 256), fx := decide (15 < m.r7 % 16 + 15 - w8 (or16 0 (w16 b1)) % 16 + 1), fz := (m.r7 - w8 (or16 0 (w16 b1)) - 0) % 256 == 0, pc := w16 (m.pc + 2), r7 := (m.r7 - w8 (or16 0 (w16 b1)) - 0) % 256 } (memL g)) := by kernel_rfl
theorem rde_0 : endsAt [0, 1, 2] (Ly.run ctx3 3000 [(3, true), (0, true), (0, true), (1, true), (35, true)] (sR m g 222)) = some (T [inw m.pc && true, rg (w16 (m.pc + 1)), bl (ix (w16 (m.pc + 1))), inw m.pc && true, inb m.r7 && inb (w8 (w16 (g (ix (w16 (m.pc + 1))))))], .int .i64 0, 4, hRm { m with fc := decide (m.r7 - w8 (w16 (g (ix (w16 (m.pc + 1))))) - cI m.fc < 0), fp := par ((m.r7 - w8 (w16 (g (ix (w16 (m.pc + 1))))) - cI m.fc) % 256), fs := decide (128 ≤ (m.r7 - w8 (w16 (g (ix (w16 (m.pc + 1))))) - cI m.fc) % 256), fx := decide (15 < m.r7 % 16 + 15 - w8 (w16 (g (ix (w16 (m.pc + 1))))) % 16 + cI !m.fc), fz := (m.r7 - w8 (w16 (g (ix (w16 (m.pc + 1))))) - cI m.fc) % 256 == 0, pc := w16 (m.pc + 2), r7 := (m.r7 - w8 (w16 (g (ix (w16 (m.pc + 1))))) - cI m.fc) % 256 } (memL g)) := by kernel_rfl
theorem ode (hm : m.Ok) (hg : ∀ e, B8 (g e)) (hh : m.halt = false) (h0 : g (ix m.pc) = 222) : Both m g := by
  obtain ⟨r0, r1, r2, r3, r4, r5, r7, sp, pc⟩ := id hm
  cases hf : m.fc
  · exact joinA (m' := { m with fc := decide (m.r7 - w8 (or16 0 (w16 (g (at1 m.pc 1)))) - 0 < 0), fp := par ((m.r7 - w8 (or16 0 (w16 (g (at1 m.pc 1)))) - 0) % 256), fs := decide (128 ≤ (m.r7 - w8 (or16 0 (w16 (g (at1 m.pc 1)))) - 0) % 256), fx := decide (15 < m.r7 % 16 + 15 - w8 (or16 0 (w16 (g (at1 m.pc 1)))) % 16 + 1), fz := (m.r7 - w8 (or16 0 (w16 (g (at1 m.pc 1)))) - 0) % 256 == 0, pc := w16 (m.pc + 2), r7 := (m.r7 - w8 (or16 0 (w16 (g (at1 m.pc 1)))) - 0) % 256 }) hm hh h0 (pde_1 m g _ _) (rde_0 m g) hg
  · exact joinA (m' := { m with fc := decide (m.r7 - w8 (or16 0 (w16 (g (at1 m.pc 1)))) - 1 < 0), fp := par ((m.r7 - w8 (or16 0 (w16 (g (at1 m.pc 1)))) - 1) % 256), fs := decide (128 ≤ (m.r7 - w8 (or16 0 (w16 (g (at1 m.pc 1)))) - 1) % 256), fx := decide (15 < m.r7 % 16 + 15 - w8 (or16 0 (w16 (g (at1 m.pc 1)))) % 16 + 0), fz := (m.r7 - w8 (or16 0 (w16 (g (at1 m.pc 1)))) - 1) % 256 == 0, pc := w16 (m.pc + 2), r7 := (m.r7 - w8 (or16 0 (w16 (g (at1 m.pc 1)))) - 1) % 256 }) hm hh h0 (pde_0 m g _ _) (rde_0 m g) hg
theorem pdf_0 : endsAt [0, 1] (Ly.run ctx3 3000 [(44, true), (0, true), (2, true), (0, true)] (sP m g 223 b1 b2)) = some (T [rg (w16 (m.sp - 2)), bl (ix (w16 (m.sp - 2))), rg (w16 (w16 (m.sp - 2) + 1)), bl (ix (w16 (w16 (m.sp - 2) + 1)))], .int .i64 0, 6, hPm { m with pc := 24, sp := w16 (m.sp - 2) } (M2 g (ix (w16 (m.sp - 2))) (w8 (w16 (m.pc + 1))) (ix (w16 (w16 (m.sp - 2) + 1))) (w8 ((w16 (m.pc + 1)).fdiv 256)))) := by kernel_rfl
theorem rdf_0 : endsAt [0, 1, 2] (Ly.run ctx3 3000 [(4, true), (24, true), (0, true), (1, true), (0, true), (0, true), (0, true)] (sR m g 223)) = some (T [inw m.pc && true, inw m.sp && true, inw (w16 (m.sp + -2)) && true, rg (w16 (w16 (m.sp + -2) + 1)), bl (ix (w16 (w16 (m.sp + -2) + 1))), rg (w16 (m.sp + -2)), bl (ix (w16 (m.sp + -2)))], .int .i64 0, 3, hRm { m with pc := 24, sp := w16 (m.sp + -2) } (M2 g (ix (w16 (w16 (m.sp + -2) + 1))) (w8 ((w16 (m.pc + 1)).fdiv 256)) (ix (w16 (m.sp + -2))) (w8 (and16 (w16 (m.pc + 1)) 255)))) := by kernel_rfl
theorem odf (hm : m.Ok) (hg : ∀ e, B8 (g e)) (hh : m.halt = false) (h0 : g (ix m.pc) = 223) : Both m g := by
  obtain ⟨r0, r1, r2, r3, r4, r5, r7, sp, pc⟩ := id hm
  exact join (m' := { m with pc := 24, sp := w16 (m.sp - 2) }) (g' := (upd (upd g (ix (w16 (m.sp - 2))) (w8 (w16 (m.pc + 1)))) (ix (w16 (w16 (m.sp - 2) + 1))) (w8 ((w16 (m.pc + 1)).fdiv 256)))) hm hh h0 (pdf_0 m g _ _) (rdf_0 m g) (by simp [*]) (by simp [*]) (by decide) (by decide) (eP (m2s rfl rfl rfl rfl)) (eR (by simp [*]) (m2c (by simp [*]) (by simp [*]) (by simp [*]) (by simp [*]) (by simp [*]))) (by constructor <;> simp [*]) (upd_b8 (upd_b8 hg (by simp [*])) (by simp [*]))
theorem blk13 (m : Mc) (g : Nat → Int) (hm : m.Ok) (hg : ∀ e, B8 (g e)) (hh : m.halt = false) (h1 : 208 ≤ g (ix m.pc)) (h2 : g (ix m.pc) < 224) (hi : g (ix m.pc) ≠ 219) (ho : g (ix m.pc) ≠ 211) : Both m g := by
  have h : g (ix m.pc) = 208 ∨ g (ix m.pc) = 209 ∨ g (ix m.pc) = 210 ∨ g (ix m.pc) = 212 ∨ g (ix m.pc) = 213 ∨ g (ix m.pc) = 214 ∨ g (ix m.pc) = 215 ∨ g (ix m.pc) = 216 ∨ g (ix m.pc) = 217 ∨ g (ix m.pc) = 218 ∨ g (ix m.pc) = 220 ∨ g (ix m.pc) = 221 ∨ g (ix m.pc) = 222 ∨ g (ix m.pc) = 223 := by omega
  rcases h with h | h | h | h | h | h | h | h | h | h | h | h | h | h
  · exact od0 m g hm hg hh h
  · exact od1 m g hm hg hh h
  · exact od2 m g hm hg hh h
  · exact od4 m g hm hg hh h
  · exact od5 m g hm hg hh h
  · exact od6 m g hm hg hh h
  · exact od7 m g hm hg hh h
  · exact od8 m g hm hg hh h
  · exact od9 m g hm hg hh h
  · exact oda m g hm hg hh h
  · exact odc m g hm hg hh h
  · exact odd m g hm hg hh h
  · exact ode m g hm hg hh h
  · exact odf m g hm hg hh h
end Go.Proofs.Ytpggoincnebfnaa
namespace Go.Proofs.Ytpggoincnebfnaa
open Go Go.Ly Go.RowKit
variable (m : Mc) (g : Nat → Int) (b1 b2 : Int)
theorem pe0_0 : endsAt [0, 1] (Ly.run ctx3 3000 [(43, true), (0, true), (0, true), (0, true), (0, true)] (sP m g 224 b1 b2)) = some (T [m.fp == false, rg (w16 (w16 (m.sp + 2) - 2)), bl (ix (w16 (w16 (m.sp + 2) - 2))), rg (w16 (w16 (w16 (m.sp + 2) - 2) + 1)), bl (ix (w16 (w16 (w16 (m.sp + 2) - 2) + 1)))], .int .i64 0, 6, hPm { m with pc := or16 (w16 (g (ix (w16 (w16 (m.sp + 2) - 2))))) (w16 (w16 (g (ix (w16 (w16 (w16 (m.sp + 2) - 2) + 1)))) * 256)), sp := w16 (m.sp + 2) } (memL g)) := by kernel_rfl
theorem pe0_1 : endsAt [0, 1] (Ly.run ctx3 3000 [(43, false)] (sP m g 224 b1 b2)) = some ([(m.fp == false, false)], .int .i64 0, 6, hPm { m with pc := w16 (m.pc + 1) } (memL g)) := by kernel_rfl
theorem re0_0 : endsAt [0, 1, 2] (Ly.run ctx3 3000 [(4, true), (50, true), (0, true), (0, true), (0, true), (0, true), (0, true), (0, true), (0, true)] (sR m g 224)) = some (T [inw m.pc && true, !m.fp, inw m.sp && true, rg (w16 (m.sp + 1)), bl (ix (w16 (m.sp + 1))), rg (m.sp), bl (ix m.sp), inb (g (ix (w16 (m.sp + 1)))) && inb (g (ix m.sp)), inw m.sp && true], .int .i64 0, 4, hRm { m with pc := 256 * g (ix (w16 (m.sp + 1))) + g (ix m.sp), sp := w16 (m.sp + 2) } (memL g)) := by kernel_rfl
theorem re0_1 : endsAt [0, 1, 2] (Ly.run ctx3 3000 [(4, true), (50, false)] (sR m g 224)) = some ([(inw m.pc && true, true), (!m.fp, false)], .int .i64 0, 4, hRm { m with pc := w16 (m.pc + 1) } (memL g)) := by kernel_rfl
theorem oe0 (hm : m.Ok) (hg : ∀ e, B8 (g e)) (hh : m.halt = false) (h0 : g (ix m.pc) = 224) : Both m g := by
  obtain ⟨r0, r1, r2, r3, r4, r5, r7, sp, pc⟩ := id hm
  cases hf : m.fp
  · exact joinA (m' := { m with pc := or16 (w16 (g (ix (w16 (w16 (m.sp + 2) - 2))))) (w16 (w16 (g (ix (w16 (w16 (w16 (m.sp + 2) - 2) + 1)))) * 256)), sp := w16 (m.sp + 2) }) hm hh h0 (pe0_0 m g _ _) (re0_0 m g) hg
  · exact joinA (m' := { m with pc := w16 (m.pc + 1) }) hm hh h0 (pe0_1 m g _ _) (re0_1 m g) hg
theorem pe1_0 : endsAt [0, 1] (Ly.run ctx3 3000 [(45, true), (0, true), (0, true), (0, true)] (sP m g 225 b1 b2)) = some (T [rg (w16 (w16 (m.sp + 2) - 2)), bl (ix (w16 (w16 (m.sp + 2) - 2))), rg (w16 (w16 (w16 (m.sp + 2) - 2) + 1)), bl (ix (w16 (w16 (w16 (m.sp + 2) - 2) + 1)))], .int .i64 0, 5, hPm { m with pc := w16 (m.pc + 1), r4 := w8 ((or16 (w16 (g (ix (w16 (w16 (m.sp + 2) - 2))))) (w16 (w16 (g (ix (w16 (w16 (w16 (m.sp + 2) - 2) + 1)))) * 256))).fdiv 256), r5 := w8 (or16 (w16 (g (ix (w16 (w16 (m.sp + 2) - 2))))) (w16 (w16 (g (ix (w16 (w16 (w16 (m.sp + 2) - 2) + 1)))) * 256))), sp := w16 (m.sp + 2) } (memL g)) := by kernel_rfl
theorem re1_0 : endsAt [0, 1, 2] (Ly.run ctx3 3000 [(4, true), (34, true), (0, true), (0, true), (0, true), (0, true), (0, true), (0, true)] (sR m g 225)) = some (T [inw m.pc && true, inw m.sp && true, rg (w16 (m.sp + 1)), bl (ix (w16 (m.sp + 1))), rg (m.sp), bl (ix m.sp), inb (g (ix (w16 (m.sp + 1)))) && inb (g (ix m.sp)), inw m.sp && true], .int .i64 0, 3, hRm { m with pc := w16 (m.pc + 1), r4 := w8 ((256 * g (ix (w16 (m.sp + 1))) + g (ix m.sp)).fdiv 256), r5 := w8 (and16 (256 * g (ix (w16 (m.sp + 1))) + g (ix m.sp)) 255), sp := w16 (m.sp + 2) } (memL g)) := by kernel_rfl
theorem oe1 (hm : m.Ok) (hg : ∀ e, B8 (g e)) (hh : m.halt = false) (h0 : g (ix m.pc) = 225) : Both m g := by
  obtain ⟨r0, r1, r2, r3, r4, r5, r7, sp, pc⟩ := id hm
  exact joinA (m' := { m with pc := w16 (m.pc + 1), r4 := w8 ((or16 (w16 (g (ix (w16 (w16 (m.sp + 2) - 2))))) (w16 (w16 (g (ix (w16 (w16 (w16 (m.sp + 2) - 2) + 1)))) * 256))).fdiv 256), r5 := w8 (or16 (w16 (g (ix (w16 (w16 (m.sp + 2) - 2))))) (w16 (w16 (g (ix (w16 (w16 (w16 (m.sp + 2) - 2) + 1)))) * 256))), sp := w16 (m.sp + 2) }) hm hh h0 (pe1_0 m g _ _) (re1_0 m g) hg
theorem pe2_0 : endsAt [0, 1] (Ly.run ctx3 3000 [(51, true)] (sP m g 226 b1 b2)) = some (T [m.fp == false], .int .i64 0, 6, hPm { m with pc := or16 (w16 (or16 0 (w16 b2) * 256)) (w16 b1) } (memL g)) := by kernel_rfl
theorem pe2_1 : endsAt [0, 1] (Ly.run ctx3 3000 [(51, false)] (sP m g 226 b1 b2)) = some ([(m.fp == false, false)], .int .i64 0, 6, hPm { m with pc := w16 (m.pc + 3) } (memL g)) := by kernel_rfl
theorem re2_0 : endsAt [0, 1, 2] (Ly.run ctx3 3000 [(3, true), (0, true), (0, true), (1, true), (0, true), (0, true), (0, true), (60, true)] (sR m g 226)) = some (T [inw m.pc && true, rg (w16 (m.pc + 1)), bl (ix (w16 (m.pc + 1))), inw m.pc && true, rg (w16 (m.pc + 2)), bl (ix (w16 (m.pc + 2))), inw m.pc && true, !m.fp], .int .i64 0, 4, hRm { m with pc := w16 (w16 (g (ix (w16 (m.pc + 1)))) + w16 (w16 (g (ix (w16 (m.pc + 2)))) * 256)) } (memL g)) := by kernel_rfl
theorem re2_1 : endsAt [0, 1, 2] (Ly.run ctx3 3000 [(3, true), (0, true), (0, true), (1, true), (0, true), (0, true), (0, true), (60, false)] (sR m g 226)) = some ([(inw m.pc && true, true), (rg (w16 (m.pc + 1)), true), (bl (ix (w16 (m.pc + 1))), true), (inw m.pc && true, true), (rg (w16 (m.pc + 2)), true), (bl (ix (w16 (m.pc + 2))), true), (inw m.pc && true, true), (!m.fp, false)], .int .i64 0, 4, hRm { m with pc := w16 (m.pc + 3) } (memL g)) := by kernel_rfl
theorem oe2 (hm : m.Ok) (hg : ∀ e, B8 (g e)) (hh : m.halt = false) (h0 : g (ix m.pc) = 226) : Both m g := by
  obtain ⟨r0, r1, r2, r3, r4, r5, r7, sp, pc⟩ := id hm
  cases hf : m.fp
  · exact joinA (m' := { m with pc := or16 (w16 (or16 0 (w16 (g (at1 m.pc 2))) * 256)) (w16 (g (at1 m.pc 1))) }) hm hh h0 (pe2_0 m g _ _) (re2_0 m g) hg
  · exact joinA (m' := { m with pc := w16 (m.pc + 3) }) hm hh h0 (pe2_1 m g _ _) (re2_1 m g) hg
theorem pe3_0 : endsAt [0, 1] (Ly.run ctx3 3000 [(60, true), (0, true), (0, true), (0, true), (8, true), (0, true), (2, true), (0, true)] (sP m g 227 b1 b2)) = some (T [rg (m.sp), bl (ix m.sp), rg (w16 (m.sp + 1)), bl (ix (w16 (m.sp + 1))), rg (m.sp), bl (ix m.sp), rg (w16 (m.sp + 1)), bl (ix (w16 (m.sp + 1)))], .int .i64 0, 6, hPm { m with pc := w16 (m.pc + 1), r4 := w8 ((or16 (w16 (g (ix m.sp))) (w16 (w16 (g (ix (w16 (m.sp + 1)))) * 256))).fdiv 256), r5 := w8 (or16 (w16 (g (ix m.sp))) (w16 (w16 (g (ix (w16 (m.sp + 1)))) * 256))) } (M2 g (ix m.sp) (w8 (or16 (w16 (w16 m.r4 * 256)) (w16 m.r5))) (ix (w16 (m.sp + 1))) (w8 ((or16 (w16 (w16 m.r4 * 256)) (w16 m.r5)).fdiv 256)))) := by kernel_rfl
theorem re3_0 : endsAt [0, 1, 2] (Ly.run ctx3 3000 [(4, true), (70, true), (3, true), (0, true), (0, true), (0, true), (0, true), (0, true), (0, true), (0, true), (0, true), (1, true), (0, true), (0, true), (0, true)] (sR m g 227)) = some (T [inw m.pc && true, inb m.r4 && inb m.r5, inw m.sp && true, rg (w16 (m.sp + 1)), bl (ix (w16 (m.sp + 1))), rg (m.sp), bl (ix m.sp), inb (g (ix (w16 (m.sp + 1)))) && inb (g (ix m.sp)), inw m.sp && true, inw (w16 (m.sp + 2)) && true, inw (w16 (w16 (m.sp + 2) + -2)) && true, rg (w16 (w16 (w16 (m.sp + 2) + -2) + 1)), bl (ix (w16 (w16 (w16 (m.sp + 2) + -2) + 1))), rg (w16 (w16 (m.sp + 2) + -2)), bl (ix (w16 (w16 (m.sp + 2) + -2)))], .int .i64 0, 3, hRm { m with pc := w16 (m.pc + 1), r4 := w8 ((256 * g (ix (w16 (m.sp + 1))) + g (ix m.sp)).fdiv 256), r5 := w8 (and16 (256 * g (ix (w16 (m.sp + 1))) + g (ix m.sp)) 255), sp := w16 (w16 (m.sp + 2) + -2) } (M2 g (ix (w16 (w16 (w16 (m.sp + 2) + -2) + 1))) (w8 ((256 * m.r4 + m.r5).fdiv 256)) (ix (w16 (w16 (m.sp + 2) + -2))) (w8 (and16 (256 * m.r4 + m.r5) 255)))) := by kernel_rfl
theorem oe3 (hm : m.Ok) (hg : ∀ e, B8 (g e)) (hh : m.halt = false) (h0 : g (ix m.pc) = 227) : Both m g := by
  obtain ⟨r0, r1, r2, r3, r4, r5, r7, sp, pc⟩ := id hm
  exact join (m' := { m with pc := w16 (m.pc + 1), r4 := w8 ((or16 (w16 (g (ix m.sp))) (w16 (w16 (g (ix (w16 (m.sp + 1)))) * 256))).fdiv 256), r5 := w8 (or16 (w16 (g (ix m.sp))) (w16 (w16 (g (ix (w16 (m.sp + 1)))) * 256))) }) (g' := (upd (upd g (ix m.sp) (w8 (or16 (w16 (w16 m.r4 * 256)) (w16 m.r5)))) (ix (w16 (m.sp + 1))) (w8 ((or16 (w16 (w16 m.r4 * 256)) (w16 m.r5)).fdiv 256)))) hm hh h0 (pe3_0 m g _ _) (re3_0 m g) (by simp [*]) (by simp [*]) (by decide) (by decide) (eP (m2s rfl rfl rfl rfl)) (eR (by simp [*]) (m2c (by simp [*]) (by simp [*]) (by simp [*]) (by simp [*]) (by simp [*]))) (by constructor <;> simp [*]) (upd_b8 (upd_b8 hg (by simp [*])) (by simp [*]))
theorem pe4_0 : endsAt [0, 1] (Ly.run ctx3 3000 [(53, true), (3, true), (0, true), (2, true), (0, true)] (sP m g 228 b1 b2)) = some (T [m.fp == false, rg (w16 (m.sp - 2)), bl (ix (w16 (m.sp - 2))), rg (w16 (w16 (m.sp - 2) + 1)), bl (ix (w16 (w16 (m.sp - 2) + 1)))], .int .i64 0, 7, hPm { m with pc := or16 (w16 (or16 0 (w16 b2) * 256)) (w16 b1), sp := w16 (m.sp - 2) } (M2 g (ix (w16 (m.sp - 2))) (w8 (w16 (m.pc + 3))) (ix (w16 (w16 (m.sp - 2) + 1))) (w8 ((w16 (m.pc + 3)).fdiv 256)))) := by kernel_rfl
theorem pe4_1 : endsAt [0, 1] (Ly.run ctx3 3000 [(53, false)] (sP m g 228 b1 b2)) = some ([(m.fp == false, false)], .int .i64 0, 6, hPm { m with pc := w16 (m.pc + 3) } (memL g)) := by kernel_rfl
theorem re4_0 : endsAt [0, 1, 2] (Ly.run ctx3 3000 [(3, true), (0, true), (0, true), (1, true), (0, true), (0, true), (0, true), (70, true), (0, true), (0, true), (1, true), (0, true), (0, true), (0, true)] (sR m g 228)) = some (T [inw m.pc && true, rg (w16 (m.pc + 1)), bl (ix (w16 (m.pc + 1))), inw m.pc && true, rg (w16 (m.pc + 2)), bl (ix (w16 (m.pc + 2))), inw m.pc && true, !m.fp, inw m.sp && true, inw (w16 (m.sp + -2)) && true, rg (w16 (w16 (m.sp + -2) + 1)), bl (ix (w16 (w16 (m.sp + -2) + 1))), rg (w16 (m.sp + -2)), bl (ix (w16 (m.sp + -2)))], .int .i64 0, 4, hRm { m with pc := w16 (w16 (g (ix (w16 (m.pc + 1)))) + w16 (w16 (g (ix (w16 (m.pc + 2)))) * 256)), sp := w16 (m.sp + -2) } (M2 g (ix (w16 (w16 (m.sp + -2) + 1))) (w8 ((w16 (m.pc + 3)).fdiv 256)) (ix (w16 (m.sp + -2))) (w8 (and16 (w16 (m.pc + 3)) 255)))) := by kernel_rfl
theorem re4_1 : endsAt [0, 1, 2] (Ly.run ctx3 3000 [(3, true), (0, true), (0, true), (1, true), (0, true), (0, true), (0, true), (70, false)] (sR m g 228)) = some ([(inw m.pc && true, true), (rg (w16 (m.pc + 1)), true), (bl (ix (w16 (m.pc + 1))), true), (inw m.pc && true, true), (rg (w16 (m.pc + 2)), true), (bl (ix (w16 (m.pc + 2))), true), (inw m.pc && true, true), (!m.fp, false)], .int .i64 0, 4, hRm { m with pc := w16 (m.pc + 3) } (memL g)) := by kernel_rfl
theorem oe4 (hm : m.Ok) (hg : ∀ e, B8 (g e)) (hh : m.halt = false) (h0 : g (ix m.pc) = 228) : Both m g := by
  obtain ⟨r0, r1, r2, r3, r4, r5, r7, sp, pc⟩ := id hm
  cases hf : m.fp
  · exact join (m' := { m with pc := or16 (w16 (or16 0 (w16 (g (at1 m.pc 2))) * 256)) (w16 (g (at1 m.pc 1))), sp := w16 (m.sp - 2) }) (g' := (upd (upd g (ix (w16 (m.sp - 2))) (w8 (w16 (m.pc + 3)))) (ix (w16 (w16 (m.sp - 2) + 1))) (w8 ((w16 (m.pc + 3)).fdiv 256)))) hm hh h0 (pe4_0 m g _ _) (re4_0 m g) (by simp [*]) (by simp [*]) (by decide) (by decide) (eP (m2s rfl rfl rfl rfl)) (eR (by simp [*]) (m2c (by simp [*]) (by simp [*]) (by simp [*]) (by simp [*]) (by simp [*]))) (by constructor <;> simp [*]) (upd_b8 (upd_b8 hg (by simp [*])) (by simp [*]))
  · exact joinA (m' := { m with pc := w16 (m.pc + 3) }) hm hh h0 (pe4_1 m g _ _) (re4_1 m g) hg
theorem pe5_0 : endsAt [0, 1] (Ly.run ctx3 3000 [(59, true), (0, true), (2, true), (0, true)] (sP m g 229 b1 b2)) = some (T [rg (w16 (m.sp - 2)), bl (ix (w16 (m.sp - 2))), rg (w16 (w16 (m.sp - 2) + 1)), bl (ix (w16 (w16 (m.sp - 2) + 1)))], .int .i64 0, 6, hPm { m with pc := w16 (m.pc + 1), sp := w16 (m.sp - 2) } (M2 g (ix (w16 (m.sp - 2))) (w8 (or16 (w16 (w16 m.r4 * 256)) (w16 m.r5))) (ix (w16 (w16 (m.sp - 2) + 1))) (w8 ((or16 (w16 (w16 m.r4 * 256)) (w16 m.r5)).fdiv 256)))) := by kernel_rfl
theorem re5_0 : endsAt [0, 1, 2] (Ly.run ctx3 3000 [(4, true), (35, true), (0, true), (0, true), (1, true), (0, true), (0, true), (0, true)] (sR m g 229)) = some (T [inw m.pc && true, inb m.r4 && inb m.r5, inw m.sp && true, inw (w16 (m.sp + -2)) && true, rg (w16 (w16 (m.sp + -2) + 1)), bl (ix (w16 (w16 (m.sp + -2) + 1))), rg (w16 (m.sp + -2)), bl (ix (w16 (m.sp + -2)))], .int .i64 0, 3, hRm { m with pc := w16 (m.pc + 1), sp := w16 (m.sp + -2) } (M2 g (ix (w16 (w16 (m.sp + -2) + 1))) (w8 ((256 * m.r4 + m.r5).fdiv 256)) (ix (w16 (m.sp + -2))) (w8 (and16 (256 * m.r4 + m.r5) 255)))) := by kernel_rfl
theorem oe5 (hm : m.Ok) (hg : ∀ e, B8 (g e)) (hh : m.halt = false) (h0 : g (ix m.pc) = 229) : Both m g := by
  obtain ⟨r0, r1, r2, r3, r4, r5, r7, sp, pc⟩ := id hm
  exact join (m' := { m with pc := w16 (m.pc + 1), sp := w16 (m.sp - 2) }) (g' := (upd (upd g (ix (w16 (m.sp - 2))) (w8 (or16 (w16 (w16 m.r4 * 256)) (w16 m.r5)))) (ix (w16 (w16 (m.sp - 2) + 1))) (w8 ((or16 (w16 (w16 m.r4 * 256)) (w16 m.r5)).fdiv 256)))) hm hh h0 (pe5_0 m g _ _) (re5_0 m g) (by simp [*]) (by simp [*]) (by decide) (by decide) (eP (m2s rfl rfl rfl rfl)) (eR (by simp [*]) (m2c (by simp [*]) (by simp [*]) (by simp [*]) (by simp [*]) (by simp [*]))) (by constructor <;> simp [*]) (upd_b8 (upd_b8 hg (by simp [*])) (by simp [*]))
theorem pe6_0 : endsAt [0, 1] (Ly.run ctx3 3000 [(21, true), (8, true)] (sP m g 230 b1 b2)) = some (T [m.fc == true, inb m.r7 && inb (w8 (or16 0 (w16 b1)))], .int .i64 0, 5, hPm { m with fc := false, fp := par (and8 m.r7 (w8 (or16 0 (w16 b1)))), fs := decide (128 ≤ and8 m.r7 (w8 (or16 0 (w16 b1)))), fx := and8 (or8 m.r7 (w8 (or16 0 (w16 b1)))) 8 != 0, fz := and8 m.r7 (w8 (or16 0 (w16 b1))) == 0, pc := w16 (m.pc + 2), r7 := and8 m.r7 (w8 (or16 0 (w16 b1))) } (memL g)) := by kernel_rfl
theorem pe6_1 : endsAt [0, 1] (Ly.run ctx3 3000 [(21, false), (8, true)] (sP m g 230 b1 b2)) = some ([(m.fc == true, false), (inb m.r7 && inb (w8 (or16 0 (w16 b1))), true)], .int .i64 0, 5, hPm { m with fc := false, fp := par (and8 m.r7 (w8 (or16 0 (w16 b1)))), fs := decide (128 ≤ and8 m.r7 (w8 (or16 0 (w16 b1)))), fx := and8 (or8 m.r7 (w8 (or16 0 (w16 b1)))) 8 != 0, fz := and8 m.r7 (w8 (or16 0 (w16 b1))) == 0, pc := w16 (m.pc + 2), r7 := and8 m.r7 (w8 (or16 0 (w16 b1))) } (memL g)) := by kernel_rfl
theorem re6_0 : endsAt [0, 1, 2] (Ly.run ctx3 3000 [(3, true), (0, true), (0, true), (1, true), (30, true)] (sR m g 230)) = some (T [inw m.pc && true, rg (w16 (m.pc + 1)), bl (ix (w16 (m.pc + 1))), inw m.pc && true, inb m.r7 && inb (w8 (w16 (g (ix (w16 (m.pc + 1))))))], .int .i64 0, 4, hRm { m with fc := false, fp := par (and8 m.r7 (w8 (w16 (g (ix (w16 (m.pc + 1))))))), fs := decide (128 ≤ and8 m.r7 (w8 (w16 (g (ix (w16 (m.pc + 1))))))), fx := and8 (or8 m.r7 (w8 (w16 (g (ix (w16 (m.pc + 1))))))) 8 != 0, fz := and8 m.r7 (w8 (w16 (g (ix (w16 (m.pc + 1)))))) == 0, pc := w16 (m.pc + 2), r7 := and8 m.r7 (w8 (w16 (g (ix (w16 (m.pc + 1)))))) } (memL g)) := by kernel_rfl
theorem oe6 (hm : m.Ok) (hg : ∀ e, B8 (g e)) (hh : m.halt = false) (h0 : g (ix m.pc) = 230) : Both m g := by
  obtain ⟨r0, r1, r2, r3, r4, r5, r7, sp, pc⟩ := id hm
  cases hf : m.fc
  · exact joinA (m' := { m with fc := false, fp := par (and8 m.r7 (w8 (or16 0 (w16 (g (at1 m.pc 1)))))), fs := decide (128 ≤ and8 m.r7 (w8 (or16 0 (w16 (g (at1 m.pc 1)))))), fx := and8 (or8 m.r7 (w8 (or16 0 (w16 (g (at1 m.pc 1)))))) 8 != 0, fz := and8 m.r7 (w8 (or16 0 (w16 (g (at1 m.pc 1))))) == 0, pc := w16 (m.pc + 2), r7 := and8 m.r7 (w8 (or16 0 (w16 (g (at1 m.pc 1))))) }) hm hh h0 (pe6_1 m g _ _) (re6_0 m g) hg
  · exact joinA (m' := { m with fc := false, fp := par (and8 m.r7 (w8 (or16 0 (w16 (g (at1 m.pc 1)))))), fs := decide (128 ≤ and8 m.r7 (w8 (or16 0 (w16 (g (at1 m.pc 1)))))), fx := and8 (or8 m.r7 (w8 (or16 0 (w16 (g (at1 m.pc 1)))))) 8 != 0, fz := and8 m.r7 (w8 (or16 0 (w16 (g (at1 m.pc 1))))) == 0, pc := w16 (m.pc + 2), r7 := and8 m.r7 (w8 (or16 0 (w16 (g (at1 m.pc 1))))) }) hm hh h0 (pe6_0 m g _ _) (re6_0 m g) hg
theorem pe7_0 : endsAt [0, 1] (Ly.run ctx3 3000 [(44, true), (0, true), (2, true), (0, true)] (sP m g 231 b1 b2)) = some (T [rg (w16 (m.sp - 2)), bl (ix (w16 (m.sp - 2))), rg (w16 (w16 (m.sp - 2) + 1)), bl (ix (w16 (w16 (m.sp - 2) + 1)))], .int .i64 0, 6, hPm { m with pc := 32, sp := w16 (m.sp - 2) } (M2 g (ix (w16 (m.sp - 2))) (w8 (w16 (m.pc + 1))) (ix (w16 (w16 (m.sp - 2) + 1))) (w8 ((w16 (m.pc + 1)).fdiv 256)))) := by kernel_rfl
theorem re7_0 : endsAt [0, 1, 2] (Ly.run ctx3 3000 [(4, true), (24, true), (0, true), (1, true), (0, true), (0, true), (0, true)] (sR m g 231)) = some (T [inw m.pc && true, inw m.sp && true, inw (w16 (m.sp + -2)) && true, rg (w16 (w16 (m.sp + -2) + 1)), bl (ix (w16 (w16 (m.sp + -2) + 1))), rg (w16 (m.sp + -2)), bl (ix (w16 (m.sp + -2)))], .int .i64 0, 3, hRm { m with pc := 32, sp := w16 (m.sp + -2) } (M2 g (ix (w16 (w16 (m.sp + -2) + 1))) (w8 ((w16 (m.pc + 1)).fdiv 256)) (ix (w16 (m.sp + -2))) (w8 (and16 (w16 (m.pc + 1)) 255)))) := by kernel_rfl
theorem oe7 (hm : m.Ok) (hg : ∀ e, B8 (g e)) (hh : m.halt = false) (h0 : g (ix m.pc) = 231) : Both m g := by
  obtain ⟨r0, r1, r2, r3, r4, r5, r7, sp, pc⟩ := id hm
  exact join (m' := { m with pc := 32, sp := w16 (m.sp - 2) }) (g' := (upd (upd g (ix (w16 (m.sp - 2))) (w8 (w16 (m.pc + 1)))) (ix (w16 (w16 (m.sp - 2) + 1))) (w8 ((w16 (m.pc + 1)).fdiv 256)))) hm hh h0 (pe7_0 m g _ _) (re7_0 m g) (by simp [*]) (by simp [*]) (by decide) (by decide) (eP (m2s rfl rfl rfl rfl)) (eR (by simp [*]) (m2c (by simp [*]) (by simp [*]) (by simp [*]) (by simp [*]) (by simp [*]))) (by constructor <;> simp [*]) (upd_b8 (upd_b8 hg (by simp [*])) (by simp [*]))
theorem pe8_0 : endsAt [0, 1] (Ly.run ctx3 3000 [(43, true), (0, true), (0, true), (0, true), (0, true)] (sP m g 232 b1 b2)) = some (T [m.fp == true, rg (w16 (w16 (m.sp + 2) - 2)), bl (ix (w16 (w16 (m.sp + 2) - 2))), rg (w16 (w16 (w16 (m.sp + 2) - 2) + 1)), bl (ix (w16 (w16 (w16 (m.sp + 2) - 2) + 1)))], .int .i64 0, 6, hPm { m with pc := or16 (w16 (g (ix (w16 (w16 (m.sp + 2) - 2))))) (w16 (w16 (g (ix (w16 (w16 (w16 (m.sp + 2) - 2) + 1)))) * 256)), sp := w16 (m.sp + 2) } (memL g)) := by kernel_rfl
theorem pe8_1 : endsAt [0, 1] (Ly.run ctx3 3000 [(43, false)] (sP m g 232 b1 b2)) = some ([(m.fp == true, false)], .int .i64 0, 6, hPm { m with pc := w16 (m.pc + 1) } (memL g)) := by kernel_rfl
theorem re8_0 : endsAt [0, 1, 2] (Ly.run ctx3 3000 [(4, true), (51, true), (0, true), (0, true), (0, true), (0, true), (0, true), (0, true), (0, true)] (sR m g 232)) = some (T [inw m.pc && true, m.fp, inw m.sp && true, rg (w16 (m.sp + 1)), bl (ix (w16 (m.sp + 1))), rg (m.sp), bl (ix m.sp), inb (g (ix (w16 (m.sp + 1)))) && inb (g (ix m.sp)), inw m.sp && true], .int .i64 0, 4, hRm { m with pc := 256 * g (ix (w16 (m.sp + 1))) + g (ix m.sp), sp := w16 (m.sp + 2) } (memL g)) := by kernel_rfl
theorem re8_1 : endsAt [0, 1, 2] (Ly.run ctx3 3000 [(4, true), (51, false)] (sR m g 232)) = some ([(inw m.pc && true, true), (m.fp, false)], .int .i64 0, 4, hRm { m with pc := w16 (m.pc + 1) } (memL g)) := by kernel_rfl
theorem oe8 (hm : m.Ok) (hg : ∀ e, B8 (g e)) (hh : m.halt = false) (h0 : g (ix m.pc) = 232) : Both m g := by
  obtain ⟨r0, r1, r2, r3, r4, r5, r7, sp, pc⟩ := id hm
  cases hf : m.fp
  · exact joinA (m' := { m with pc := w16 (m.pc + 1) }) hm hh h0 (pe8_1 m g _ _) (re8_1 m g) hg
  · exact joinA (m' := { m with pc := or16 (w16 (g (ix (w16 (w16 (m.sp + 2) - 2))))) (w16 (w16 (g (ix (w16 (w16 (w16 (m.sp + 2) - 2) + 1)))) * 256)), sp := w16 (m.sp + 2) }) hm hh h0 (pe8_0 m g _ _) (re8_0 m g) hg
theorem pe9_0 : endsAt [0, 1] (Ly.run ctx3 3000 [] (sP m g 233 b1 b2)) = some (T [], .int .i64 0, 5, hPm { m with pc := or16 (w16 (w16 m.r4 * 256)) (w16 m.r5) } (memL g)) := by kernel_rfl
theorem re9_0 : endsAt [0, 1, 2] (Ly.run ctx3 3000 [(4, true), (70, true)] (sR m g 233)) = some (T [inw m.pc && true, inb m.r4 && inb m.r5], .int .i64 0, 3, hRm { m with pc := 256 * m.r4 + m.r5 } (memL g)) := by kernel_rfl
theorem oe9 (hm : m.Ok) (hg : ∀ e, B8 (g e)) (hh : m.halt = false) (h0 : g (ix m.pc) = 233) : Both m g := by
  obtain ⟨r0, r1, r2, r3, r4, r5, r7, sp, pc⟩ := id hm
  exact joinA (m' := { m with pc := or16 (w16 (w16 m.r4 * 256)) (w16 m.r5) }) hm hh h0 (pe9_0 m g _ _) (re9_0 m g) hg
theorem pea_0 : endsAt [0, 1] (Ly.run ctx3 3000 [(51, true)] (sP m g 234 b1 b2)) = some (T [m.fp == true], .int .i64 0, 6, hPm { m with pc := or16 (w16 (or16 0 (w16 b2) * 256)) (w16 b1) } (memL g)) := by kernel_rfl
theorem pea_1 : endsAt [0, 1] (Ly.run ctx3 3000 [(51, false)] (sP m g 234 b1 b2)) = some ([(m.fp == true, false)], .int .i64 0, 6, hPm { m with pc := w16 (m.pc + 3) } (memL g)) := by kernel_rfl
theorem rea_0 : endsAt [0, 1, 2] (Ly.run ctx3 3000 [(3, true), (0, true), (0, true), (1, true), (0, true), (0, true), (0, true), (61, true)] (sR m g 234)) = some (T [inw m.pc && true, rg (w16 (m.pc + 1)), bl (ix (w16 (m.pc + 1))), inw m.pc && true, rg (w16 (m.pc + 2)), bl (ix (w16 (m.pc + 2))), inw m.pc && true, m.fp], .int .i64 0, 4, hRm { m with pc := w16 (w16 (g (ix (w16 (m.pc + 1)))) + w16 (w16 (g (ix (w16 (m.pc + 2)))) * 256)) } (memL g)) := by kernel_rfl
theorem rea_1 : endsAt [0, 1, 2] (Ly.run ctx3 3000 [(3, true), (0, true), (0, true), (1, true), (0, true), (0, true), (0, true), (61, false)] (sR m g 234)) = some ([(inw m.pc && true, true), (rg (w16 (m.pc + 1)), true), (bl (ix (w16 (m.pc + 1))), true), (inw m.pc && true, true), (rg (w16 (m.pc + 2)), true), (bl (ix (w16 (m.pc + 2))), true), (inw m.pc && true, true), (m.fp, false)], .int .i64 0, 4, hRm { m with pc := w16 (m.pc + 3) } (memL g)) := by kernel_rfl
theorem oea (hm : m.Ok) (hg : ∀ e, B8 (g e)) (hh : m.halt = false) (h0 : g (ix m.pc) = 234) : Both m g := by
  obtain ⟨r0, r1, r2, r3, r4, r5, r7, sp, pc⟩ := id hm
  cases hf : m.fp
  · exact joinA (m' := { m with pc := w16 (m.pc + 3) }) hm hh h0 (pea_1 m g _ _) (rea_1 m g) hg
  · exact joinA (m' := { m with pc := or16 (w16 (or16 0 (w16 (g (at1 m.pc 2))) * 256)) (w16 (g (at1 m.pc 1))) }) hm hh h0 (pea_0 m g _ _) (rea_0 m g) hg
theorem peb_0 : endsAt [0, 1] (Ly.run ctx3 3000 [] (sP m g 235 b1 b2)) = some (T [], .int .i64 0, 5, hPm { m with pc := w16 (m.pc + 1), r2 := w8 ((or16 (w16 (w16 m.r4 * 256)) (w16 m.r5)).fdiv 256), r3 := w8 (or16 (w16 (w16 m.r4 * 256)) (w16 m.r5)), r4 := w8 ((or16 (w16 (w16 m.r2 * 256)) (w16 m.r3)).fdiv 256), r5 := w8 (or16 (w16 (w16 m.r2 * 256)) (w16 m.r3)) } (memL g)) := by kernel_rfl
theorem reb_0 : endsAt [0, 1, 2] (Ly.run ctx3 3000 [(4, true), (70, true), (12, true)] (sR m g 235)) = some (T [inw m.pc && true, inb m.r4 && inb m.r5, inb m.r2 && inb m.r3], .int .i64 0, 3, hRm { m with pc := w16 (m.pc + 1), r2 := w8 ((256 * m.r4 + m.r5).fdiv 256), r3 := w8 (and16 (256 * m.r4 + m.r5) 255), r4 := w8 ((256 * m.r2 + m.r3).fdiv 256), r5 := w8 (and16 (256 * m.r2 + m.r3) 255) } (memL g)) := by kernel_rfl
theorem oeb (hm : m.Ok) (hg : ∀ e, B8 (g e)) (hh : m.halt = false) (h0 : g (ix m.pc) = 235) : Both m g := by
  obtain ⟨r0, r1, r2, r3, r4, r5, r7, sp, pc⟩ := id hm
  exact joinA (m' := { m with pc := w16 (m.pc + 1), r2 := w8 ((or16 (w16 (w16 m.r4 * 256)) (w16 m.r5)).fdiv 256), r3 := w8 (or16 (w16 (w16 m.r4 * 256)) (w16 m.r5)), r4 := w8 ((or16 (w16 (w16 m.r2 * 256)) (w16 m.r3)).fdiv 256), r5 := w8 (or16 (w16 (w16 m.r2 * 256)) (w16 m.r3)) }) hm hh h0 (peb_0 m g _ _) (reb_0 m g) hg
theorem pec_0 : endsAt [0, 1] (Ly.run ctx3 3000 [(53, true), (3, true), (0, true), (2, true), (0, true)] (sP m g 236 b1 b2)) = some (T [m.fp == true, rg (w16 (m.sp - 2)), bl (ix (w16 (m.sp - 2))), rg (w16 (w16 (m.sp - 2) + 1)), bl (ix (w16 (w16 (m.sp - 2) + 1)))], .int .i64 0, 7, hPm { m with pc := or16 (w16 (or16 0 (w16 b2) * 256)) (w16 b1), sp := w16 (m.sp - 2) } (M2 g (ix (w16 (m.sp - 2))) (w8 (w16 (m.pc + 3))) (ix (w16 (w16 (m.sp - 2) + 1))) (w8 ((w16 (m.pc + 3)).fdiv 256)))) := by kernel_rfl
theorem pec_1 : endsAt [0, 1] (Ly.run ctx3 3000 [(53, false)] (sP m g 236 b1 b2)) = some ([(m.fp == true, false)], .int .i64 0, 6, hPm { m with pc := w16 (m.pc + 3) } (memL g)) := by kernel_rfl
theorem rec_0 : endsAt [0, 1, 2] (Ly.run ctx3 3000 [(3, true), (0, true), (0, true), (1, true), (0, true), (0, true), (0, true), (71, true), (0, true), (0, true), (1, true), (0, true), (0, true), (0, true)] (sR m g 236)) = some (T [inw m.pc && true, rg (w16 (m.pc + 1)), bl (ix (w16 (m.pc + 1))), inw m.pc && true, rg (w16 (m.pc + 2)), bl (ix (w16 (m.pc + 2))), inw m.pc && true, m.fp, inw m.sp && true, inw (w16 (m.sp + -2)) && true, rg (w16 (w16 (m.sp + -2) + 1)), bl (ix (w16 (w16 (m.sp + -2) + 1))), rg (w16 (m.sp + -2)), bl (ix (w16 (m.sp + -2)))], .int .i64 0, 4, hRm { m with pc := w16 (w16 (g (ix (w16 (m.pc + 1)))) + w16 (w16 (g (ix (w16 (m.pc + 2)))) * 256)), sp := w16 (m.sp + -2) } (M2 g (ix (w16 (w16 (m.sp + -2) + 1))) (w8 ((w16 (m.pc + 3)).fdiv 256)) (ix (w16 (m.sp + -2))) (w8 (and16 (w16 (m.pc + 3)) 255)))) := by kernel_rfl
theorem rec_1 : endsAt [0, 1, 2] (Ly.run ctx3 3000 [(3, true), (0, true), (0, true), (1, true), (0, true), (0, true), (0, true), (71, false)] (sR m g 236)) = some ([(inw m.pc && true, true), (rg (w16 (m.pc + 1)), true), (bl (ix (w16 (m.pc + 1))), true), (inw m.pc && true, true), (rg (w16 (m.pc + 2)), true), (bl (ix (w16 (m.pc + 2))), true), (inw m.pc && true, true), (m.fp, false)], .int .i64 0, 4, hRm { m with pc := w16 (m.pc + 3) } (memL g)) := by kernel_rfl
theorem oec (hm : m.Ok) (hg : ∀ e, B8 (g e)) (hh : m.halt = false) (h0 : g (ix m.pc) = 236) : Both m g := by
  obtain ⟨r0, r1, r2, r3, r4, r5, r7, sp, pc⟩ := id hm
  cases hf : m.fp
  · exact joinA (m' := { m with pc := w16 (m.pc + 3) }) hm hh h0 (pec_1 m g _ _) (rec_1 m g) hg
  · exact join (m' := { m with pc := or16 (w16 (or16 0 (w16 (g (at1 m.pc 2))) * 256)) (w16 (g (at1 m.pc 1))), sp := w16 (m.sp - 2) }) (g' := (upd (upd g (ix (w16 (m.sp - 2))) (w8 (w16 (m.pc + 3)))) (ix (w16 (w16 (m.sp - 2) + 1))) (w8 ((w16 (m.pc + 3)).fdiv 256)))) hm hh h0 (pec_0 m g _ _) (rec_0 m g) (by simp [*]) (by simp [*]) (by decide) (by decide) (eP (m2s rfl rfl rfl rfl)) (eR (by simp [*]) (m2c (by simp [*]) (by simp [*]) (by simp [*]) (by simp [*]) (by simp [*]))) (by constructor <;> simp [*]) (upd_b8 (upd_b8 hg (by simp [*])) (by simp [*]))
theorem ped_0 : endsAt [0, 1] (Ly.run ctx3 3000 [] (sP m g 237 b1 b2)) = some (T [], .int .i64 8, 5, hPm m (memL g)) := by kernel_rfl
theorem red_0 : endsAt [0, 1, 2] (Ly.run ctx3 3000 [] (sR m g 237)) = some (T [], .int .i64 8, 3, hRm m (memL g)) := by kernel_rfl
theorem oed (hm : m.Ok) (hg : ∀ e, B8 (g e)) (hh : m.halt = false) (h0 : g (ix m.pc) = 237) : Both m g := by
  obtain ⟨r0, r1, r2, r3, r4, r5, r7, sp, pc⟩ := id hm
  exact join (m' := m) (g' := g) hm hh h0 (ped_0 m g _ _) (red_0 m g) (by simp [*]) (by simp [*]) (by decide) (by decide) (eP (.inl rfl)) (eR rfl (.inl rfl)) (by constructor <;> simp [*]) hg
theorem pee_0 : endsAt [0, 1] (Ly.run ctx3 3000 [(21, true), (9, true)] (sP m g 238 b1 b2)) = some (T [m.fc == true, inb m.r7 && inb (w8 (or16 0 (w16 b1)))], .int .i64 0, 5, hPm { m with fc := false, fp := par (xor8 m.r7 (w8 (or16 0 (w16 b1)))), fs := decide (128 ≤ xor8 m.r7 (w8 (or16 0 (w16 b1)))), fx := false, fz := xor8 m.r7 (w8 (or16 0 (w16 b1))) == 0, pc := w16 (m.pc + 2), r7 := xor8 m.r7 (w8 (or16 0 (w16 b1))) } (memL g)) := by kernel_rfl
theorem pee_1 : endsAt [0, 1] (Ly.run ctx3 3000 [(21, false), (9, true)] (sP m g 238 b1 b2)) = some ([(m.fc == true, false), (inb m.r7 && inb (w8 (or16 0 (w16 b1))), true)], .int .i64 0, 5, hPm { m with fc := false, fp := par (xor8 m.r7 (w8 (or16 0 (w16 b1)))), fs := decide (128 ≤ xor8 m.r7 (w8 (or16 0 (w16 b1)))), fx := false, fz := xor8 m.r7 (w8 (or16 0 (w16 b1))) == 0, pc := w16 (m.pc + 2), r7 := xor8 m.r7 (w8 (or16 0 (w16 b1))) } (memL g)) := by kernel_rfl
theorem ree_0 : endsAt [0, 1, 2] (Ly.run ctx3 3000 [(3, true), (0, true), (0, true), (1, true), (31, true)] (sR m g 238)) = some (T [inw m.pc && true, rg (w16 (m.pc + 1)), bl (ix (w16 (m.pc + 1))), inw m.pc && true, inb m.r7 && inb (w8 (w16 (g (ix (w16 (m.pc + 1))))))], .int .i64 0, 4, hRm { m with fc := false, fp := par (xor8 m.r7 (w8 (w16 (g (ix (w16 (m.pc + 1))))))), fs := decide (128 ≤ xor8 m.r7 (w8 (w16 (g (ix (w16 (m.pc + 1))))))), fx := false, fz := xor8 m.r7 (w8 (w16 (g (ix (w16 (m.pc + 1)))))) == 0, pc := w16 (m.pc + 2), r7 := xor8 m.r7 (w8 (w16 (g (ix (w16 (m.pc + 1)))))) } (memL g)) := by kernel_rfl
theorem oee (hm : m.Ok) (hg : ∀ e, B8 (g e)) (hh : m.halt = false) (h0 : g (ix m.pc) = 238) : Both m g := by
  obtain ⟨r0, r1, r2, r3, r4, r5, r7, sp, pc⟩ := id hm
  cases hf : m.fc
  · exact joinA (m' := { m with fc := false, fp := par (xor8 m.r7 (w8 (or16 0 (w16 (g (at1 m.pc 1)))))), fs := decide (128 ≤ xor8 m.r7 (w8 (or16 0 (w16 (g (at1 m.pc 1)))))), fx := false, fz := xor8 m.r7 (w8 (or16 0 (w16 (g (at1 m.pc 1))))) == 0, pc := w16 (m.pc + 2), r7 := xor8 m.r7 (w8 (or16 0 (w16 (g (at1 m.pc 1))))) }) hm hh h0 (pee_1 m g _ _) (ree_0 m g) hg
  · exact joinA (m' := { m with fc := false, fp := par (xor8 m.r7 (w8 (or16 0 (w16 (g (at1 m.pc 1)))))), fs := decide (128 ≤ xor8 m.r7 (w8 (or16 0 (w16 (g (at1 m.pc 1)))))), fx := false, fz := xor8 m.r7 (w8 (or16 0 (w16 (g (at1 m.pc 1))))) == 0, pc := w16 (m.pc + 2), r7 := xor8 m.r7 (w8 (or16 0 (w16 (g (at1 m.pc 1))))) }) hm hh h0 (pee_0 m g _ _) (ree_0 m g) hg
theorem pef_0 : endsAt [0, 1] (Ly.run ctx3 3000 [(44, true), (0, true), (2, true), (0, true)] (sP m g 239 b1 b2)) = some (T [rg (w16 (m.sp - 2)), bl (ix (w16 (m.sp - 2))), rg (w16 (w16 (m.sp - 2) + 1)), bl (ix (w16 (w16 (m.sp - 2) + 1)))], .int .i64 0, 6, hPm { m with pc := 40, sp := w16 (m.sp - 2) } (M2 g (ix (w16 (m.sp - 2))) (w8 (w16 (m.pc + 1))) (ix (w16 (w16 (m.sp - 2) + 1))) (w8 ((w16 (m.pc + 1)).fdiv 256)))) := by kernel_rfl
theorem ref_0 : endsAt [0, 1, 2] (Ly.run ctx3 3000 [(4, true), (24, true), (0, true), (1, true), (0, true), (0, true), (0, true)] (sR m g 239)) = some (T [inw m.pc && true, inw m.sp && true, inw (w16 (m.sp + -2)) && true, rg (w16 (w16 (m.sp + -2) + 1)), bl (ix (w16 (w16 (m.sp + -2) + 1))), rg (w16 (m.sp + -2)), bl (ix (w16 (m.sp + -2)))], .int .i64 0, 3, hRm { m with pc := 40, sp := w16 (m.sp + -2) } (M2 g (ix (w16 (w16 (m.sp + -2) + 1))) (w8 ((w16 (m.pc + 1)).fdiv 256)) (ix (w16 (m.sp + -2))) (w8 (and16 (w16 (m.pc + 1)) 255)))) := by kernel_rfl
theorem oef (hm : m.Ok) (hg : ∀ e, B8 (g e)) (hh : m.halt = false) (h0 : g (ix m.pc) = 239) : Both m g := by
  obtain ⟨r0, r1, r2, r3, r4, r5, r7, sp, pc⟩ := id hm
  exact join (m' := { m with pc := 40, sp := w16 (m.sp - 2) }) (g' := (upd (upd g (ix (w16 (m.sp - 2))) (w8 (w16 (m.pc + 1)))) (ix (w16 (w16 (m.sp - 2) + 1))) (w8 ((w16 (m.pc + 1)).fdiv 256)))) hm hh h0 (pef_0 m g _ _) (ref_0 m g) (by simp [*]) (by simp [*]) (by decide) (by decide) (eP (m2s rfl rfl rfl rfl)) (eR (by simp [*]) (m2c (by simp [*]) (by simp [*]) (by simp [*]) (by simp [*]) (by simp [*]))) (by constructor <;> simp [*]) (upd_b8 (upd_b8 hg (by simp [*])) (by simp [*]))
theorem blk14 (m : Mc) (g : Nat → Int) (hm : m.Ok) (hg : ∀ e, B8 (g e)) (hh : m.halt = false) (h1 : 224 ≤ g (ix m.pc)) (h2 : g (ix m.pc) < 240) : Both m g := by
  have h : g (ix m.pc) = 224 ∨ g (ix m.pc) = 225 ∨ g (ix m.pc) = 226 ∨ g (ix m.pc) = 227 ∨ g (ix m.pc) = 228 ∨ g (ix m.pc) = 229 ∨ g (ix m.pc) = 230 ∨ g (ix m.pc) = 231 ∨ g (ix m.pc) = 232 ∨ g (ix m.pc) = 233 ∨ g (ix m.pc) = 234 ∨ g (ix m.pc) = 235 ∨ g (ix m.pc) = 236 ∨ g (ix m.pc) = 237 ∨ g (ix m.pc) = 238 ∨ g (ix m.pc) = 239 := by omega
  rcases h with h | h | h | h | h | h | h | h | h | h | h | h | h | h | h | h
  · exact oe0 m g hm hg hh h
  · exact oe1 m g hm hg hh h
  · exact oe2 m g hm hg hh h
  · exact oe3 m g hm hg hh h
  · exact oe4 m g hm hg hh h
  · exact oe5 m g hm hg hh h
  · exact oe6 m g hm hg hh h
  · exact oe7 m g hm hg hh h
  · exact oe8 m g hm hg hh h
  · exact oe9 m g hm hg hh h
  · exact oea m g hm hg hh h
  · exact oeb m g hm hg hh h
  · exact oec m g hm hg hh h
  · exact oed m g hm hg hh h
  · exact oee m g hm hg hh h
  · exact oef m g hm hg hh h
end Go.Proofs.Ytpggoincnebfnaa
namespace Go.Proofs.Ytpggoincnebfnaa
open Go Go.Ly Go.RowKit
variable (m : Mc) (g : Nat → Int) (b1 b2 : Int)
theorem pf0_0 : endsAt [0, 1] (Ly.run ctx3 3000 [(43, true), (0, true), (0, true), (0, true), (0, true)] (sP m g 240 b1 b2)) = some (T [m.fs == false, rg (w16 (w16 (m.sp + 2) - 2)), bl (ix (w16 (w16 (m.sp + 2) - 2))), rg (w16 (w16 (w16 (m.sp + 2) - 2) + 1)), bl (ix (w16 (w16 (w16 (m.sp + 2) - 2) + 1)))], .int .i64 0, 6, hPm { m with pc := or16 (w16 (g (ix (w16 (w16 (m.sp + 2) - 2))))) (w16 (w16 (g (ix (w16 (w16 (w16 (m.sp + 2) - 2) + 1)))) * 256)), sp := w16 (m.sp + 2) } (memL g)) := by kernel_rfl
theorem pf0_1 : endsAt [0, 1] (Ly.run ctx3 3000 [(43, false)] (sP m g 240 b1 b2)) = some ([(m.fs == false, false)], .int .i64 0, 6, hPm { m with pc := w16 (m.pc + 1) } (memL g)) := by kernel_rfl
theorem rf0_0 : endsAt [0, 1, 2] (Ly.run ctx3 3000 [(4, true), (52, true), (0, true), (0, true), (0, true), (0, true), (0, true), (0, true), (0, true)] (sR m g 240)) = some (T [inw m.pc && true, !m.fs, inw m.sp && true, rg (w16 (m.sp + 1)), bl (ix (w16 (m.sp + 1))), rg (m.sp), bl (ix m.sp), inb (g (ix (w16 (m.sp + 1)))) && inb (g (ix m.sp)), inw m.sp && true], .int .i64 0, 4, hRm { m with pc := 256 * g (ix (w16 (m.sp + 1))) + g (ix m.sp), sp := w16 (m.sp + 2) } (memL g)) := by kernel_rfl
theorem rf0_1 : endsAt [0, 1, 2] (Ly.run ctx3 3000 [(4, true), (52, false)] (sR m g 240)) = some ([(inw m.pc && true, true), (!m.fs, false)], .int .i64 0, 4, hRm { m with pc := w16 (m.pc + 1) } (memL g)) := by kernel_rfl
theorem of0 (hm : m.Ok) (hg : ∀ e, B8 (g e)) (hh : m.halt = false) (h0 : g (ix m.pc) = 240) : Both m g := by
  obtain ⟨r0, r1, r2, r3, r4, r5, r7, sp, pc⟩ := id hm
  cases hf : m.fs
  · exact joinA (m' := { m with pc := or16 (w16 (g (ix (w16 (w16 (m.sp + 2) - 2))))) (w16 (w16 (g (ix (w16 (w16 (w16 (m.sp + 2) - 2) + 1)))) * 256)), sp := w16 (m.sp + 2) }) hm hh h0 (pf0_0 m g _ _) (rf0_0 m g) hg
  · exact joinA (m' := { m with pc := w16 (m.pc + 1) }) hm hh h0 (pf0_1 m g _ _) (rf0_1 m g) hg
theorem pf1_0 : endsAt [0, 1] (Ly.run ctx3 3000 [(45, true), (0, true), (0, true), (0, true), (3, true)] (sP m g 241 b1 b2)) = some (T [rg (w16 (w16 (m.sp + 2) - 2)), bl (ix (w16 (w16 (m.sp + 2) - 2))), rg (w16 (w16 (w16 (m.sp + 2) - 2) + 1)), bl (ix (w16 (w16 (w16 (m.sp + 2) - 2) + 1))), inb (w8 (or16 (w16 (g (ix (w16 (w16 (m.sp + 2) - 2))))) (w16 (w16 (g (ix (w16 (w16 (w16 (m.sp + 2) - 2) + 1)))) * 256))))], .int .i64 0, 5, hPm { m with fc := w8 (or16 (w16 (g (ix (w16 (w16 (m.sp + 2) - 2))))) (w16 (w16 (g (ix (w16 (w16 (w16 (m.sp + 2) - 2) + 1)))) * 256))) % 2 == 1, fp := w8 (or16 (w16 (g (ix (w16 (w16 (m.sp + 2) - 2))))) (w16 (w16 (g (ix (w16 (w16 (w16 (m.sp + 2) - 2) + 1)))) * 256))) / 4 % 2 == 1, fs := decide (128 ≤ w8 (or16 (w16 (g (ix (w16 (w16 (m.sp + 2) - 2))))) (w16 (w16 (g (ix (w16 (w16 (w16 (m.sp + 2) - 2) + 1)))) * 256)))), fx := w8 (or16 (w16 (g (ix (w16 (w16 (m.sp + 2) - 2))))) (w16 (w16 (g (ix (w16 (w16 (w16 (m.sp + 2) - 2) + 1)))) * 256))) / 16 % 2 == 1, fz := w8 (or16 (w16 (g (ix (w16 (w16 (m.sp + 2) - 2))))) (w16 (w16 (g (ix (w16 (w16 (w16 (m.sp + 2) - 2) + 1)))) * 256))) / 64 % 2 == 1, pc := w16 (m.pc + 1), r7 := w8 ((or16 (w16 (g (ix (w16 (w16 (m.sp + 2) - 2))))) (w16 (w16 (g (ix (w16 (w16 (w16 (m.sp + 2) - 2) + 1)))) * 256))).fdiv 256), sp := w16 (m.sp + 2) } (memL g)) := by kernel_rfl
theorem rf1_0 : endsAt [0, 1, 2] (Ly.run ctx3 3000 [(4, true), (33, true), (0, true), (0, true), (0, true), (0, true), (0, true), (0, true), (2, true)] (sR m g 241)) = some (T [inw m.pc && true, inw m.sp && true, rg (w16 (m.sp + 1)), bl (ix (w16 (m.sp + 1))), rg (m.sp), bl (ix m.sp), inb (g (ix (w16 (m.sp + 1)))) && inb (g (ix m.sp)), inw m.sp && true, inb (w8 (and16 (256 * g (ix (w16 (m.sp + 1))) + g (ix m.sp)) 255))], .int .i64 0, 3, hRm { m with fc := w8 (and16 (256 * g (ix (w16 (m.sp + 1))) + g (ix m.sp)) 255) % 2 == 1, fp := w8 (and16 (256 * g (ix (w16 (m.sp + 1))) + g (ix m.sp)) 255) / 4 % 2 == 1, fs := decide (128 ≤ w8 (and16 (256 * g (ix (w16 (m.sp + 1))) + g (ix m.sp)) 255)), fx := w8 (and16 (256 * g (ix (w16 (m.sp + 1))) + g (ix m.sp)) 255) / 16 % 2 == 1, fz := w8 (and16 (256 * g (ix (w16 (m.sp + 1))) + g (ix m.sp)) 255) / 64 % 2 == 1, pc := w16 (m.pc + 1), r7 := w8 ((256 * g (ix (w16 (m.sp + 1))) + g (ix m.sp)).fdiv 256), sp := w16 (m.sp + 2) } (memL g)) := by kernel_rfl
theorem of1 (hm : m.Ok) (hg : ∀ e, B8 (g e)) (hh : m.halt = false) (h0 : g (ix m.pc) = 241) : Both m g := by
  obtain ⟨r0, r1, r2, r3, r4, r5, r7, sp, pc⟩ := id hm
  exact joinA (m' := { m with fc := w8 (or16 (w16 (g (ix (w16 (w16 (m.sp + 2) - 2))))) (w16 (w16 (g (ix (w16 (w16 (w16 (m.sp + 2) - 2) + 1)))) * 256))) % 2 == 1, fp := w8 (or16 (w16 (g (ix (w16 (w16 (m.sp + 2) - 2))))) (w16 (w16 (g (ix (w16 (w16 (w16 (m.sp + 2) - 2) + 1)))) * 256))) / 4 % 2 == 1, fs := decide (128 ≤ w8 (or16 (w16 (g (ix (w16 (w16 (m.sp + 2) - 2))))) (w16 (w16 (g (ix (w16 (w16 (w16 (m.sp + 2) - 2) + 1)))) * 256)))), fx := w8 (or16 (w16 (g (ix (w16 (w16 (m.sp + 2) - 2))))) (w16 (w16 (g (ix (w16 (w16 (w16 (m.sp + 2) - 2) + 1)))) * 256))) / 16 % 2 == 1, fz := w8 (or16 (w16 (g (ix (w16 (w16 (m.sp + 2) - 2))))) (w16 (w16 (g (ix (w16 (w16 (w16 (m.sp + 2) - 2) + 1)))) * 256))) / 64 % 2 == 1, pc := w16 (m.pc + 1), r7 := w8 ((or16 (w16 (g (ix (w16 (w16 (m.sp + 2) - 2))))) (w16 (w16 (g (ix (w16 (w16 (w16 (m.sp + 2) - 2) + 1)))) * 256))).fdiv 256), sp := w16 (m.sp + 2) }) hm hh h0 (pf1_0 m g _ _) (rf1_0 m g) hg
theorem pf2_0 : endsAt [0, 1] (Ly.run ctx3 3000 [(51, true)] (sP m g 242 b1 b2)) = some (T [m.fs == false], .int .i64 0, 6, hPm { m with pc := or16 (w16 (or16 0 (w16 b2) * 256)) (w16 b1) } (memL g)) := by kernel_rfl
theorem pf2_1 : endsAt [0, 1] (Ly.run ctx3 3000 [(51, false)] (sP m g 242 b1 b2)) = some ([(m.fs == false, false)], .int .i64 0, 6, hPm { m with pc := w16 (m.pc + 3) } (memL g)) := by kernel_rfl
theorem rf2_0 : endsAt [0, 1, 2] (Ly.run ctx3 3000 [(3, true), (0, true), (0, true), (1, true), (0, true), (0, true), (0, true), (62, true)] (sR m g 242)) = some (T [inw m.pc && true, rg (w16 (m.pc + 1)), bl (ix (w16 (m.pc + 1))), inw m.pc && true, rg (w16 (m.pc + 2)), bl (ix (w16 (m.pc + 2))), inw m.pc && true, !m.fs], .int .i64 0, 4, hRm { m with pc := w16 (w16 (g (ix (w16 (m.pc + 1)))) + w16 (w16 (g (ix (w16 (m.pc + 2)))) * 256)) } (memL g)) := by kernel_rfl
theorem rf2_1 : endsAt [0, 1, 2] (Ly.run ctx3 3000 [(3, true), (0, true), (0, true), (1, true), (0, true), (0, true), (0, true), (62, false)] (sR m g 242)) = some ([(inw m.pc && true, true), (rg (w16 (m.pc + 1)), true), (bl (ix (w16 (m.pc + 1))), true), (inw m.pc && true, true), (rg (w16 (m.pc + 2)), true), (bl (ix (w16 (m.pc + 2))), true), (inw m.pc && true, true), (!m.fs, false)], .int .i64 0, 4, hRm { m with pc := w16 (m.pc + 3) } (memL g)) := by kernel_rfl
theorem of2 (hm : m.Ok) (hg : ∀ e, B8 (g e)) (hh : m.halt = false) (h0 : g (ix m.pc) = 242) : Both m g := by
  obtain ⟨r0, r1, r2, r3, r4, r5, r7, sp, pc⟩ := id hm
  cases hf : m.fs
  · exact joinA (m' := { m with pc := or16 (w16 (or16 0 (w16 (g (at1 m.pc 2))) * 256)) (w16 (g (at1 m.pc 1))) }) hm hh h0 (pf2_0 m g _ _) (rf2_0 m g) hg
  · exact joinA (m' := { m with pc := w16 (m.pc + 3) }) hm hh h0 (pf2_1 m g _ _) (rf2_1 m g) hg
theorem pf3_0 : endsAt [0, 1] (Ly.run ctx3 3000 [] (sP m g 243 b1 b2)) = some (T [], .int .i64 0, 5, hPm { m with ie := false, pc := w16 (m.pc + 1) } (memL g)) := by kernel_rfl
theorem rf3_0 : endsAt [0, 1, 2] (Ly.run ctx3 3000 [(4, true), (70, true)] (sR m g 243)) = some (T [inw m.pc && true, inb m.r4 && inb m.r5], .int .i64 0, 3, hRm { m with ie := false, pc := w16 (m.pc + 1) } (memL g)) := by kernel_rfl
theorem of3 (hm : m.Ok) (hg : ∀ e, B8 (g e)) (hh : m.halt = false) (h0 : g (ix m.pc) = 243) : Both m g := by
  obtain ⟨r0, r1, r2, r3, r4, r5, r7, sp, pc⟩ := id hm
  exact joinA (m' := { m with ie := false, pc := w16 (m.pc + 1) }) hm hh h0 (pf3_0 m g _ _) (rf3_0 m g) hg
theorem pf4_0 : endsAt [0, 1] (Ly.run ctx3 3000 [(53, true), (3, true), (0, true), (2, true), (0, true)] (sP m g 244 b1 b2)) = some (T [m.fs == false, rg (w16 (m.sp - 2)), bl (ix (w16 (m.sp - 2))), rg (w16 (w16 (m.sp - 2) + 1)), bl (ix (w16 (w16 (m.sp - 2) + 1)))], .int .i64 0, 7, hPm { m with pc := or16 (w16 (or16 0 (w16 b2) * 256)) (w16 b1), sp := w16 (m.sp - 2) } (M2 g (ix (w16 (m.sp - 2))) (w8 (w16 (m.pc + 3))) (ix (w16 (w16 (m.sp - 2) + 1))) (w8 ((w16 (m.pc + 3)).fdiv 256)))) := by kernel_rfl
theorem pf4_1 : endsAt [0, 1] (Ly.run ctx3 3000 [(53, false)] (sP m g 244 b1 b2)) = some ([(m.fs == false, false)], .int .i64 0, 6, hPm { m with pc := w16 (m.pc + 3) } (memL g)) := by kernel_rfl
theorem rf4_0 : endsAt [0, 1, 2] (Ly.run ctx3 3000 [(3, true), (0, true), (0, true), (1, true), (0, true), (0, true), (0, true), (72, true), (0, true), (0, true), (1, true), (0, true), (0, true), (0, true)] (sR m g 244)) = some (T [inw m.pc && true, rg (w16 (m.pc + 1)), bl (ix (w16 (m.pc + 1))), inw m.pc && true, rg (w16 (m.pc + 2)), bl (ix (w16 (m.pc + 2))), inw m.pc && true, !m.fs, inw m.sp && true, inw (w16 (m.sp + -2)) && true, rg (w16 (w16 (m.sp + -2) + 1)), bl (ix (w16 (w16 (m.sp + -2) + 1))), rg (w16 (m.sp + -2)), bl (ix (w16 (m.sp + -2)))], .int .i64 0, 4, hRm { m with pc := w16 (w16 (g (ix (w16 (m.pc + 1)))) + w16 (w16 (g (ix (w16 (m.pc + 2)))) * 256)), sp := w16 (m.sp + -2) } (M2 g (ix (w16 (w16 (m.sp + -2) + 1))) (w8 ((w16 (m.pc + 3)).fdiv 256)) (ix (w16 (m.sp + -2))) (w8 (and16 (w16 (m.pc + 3)) 255)))) := by kernel_rfl
theorem rf4_1 : endsAt [0, 1, 2] (Ly.run ctx3 3000 [(3, true), (0, true), (0, true), (1, true), (0, true), (0, true), (0, true), (72, false)] (sR m g 244)) = some ([(inw m.pc && true, true), (rg (w16 (m.pc + 1)), true), (bl (ix (w16 (m.pc + 1))), true), (inw m.pc && true, true), (rg (w16 (m.pc + 2)), true), (bl (ix (w16 (m.pc + 2))), true), (inw m.pc && true, true), (!m.fs, false)], .int .i64 0, 4, hRm { m with pc := w16 (m.pc + 3) } (memL g)) := by kernel_rfl
theorem of4 (hm : m.Ok) (hg : ∀ e, B8 (g e)) (hh : m.halt = false) (h0 : g (ix m.pc) = 244) : Both m g := by
  obtain ⟨r0, r1, r2, r3, r4, r5, r7, sp, pc⟩ := id hm
  cases hf : m.fs
  · exact join (m' := { m with pc := or16 (w16 (or16 0 (w16 (g (at1 m.pc 2))) * 256)) (w16 (g (at1 m.pc 1))), sp := w16 (m.sp - 2) }) (g' := (upd (upd g (ix (w16 (m.sp - 2))) (w8 (w16 (m.pc + 3)))) (ix (w16 (w16 (m.sp - 2) + 1))) (w8 ((w16 (m.pc + 3)).fdiv 256)))) hm hh h0 (pf4_0 m g _ _) (rf4_0 m g) (by simp [*]) (by simp [*]) (by decide) (by decide) (eP (m2s rfl rfl rfl rfl)) (eR (by simp [*]) (m2c (by simp [*]) (by simp [*]) (by simp [*]) (by simp [*]) (by simp [*]))) (by constructor <;> simp [*]) (upd_b8 (upd_b8 hg (by simp [*])) (by simp [*]))
  · exact joinA (m' := { m with pc := w16 (m.pc + 3) }) hm hh h0 (pf4_1 m g _ _) (rf4_1 m g) hg
theorem pf5_0 : endsAt [0, 1] (Ly.run ctx3 3000 [(59, true), (0, true), (2, true), (0, true)] (sP m g 245 b1 b2)) = some (T [rg (w16 (m.sp - 2)), bl (ix (w16 (m.sp - 2))), rg (w16 (w16 (m.sp - 2) + 1)), bl (ix (w16 (w16 (m.sp - 2) + 1)))], .int .i64 0, 6, hPm { m with pc := w16 (m.pc + 1), sp := w16 (m.sp - 2) } (M2 g (ix (w16 (m.sp - 2))) (w8 (or16 (w16 (w16 m.r7 * 256)) (w16 (128 * cI m.fs + 64 * cI m.fz + 16 * cI m.fx + 4 * cI m.fp + 2 + cI m.fc)))) (ix (w16 (w16 (m.sp - 2) + 1))) (w8 ((or16 (w16 (w16 m.r7 * 256)) (w16 (128 * cI m.fs + 64 * cI m.fz + 16 * cI m.fx + 4 * cI m.fp + 2 + cI m.fc))).fdiv 256)))) := by kernel_rfl
theorem rf5_0 : endsAt [0, 1, 2] (Ly.run ctx3 3000 [(4, true), (30, true), (2, true), (0, true), (0, true), (1, true), (0, true), (0, true), (0, true)] (sR m g 245)) = some (T [inw m.pc && true, inb m.r7 && inb (128 * cI m.fs + 64 * cI m.fz + 16 * cI m.fx + 4 * cI m.fp + 2 + cI m.fc), inb m.r7 && inb (128 * cI m.fs + 64 * cI m.fz + 16 * cI m.fx + 4 * cI m.fp + 2 + cI m.fc), inw m.sp && true, inw (w16 (m.sp + -2)) && true, rg (w16 (w16 (m.sp + -2) + 1)), bl (ix (w16 (w16 (m.sp + -2) + 1))), rg (w16 (m.sp + -2)), bl (ix (w16 (m.sp + -2)))], .int .i64 0, 3, hRm { m with pc := w16 (m.pc + 1), sp := w16 (m.sp + -2) } (M2 g (ix (w16 (w16 (m.sp + -2) + 1))) (w8 ((256 * m.r7 + (128 * cI m.fs + 64 * cI m.fz + 16 * cI m.fx + 4 * cI m.fp + 2 + cI m.fc)).fdiv 256)) (ix (w16 (m.sp + -2))) (w8 (and16 (256 * m.r7 + (128 * cI m.fs + 64 * cI m.fz + 16 * cI m.fx + 4 * cI m.fp + 2 + cI m.fc)) 255)))) := by kernel_rfl
theorem of5 (hm : m.Ok) (hg : ∀ e, B8 (g e)) (hh : m.halt = false) (h0 : g (ix m.pc) = 245) : Both m g := by
  obtain ⟨r0, r1, r2, r3, r4, r5, r7, sp, pc⟩ := id hm
  exact join (m' := { m with pc := w16 (m.pc + 1), sp := w16 (m.sp - 2) }) (g' := (upd (upd g (ix (w16 (m.sp - 2))) (w8 (or16 (w16 (w16 m.r7 * 256)) (w16 (128 * cI m.fs + 64 * cI m.fz + 16 * cI m.fx + 4 * cI m.fp + 2 + cI m.fc))))) (ix (w16 (w16 (m.sp - 2) + 1))) (w8 ((or16 (w16 (w16 m.r7 * 256)) (w16 (128 * cI m.fs + 64 * cI m.fz + 16 * cI m.fx + 4 * cI m.fp + 2 + cI m.fc))).fdiv 256)))) hm hh h0 (pf5_0 m g _ _) (rf5_0 m g) (by simp [*]) (by simp [*]) (by decide) (by decide) (eP (m2s rfl rfl rfl rfl)) (eR (by simp [*]) (m2c (by simp [*]) (by simp [*]) (by simp [*]) (by simp [*]) (by simp [*]))) (by constructor <;> simp [*]) (upd_b8 (upd_b8 hg (by simp [*])) (by simp [*]))
theorem pf6_0 : endsAt [0, 1] (Ly.run ctx3 3000 [(21, true), (10, true)] (sP m g 246 b1 b2)) = some (T [m.fc == true, inb m.r7 && inb (w8 (or16 0 (w16 b1)))], .int .i64 0, 5, hPm { m with fc := false, fp := par (or8 m.r7 (w8 (or16 0 (w16 b1)))), fs := decide (128 ≤ or8 m.r7 (w8 (or16 0 (w16 b1)))), fx := false, fz := or8 m.r7 (w8 (or16 0 (w16 b1))) == 0, pc := w16 (m.pc + 2), r7 := or8 m.r7 (w8 (or16 0 (w16 b1))) } (memL g)) := by kernel_rfl
theorem pf6_1 : endsAt [0, 1] (Ly.run ctx3 3000 [(21, false), (10, true)] (sP m g 246 b1 b2)) = some ([(m.fc == true, false), (inb m.r7 && inb (w8 (or16 0 (w16 b1))), true)], .int .i64 0, 5, hPm { m with fc := false, fp := par (or8 m.r7 (w8 (or16 0 (w16 b1)))), fs := decide (128 ≤ or8 m.r7 (w8 (or16 0 (w16 b1)))), fx := false, fz := or8 m.r7 (w8 (or16 0 (w16 b1))) == 0, pc := w16 (m.pc + 2), r7 := or8 m.r7 (w8 (or16 0 (w16 b1))) } (memL g)) := by kernel_rfl
theorem rf6_0 : endsAt [0, 1, 2] (Ly.run ctx3 3000 [(3, true), (0, true), (0, true), (1, true), (32, true)] (sR m g 246)) = some (T [inw m.pc && true, rg (w16 (m.pc + 1)), bl (ix (w16 (m.pc + 1))), inw m.pc && true, inb m.r7 && inb (w8 (w16 (g (ix (w16 (m.pc + 1))))))], .int .i64 0, 4, hRm { m with fc := false, fp := par (or8 m.r7 (w8 (w16 (g (ix (w16 (m.pc + 1))))))), fs := decide (128 ≤ or8 m.r7 (w8 (w16 (g (ix (w16 (m.pc + 1))))))), fx := false, fz := or8 m.r7 (w8 (w16 (g (ix (w16 (m.pc + 1)))))) == 0, pc := w16 (m.pc + 2), r7 := or8 m.r7 (w8 (w16 (g (ix (w16 (m.pc + 1)))))) } (memL g)) := by kernel_rfl
theorem of6 (hm : m.Ok) (hg : ∀ e, B8 (g e)) (hh : m.halt = false) (h0 : g (ix m.pc) = 246) : Both m g := by
  obtain ⟨r0, r1, r2, r3, r4, r5, r7, sp, pc⟩ := id hm
  cases hf : m.fc
  · exact joinA (m' := { m with fc := false, fp := par (or8 m.r7 (w8 (or16 0 (w16 (g (at1 m.pc 1)))))), fs := decide (128 ≤ or8 m.r7 (w8 (or16 0 (w16 (g (at1 m.pc 1)))))), fx := false, fz := or8 m.r7 (w8 (or16 0 (w16 (g (at1 m.pc 1))))) == 0, pc := w16 (m.pc + 2), r7 := or8 m.r7 (w8 (or16 0 (w16 (g (at1 m.pc 1))))) }) hm hh h0 (pf6_1 m g _ _) (rf6_0 m g) hg
  · exact joinA (m' := { m with fc := false, fp := par (or8 m.r7 (w8 (or16 0 (w16 (g (at1 m.pc 1)))))), fs := decide (128 ≤ or8 m.r7 (w8 (or16 0 (w16 (g (at1 m.pc 1)))))), fx := false, fz := or8 m.r7 (w8 (or16 0 (w16 (g (at1 m.pc 1))))) == 0, pc := w16 (m.pc + 2), r7 := or8 m.r7 (w8 (or16 0 (w16 (g (at1 m.pc 1))))) }) hm hh h0 (pf6_0 m g _ _) (rf6_0 m g) hg
theorem pf7_0 : endsAt [0, 1] (Ly.run ctx3 3000 [(44, true), (0, true), (2, true), (0, true)] (sP m g 247 b1 b2)) = some (T [rg (w16 (m.sp - 2)), bl (ix (w16 (m.sp - 2))), rg (w16 (w16 (m.sp - 2) + 1)), bl (ix (w16 (w16 (m.sp - 2) + 1)))], .int .i64 0, 6, hPm { m with pc := 48, sp := w16 (m.sp - 2) } (M2 g (ix (w16 (m.sp - 2))) (w8 (w16 (m.pc + 1))) (ix (w16 (w16 (m.sp - 2) + 1))) (w8 ((w16 (m.pc + 1)).fdiv 256)))) := by kernel_rfl
theorem rf7_0 : endsAt [0, 1, 2] (Ly.run ctx3 3000 [(4, true), (24, true), (0, true), (1, true), (0, true), (0, true), (0, true)] (sR m g 247)) = some (T [inw m.pc && true, inw m.sp && true, inw (w16 (m.sp + -2)) && true, rg (w16 (w16 (m.sp + -2) + 1)), bl (ix (w16 (w16 (m.sp + -2) + 1))), rg (w16 (m.sp + -2)), bl (ix (w16 (m.sp + -2)))], .int .i64 0, 3, hRm { m with pc := 48, sp := w16 (m.sp + -2) } (M2 g (ix (w16 (w16 (m.sp + -2) + 1))) (w8 ((w16 (m.pc + 1)).fdiv 256)) (ix (w16 (m.sp + -2))) (w8 (and16 (w16 (m.pc + 1)) 255)))) := by kernel_rfl
theorem of7 (hm : m.Ok) (hg : ∀ e, B8 (g e)) (hh : m.halt = false) (h0 : g (ix m.pc) = 247) : Both m g := by
  obtain ⟨r0, r1, r2, r3, r4, r5, r7, sp, pc⟩ := id hm
  exact join (m' := { m with pc := 48, sp := w16 (m.sp - 2) }) (g' := (upd (upd g (ix (w16 (m.sp - 2))) (w8 (w16 (m.pc + 1)))) (ix (w16 (w16 (m.sp - 2) + 1))) (w8 ((w16 (m.pc + 1)).fdiv 256)))) hm hh h0 (pf7_0 m g _ _) (rf7_0 m g) (by simp [*]) (by simp [*]) (by decide) (by decide) (eP (m2s rfl rfl rfl rfl)) (eR (by simp [*]) (m2c (by simp [*]) (by simp [*]) (by simp [*]) (by simp [*]) (by simp [*]))) (by constructor <;> simp [*]) (upd_b8 (upd_b8 hg (by simp [*])) (by simp [*]))
theorem pf8_0 : endsAt [0, 1] (Ly.run ctx3 3000 [(43, true), (0, true), (0, true), (0, true), (0, true)] (sP m g 248 b1 b2)) = some (T [m.fs == true, rg (w16 (w16 (m.sp + 2) - 2)), bl (ix (w16 (w16 (m.sp + 2) - 2))), rg (w16 (w16 (w16 (m.sp + 2) - 2) + 1)), bl (ix (w16 (w16 (w16 (m.sp + 2) - 2) + 1)))], .int .i64 0, 6, hPm { m with pc := or16 (w16 (g (ix (w16 (w16 (m.sp + 2) - 2))))) (w16 (w16 (g (ix (w16 (w16 (w16 (m.sp + 2) - 2) + 1)))) * 256)), sp := w16 (m.sp + 2) } (memL g)) := by kernel_rfl
theorem pf8_1 : endsAt [0, 1] (Ly.run ctx3 3000 [(43, false)] (sP m g 248 b1 b2)) = some ([(m.fs == true, false)], .int .i64 0, 6, hPm { m with pc := w16 (m.pc + 1) } (memL g)) := by kernel_rfl
theorem rf8_0 : endsAt [0, 1, 2] (Ly.run ctx3 3000 [(4, true), (53, true), (0, true), (0, true), (0, true), (0, true), (0, true), (0, true), (0, true)] (sR m g 248)) = some (T [inw m.pc && true, m.fs, inw m.sp && true, rg (w16 (m.sp + 1)), bl (ix (w16 (m.sp + 1))), rg (m.sp), bl (ix m.sp), inb (g (ix (w16 (m.sp + 1)))) && inb (g (ix m.sp)), inw m.sp && true], .int .i64 0, 4, hRm { m with pc := 256 * g (ix (w16 (m.sp + 1))) + g (ix m.sp), sp := w16 (m.sp + 2) } (memL g)) := by kernel_rfl
theorem rf8_1 : endsAt [0, 1, 2] (Ly.run ctx3 3000 [(4, true), (53, false)] (sR m g 248)) = some ([(inw m.pc && true, true), (m.fs, false)], .int .i64 0, 4, hRm { m with pc := w16 (m.pc + 1) } (memL g)) := by kernel_rfl
theorem of8 (hm : m.Ok) (hg : ∀ e, B8 (g e)) (hh : m.halt = false) (h0 : g (ix m.pc) = 248) : Both m g := by
  obtain ⟨r0, r1, r2, r3, r4, r5, r7, sp, pc⟩ := id hm
  cases hf : m.fs
  · exact joinA (m' := { m with pc := w16 (m.pc + 1) }) hm hh h0 (pf8_1 m g _ _) (rf8_1 m g) hg
  · exact joinA (m' := { m with pc := or16 (w16 (g (ix (w16 (w16 (m.sp + 2) - 2))))) (w16 (w16 (g (ix (w16 (w16 (w16 (m.sp + 2) - 2) + 1)))) * 256)), sp := w16 (m.sp + 2) }) hm hh h0 (pf8_0 m g _ _) (rf8_0 m g) hg
theorem pf9_0 : endsAt [0, 1] (Ly.run ctx3 3000 [] (sP m g 249 b1 b2)) = some (T [], .int .i64 0, 5, hPm { m with pc := w16 (m.pc + 1), sp := or16 (w16 (w16 m.r4 * 256)) (w16 m.r5) } (memL g)) := by kernel_rfl
theorem rf9_0 : endsAt [0, 1, 2] (Ly.run ctx3 3000 [(4, true), (70, true)] (sR m g 249)) = some (T [inw m.pc && true, inb m.r4 && inb m.r5], .int .i64 0, 3, hRm { m with pc := w16 (m.pc + 1), sp := 256 * m.r4 + m.r5 } (memL g)) := by kernel_rfl
theorem of9 (hm : m.Ok) (hg : ∀ e, B8 (g e)) (hh : m.halt = false) (h0 : g (ix m.pc) = 249) : Both m g := by
  obtain ⟨r0, r1, r2, r3, r4, r5, r7, sp, pc⟩ := id hm
  exact joinA (m' := { m with pc := w16 (m.pc + 1), sp := or16 (w16 (w16 m.r4 * 256)) (w16 m.r5) }) hm hh h0 (pf9_0 m g _ _) (rf9_0 m g) hg
theorem pfa_0 : endsAt [0, 1] (Ly.run ctx3 3000 [(51, true)] (sP m g 250 b1 b2)) = some (T [m.fs == true], .int .i64 0, 6, hPm { m with pc := or16 (w16 (or16 0 (w16 b2) * 256)) (w16 b1) } (memL g)) := by kernel_rfl
theorem pfa_1 : endsAt [0, 1] (Ly.run ctx3 3000 [(51, false)] (sP m g 250 b1 b2)) = some ([(m.fs == true, false)], .int .i64 0, 6, hPm { m with pc := w16 (m.pc + 3) } (memL g)) := by kernel_rfl
theorem rfa_0 : endsAt [0, 1, 2] (Ly.run ctx3 3000 [(3, true), (0, true), (0, true), (1, true), (0, true), (0, true), (0, true), (63, true)] (sR m g 250)) = some (T [inw m.pc && true, rg (w16 (m.pc + 1)), bl (ix (w16 (m.pc + 1))), inw m.pc && true, rg (w16 (m.pc + 2)), bl (ix (w16 (m.pc + 2))), inw m.pc && true, m.fs], .int .i64 0, 4, hRm { m with pc := w16 (w16 (g (ix (w16 (m.pc + 1)))) + w16 (w16 (g (ix (w16 (m.pc + 2)))) * 256)) } (memL g)) := by kernel_rfl
theorem rfa_1 : endsAt [0, 1, 2] (Ly.run ctx3 3000 [(3, true), (0, true), (0, true), (1, true), (0, true), (0, true), (0, true), (63, false)] (sR m g 250)) = some ([(inw m.pc && true, true), (rg (w16 (m.pc + 1)), true), (bl (ix (w16 (m.pc + 1))), true), (inw m.pc && true, true), (rg (w16 (m.pc + 2)), true), (bl (ix (w16 (m.pc + 2))), true), (inw m.pc && true, true), (m.fs, false)], .int .i64 0, 4, hRm { m with pc := w16 (m.pc + 3) } (memL g)) := by kernel_rfl
theorem ofa (hm : m.Ok) (hg : ∀ e, B8 (g e)) (hh : m.halt = false) (h0 : g (ix m.pc) = 250) : Both m g := by
  obtain ⟨r0, r1, r2, r3, r4, r5, r7, sp, pc⟩ := id hm
  cases hf : m.fs
  · exact joinA (m' := { m with pc := w16 (m.pc + 3) }) hm hh h0 (pfa_1 m g _ _) (rfa_1 m g) hg
  · exact joinA (m' := { m with pc := or16 (w16 (or16 0 (w16 (g (at1 m.pc 2))) * 256)) (w16 (g (at1 m.pc 1))) }) hm hh h0 (pfa_0 m g _ _) (rfa_0 m g) hg
theorem pfb_0 : endsAt [0, 1] (Ly.run ctx3 3000 [] (sP m g 251 b1 b2)) = some (T [], .int .i64 0, 5, hPm { m with ie := true, pc := w16 (m.pc + 1) } (memL g)) := by kernel_rfl
theorem rfb_0 : endsAt [0, 1, 2] (Ly.run ctx3 3000 [(4, true), (70, true)] (sR m g 251)) = some (T [inw m.pc && true, inb m.r4 && inb m.r5], .int .i64 0, 3, hRm { m with ie := true, pc := w16 (m.pc + 1) } (memL g)) := by kernel_rfl
theorem ofb (hm : m.Ok) (hg : ∀ e, B8 (g e)) (hh : m.halt = false) (h0 : g (ix m.pc) = 251) : Both m g := by
  obtain ⟨r0, r1, r2, r3, r4, r5, r7, sp, pc⟩ := id hm
  exact joinA (m' := { m with ie := true, pc := w16 (m.pc + 1) }) hm hh h0 (pfb_0 m g _ _) (rfb_0 m g) hg
theorem pfc_0 : endsAt [0, 1] (Ly.run ctx3 3000 [(53, true), (3, true), (0, true), (2, true), (0, true)] (sP m g 252 b1 b2)) = some (T [m.fs == true, rg (w16 (m.sp - 2)), bl (ix (w16 (m.sp - 2))), rg (w16 (w16 (m.sp - 2) + 1)), bl (ix (w16 (w16 (m.sp - 2) + 1)))], .int .i64 0, 7, hPm { m with pc := or16 (w16 (or16 0 (w16 b2) * 256)) (w16 b1), sp := w16 (m.sp - 2) } (M2 g (ix (w16 (m.sp - 2))) (w8 (w16 (m.pc + 3))) (ix (w16 (w16 (m.sp - 2) + 1))) (w8 ((w16 (m.pc + 3)).fdiv 256)))) := by kernel_rfl
theorem pfc_1 : endsAt [0, 1] (Ly.run ctx3 3000 [(53, false)] (sP m g 252 b1 b2)) = some ([(m.fs == true, false)], .int .i64 0, 6, hPm { m with pc := w16 (m.pc + 3) } (memL g)) := by kernel_rfl
theorem rfc_0 : endsAt [0, 1, 2] (Ly.run ctx3 3000 [(3, true), (0, true), (0, true), (1, true), (0, true), (0, true), (0, true), (73, true), (0, true), (0, true), (1, true), (0, true), (0, true), (0, true)] (sR m g 252)) = some (T [inw m.pc && true, rg (w16 (m.pc + 1)), bl (ix (w16 (m.pc + 1))), inw m.pc && true, rg (w16 (m.pc + 2)), bl (ix (w16 (m.pc + 2))), inw m.pc && true, m.fs, inw m.sp && true, inw (w16 (m.sp + -2)) && true, rg (w16 (w16 (m.sp + -2) + 1)), bl (ix (w16 (w16 (m.sp + -2) + 1))), rg (w16 (m.sp + -2)), bl (ix (w16 (m.sp + -2)))], .int .i64 0, 4, hRm { m with pc := w16 (w16 (g (ix (w16 (m.pc + 1)))) + w16 (w16 (g (ix (w16 (m.pc + 2)))) * 256)), sp := w16 (m.sp + -2) } (M2 g (ix (w16 (w16 (m.sp + -2) + 1))) (w8 ((w16 (m.pc + 3)).fdiv 256)) (ix (w16 (m.sp + -2))) (w8 (and16 (w16 (m.pc + 3)) 255)))) := by kernel_rfl
theorem rfc_1 : endsAt [0, 1, 2] (Ly.run ctx3 3000 [(3, true), (0, true), (0, true), (1, true), (0, true), (0, true), (0, true), (73, false)] (sR m g 252)) = some ([(inw m.pc && true, true), (rg (w16 (m.pc + 1)), true), (bl (ix (w16 (m.pc + 1))), true), (inw m.pc && true, true), (rg (w16 (m.pc + 2)), true), (bl (ix (w16 (m.pc + 2))), true), (inw m.pc && true, true), (m.fs, false)], .int .i64 0, 4, hRm { m with pc := w16 (m.pc + 3) } (memL g)) := by kernel_rfl
theorem ofc (hm : m.Ok) (hg : ∀ e, B8 (g e)) (hh : m.halt = false) (h0 : g (ix m.pc) = 252) : Both m g := by
  obtain ⟨r0, r1, r2, r3, r4, r5, r7, sp, pc⟩ := id hm
  cases hf : m.fs
  · exact joinA (m' := { m with pc := w16 (m.pc + 3) }) hm hh h0 (pfc_1 m g _ _) (rfc_1 m g) hg
  · exact join (m' := { m with pc := or16 (w16 (or16 0 (w16 (g (at1 m.pc 2))) * 256)) (w16 (g (at1 m.pc 1))), sp := w16 (m.sp - 2) }) (g' := (upd (upd g (ix (w16 (m.sp - 2))) (w8 (w16 (m.pc + 3)))) (ix (w16 (w16 (m.sp - 2) + 1))) (w8 ((w16 (m.pc + 3)).fdiv 256)))) hm hh h0 (pfc_0 m g _ _) (rfc_0 m g) (by simp [*]) (by simp [*]) (by decide) (by decide) (eP (m2s rfl rfl rfl rfl)) (eR (by simp [*]) (m2c (by simp [*]) (by simp [*]) (by simp [*]) (by simp [*]) (by simp [*]))) (by constructor <;> simp [*]) (upd_b8 (upd_b8 hg (by simp [*])) (by simp [*]))
theorem pfd_0 : endsAt [0, 1] (Ly.run ctx3 3000 [] (sP m g 253 b1 b2)) = some (T [], .int .i64 8, 5, hPm m (memL g)) := by kernel_rfl
theorem rfd_0 : endsAt [0, 1, 2] (Ly.run ctx3 3000 [] (sR m g 253)) = some (T [], .int .i64 8, 3, hRm m (memL g)) := by kernel_rfl
theorem ofd (hm : m.Ok) (hg : ∀ e, B8 (g e)) (hh : m.halt = false) (h0 : g (ix m.pc) = 253) : Both m g := by
  obtain ⟨r0, r1, r2, r3, r4, r5, r7, sp, pc⟩ := id hm
  exact join (m' := m) (g' := g) hm hh h0 (pfd_0 m g _ _) (rfd_0 m g) (by simp [*]) (by simp [*]) (by decide) (by decide) (eP (.inl rfl)) (eR rfl (.inl rfl)) (by constructor <;> simp [*]) hg
theorem pfe_0 : endsAt [0, 1] (Ly.run ctx3 3000 [(21, true), (11, true)] (sP m g 254 b1 b2)) = some (T [m.fc == true, inb m.r7 && inb (w8 (or16 0 (w16 b1)))], .int .i64 0, 5, hPm { m with fc := decide (m.r7 - w8 (or16 0 (w16 b1)) - 0 < 0), fp := par ((m.r7 - w8 (or16 0 (w16 b1)) - 0) % 256), fs := decide (128 ≤ (m.r7 - w8 (or16 0 (w16 b1)) - 0) % 256), fx := decide (15 < m.r7 % 16 + 15 - w8 (or16 0 (w16 b1)) % 16 + 1), fz := (m.r7 - w8 (or16 0 (w16 b1)) - 0) % 256 == 0, pc := w16 (m.pc + 2) } (memL g)) := by kernel_rfl
theorem pfe_1 : endsAt [0, 1] (Ly.run ctx3 3000 [(21, false), (11, true)] (sP m g 254 b1 b2)) = some ([(m.fc == true, false), (inb m.r7 && inb (w8 (or16 0 (w16 b1))), true)], .int .i64 0, 5, hPm { m with fc := decide (m.r7 - w8 (or16 0 (w16 b1)) - 0 < 0), fp := par ((m.r7 - w8 (or16 0 (w16 b1)) - 0) % 256), fs := decide (128 ≤ (m.r7 - w8 (or16 0 (w16 b1)) - 0) % 256), fx := decide (15 < m.r7 % 16 + 15 - w8 (or16 0 (w16 b1)) % 16 + 1), fz := (m.r7 - w8 (or16 0 (w16 b1)) - 0) % 256 == 0, pc := w16 (m.pc + 2) } (memL g)) := by kernel_rfl
theorem rfe_0 : endsAt [0, 1, 2] (Ly.run ctx3 3000 [(3, true), (0, true), (0, true), (1, true), (35, true)] (sR m g 254)) = some (T [inw m.pc && true, rg (w16 (m.pc + 1)), bl (ix (w16 (m.pc + 1))), inw m.pc && true, inb m.r7 && inb (w8 (w16 (g (ix (w16 (m.pc + 1))))))], .int .i64 0, 4, hRm { m with fc := decide (m.r7 - w8 (w16 (g (ix (w16 (m.pc + 1))))) - 0 < 0), fp := par ((m.r7 - w8 (w16 (g (ix (w16 (m.pc + 1))))) - 0) % 256), fs := decide (128 ≤ (m.r7 - w8 (w16 (g (ix (w16 (m.pc + 1))))) - 0) % 256), fx := decide (15 < m.r7 % 16 + 15 - w8 (w16 (g (ix (w16 (m.pc + 1))))) % 16 + 1), fz := (m.r7 - w8 (w16 (g (ix (w16 (m.pc + 1))))) - 0) % 256 == 0, pc := w16 (m.pc + 2) } (memL g)) := by kernel_rfl
theorem ofe (hm : m.Ok) (hg : ∀ e, B8 (g e)) (hh : m.halt = false) (h0 : g (ix m.pc) = 254) : Both m g := by
  obtain ⟨r0, r1, r2, r3, r4, r5, r7, sp, pc⟩ := id hm
  cases hf : m.fc
  · exact joinA (m' := { m with fc := decide (m.r7 - w8 (or16 0 (w16 (g (at1 m.pc 1)))) - 0 < 0), fp := par ((m.r7 - w8 (or16 0 (w16 (g (at1 m.pc 1)))) - 0) % 256), fs := decide (128 ≤ (m.r7 - w8 (or16 0 (w16 (g (at1 m.pc 1)))) - 0) % 256), fx := decide (15 < m.r7 % 16 + 15 - w8 (or16 0 (w16 (g (at1 m.pc 1)))) % 16 + 1), fz := (m.r7 - w8 (or16 0 (w16 (g (at1 m.pc 1)))) - 0) % 256 == 0, pc := w16 (m.pc + 2) }) hm hh h0 (pfe_1 m g _ _) (rfe_0 m g) hg
  · exact joinA (m' := { m with fc := decide (m.r7 - w8 (or16 0 (w16 (g (at1 m.pc 1)))) - 0 < 0), fp := par ((m.r7 - w8 (or16 0 (w16 (g (at1 m.pc 1)))) - 0) % 256), fs := decide (128 ≤ (m.r7 - w8 (or16 0 (w16 (g (at1 m.pc 1)))) - 0) % 256), fx := decide (15 < m.r7 % 16 + 15 - w8 (or16 0 (w16 (g (at1 m.pc 1)))) % 16 + 1), fz := (m.r7 - w8 (or16 0 (w16 (g (at1 m.pc 1)))) - 0) % 256 == 0, pc := w16 (m.pc + 2) }) hm hh h0 (pfe_0 m g _ _) (rfe_0 m g) hg
theorem pff_0 : endsAt [0, 1] (Ly.run ctx3 3000 [(44, true), (0, true), (2, true), (0, true)] (sP m g 255 b1 b2)) = some (T [rg (w16 (m.sp - 2)), bl (ix (w16 (m.sp - 2))), rg (w16 (w16 (m.sp - 2) + 1)), bl (ix (w16 (w16 (m.sp - 2) + 1)))], .int .i64 0, 6, hPm { m with pc := 56, sp := w16 (m.sp - 2) } (M2 g (ix (w16 (m.sp - 2))) (w8 (w16 (m.pc + 1))) (ix (w16 (w16 (m.sp - 2) + 1))) (w8 ((w16 (m.pc + 1)).fdiv 256)))) := by kernel_rfl
theorem rff_0 : endsAt [0, 1, 2] (Ly.run ctx3 3000 [(4, true), (24, true), (0, true), (1, true), (0, true), (0, true), (0, true)] (sR m g 255)) = some (T [inw m.pc && true, inw m.sp && true, inw (w16 (m.sp + -2)) && true, rg (w16 (w16 (m.sp + -2) + 1)), bl (ix (w16 (w16 (m.sp + -2) + 1))), rg (w16 (m.sp + -2)), bl (ix (w16 (m.sp + -2)))], .int .i64 0, 3, hRm { m with pc := 56, sp := w16 (m.sp + -2) } (M2 g (ix (w16 (w16 (m.sp + -2) + 1))) (w8 ((w16 (m.pc + 1)).fdiv 256)) (ix (w16 (m.sp + -2))) (w8 (and16 (w16 (m.pc + 1)) 255)))) := by kernel_rfl
theorem off (hm : m.Ok) (hg : ∀ e, B8 (g e)) (hh : m.halt = false) (h0 : g (ix m.pc) = 255) : Both m g := by
  obtain ⟨r0, r1, r2, r3, r4, r5, r7, sp, pc⟩ := id hm
  exact join (m' := { m with pc := 56, sp := w16 (m.sp - 2) }) (g' := (upd (upd g (ix (w16 (m.sp - 2))) (w8 (w16 (m.pc + 1)))) (ix (w16 (w16 (m.sp - 2) + 1))) (w8 ((w16 (m.pc + 1)).fdiv 256)))) hm hh h0 (pff_0 m g _ _) (rff_0 m g) (by simp [*]) (by simp [*]) (by decide) (by decide) (eP (m2s rfl rfl rfl rfl)) (eR (by simp [*]) (m2c (by simp [*]) (by simp [*]) (by simp [*]) (by simp [*]) (by simp [*]))) (by constructor <;> simp [*]) (upd_b8 (upd_b8 hg (by simp [*])) (by simp [*]))
theorem blk15 (m : Mc) (g : Nat → Int) (hm : m.Ok) (hg : ∀ e, B8 (g e)) (hh : m.halt = false) (h1 : 240 ≤ g (ix m.pc)) (h2 : g (ix m.pc) < 256) : Both m g := by
  have h : g (ix m.pc) = 240 ∨ g (ix m.pc) = 241 ∨ g (ix m.pc) = 242 ∨ g (ix m.pc) = 243 ∨ g (ix m.pc) = 244 ∨ g (ix m.pc) = 245 ∨ g (ix m.pc) = 246 ∨ g (ix m.pc) = 247 ∨ g (ix m.pc) = 248 ∨ g (ix m.pc) = 249 ∨ g (ix m.pc) = 250 ∨ g (ix m.pc) = 251 ∨ g (ix m.pc) = 252 ∨ g (ix m.pc) = 253 ∨ g (ix m.pc) = 254 ∨ g (ix m.pc) = 255 := by omega
  rcases h with h | h | h | h | h | h | h | h | h | h | h | h | h | h | h | h
  · exact of0 m g hm hg hh h
  · exact of1 m g hm hg hh h
  · exact of2 m g hm hg hh h
  · exact of3 m g hm hg hh h
  · exact of4 m g hm hg hh h
  · exact of5 m g hm hg hh h
  · exact of6 m g hm hg hh h
  · exact of7 m g hm hg hh h
  · exact of8 m g hm hg hh h
  · exact of9 m g hm hg hh h
  · exact ofa m g hm hg hh h
  · exact ofb m g hm hg hh h
  · exact ofc m g hm hg hh h
  · exact ofd m g hm hg hh h
  · exact ofe m g hm hg hh h
  · exact off m g hm hg hh h
end Go.Proofs.Ytpggoincnebfnaa
namespace Go.Proofs.Ytpggoincnebfnaa
open Go Go.Ly Go.RowKit
variable (m : Mc) (g : Nat → Int) (b1 b2 : Int)
theorem both (m : Mc) (g : Nat → Int) (hm : m.Ok) (hg : ∀ e, B8 (g e)) (hh : m.halt = false) (hi : g (ix m.pc) ≠ 219) (ho : g (ix m.pc) ≠ 211) : Both m g := by
  have hb := hg (ix m.pc)
  unfold B8 at hb
  rcases Int.lt_or_le (g (ix m.pc)) 16 with h0 | h0
  · exact blk0 m g hm hg hh (by omega) h0
  rcases Int.lt_or_le (g (ix m.pc)) 32 with h1 | h1
  · exact blk1 m g hm hg hh (by omega) h1
  rcases Int.lt_or_le (g (ix m.pc)) 48 with h2 | h2
  · exact blk2 m g hm hg hh (by omega) h2
  rcases Int.lt_or_le (g (ix m.pc)) 64 with h3 | h3
  · exact blk3 m g hm hg hh (by omega) h3
  rcases Int.lt_or_le (g (ix m.pc)) 80 with h4 | h4
  · exact blk4 m g hm hg hh (by omega) h4
  rcases Int.lt_or_le (g (ix m.pc)) 96 with h5 | h5
  · exact blk5 m g hm hg hh (by omega) h5
  rcases Int.lt_or_le (g (ix m.pc)) 112 with h6 | h6
  · exact blk6 m g hm hg hh (by omega) h6
  rcases Int.lt_or_le (g (ix m.pc)) 128 with h7 | h7
  · exact blk7 m g hm hg hh (by omega) h7
  rcases Int.lt_or_le (g (ix m.pc)) 144 with h8 | h8
  · exact blk8 m g hm hg hh (by omega) h8
  rcases Int.lt_or_le (g (ix m.pc)) 160 with h9 | h9
  · exact blk9 m g hm hg hh (by omega) h9
  rcases Int.lt_or_le (g (ix m.pc)) 176 with h10 | h10
  · exact blk10 m g hm hg hh (by omega) h10
  rcases Int.lt_or_le (g (ix m.pc)) 192 with h11 | h11
  · exact blk11 m g hm hg hh (by omega) h11
  rcases Int.lt_or_le (g (ix m.pc)) 208 with h12 | h12
  · exact blk12 m g hm hg hh (by omega) h12
  rcases Int.lt_or_le (g (ix m.pc)) 224 with h13 | h13
  · exact blk13 m g hm hg hh (by omega) h13 hi ho
  rcases Int.lt_or_le (g (ix m.pc)) 240 with h14 | h14
  · exact blk14 m g hm hg hh (by omega) h14
  exact blk15 m g hm hg hh h14 (by omega)
end Go.Proofs.Ytpggoincnebfnaa
namespace Go.Proofs.Ytpggoincnebfnaa
open Go Go.Ly Go.RowKit
def StepsTo (s s' : Js) (k : Int) : Prop := (∀ H p O V, PM H p s O V → H.lock = 0 → Ly.Clean H → H.next + 64 < big → LCalls Try.prog 13 [ptr p] H (fun u H' => u = .int .i64 k ∧ PN H p s' O V H')) ∧ (∀ H p O V, RM H p s O V → H.lock = 0 → Ly.Clean H → H.next + 64 < big → LCalls Try.prog 14 [ptr p] H (fun u H' => u = .int .i64 k ∧ RN H p s' O V H'))
theorem P_ends {h : List (Option LO)} {m : Mc} {g : Nat → Int} {b0 k : Int} {I : List Nat} {pP : Path} {tP' : List (Bool × Bool)} {nP : Nat} {osP osP' : List (Option LO)} (hm : m.Ok) (hh : m.halt = false) (h0 : g (ix m.pc) = b0) (hj : jP h m g)
    (hp : endsAt I (Ly.run ctx3 3000 pP (sPi h b0 (g (at1 m.pc 1)) (g (at1 m.pc 2)))) = some (tP', .int .i64 k, nP, osP)) (h1 : trusted tP') (h3 : nP ≤ 64) (hI : (nodupB I && I.all (fun b => Nat.blt b 2147483000)) = true) (h5 : Each2 OLeq osP osP') : Ly.Ends Try.prog 13 [ptr 0] h I (.int .i64 k) 64 osP' := by
  have e1 := MWp.ends ctx3_ok 3000 pP hp h1
  have h0' : g (0 + m.pc.toNat * 1) = b0 := h0
  have e2 : Ly.Ends Try.prog 13 [ptr 0] h I (.int .i64 k) nP osP := by
    refine LCalls_of ctx3_ok gP13 (by kernel_rfl) (MWp.halted (haltAt_ok ctx3_ok 27) [0, 53] 300 pathP hj (trP hm hh) ?_)
    rw [h0']; exact e1
  exact (e2.eqv hI h5).grow h3 (by unfold big; omega)
theorem R_ends {h : List (Option LO)} {m : Mc} {g : Nat → Int} {b0 k : Int} {I : List Nat} {pP : Path} {tP' : List (Bool × Bool)} {nP : Nat} {osP osP' : List (Option LO)} (hm : m.Ok) (hh : m.halt = false) (h0 : g (ix m.pc) = b0) (hj : jR h m g)
    (hp : endsAt I (Ly.run ctx3 3000 pP (sRi h b0)) = some (tP', .int .i64 k, nP, osP)) (h1 : trusted tP') (h3 : nP ≤ 64) (hI : (nodupB I && I.all (fun b => Nat.blt b 2147483000)) = true) (h5 : Each2 OLeq osP osP') : Ly.Ends Try.prog 14 [ptr 0] h I (.int .i64 k) 64 osP' := by
  have e1 := MWp.ends ctx3_ok 3000 pP hp h1
  have h0' : g (0 + m.pc.toNat * 1) = b0 := h0
  have e2 : Ly.Ends Try.prog 14 [ptr 0] h I (.int .i64 k) nP osP := by
    refine LCalls_of ctx3_ok gP14 (by kernel_rfl) (MWp.halted (haltAt_ok ctx3_ok 32) [0, 3, 20] 300 pathR hj (trR hm hh) ?_)
    rw [h0']; exact e1
  exact (e2.eqv hI h5).grow h3 (by unfold big; omega)
theorem steps_tok {s : Js} {m' : Mc} {g' : Nat → Int} {k : Int} (h1 : Ly.Ends Try.prog 13 [ptr 0] (hP s.m s.g) [0, 1] (.int .i64 k) 64 (hP m' g')) (h2 : Ly.Ends Try.prog 14 [ptr 0] (hR s.m s.g) [0, 1, 2] (.int .i64 k) 64 (hR m' g')) :
    StepsTo s { s with m := m', g := g' } k :=
  ⟨fun H p O V h hl hc hb => P_tok h hl hc hb h1, fun H p O V h hl hc hb => R_tok h hl hc hb h2⟩
theorem haltP (m : Mc) (g : Nat → Int) : endsAt [0, 1] (Ly.run ctx3 100 [(1, true)] (Ly.start Try.f13 [ptr 0] (mkH (hP m g)))) = some ([(m.halt, true)], .int .i64 13, 2, hP m g) := by kernel_rfl
theorem haltR (m : Mc) (g : Nat → Int) : endsAt [0, 1, 2] (Ly.run ctx3 100 [(0, true)] (Ly.start Try.f14 [ptr 0] (mkH (hR m g)))) = some ([(m.halt, true)], .int .i64 13, 3, hR m g) := by kernel_rfl
theorem step_halt {s : Js} (hh : s.m.halt = true) : StepsTo s s 13 := by
  have e1 : Ly.Ends Try.prog 13 [ptr 0] (hP s.m s.g) [0, 1] (.int .i64 13) 2 (hP s.m s.g) := Ends.of_run ctx3_ok 100 _ gP13 (by kernel_rfl) (haltP s.m s.g) (by simp [hh])
  have e2 : Ly.Ends Try.prog 14 [ptr 0] (hR s.m s.g) [0, 1, 2] (.int .i64 13) 3 (hR s.m s.g) := Ends.of_run ctx3_ok 100 _ gP14 (by kernel_rfl) (haltR s.m s.g) (by simp [hh])
  exact steps_tok (e1.grow (by omega) (by unfold big; omega)) (e2.grow (by omega) (by unfold big; omega))
theorem fullT_of {q : Nat} (h0 : 0 < q) (h1 : q < 4294967296) : fullT q = true := by
  have e1 : Nat.ble (0 + q) q = true := by rw [Nat.ble_eq]; omega
  have e2 : Nat.beq q q = true := Nat.beq_refl q
  have e3 : Nat.ble 1 q = true := by rw [Nat.ble_eq]; omega
  have e4 : Nat.ble (q + 1) 4294967296 = true := by rw [Nat.ble_eq]; omega
  unfold fullT
  rw [e1, e2, e3, e4]; rfl
theorem inS_end {s : Js} (hj : s.j = s.N) : inS s = { s with m := inM s.m 0 } := by
  have : Nat.blt s.j s.N = false := by
    cases h : Nat.blt s.j s.N with
    | false => rfl
    | true => rw [Nat.blt_eq] at h; omega
  unfold inS; rw [this]; rfl
theorem step_in {s : Js} (hs : s.Ok) (hh : s.m.halt = false) (h0 : s.g (ix s.m.pc) = 219) : StepsTo s (inS s) 0 := by
  have hm := hs.m
  obtain ⟨r0, r1, r2, r3, r4, r5, r7, sp, pc⟩ := id hm
  refine ⟨fun H p O V h hl hc hb => ?_, fun H p O V h hl hc hb => ?_⟩
  · obtain ⟨b, rg, iv, ov, VI, VO, h, rfl, rfl⟩ := h
    rcases h.inn with ⟨hj, rfl, rfl | ⟨a, c, rfl⟩⟩ | ⟨hj, x, rfl, rfl, hx⟩
    · have e : inS s = { s with m := inM s.m 0 } := inS_end hj
      rw [e]
      exact P_in0 h hl hc hb (P_ends hm hh h0 (jP_i0 _ _) (pi0 _ _ _ _) trivial (by decide) (by kernel_rfl) ⟨.inl rfl, .inl rfl, trivial⟩)
    · have e : inS s = { s with m := inM s.m 0 } := inS_end hj
      rw [e]
      refine LCalls.ltn fun hlt hsm => ?_
      have hget := fun i => Heap.get_put (H := H) (o := .cells (cellsPb b rg s.m (empV p) ov) 60) (Nat.lt_trans (hlt _ _ h.cells) hsm) i
      have hpb : p ≠ b := by intro e; have := h.nd; simp [e] at this
      have hw : WeakH H (H.put p (.cells (cellsPb b rg s.m (empV p) ov) 60)) := by
        refine ⟨rfl, rfl, fun i o hi => ?_⟩
        rw [hget] at hi
        split at hi
        · rename_i e; subst e
          simp only [Option.some.injEq] at hi; subst hi
          refine ⟨_, h.cells, OW.cells ?_⟩
          simp only [cellsPb, VWL]
          exact ⟨_, _, VW.refl _, ⟨_, _, VW.refl _, ⟨_, _, VW.refl _, ⟨_, _, VW.refl _, ⟨_, _, VW.refl _, ⟨_, _, VW.refl _, ⟨_, _, VW.refl _, ⟨_, _, VW.refl _, ⟨_, _, VW.refl _, ⟨_, _, VW.refl _, ⟨_, _, VW.refl _, ⟨_, _, VW.refl _, ⟨_, _, VW.refl _, ⟨_, _, VW.refl _, ⟨_, _, VW.refl _, ⟨_, _, VW.refl _, ⟨_, _, VW.refl _, ⟨_, _, VW.empty _ _ _, ⟨_, _, VW.refl _, ⟨_, _, VW.refl _, rfl, rfl⟩, rfl⟩, rfl⟩, rfl⟩, rfl⟩, rfl⟩, rfl⟩, rfl⟩, rfl⟩, rfl⟩, rfl⟩, rfl⟩, rfl⟩, rfl⟩, rfl⟩, rfl⟩, rfl⟩, rfl⟩, rfl⟩, rfl⟩
        · exact ⟨o, hi, OW.refl o⟩
      refine LCalls.weak hw ?_
      have hK : Pm (H.put p (.cells (cellsPb b rg s.m (empV p) ov) 60)) p b rg s (empV p) ov [] VO := by
        refine ⟨by rw [hget, if_pos rfl], by rw [hget, if_neg hpb.symm]; exact h.mem, h.regs, .inl ⟨hj, rfl, .inr ⟨_, _, rfl⟩⟩, h.out.same fun i hi => ?_, h.nd⟩
        rw [hget, if_neg]
        intro e
        exact (List.nodup_append.1 h.nd).2.2 p (by simp) i (by simp [hi]) e.symm
      have hcK : Ly.Clean (H.put p (.cells (cellsPb b rg s.m (empV p) ov) 60)) := by
        intro i o hi
        rw [hget] at hi
        split at hi
        · simp only [Option.some.injEq] at hi; subst hi
          show noTokL _ = true
          rw [noP, h.out.noTok]; rfl
        · exact hc i o hi
      refine (P_inE hK hl hcK hb (P_ends hm hh h0 (jP_iE _ _) (piE _ _ _ _) trivial (by decide) (by kernel_rfl) ⟨.inl rfl, .inl rfl, trivial⟩)).mono ?_
      rintro u H' ⟨rfl, ⟨n1, n2, n3, n4, n5⟩, hN⟩
      refine ⟨rfl, ⟨n1, n2, n3, n4, fun i hi hO => ?_⟩, hN⟩
      rw [n5 i hi hO, hget, if_neg]
      intro e; exact hO (by simp [e])
    · obtain ⟨n, hn⟩ : ∃ n, s.N - s.j = n + 1 := ⟨s.N - s.j - 1, by omega⟩
      have e : inS s = { s with m := inM s.m (s.f s.j), j := s.j + 1 } := by
        unfold inS
        have : Nat.blt s.j s.N = true := by rw [Nat.blt_eq]; exact hj
        rw [this]; rfl
      rw [e]
      rw [hn] at h
      have hlt : Nat.blt s.j s.N = true := by rw [Nat.blt_eq]; exact hj
      exact P_inR hn h hx hl hc hb (P_ends hm hh h0 (jP_iR _ _ _ _ _ _) (piR _ _ _ _ _ _ _ _) (by simp [tI, hlt]; omega) (by decide) (by kernel_rfl) ⟨.inl rfl, .inl rfl, .inl rfl, trivial⟩)
  · obtain ⟨b, rg, iv, ov, VI, VO, h, rfl, rfl⟩ := h
    have htr : trusted (tRI s.m) := by simp [tRI, *]
    rcases h.inn with ⟨hj, rfl, rfl | ⟨a, c, rfl⟩⟩ | ⟨hj, x, rfl, rfl, hx⟩
    · have e : inS s = { s with m := inM s.m 0 } := inS_end hj
      rw [e]
      exact R_in0 h hl hc hb (R_ends hm hh h0 (jR_i0 _ _) (ri0 _ _) htr (by decide) (by kernel_rfl) ⟨.inl rfl, .inl rfl, .inl rfl, trivial⟩)
    · have e : inS s = { s with m := inM s.m 0 } := inS_end hj
      rw [e]
      refine LCalls.ltn fun hlt hsm => ?_
      have hget := fun i => Heap.get_put (H := H) (o := .cells (cellsRb b rg s.m (empV p) ov) 56) (Nat.lt_trans (hlt _ _ h.cells) hsm) i
      have hpb : p ≠ b := by intro e; have := h.nd; simp [e] at this
      have hpr : p ≠ rg := by intro e; have := h.nd; simp [e] at this
      have hw : WeakH H (H.put p (.cells (cellsRb b rg s.m (empV p) ov) 56)) := by
        refine ⟨rfl, rfl, fun i o hi => ?_⟩
        rw [hget] at hi
        split at hi
        · rename_i e; subst e
          simp only [Option.some.injEq] at hi; subst hi
          refine ⟨_, h.cells, OW.cells ?_⟩
          simp only [cellsRb, VWL]
          exact ⟨_, _, VW.refl _, ⟨_, _, VW.refl _, ⟨_, _, VW.refl _, ⟨_, _, VW.refl _, ⟨_, _, VW.refl _, ⟨_, _, VW.refl _, ⟨_, _, VW.refl _, ⟨_, _, VW.refl _, ⟨_, _, VW.refl _, ⟨_, _, VW.refl _, ⟨_, _, VW.empty _ _ _, ⟨_, _, VW.refl _, ⟨_, _, VW.refl _, rfl, rfl⟩, rfl⟩, rfl⟩, rfl⟩, rfl⟩, rfl⟩, rfl⟩, rfl⟩, rfl⟩, rfl⟩, rfl⟩, rfl⟩, rfl⟩
        · exact ⟨o, hi, OW.refl o⟩
      refine LCalls.weak hw ?_
      have hK : Rm (H.put p (.cells (cellsRb b rg s.m (empV p) ov) 56)) p b rg s (empV p) ov [] VO := by
        refine ⟨by rw [hget, if_pos rfl], by rw [hget, if_neg hpb.symm]; exact h.mem, by rw [hget, if_neg hpr.symm]; exact h.regs, .inl ⟨hj, rfl, .inr ⟨_, _, rfl⟩⟩, h.out.same fun i hi => ?_, h.nd⟩
        rw [hget, if_neg]
        intro e
        exact (List.nodup_append.1 h.nd).2.2 p (by simp) i (by simp [hi]) e.symm
      have hcK : Ly.Clean (H.put p (.cells (cellsRb b rg s.m (empV p) ov) 56)) := by
        intro i o hi
        rw [hget] at hi
        split at hi
        · simp only [Option.some.injEq] at hi; subst hi
          show noTokL _ = true
          rw [noR, h.out.noTok]; rfl
        · exact hc i o hi
      refine (R_inE hK hl hcK hb (R_ends hm hh h0 (jR_iE _ _) (riE _ _) htr (by decide) (by kernel_rfl) ⟨.inl rfl, .inl rfl, .inl rfl, trivial⟩)).mono ?_
      rintro u H' ⟨rfl, ⟨n1, n2, n3, n4, n5⟩, hN⟩
      refine ⟨rfl, ⟨n1, n2, n3, n4, fun i hi hO => ?_⟩, hN⟩
      rw [n5 i hi hO, hget, if_neg]
      intro e; exact hO (by simp [e])
    · obtain ⟨n, hn⟩ : ∃ n, s.N - s.j = n + 1 := ⟨s.N - s.j - 1, by omega⟩
      have e : inS s = { s with m := inM s.m (s.f s.j), j := s.j + 1 } := by
        unfold inS
        have : Nat.blt s.j s.N = true := by rw [Nat.blt_eq]; exact hj
        rw [this]; rfl
      rw [e]
      rw [hn] at h
      have hlt : Nat.blt s.j s.N = true := by rw [Nat.blt_eq]; exact hj
      exact R_inR hn h hx hl hc hb (R_ends hm hh h0 (jR_iR _ _ _ _ _ _) (riR _ _ _ _ _ _) (by simp [hlt, *]; omega) (by decide) (by kernel_rfl) ⟨.inl rfl, .inl rfl, .inl rfl, .inl rfl, trivial⟩)
theorem step_out {s : Js} (hs : s.Ok) (hq : s.q < 4294967296) (hh : s.m.halt = false) (h0 : s.g (ix s.m.pc) = 211) : StepsTo s (outS s (s.g (ix (w16 (s.m.pc + 1))))) 0 := by
  have hm := hs.m
  have hb1 := hs.g (ix (w16 (s.m.pc + 1)))
  obtain ⟨r0, r1, r2, r3, r4, r5, r7, sp, pc⟩ := id hm
  have eP : w8 (or16 0 (w16 (s.g (at1 s.m.pc 1)))) = s.g (ix (w16 (s.m.pc + 1))) := by
    have : B8 (s.g (at1 s.m.pc 1)) := hs.g _
    simp [*]
  have eR : w8 (w16 (s.g (ix (w16 (s.m.pc + 1))))) = s.g (ix (w16 (s.m.pc + 1))) := by simp [*]
  refine ⟨fun H p O V h hl hc hb => ?_, fun H p O V h hl hc hb => ?_⟩
  · obtain ⟨b, rg, iv, ov, VI, VO, h, rfl, rfl⟩ := h
    rcases h.out with ⟨hq0, rfl, rfl⟩ | ⟨hq0, y, rfl, rfl, hy⟩
    · refine P_out0 h hl hc hb (P_ends hm hh h0 (jP_o0 _ _) (po0 _ _ _ _) trivial (by decide) (by kernel_rfl) ⟨.inl ?_, .inl rfl, ?_, trivial⟩)
      · rw [hq0]
      · rw [hq0, eP]; exact out1 _ _ _ _
    · refine P_outR h hy hl hc hb (P_ends hm hh h0 (jP_oR _ _ _ _ _) (poR _ _ _ _ _ _ _) (by simp [fullT_of hq0 hq]) (by decide) (by kernel_rfl) ⟨.inl rfl, .inl rfl, ?_, trivial⟩)
      rw [eP]; exact out2 _ _ _ _ _
  · obtain ⟨b, rg, iv, ov, VI, VO, h, rfl, rfl⟩ := h
    have htr : trusted (tRI s.m) := by simp [tRI, *]
    rcases h.out with ⟨hq0, rfl, rfl⟩ | ⟨hq0, y, rfl, rfl, hy⟩
    · refine R_out0 h hl hc hb (R_ends hm hh h0 (jR_o0 _ _) (ro0 _ _) htr (by decide) (by kernel_rfl) ⟨.inl ?_, .inl rfl, .inl rfl, ?_, trivial⟩)
      · rw [hq0]
      · rw [hq0, eR]; exact out1 _ _ _ _
    · refine R_outR h hy hl hc hb (R_ends hm hh h0 (jR_oR _ _ _ _ _) (roR _ _ _ _ _) (by simp [fullT_of hq0 hq, *]) (by decide) (by kernel_rfl) ⟨.inl rfl, .inl rfl, .inl rfl, ?_, trivial⟩)
      rw [eR]; exact out2 _ _ _ _ _
theorem inM_ok {m : Mc} (h : m.Ok) {x : Int} (hx : B8 x) : (inM m x).Ok := by
  obtain ⟨r0, r1, r2, r3, r4, r5, r7, sp, pc⟩ := h
  constructor <;> simp [inM, *]
theorem outM_ok {m : Mc} (h : m.Ok) : (outM m).Ok := by
  obtain ⟨r0, r1, r2, r3, r4, r5, r7, sp, pc⟩ := h
  constructor <;> simp [outM, *]
theorem step_any (s : Js) (hs : s.Ok) (hq : s.q < 4294967296) : ∃ s' k, s'.Ok ∧ s'.q ≤ s.q + 1 ∧ s'.N = s.N ∧ StepsTo s s' k := by
  by_cases hh : s.m.halt = true
  · exact ⟨s, 13, hs, by omega, rfl, step_halt hh⟩
  have hh' : s.m.halt = false := by simpa using hh
  by_cases h1 : s.g (ix s.m.pc) = 219
  · refine ⟨inS s, 0, ?_, ?_, by unfold inS; cases Nat.blt s.j s.N <;> rfl, step_in hs hh' h1⟩
    · unfold inS
      cases hb : Nat.blt s.j s.N with
      | true =>
        have hlt : s.j < s.N := by rw [Nat.blt_eq] at hb; exact hb
        exact ⟨inM_ok hs.m (hs.f _ hlt), hs.g, hs.f, by show s.j + 1 ≤ s.N; omega⟩
      | false => exact ⟨inM_ok hs.m (by simp), hs.g, hs.f, hs.j⟩
    · unfold inS; cases Nat.blt s.j s.N <;> simp
  by_cases h2 : s.g (ix s.m.pc) = 211
  · exact ⟨outS s (s.g (ix (w16 (s.m.pc + 1)))), 0, ⟨outM_ok hs.m, hs.g, hs.f, hs.j⟩, by simp [outS], rfl, step_out hs hq hh' h2⟩
  obtain ⟨m', g', k, h3, h4, h5, h6⟩ := both s.m s.g hs.m hs.g hh' h1 h2
  exact ⟨{ s with m := m', g := g' }, k, ⟨h3, h4, hs.f, hs.j⟩, by simp, rfl, steps_tok h5 h6⟩
end Go.Proofs.Ytpggoincnebfnaa
namespace Go.Ly
open Go.RowKit
def RO.fin? : RO → Option (List (Bool × Bool) × Value × Heap)
  | .ok t (.done v H) => some (t, v, H)
  | _ => none
theorem MWp.fin {P : Program} {C : Ctx} {Q : Value → Heap → Prop} (hC : C.Ok P) {S : St} {t : List (Bool × Bool)} {v : Value} {H : Heap} (n : Nat) (p : Path) (h : (run C n p S).fin? = some (t, v, H)) (htr : trusted t) (hq : Q v H) : MWp P S Q := by
  cases hr : run C n p S with
  | no => rw [hr] at h; cases h
  | ok t' l =>
    cases l with
    | halt S' => rw [hr] at h; cases h
    | done v' H' =>
      rw [hr] at h
      simp only [RO.fin?, Option.some.injEq, Prod.mk.injEq] at h
      obtain ⟨rfl, rfl, rfl⟩ := h
      exact run_sound hC n p S _ _ hr htr hq
end Go.Ly
namespace Go.Proofs.Ytpggoincnebfnaa
open Go Go.Ly Go.RowKit
structure NxN (H H' : Heap) (O : List Nat) (m : Nat) : Prop where
  lock : H'.lock = 0
  le : H.next ≤ H'.next
  ge : H'.next ≤ H.next + m
  clean : Ly.Clean H'
  old : ∀ i, i < H.next → i ∉ O → H'.get i = H.get i
def MN (M : Heap → Nat → Js → List Nat → List Nat → Prop) (H : Heap) (p : Nat) (s' : Js) (O V : List Nat) (m : Nat) (H' : Heap) : Prop := NxN H H' O m ∧ ∃ O' V', M H' p s' O' V' ∧ (∀ i ∈ O', i ∈ O ∨ H.next ≤ i) ∧ (∀ i ∈ V', i ∈ V ∨ H.next ≤ i)
theorem MN.step {M : Heap → Nat → Js → List Nat → List Nat → Prop} {H H1 H2 : Heap} {p m : Nat} {s2 : Js} {O V O1 V1 : List Nat} (h1 : Nx H H1 O) (hO : ∀ i ∈ O1, i ∈ O ∨ H.next ≤ i) (hV : ∀ i ∈ V1, i ∈ V ∨ H.next ≤ i) (h2 : MN M H1 p s2 O1 V1 m H2) : MN M H p s2 O V (m + 64) H2 := by
  obtain ⟨⟨a1, a2, a3, a4, a5⟩, O', V', b1, b2, b3⟩ := h2
  refine ⟨⟨a1, by have := h1.le; omega, by have := h1.ge; omega, a4, fun i hi hiO => ?_⟩, O', V', b1, fun i hi => ?_, fun i hi => ?_⟩
  · rw [a5 i (by have := h1.le; omega) (fun h => ?_), h1.old i hi hiO]
    rcases hO i h with h3 | h3
    · exact hiO h3
    · omega
  · rcases b2 i hi with h3 | h3
    · exact hO i h3
    · right; have := h1.le; omega
  · rcases b3 i hi with h3 | h3
    · exact hV i h3
    · right; have := h1.le; omega
end Go.Proofs.Ytpggoincnebfnaa
namespace Go.Proofs.Ytpggoincnebfnaa
open Go Go.Ly Go.RowKit
def MRowS (w : World) (i : Nat) (a b : Nat → Int) (n : Nat) (loc v : Value) (p : Option Plc) : Prop :=
  (loc = .slice none 0 0 ∧ v = .slice none 0 0 ∧ n = 0 ∧ p = none) ∨ (loc = sls i n ∧ RealRows w 2 (fun e j => match j with | 0 => .int .u16 (a e) | _ + 1 => .int .u8 (b e)) n v p)
theorem m_casesS {w : World} {v : Value} (h : CkOk w (.slice [.int .u16, .int .u8]) v) : ∃ (a b : Nat → Int) (n : Nat) (loc : Value) (p : Option Plc), MRowS w 1 a b n loc v p ∧ (∀ e, e < n → B16 (a e) ∧ B8 (b e)) ∧ n ≤ maxLen := by
  rcases ck_bytes2 h with rfl | ⟨n, a, b, p, hr, hf, hn⟩
  · exact ⟨fun _ => 0, fun _ => 0, 0, .slice none 0 0, none, .inl ⟨rfl, rfl, rfl, rfl⟩, fun e he => by omega, by simp [maxLen]⟩
  · exact ⟨a, b, n, sls 1 n, p, .inr ⟨rfl, hr⟩, hf, hn⟩
theorem calls_startS {W : World} {F : FuncId} {s : Sv} {f a b : Nat → Int} {n k : Nat} {li lm iv mv : Value} {pi pm : Option Plc} {rest : List Value} (hi : InRow W 0 f n li iv pi) (hm : MRowS W 1 a b k lm mv pm) (hp : plainL rest = true)
    (h : LCalls Try.prog F (svV s li lm :: rest) (mkH [some (ints .u8 f n), some (bytes2 a b k)]) (fun u _ => u = .bool true)) :
    Calls Try.prog F ⟨svV s iv mv :: rest⟩ W (fun e W' => e = .returned (.bool true) ∧ Below W.heap.size W W') := by
  have hrep : Rep (rowsRenW [pi, pm] (fun i => if i = 0 then 1 else 2)) (mkH [some (ints .u8 f n), some (bytes2 a b k)]) W := by
    refine rowsW_rep (l := [pi, pm]) (rs := [(1, fun e _ => .int .u8 (f e), n), (2, fun e j => match j with | 0 => .int .u16 (a e) | _ + 1 => .int .u8 (b e), k)]) rfl (by simp) (fun i q hq => ?_) (fun i k' g n' hr => ?_)
    · match i, hq with
      | 0, hq =>
        simp at hq
        rcases hi with ⟨_, _, _, rfl⟩ | ⟨_, hr⟩
        · cases hq
        · exact hr.low q hq
      | 1, hq =>
        simp at hq
        rcases hm with ⟨_, _, _, rfl⟩ | ⟨_, hr⟩
        · cases hq
        · exact hr.low q hq
      | i + 2, hq => simp at hq
    · match i, hr with
      | 0, hr =>
        simp at hr
        obtain ⟨rfl, rfl, rfl⟩ := hr
        refine ⟨rfl, fun e j he hj => ?_⟩
        rcases hi with ⟨_, _, h0, _⟩ | ⟨_, hr⟩
        · omega
        · exact ⟨hr.one e j he hj, hr.cell e j he hj⟩
      | 1, hr =>
        simp at hr
        obtain ⟨rfl, rfl, rfl⟩ := hr
        refine ⟨rfl, fun e j he hj => ?_⟩
        rcases hm with ⟨_, _, h0, _⟩ | ⟨_, hr⟩
        · omega
        · exact ⟨hr.one e j he hj, hr.cell e j he hj⟩
      | i + 2, hr => simp at hr
  have vi : VR (rowsRenW [pi, pm] (fun i => if i = 0 then 1 else 2)) li iv := by
    rcases hi with ⟨rfl, rfl, _, _⟩ | ⟨rfl, hr⟩
    · simp [VR]
    · exact slW_VR hr rfl
  have vm : VR (rowsRenW [pi, pm] (fun i => if i = 0 then 1 else 2)) lm mv := by
    rcases hm with ⟨rfl, rfl, _, _⟩ | ⟨rfl, hr⟩
    · simp [VR]
    · exact VR_sls (slW_VR hr rfl)
  refine calls_ro h rfl ?_ hrep (fun _ => rfl)
  simp only [VRL]
  refine ⟨_, rest, ?_, plainL_VR _ hp, rfl⟩
  simp only [svV, VR, VRL]
  exact ⟨_, ⟨_, _, rfl, ⟨_, _, rfl, ⟨_, _, rfl, ⟨_, _, rfl, ⟨_, _, rfl, ⟨_, _, rfl, ⟨_, _, rfl, ⟨_, _, rfl, ⟨_, _, rfl, ⟨_, _, rfl, ⟨_, _, rfl, ⟨_, _, rfl, ⟨_, _, rfl, ⟨_, _, rfl, ⟨_, _, rfl, ⟨_, _, rfl, ⟨_, _, vi, ⟨_, _, vm, rfl, rfl⟩, rfl⟩, rfl⟩, rfl⟩, rfl⟩, rfl⟩, rfl⟩, rfl⟩, rfl⟩, rfl⟩, rfl⟩, rfl⟩, rfl⟩, rfl⟩, rfl⟩, rfl⟩, rfl⟩, rfl⟩, rfl⟩
end Go.Proofs.Ytpggoincnebfnaa
namespace Go.Proofs.Ytpggoincnebfnaa
open Go Go.Ly Go.RowKit
def Gok (n : Nat) (G : Nat → Nat → Value) : Prop := ∀ e, e < n → ∃ x y, G e 0 = .int .u16 x ∧ G e 1 = .int .u8 y ∧ B16 x ∧ B8 y
theorem Gok.ok {n : Nat} {G : Nat → Nat → Value} (h : Gok n G) (hn : n ≤ 1000) : okM n G = true := by
  unfold okM
  rw [Bool.and_eq_true, Nat.ble_eq, List.all_eq_true]
  refine ⟨hn, fun e he => ?_⟩
  obtain ⟨x, y, h1, h2, h3, h4⟩ := h e (List.mem_range.1 he)
  rw [h1, h2]
  simp [isK, kbeq, intV, h3]
theorem Gok.mem {n : Nat} {G : Nat → Nat → Value} (h : Gok n G) : Mem (memF (atOf G) (byOf G) n) := by
  refine memF_mem n fun e he => ?_
  obtain ⟨x, y, h1, h2, h3, h4⟩ := h e he
  show B8 (intV (G e 1))
  rw [h2]; exact h4
theorem Gok.shift {n : Nat} {G : Nat → Nat → Value} (h : Gok n G) : Gok n (fun i j => G (0 + i) j) := fun e he => by
  simp only [Nat.zero_add]; exact h e he
theorem Gok.join {m n : Nat} {g h : Nat → Nat → Value} (hg : Gok m g) (hh : Gok n h) : Gok (m + n) (joinG m g h) := fun e he => by
  simp only [joinG, vif_eq]
  cases hb : Nat.blt e m with
  | true => exact hg e (by simpa [Nat.blt_eq] using hb)
  | false =>
    have : ¬ e < m := fun x => by
      have : Nat.blt e m = true := by simpa [Nat.blt_eq] using x
      rw [this] at hb; cases hb
    exact hh (e - m) (by omega)
def bbG (fa fb : Nat → Int) : Nat → Nat → Value := fun e j => match j with | 0 => .int .u16 (fa e) | _ + 1 => .int .u8 (fb e)
theorem Gok.bb {fa fb : Nat → Int} {n : Nat} (h : ∀ e, e < n → B16 (fa e) ∧ B8 (fb e)) : Gok n (bbG fa fb) := fun e he => ⟨fa e, fb e, rfl, rfl, h e he⟩
theorem Gok.nil {G : Nat → Nat → Value} : Gok 0 G := fun e he => by omega
theorem Gok.cons {n : Nat} {x y : Int} {l : List Value} (hx : B16 x) (hy : B8 y) (h : Gok n (lstG 2 n l)) : Gok (n + 1) (lstG 2 (n + 1) (.int .u16 x :: .int .u8 y :: l)) := fun e he => by
  cases n with
  | zero =>
    obtain rfl : e = 0 := by omega
    exact ⟨x, y, rfl, rfl, hx, hy⟩
  | succ n =>
    cases e with
    | zero => exact ⟨x, y, by rw [lstG, vif_eq]; rfl, by rw [lstG, vif_eq]; rfl, hx, hy⟩
    | succ e =>
      obtain ⟨u, v, h1, h2, h3⟩ := h e (by omega)
      have e1 : Nat.beq (e + 1) 0 = false := rfl
      exact ⟨u, v, by rw [lstG, vif_eq, e1]; exact h1, by rw [lstG, vif_eq, e1]; exact h2, h3⟩
def mOf (s : Sv) : Mc := ⟨s.r0, s.r1, s.r2, s.r3, s.r4, s.r5, s.r7, s.fs, s.fz, s.fx, s.fp, s.fc, s.sp, s.pc, s.ie, false⟩
theorem mOf_ok {s : Sv} (h : s.Ok) : (mOf s).Ok := by
  obtain ⟨⟨h0, h1, h2, h3, h4, h5, h6, h7⟩, h8, h9⟩ := h
  exact ⟨h0, h1, h2, h3, h4, h5, h7, h8, h9⟩
def jOf (s : Sv) (g : Nat → Int) (N : Nat) (f : Nat → Int) : Js := ⟨mOf s, g, 0, N, f, 0, fun _ => 0, fun _ => 0⟩
theorem jOf_ok {s : Sv} {g : Nat → Int} {N : Nat} {f : Nat → Int} (hs : s.Ok) (hg : Mem g) (hf : ∀ e, e < N → B8 (f e)) : (jOf s g N f).Ok := ⟨mOf_ok hs, hg, hf, Nat.zero_le _⟩
structure Opened (H : Heap) (p r : Nat) (s : Js) (O V O2 V2 : List Nat) : Prop where
  lock : H.lock = 0
  clean : Ly.Clean H
  P : PM H p s O V
  R : RM H r s O2 V2
  apart : Apart V V2
theorem opened_N {H : Heap} {s : Sv} {g : Nat → Int} {f : Nat → Int} {p b r b2 rg : Nat} (hl : H.lock = 0) (hc : Ly.Clean H) (h1 : H.get p = some (.cells (cellsPb b 0 (mOf s) nilV nilV) 60)) (h2 : H.get b = some (memL g))
    (h3 : H.get r = some (.cells (cellsRb b2 rg (mOf s) nilV nilV) 56)) (h4 : H.get b2 = some (memL g)) (h5 : H.get rg = some (regsR (mOf s))) (hn : ([p, b] ++ [r, b2, rg]).Nodup) :
    Opened H p r (jOf s g 0 f) [p, b] [p, b] [r, b2, rg] [r, b2, rg] := by
  have hd := List.nodup_append.1 hn
  exact ⟨hl, hc, ⟨b, 0, nilV, nilV, [], [], ⟨h1, h2, trivial, .inl ⟨rfl, rfl, .inl rfl⟩, .inl ⟨rfl, rfl, rfl⟩, hd.1⟩, rfl, rfl⟩,
    ⟨b2, rg, nilV, nilV, [], [], ⟨h3, h4, h5, .inl ⟨rfl, rfl, .inl rfl⟩, .inl ⟨rfl, rfl, rfl⟩, hd.2.1⟩, rfl, rfl⟩, fun i hi hi2 => hd.2.2 i hi i hi2 rfl⟩
theorem opened_E {H : Heap} {s : Sv} {g : Nat → Int} {f : Nat → Int} {p b r b2 rg c c2 : Nat} {a a2 : Addr} (hl : H.lock = 0) (hc : Ly.Clean H) (h1 : H.get p = some (.cells (cellsPb b 0 (mOf s) (.slice (some a) 0 c) nilV) 60)) (h2 : H.get b = some (memL g))
    (h3 : H.get r = some (.cells (cellsRb b2 rg (mOf s) (.slice (some a2) 0 c2) nilV) 56)) (h4 : H.get b2 = some (memL g)) (h5 : H.get rg = some (regsR (mOf s))) (hn : ([p, b] ++ [r, b2, rg]).Nodup) :
    Opened H p r (jOf s g 0 f) [p, b] [p, b] [r, b2, rg] [r, b2, rg] := by
  have hd := List.nodup_append.1 hn
  exact ⟨hl, hc, ⟨b, 0, _, nilV, [], [], ⟨h1, h2, trivial, .inl ⟨rfl, rfl, .inr ⟨_, _, rfl⟩⟩, .inl ⟨rfl, rfl, rfl⟩, hd.1⟩, rfl, rfl⟩,
    ⟨b2, rg, _, nilV, [], [], ⟨h3, h4, h5, .inl ⟨rfl, rfl, .inr ⟨_, _, rfl⟩⟩, .inl ⟨rfl, rfl, rfl⟩, hd.2.1⟩, rfl, rfl⟩, fun i hi hi2 => hd.2.2 i hi i hi2 rfl⟩
theorem opened_R {H : Heap} {s : Sv} {g : Nat → Int} {f : Nat → Int} {p b r b2 rg x x2 n : Nat} (hl : H.lock = 0) (hc : Ly.Clean H) (h1 : H.get p = some (.cells (cellsPb b 0 (mOf s) (inV x 0 (n + 1)) nilV) 60)) (h2 : H.get b = some (memL g))
    (h3 : H.get r = some (.cells (cellsRb b2 rg (mOf s) (inV x2 0 (n + 1)) nilV) 56)) (h4 : H.get b2 = some (memL g)) (h5 : H.get rg = some (regsR (mOf s))) (hx : H.get x = some (rowP f (n + 1))) (hx2 : H.get x2 = some (rowR f (n + 1)))
    (hn : ([p, b, x] ++ [r, b2, rg, x2]).Nodup) : Opened H p r (jOf s g (n + 1) f) [p, b] [p, b, x] [r, b2, rg] [r, b2, rg, x2] := by
  have hd := List.nodup_append.1 hn
  exact ⟨hl, hc, ⟨b, 0, _, nilV, [x], [], ⟨h1, h2, trivial, .inr ⟨Nat.succ_pos n, x, rfl, rfl, hx⟩, .inl ⟨rfl, rfl, rfl⟩, hd.1⟩, rfl, rfl⟩,
    ⟨b2, rg, _, nilV, [x2], [], ⟨h3, h4, h5, .inr ⟨Nat.succ_pos n, x2, rfl, rfl, hx2⟩, .inl ⟨rfl, rfl, rfl⟩, hd.2.1⟩, rfl, rfl⟩, fun i hi hi2 => hd.2.2 i hi i hi2 rfl⟩
end Go.Proofs.Ytpggoincnebfnaa
namespace Go.Proofs.Ytpggoincnebfnaa
open Go Go.Ly Go.RowKit
abbrev TrueAt (F : FuncId) (args : List Value) (r0 r1 : LO) : Prop := LCalls Try.prog F args (mkH [some r0, some r1]) (fun u _ => u = .bool true)
theorem start_law {W : World} {F : FuncId} {v : Value} {rest : List Value} (h : ∃ cs, v = .agg ⟨cs⟩ ∧ CksOk W [.int .u8, .int .u8, .int .u8, .int .u8, .int .u8, .int .u8, .int .u8, .int .u8, .bool, .bool, .bool, .bool, .bool, .int .u16, .int .u16, .bool, .slice [.int .u8], .slice [.int .u16, .int .u8]] cs) (hp : plainL rest = true)
    (hNN : ∀ (s : Sv) (n k : Nat) (f fa fb : Nat → Int), s.Ok → TrueAt F (svV s nilS nilS :: rest) (ints .u8 f n) (bytes2 fa fb k))
    (hNE : ∀ (s : Sv) (n k : Nat) (f fa fb : Nat → Int), s.Ok → TrueAt F (svV s nilS (sls 1 0) :: rest) (ints .u8 f n) (bytes2 fa fb 0))
    (hNR : ∀ (s : Sv) (n k : Nat) (f fa fb : Nat → Int), s.Ok → (∀ e, e < k + 1 → B16 (fa e) ∧ B8 (fb e)) → TrueAt F (svV s nilS (sls 1 (k + 1)) :: rest) (ints .u8 f n) (bytes2 fa fb (k + 1)))
    (hEN : ∀ (s : Sv) (n k : Nat) (f fa fb : Nat → Int), s.Ok → TrueAt F (svV s (sl 0 0) nilS :: rest) (ints .u8 f 0) (bytes2 fa fb k))
    (hEE : ∀ (s : Sv) (n k : Nat) (f fa fb : Nat → Int), s.Ok → TrueAt F (svV s (sl 0 0) (sls 1 0) :: rest) (ints .u8 f 0) (bytes2 fa fb 0))
    (hER : ∀ (s : Sv) (n k : Nat) (f fa fb : Nat → Int), s.Ok → (∀ e, e < k + 1 → B16 (fa e) ∧ B8 (fb e)) → TrueAt F (svV s (sl 0 0) (sls 1 (k + 1)) :: rest) (ints .u8 f 0) (bytes2 fa fb (k + 1)))
    (hRN : ∀ (s : Sv) (n k : Nat) (f fa fb : Nat → Int), s.Ok → (∀ e, e < n + 1 → B8 (f e)) → TrueAt F (svV s (sl 0 (n + 1)) nilS :: rest) (ints .u8 f (n + 1)) (bytes2 fa fb k))
    (hRE : ∀ (s : Sv) (n k : Nat) (f fa fb : Nat → Int), s.Ok → (∀ e, e < n + 1 → B8 (f e)) → TrueAt F (svV s (sl 0 (n + 1)) (sls 1 0) :: rest) (ints .u8 f (n + 1)) (bytes2 fa fb 0))
    (hRR : ∀ (s : Sv) (n k : Nat) (f fa fb : Nat → Int), s.Ok → (∀ e, e < n + 1 → B8 (f e)) → (∀ e, e < k + 1 → B16 (fa e) ∧ B8 (fb e)) → TrueAt F (svV s (sl 0 (n + 1)) (sls 1 (k + 1)) :: rest) (ints .u8 f (n + 1)) (bytes2 fa fb (k + 1))) :
    Calls Try.prog F ⟨v :: rest⟩ W (fun e W' => e = .returned (.bool true) ∧ Below W.heap.size W W') := by
  obtain ⟨s, iv, mv, hs, rfl, hi, hm⟩ := sv_open h
  obtain ⟨f, n, li, pi, hI, hf, _⟩ := in_cases hi
  obtain ⟨a, b, k, lm, pm, hM, hb, _⟩ := m_casesS hm
  refine calls_startS hI hM hp ?_
  rcases hI with ⟨rfl, _, _, _⟩ | ⟨rfl, _⟩ <;> rcases hM with ⟨rfl, _, _, _⟩ | ⟨rfl, _⟩
  · exact hNN s n k f a b hs
  · rcases k with _ | k
    · exact hNE s n 0 f a b hs
    · exact hNR s n k f a b hs hb
  · rcases n with _ | n
    · exact hEN s 0 k f a b hs
    · exact hRN s n k f a b hs hf
  · rcases n with _ | n <;> rcases k with _ | k
    · exact hEE s 0 0 f a b hs
    · exact hER s 0 k f a b hs hb
    · exact hRE s n 0 f a b hs hf
    · exact hRR s n k f a b hs hf hb
end Go.Proofs.Ytpggoincnebfnaa
namespace Go.Proofs.Ytpggoincnebfnaa
open Go Go.Ly Go.RowKit
def sv0 : Sv := ⟨0, 0, 0, 0, 0, 0, 0, 0, false, false, false, false, false, 0, 0, false⟩
def GA (L : List Value) (c : Nat) : Nat → Nat → Value := lstG 2 c L
def GB (fa fb : Nat → Int) (q : Nat) (L : List Value) (c : Nat) : Nat → Nat → Value := fun i j => joinG (0 + (q + 1)) (fun i j => bbG fa fb (0 + (0 + i)) j) (lstG 2 c L) (0 + i) j
def gm (G : Nat → Nat → Value) (c : Nat) : Nat → Int := memF (atOf G) (byOf G) c
def gs (g : Nat → Int) : Nat → Int := fun e => g (0 + e)
theorem gs_eq (g : Nat → Int) : gs g = g := by funext e; unfold gs; rw [Nat.zero_add]
def tLi (n : Nat) : Bool × Bool := (decide (((n + 1 : Nat) : Int) ≤ 300) == true, true)
def tLm (k : Nat) : Bool × Bool := (!(decide (((k + 1 : Nat) : Int) ≤ 300)), false)
def tMx (n : Nat) : Bool × Bool := (decide ((256 : Int) < ((n + 1 : Nat) : Int)), false)
def tOk (G : Nat → Nat → Value) (c : Nat) : Bool × Bool := (okM c G, true)
def tOkB (G : Nat → Nat → Value) (q c : Nat) : Bool × Bool := (Nat.ble (0 + (q + c)) (q + c) && (true && okM (q + c) G), true)
def tR1 (k : Nat) : Bool × Bool := (Nat.ble (0 + (k + 1)) (k + 1) && (true && Nat.ble (0 + (k + 1)) 4294967296), true)
def tR2 (k c : Nat) : Bool × Bool := (true && (Nat.ble (0 + (0 + (k + 1))) (k + 1) && ((Nat.beq 2 2 && (Nat.beq 33 33 && (Nat.beq (k + 1) (0 + (k + 1)) && true))) && (Nat.ble 1 (0 + (k + 1)) && Nat.ble (0 + (k + 1) + c) 4294967296))), true)
theorem tLi_ok {n : Nat} (h : n + 1 ≤ 300) : trusted [tLi n] := ⟨by show (decide (((n + 1 : Nat) : Int) ≤ 300) == true) = true; rw [decide_eq_true (by omega)]; rfl, trivial⟩
theorem tLm_ok {k : Nat} (h : k + 1 ≤ 300) : trusted [tLm k] := ⟨by show (!(decide (((k + 1 : Nat) : Int) ≤ 300))) = false; rw [decide_eq_true (by omega)]; rfl, trivial⟩
theorem tMx_ok {n : Nat} (h : n + 1 ≤ 256) : trusted [tMx n] := ⟨by show decide ((256 : Int) < ((n + 1 : Nat) : Int)) = false; exact decide_eq_false (by omega), trivial⟩
theorem tOk_ok {G : Nat → Nat → Value} {c : Nat} (h : Gok c G) (hc : c ≤ 1000) : trusted [tOk G c] := ⟨h.ok hc, trivial⟩
theorem tOkB_ok {G : Nat → Nat → Value} {q c : Nat} (h : Gok (q + c) G) (hc : q + c ≤ 1000) : trusted [tOkB G q c] := by
  refine ⟨?_, trivial⟩
  show (Nat.ble (0 + (q + c)) (q + c) && (true && okM (q + c) G)) = true
  rw [h.ok hc, Nat.zero_add, Bool.and_eq_true, Nat.ble_eq]
  exact ⟨Nat.le_refl _, rfl⟩
theorem tR1_ok {k : Nat} (h : k ≤ 1000) : trusted [tR1 k] := by
  refine ⟨?_, trivial⟩
  show (Nat.ble (0 + (k + 1)) (k + 1) && (true && Nat.ble (0 + (k + 1)) 4294967296)) = true
  rw [Nat.zero_add, Bool.and_eq_true, Bool.and_eq_true, Nat.ble_eq, Nat.ble_eq]
  exact ⟨Nat.le_refl _, rfl, by omega⟩
theorem tR2_ok {k c : Nat} (h : k + c ≤ 1000) : trusted [tR2 k c] := by
  refine ⟨?_, trivial⟩
  show (true && (Nat.ble (0 + (0 + (k + 1))) (k + 1) && ((Nat.beq 2 2 && (Nat.beq 33 33 && (Nat.beq (k + 1) (0 + (k + 1)) && true))) && (Nat.ble 1 (0 + (k + 1)) && Nat.ble (0 + (k + 1) + c) 4294967296)))) = true
  have e1 : Nat.ble (k + 1) (k + 1) = true := by rw [Nat.ble_eq]; exact Nat.le_refl _
  have e2 : Nat.ble 1 (k + 1) = true := by rw [Nat.ble_eq]; omega
  have e3 : Nat.ble (k + 1 + c) 4294967296 = true := by rw [Nat.ble_eq]; omega
  have e4 : Nat.beq (k + 1) (k + 1) = true := Nat.beq_refl _
  simp only [Nat.zero_add, e1, e2, e3, e4]; rfl
theorem tr_cons {x : Bool × Bool} {l : List (Bool × Bool)} (h : trusted [x]) (k : trusted l) : trusted (x :: l) := ⟨h.1, k⟩
theorem gokB {fa fb : Nat → Int} {q c : Nat} {L : List Value} (h : ∀ e, e < q + 1 → B16 (fa e) ∧ B8 (fb e)) (hL : Gok c (lstG 2 c L)) : Gok (0 + (q + 1) + c) (GB fa fb q L c) := by
  have h1 : Gok (0 + (q + 1)) (fun i j => bbG fa fb (0 + (0 + i)) j) := by
    rw [Nat.zero_add]; exact ((Gok.bb h).shift).shift
  exact (h1.join hL).shift
end Go.Proofs.Ytpggoincnebfnaa
namespace Go.Proofs.Ytpggoincnebfnaa
open Go Go.Ly Go.RowKit
def rd3 : St := Ly.start Try.f3 [] H0
set_option maxRecDepth 100000 in
def k3 : List KI := ((Ly.run ctxH 9000 [] (Ly.start Try.f3 [svV sv0 nilS nilS, .int .u8 0, .int .u16 0] (mkH [some (ints .u8 (fun _ => 0) 0), some (bytes2 (fun _ => 0) (fun _ => 0) 0)]))).st rd3).top.k
def v3 (p r : Nat) : List Value := slots 70 [(7, ptr p), (8, ptr r), (57, ptr p)]
def l3 (s : Sv) (op nn : Int) : List Value := [.int .u16 s.pc, .int .u8 op, .int .u16 (w16 (s.pc + 1)), .int .u8 (w8 nn), .int .u16 (w16 (s.pc + 2)), .int .u8 (w8 (nn.fdiv (pw 8 .u16)))]
theorem gok3 {s : Sv} {op nn : Int} (hp : B16 s.pc) (ho : B8 op) : Gok 3 (lstG 2 3 (l3 s op nn)) :=
  Gok.cons hp ho (Gok.cons (by simp) (by simp) (Gok.cons (by simp) (by simp) Gok.nil))
theorem gL3 : ctxH.fn.get 3 = some Try.f3 := by kernel_rfl
def Tail3 : Prop := ∀ (H : Heap) (p r b : Nat) (s : Js) (O V O2 V2 : List Nat), Opened H p r s O V O2 V2 → s.Ok → s.q = 0 → s.N ≤ 1000 → H.next ≤ 1000 → MWp Try.prog (atSt Try.f3 k3 (some 47) b (v3 p r) H) (fun u _ => u = .bool true)
set_option maxRecDepth 100000 in
theorem pre3_NN (s : Sv) (n k : Nat) (f fa fb : Nat → Int) (op nn : Int) : haltH [7, 8, 57] [12, 11, 17, 16, 15] 18 rd3 (Ly.run ctxH 9000 [(16, true), (22, true)] (Ly.start Try.f3 [svV s nilS nilS, .int .u8 op, .int .u16 nn] (mkH [some (ints .u8 f n), some (bytes2 fa fb k)]))) =
   (true, [tOk (GA (l3 s op nn) 3) 3, tOk (GA (l3 s op nn) 3) 3], true, (Try.f3, k3, some 47, 2), v3 12 17, (true, true, true), [some (.cells (cellsPb 11 0 (mOf s) nilV nilV) 60), some (memL (gs (gm (GA (l3 s op nn) 3) 3))), some (.cells (cellsRb 16 15 (mOf s) nilV nilV) 56), some (memL (gm (GA (l3 s op nn) 3) 3)), some (regsR (mOf s))]) := by kernel_rfl
theorem run3_NN (ht : Tail3) (s : Sv) (n k : Nat) (f fa fb : Nat → Int) (op nn : Int) (hs : s.Ok) (ho : B8 op) : LCalls Try.prog 3 [svV s nilS nilS, .int .u8 op, .int .u16 nn] (mkH [some (ints .u8 f n), some (bytes2 fa fb k)]) (fun u _ => u = .bool true) := by
  have hG : Gok 3 (GA (l3 s op nn) 3) := gok3 hs.2.2 ho
  refine LCalls_of ctxH_ok gL3 (by kernel_rfl) (MWp.haltH ctxH_ok _ _ _ _ (pre3_NN s n k f fa fb op nn) (tr_cons (tOk_ok hG (by omega)) (tr_cons (tOk_ok hG (by omega)) trivial)) ?_)
  intro H hnx hl hc hos
  simp only [List.map_cons, List.map_nil, List.cons.injEq, and_true] at hos
  obtain ⟨h1, h2, h3, h4, h5⟩ := hos
  rw [gs_eq] at h2
  exact ht H 12 17 2 (jOf s (gm (GA (l3 s op nn) 3) 3) 0 f) _ _ _ _ (opened_N hl hc h1 h2 h3 h4 h5 (by decide)) (jOf_ok hs hG.mem (fun e he => by omega)) rfl (by show 0 ≤ 1000; omega) (by omega)
set_option maxRecDepth 100000 in
theorem pre3_NE (s : Sv) (n k : Nat) (f fa fb : Nat → Int) (op nn : Int) : haltH [7, 8, 57] [12, 11, 17, 16, 15] 18 rd3 (Ly.run ctxH 9000 [(16, true), (22, true)] (Ly.start Try.f3 [svV s nilS (sls 1 0), .int .u8 op, .int .u16 nn] (mkH [some (ints .u8 f n), some (bytes2 fa fb 0)]))) =
   (true, [tOk (GA (l3 s op nn) 3) 3, tOk (GA (l3 s op nn) 3) 3], true, (Try.f3, k3, some 47, 2), v3 12 17, (true, true, true), [some (.cells (cellsPb 11 0 (mOf s) nilV nilV) 60), some (memL (gs (gm (GA (l3 s op nn) 3) 3))), some (.cells (cellsRb 16 15 (mOf s) nilV nilV) 56), some (memL (gm (GA (l3 s op nn) 3) 3)), some (regsR (mOf s))]) := by kernel_rfl
theorem run3_NE (ht : Tail3) (s : Sv) (n k : Nat) (f fa fb : Nat → Int) (op nn : Int) (hs : s.Ok) (ho : B8 op) : LCalls Try.prog 3 [svV s nilS (sls 1 0), .int .u8 op, .int .u16 nn] (mkH [some (ints .u8 f n), some (bytes2 fa fb 0)]) (fun u _ => u = .bool true) := by
  have hG : Gok 3 (GA (l3 s op nn) 3) := gok3 hs.2.2 ho
  refine LCalls_of ctxH_ok gL3 (by kernel_rfl) (MWp.haltH ctxH_ok _ _ _ _ (pre3_NE s n k f fa fb op nn) (tr_cons (tOk_ok hG (by omega)) (tr_cons (tOk_ok hG (by omega)) trivial)) ?_)
  intro H hnx hl hc hos
  simp only [List.map_cons, List.map_nil, List.cons.injEq, and_true] at hos
  obtain ⟨h1, h2, h3, h4, h5⟩ := hos
  rw [gs_eq] at h2
  exact ht H 12 17 2 (jOf s (gm (GA (l3 s op nn) 3) 3) 0 f) _ _ _ _ (opened_N hl hc h1 h2 h3 h4 h5 (by decide)) (jOf_ok hs hG.mem (fun e he => by omega)) rfl (by show 0 ≤ 1000; omega) (by omega)
set_option maxRecDepth 100000 in
theorem pre3_NR (s : Sv) (n k : Nat) (f fa fb : Nat → Int) (op nn : Int) : haltH [7, 8, 57] [13, 12, 18, 17, 16] 19 rd3 (Ly.run ctxH 9000 [(5, false), (2, true), (3, true), (2, true), (22, true)] (Ly.start Try.f3 [svV s nilS (sls 1 (k + 1)), .int .u8 op, .int .u16 nn] (mkH [some (ints .u8 f n), some (bytes2 fa fb (k + 1))]))) =
   (true, [tLm k, tR1 k, tR2 k 3, tOkB (GB fa fb k (l3 s op nn) 3) (0 + (k + 1)) 3, tOkB (GB fa fb k (l3 s op nn) 3) (0 + (k + 1)) 3], true, (Try.f3, k3, some 47, 2), v3 13 18, (true, true, true), [some (.cells (cellsPb 12 0 (mOf s) nilV nilV) 60), some (memL (gs (gm (GB fa fb k (l3 s op nn) 3) (0 + (k + 1) + 3)))), some (.cells (cellsRb 17 16 (mOf s) nilV nilV) 56), some (memL (gm (GB fa fb k (l3 s op nn) 3) (0 + (k + 1) + 3))), some (regsR (mOf s))]) := by kernel_rfl
theorem run3_NR (ht : Tail3) (s : Sv) (n k : Nat) (f fa fb : Nat → Int) (op nn : Int) (hs : s.Ok) (ho : B8 op) (hk : k + 1 ≤ 300) (hb : ∀ e, e < k + 1 → B16 (fa e) ∧ B8 (fb e)) : LCalls Try.prog 3 [svV s nilS (sls 1 (k + 1)), .int .u8 op, .int .u16 nn] (mkH [some (ints .u8 f n), some (bytes2 fa fb (k + 1))]) (fun u _ => u = .bool true) := by
  have hG : Gok (0 + (k + 1) + 3) (GB fa fb k (l3 s op nn) 3) := gokB hb (gok3 hs.2.2 ho)
  refine LCalls_of ctxH_ok gL3 (by kernel_rfl) (MWp.haltH ctxH_ok _ _ _ _ (pre3_NR s n k f fa fb op nn) (tr_cons (tLm_ok hk) (tr_cons (tR1_ok (by omega)) (tr_cons (tR2_ok (by omega)) (tr_cons (tOkB_ok hG (by omega)) (tr_cons (tOkB_ok hG (by omega)) trivial))))) ?_)
  intro H hnx hl hc hos
  simp only [List.map_cons, List.map_nil, List.cons.injEq, and_true] at hos
  obtain ⟨h1, h2, h3, h4, h5⟩ := hos
  rw [gs_eq] at h2
  exact ht H 13 18 2 (jOf s (gm (GB fa fb k (l3 s op nn) 3) (0 + (k + 1) + 3)) 0 f) _ _ _ _ (opened_N hl hc h1 h2 h3 h4 h5 (by decide)) (jOf_ok hs hG.mem (fun e he => by omega)) rfl (by show 0 ≤ 1000; omega) (by omega)
set_option maxRecDepth 100000 in
theorem pre3_EN (s : Sv) (n k : Nat) (f fa fb : Nat → Int) (op nn : Int) : haltH [7, 8, 57] [13, 12, 18, 17, 16] 19 rd3 (Ly.run ctxH 9000 [(16, true), (25, true)] (Ly.start Try.f3 [svV s (sl 0 0) nilS, .int .u8 op, .int .u16 nn] (mkH [some (ints .u8 f 0), some (bytes2 fa fb k)]))) =
   (true, [tOk (GA (l3 s op nn) 3) 3, tOk (GA (l3 s op nn) 3) 3], true, (Try.f3, k3, some 47, 2), v3 13 18, (true, true, true), [some (.cells (cellsPb 12 0 (mOf s) (.slice (some ⟨10, 0, none⟩) 0 0) nilV) 60), some (memL (gs (gm (GA (l3 s op nn) 3) 3))), some (.cells (cellsRb 17 16 (mOf s) (sl 0 0) nilV) 56), some (memL (gm (GA (l3 s op nn) 3) 3)), some (regsR (mOf s))]) := by kernel_rfl
theorem run3_EN (ht : Tail3) (s : Sv) (n k : Nat) (f fa fb : Nat → Int) (op nn : Int) (hs : s.Ok) (ho : B8 op) : LCalls Try.prog 3 [svV s (sl 0 0) nilS, .int .u8 op, .int .u16 nn] (mkH [some (ints .u8 f 0), some (bytes2 fa fb k)]) (fun u _ => u = .bool true) := by
  have hG : Gok 3 (GA (l3 s op nn) 3) := gok3 hs.2.2 ho
  refine LCalls_of ctxH_ok gL3 (by kernel_rfl) (MWp.haltH ctxH_ok _ _ _ _ (pre3_EN s n k f fa fb op nn) (tr_cons (tOk_ok hG (by omega)) (tr_cons (tOk_ok hG (by omega)) trivial)) ?_)
  intro H hnx hl hc hos
  simp only [List.map_cons, List.map_nil, List.cons.injEq, and_true] at hos
  obtain ⟨h1, h2, h3, h4, h5⟩ := hos
  rw [gs_eq] at h2
  exact ht H 13 18 2 (jOf s (gm (GA (l3 s op nn) 3) 3) 0 f) _ _ _ _ (opened_E hl hc h1 h2 h3 h4 h5 (by decide)) (jOf_ok hs hG.mem (fun e he => by omega)) rfl (by show 0 ≤ 1000; omega) (by omega)
set_option maxRecDepth 100000 in
theorem pre3_EE (s : Sv) (n k : Nat) (f fa fb : Nat → Int) (op nn : Int) : haltH [7, 8, 57] [13, 12, 18, 17, 16] 19 rd3 (Ly.run ctxH 9000 [(16, true), (25, true)] (Ly.start Try.f3 [svV s (sl 0 0) (sls 1 0), .int .u8 op, .int .u16 nn] (mkH [some (ints .u8 f 0), some (bytes2 fa fb 0)]))) =
   (true, [tOk (GA (l3 s op nn) 3) 3, tOk (GA (l3 s op nn) 3) 3], true, (Try.f3, k3, some 47, 2), v3 13 18, (true, true, true), [some (.cells (cellsPb 12 0 (mOf s) (.slice (some ⟨10, 0, none⟩) 0 0) nilV) 60), some (memL (gs (gm (GA (l3 s op nn) 3) 3))), some (.cells (cellsRb 17 16 (mOf s) (sl 0 0) nilV) 56), some (memL (gm (GA (l3 s op nn) 3) 3)), some (regsR (mOf s))]) := by kernel_rfl
theorem run3_EE (ht : Tail3) (s : Sv) (n k : Nat) (f fa fb : Nat → Int) (op nn : Int) (hs : s.Ok) (ho : B8 op) : LCalls Try.prog 3 [svV s (sl 0 0) (sls 1 0), .int .u8 op, .int .u16 nn] (mkH [some (ints .u8 f 0), some (bytes2 fa fb 0)]) (fun u _ => u = .bool true) := by
  have hG : Gok 3 (GA (l3 s op nn) 3) := gok3 hs.2.2 ho
  refine LCalls_of ctxH_ok gL3 (by kernel_rfl) (MWp.haltH ctxH_ok _ _ _ _ (pre3_EE s n k f fa fb op nn) (tr_cons (tOk_ok hG (by omega)) (tr_cons (tOk_ok hG (by omega)) trivial)) ?_)
  intro H hnx hl hc hos
  simp only [List.map_cons, List.map_nil, List.cons.injEq, and_true] at hos
  obtain ⟨h1, h2, h3, h4, h5⟩ := hos
  rw [gs_eq] at h2
  exact ht H 13 18 2 (jOf s (gm (GA (l3 s op nn) 3) 3) 0 f) _ _ _ _ (opened_E hl hc h1 h2 h3 h4 h5 (by decide)) (jOf_ok hs hG.mem (fun e he => by omega)) rfl (by show 0 ≤ 1000; omega) (by omega)
set_option maxRecDepth 100000 in
theorem pre3_ER (s : Sv) (n k : Nat) (f fa fb : Nat → Int) (op nn : Int) : haltH [7, 8, 57] [14, 13, 19, 18, 17] 20 rd3 (Ly.run ctxH 9000 [(5, false), (2, true), (3, true), (2, true), (25, true)] (Ly.start Try.f3 [svV s (sl 0 0) (sls 1 (k + 1)), .int .u8 op, .int .u16 nn] (mkH [some (ints .u8 f 0), some (bytes2 fa fb (k + 1))]))) =
   (true, [tLm k, tR1 k, tR2 k 3, tOkB (GB fa fb k (l3 s op nn) 3) (0 + (k + 1)) 3, tOkB (GB fa fb k (l3 s op nn) 3) (0 + (k + 1)) 3], true, (Try.f3, k3, some 47, 2), v3 14 19, (true, true, true), [some (.cells (cellsPb 13 0 (mOf s) (.slice (some ⟨11, 0, none⟩) 0 0) nilV) 60), some (memL (gs (gm (GB fa fb k (l3 s op nn) 3) (0 + (k + 1) + 3)))), some (.cells (cellsRb 18 17 (mOf s) (sl 0 0) nilV) 56), some (memL (gm (GB fa fb k (l3 s op nn) 3) (0 + (k + 1) + 3))), some (regsR (mOf s))]) := by kernel_rfl
theorem run3_ER (ht : Tail3) (s : Sv) (n k : Nat) (f fa fb : Nat → Int) (op nn : Int) (hs : s.Ok) (ho : B8 op) (hk : k + 1 ≤ 300) (hb : ∀ e, e < k + 1 → B16 (fa e) ∧ B8 (fb e)) : LCalls Try.prog 3 [svV s (sl 0 0) (sls 1 (k + 1)), .int .u8 op, .int .u16 nn] (mkH [some (ints .u8 f 0), some (bytes2 fa fb (k + 1))]) (fun u _ => u = .bool true) := by
  have hG : Gok (0 + (k + 1) + 3) (GB fa fb k (l3 s op nn) 3) := gokB hb (gok3 hs.2.2 ho)
  refine LCalls_of ctxH_ok gL3 (by kernel_rfl) (MWp.haltH ctxH_ok _ _ _ _ (pre3_ER s n k f fa fb op nn) (tr_cons (tLm_ok hk) (tr_cons (tR1_ok (by omega)) (tr_cons (tR2_ok (by omega)) (tr_cons (tOkB_ok hG (by omega)) (tr_cons (tOkB_ok hG (by omega)) trivial))))) ?_)
  intro H hnx hl hc hos
  simp only [List.map_cons, List.map_nil, List.cons.injEq, and_true] at hos
  obtain ⟨h1, h2, h3, h4, h5⟩ := hos
  rw [gs_eq] at h2
  exact ht H 14 19 2 (jOf s (gm (GB fa fb k (l3 s op nn) 3) (0 + (k + 1) + 3)) 0 f) _ _ _ _ (opened_E hl hc h1 h2 h3 h4 h5 (by decide)) (jOf_ok hs hG.mem (fun e he => by omega)) rfl (by show 0 ≤ 1000; omega) (by omega)
set_option maxRecDepth 100000 in
theorem pre3_RN (s : Sv) (n k : Nat) (f fa fb : Nat → Int) (op nn : Int) : haltH [7, 8, 57] [14, 13, 19, 18, 17, 11, 0] 20 rd3 (Ly.run ctxH 9000 [(0, true), (6, false), (8, true), (11, false), (1, true), (11, true)] (Ly.start Try.f3 [svV s (sl 0 (n + 1)) nilS, .int .u8 op, .int .u16 nn] (mkH [some (ints .u8 f (n + 1)), some (bytes2 fa fb k)]))) =
   (true, [tLi n, tMx n, tOk (GA (l3 s op nn) 3) 3, tMx n, tR1 n, tOk (GA (l3 s op nn) 3) 3], true, (Try.f3, k3, some 47, 2), v3 14 19, (true, true, true), [some (.cells (cellsPb 13 0 (mOf s) (inV 11 0 (0 + (n + 1))) nilV) 60), some (memL (gs (gm (GA (l3 s op nn) 3) 3))), some (.cells (cellsRb 18 17 (mOf s) (inV 0 0 (n + 1)) nilV) 56), some (memL (gm (GA (l3 s op nn) 3) 3)), some (regsR (mOf s)), some (rowP (fun e => f (0 + e)) (n + 1)), some (rowR f (n + 1))]) := by kernel_rfl
theorem run3_RN (ht : Tail3) (s : Sv) (n k : Nat) (f fa fb : Nat → Int) (op nn : Int) (hs : s.Ok) (ho : B8 op) (hn : n + 1 ≤ 256) (hf : ∀ e, e < n + 1 → B8 (f e)) : LCalls Try.prog 3 [svV s (sl 0 (n + 1)) nilS, .int .u8 op, .int .u16 nn] (mkH [some (ints .u8 f (n + 1)), some (bytes2 fa fb k)]) (fun u _ => u = .bool true) := by
  have hG : Gok 3 (GA (l3 s op nn) 3) := gok3 hs.2.2 ho
  refine LCalls_of ctxH_ok gL3 (by kernel_rfl) (MWp.haltH ctxH_ok _ _ _ _ (pre3_RN s n k f fa fb op nn) (tr_cons (tLi_ok (by omega)) (tr_cons (tMx_ok hn) (tr_cons (tOk_ok hG (by omega)) (tr_cons (tMx_ok hn) (tr_cons (tR1_ok (by omega)) (tr_cons (tOk_ok hG (by omega)) trivial)))))) ?_)
  intro H hnx hl hc hos
  simp only [List.map_cons, List.map_nil, List.cons.injEq, and_true] at hos
  obtain ⟨h1, h2, h3, h4, h5, h6, h7⟩ := hos
  rw [gs_eq] at h2
  have ez : (fun e => f (0 + e)) = f := by funext e; rw [Nat.zero_add]
  rw [ez] at h6
  rw [Nat.zero_add] at h1
  exact ht H 14 19 2 (jOf s (gm (GA (l3 s op nn) 3) 3) (n + 1) f) _ _ _ _ (opened_R hl hc h1 h2 h3 h4 h5 h6 h7 (by decide)) (jOf_ok hs hG.mem hf) rfl (by show (n + 1) ≤ 1000; omega) (by omega)
set_option maxRecDepth 100000 in
theorem pre3_RE (s : Sv) (n k : Nat) (f fa fb : Nat → Int) (op nn : Int) : haltH [7, 8, 57] [14, 13, 19, 18, 17, 11, 0] 20 rd3 (Ly.run ctxH 9000 [(0, true), (6, false), (8, true), (11, false), (1, true), (11, true)] (Ly.start Try.f3 [svV s (sl 0 (n + 1)) (sls 1 0), .int .u8 op, .int .u16 nn] (mkH [some (ints .u8 f (n + 1)), some (bytes2 fa fb 0)]))) =
   (true, [tLi n, tMx n, tOk (GA (l3 s op nn) 3) 3, tMx n, tR1 n, tOk (GA (l3 s op nn) 3) 3], true, (Try.f3, k3, some 47, 2), v3 14 19, (true, true, true), [some (.cells (cellsPb 13 0 (mOf s) (inV 11 0 (0 + (n + 1))) nilV) 60), some (memL (gs (gm (GA (l3 s op nn) 3) 3))), some (.cells (cellsRb 18 17 (mOf s) (inV 0 0 (n + 1)) nilV) 56), some (memL (gm (GA (l3 s op nn) 3) 3)), some (regsR (mOf s)), some (rowP (fun e => f (0 + e)) (n + 1)), some (rowR f (n + 1))]) := by kernel_rfl
theorem run3_RE (ht : Tail3) (s : Sv) (n k : Nat) (f fa fb : Nat → Int) (op nn : Int) (hs : s.Ok) (ho : B8 op) (hn : n + 1 ≤ 256) (hf : ∀ e, e < n + 1 → B8 (f e)) : LCalls Try.prog 3 [svV s (sl 0 (n + 1)) (sls 1 0), .int .u8 op, .int .u16 nn] (mkH [some (ints .u8 f (n + 1)), some (bytes2 fa fb 0)]) (fun u _ => u = .bool true) := by
  have hG : Gok 3 (GA (l3 s op nn) 3) := gok3 hs.2.2 ho
  refine LCalls_of ctxH_ok gL3 (by kernel_rfl) (MWp.haltH ctxH_ok _ _ _ _ (pre3_RE s n k f fa fb op nn) (tr_cons (tLi_ok (by omega)) (tr_cons (tMx_ok hn) (tr_cons (tOk_ok hG (by omega)) (tr_cons (tMx_ok hn) (tr_cons (tR1_ok (by omega)) (tr_cons (tOk_ok hG (by omega)) trivial)))))) ?_)
  intro H hnx hl hc hos
  simp only [List.map_cons, List.map_nil, List.cons.injEq, and_true] at hos
  obtain ⟨h1, h2, h3, h4, h5, h6, h7⟩ := hos
  rw [gs_eq] at h2
  have ez : (fun e => f (0 + e)) = f := by funext e; rw [Nat.zero_add]
  rw [ez] at h6
  rw [Nat.zero_add] at h1
  exact ht H 14 19 2 (jOf s (gm (GA (l3 s op nn) 3) 3) (n + 1) f) _ _ _ _ (opened_R hl hc h1 h2 h3 h4 h5 h6 h7 (by decide)) (jOf_ok hs hG.mem hf) rfl (by show (n + 1) ≤ 1000; omega) (by omega)
set_option maxRecDepth 100000 in
theorem pre3_RR (s : Sv) (n k : Nat) (f fa fb : Nat → Int) (op nn : Int) : haltH [7, 8, 57] [15, 14, 20, 19, 18, 12, 0] 21 rd3 (Ly.run ctxH 9000 [(0, true), (4, false), (1, false), (0, true), (3, true), (2, true), (11, false), (1, true), (11, true)] (Ly.start Try.f3 [svV s (sl 0 (n + 1)) (sls 1 (k + 1)), .int .u8 op, .int .u16 nn] (mkH [some (ints .u8 f (n + 1)), some (bytes2 fa fb (k + 1))]))) =
   (true, [tLi n, tLm k, tMx n, tR1 k, tR2 k 3, tOkB (GB fa fb k (l3 s op nn) 3) (0 + (k + 1)) 3, tMx n, tR1 n, tOkB (GB fa fb k (l3 s op nn) 3) (0 + (k + 1)) 3], true, (Try.f3, k3, some 47, 2), v3 15 20, (true, true, true), [some (.cells (cellsPb 14 0 (mOf s) (inV 12 0 (0 + (n + 1))) nilV) 60), some (memL (gs (gm (GB fa fb k (l3 s op nn) 3) (0 + (k + 1) + 3)))), some (.cells (cellsRb 19 18 (mOf s) (inV 0 0 (n + 1)) nilV) 56), some (memL (gm (GB fa fb k (l3 s op nn) 3) (0 + (k + 1) + 3))), some (regsR (mOf s)), some (rowP (fun e => f (0 + e)) (n + 1)), some (rowR f (n + 1))]) := by kernel_rfl
theorem run3_RR (ht : Tail3) (s : Sv) (n k : Nat) (f fa fb : Nat → Int) (op nn : Int) (hs : s.Ok) (ho : B8 op) (hn : n + 1 ≤ 256) (hf : ∀ e, e < n + 1 → B8 (f e)) (hk : k + 1 ≤ 300) (hb : ∀ e, e < k + 1 → B16 (fa e) ∧ B8 (fb e)) : LCalls Try.prog 3 [svV s (sl 0 (n + 1)) (sls 1 (k + 1)), .int .u8 op, .int .u16 nn] (mkH [some (ints .u8 f (n + 1)), some (bytes2 fa fb (k + 1))]) (fun u _ => u = .bool true) := by
  have hG : Gok (0 + (k + 1) + 3) (GB fa fb k (l3 s op nn) 3) := gokB hb (gok3 hs.2.2 ho)
  refine LCalls_of ctxH_ok gL3 (by kernel_rfl) (MWp.haltH ctxH_ok _ _ _ _ (pre3_RR s n k f fa fb op nn) (tr_cons (tLi_ok (by omega)) (tr_cons (tLm_ok hk) (tr_cons (tMx_ok hn) (tr_cons (tR1_ok (by omega)) (tr_cons (tR2_ok (by omega)) (tr_cons (tOkB_ok hG (by omega)) (tr_cons (tMx_ok hn) (tr_cons (tR1_ok (by omega)) (tr_cons (tOkB_ok hG (by omega)) trivial))))))))) ?_)
  intro H hnx hl hc hos
  simp only [List.map_cons, List.map_nil, List.cons.injEq, and_true] at hos
  obtain ⟨h1, h2, h3, h4, h5, h6, h7⟩ := hos
  rw [gs_eq] at h2
  have ez : (fun e => f (0 + e)) = f := by funext e; rw [Nat.zero_add]
  rw [ez] at h6
  rw [Nat.zero_add] at h1
  exact ht H 15 20 2 (jOf s (gm (GB fa fb k (l3 s op nn) 3) (0 + (k + 1) + 3)) (n + 1) f) _ _ _ _ (opened_R hl hc h1 h2 h3 h4 h5 h6 h7 (by decide)) (jOf_ok hs hG.mem hf) rfl (by show (n + 1) ≤ 1000; omega) (by omega)
end Go.Proofs.Ytpggoincnebfnaa
namespace Go.Proofs.Ytpggoincnebfnaa
open Go Go.Ly Go.RowKit
theorem PM.sub {H : Heap} {p : Nat} {s : Js} {O V : List Nat} (h : PM H p s O V) : ∀ i ∈ O, i ∈ V := by
  obtain ⟨b, rg, iv, ov, VI, VO, h, rfl, rfl⟩ := h
  intro i hi; simp at hi ⊢; grind
theorem RM.sub {H : Heap} {p : Nat} {s : Js} {O V : List Nat} (h : RM H p s O V) : ∀ i ∈ O, i ∈ V := by
  obtain ⟨b, rg, iv, ov, VI, VO, h, rfl, rfl⟩ := h
  intro i hi; simp at hi ⊢; grind
theorem InAt.lt {row : (Nat → Int) → Nat → LO} {H : Heap} {iv : Value} {j N : Nat} {f : Nat → Int} {V : List Nat} (hlt : ∀ i o, H.get i = some o → i < H.next) (h : InAt row H iv j N f V) : ∀ i ∈ V, i < H.next := by
  rcases h with ⟨_, rfl, _⟩ | ⟨_, x, rfl, _, hx⟩
  · intro i hi; cases hi
  · intro i hi; simp at hi; subst hi; exact hlt _ _ hx
theorem OutAt.lt {H : Heap} {ov : Value} {q : Nat} {fp fb : Nat → Int} {V : List Nat} (hlt : ∀ i o, H.get i = some o → i < H.next) (h : OutAt H ov q fp fb V) : ∀ i ∈ V, i < H.next := by
  rcases h with ⟨_, rfl, _⟩ | ⟨_, x, rfl, _, hx⟩
  · intro i hi; cases hi
  · intro i hi; simp at hi; subst hi; exact hlt _ _ hx
theorem PM.lt {H : Heap} {p : Nat} {s : Js} {O V : List Nat} (hlt : ∀ i o, H.get i = some o → i < H.next) (h : PM H p s O V) : ∀ i ∈ V, i < H.next := by
  obtain ⟨b, rg, iv, ov, VI, VO, h, rfl, rfl⟩ := h
  intro i hi
  simp only [List.mem_append, List.mem_cons, List.not_mem_nil, or_false] at hi
  rcases hi with (rfl | rfl) | hi | hi
  · exact hlt _ _ h.cells
  · exact hlt _ _ h.mem
  · exact h.inn.lt hlt i hi
  · exact h.out.lt hlt i hi
theorem RM.lt {H : Heap} {p : Nat} {s : Js} {O V : List Nat} (hlt : ∀ i o, H.get i = some o → i < H.next) (h : RM H p s O V) : ∀ i ∈ V, i < H.next := by
  obtain ⟨b, rg, iv, ov, VI, VO, h, rfl, rfl⟩ := h
  intro i hi
  simp only [List.mem_append, List.mem_cons, List.not_mem_nil, or_false] at hi
  rcases hi with (rfl | rfl | rfl) | hi | hi
  · exact hlt _ _ h.cells
  · exact hlt _ _ h.mem
  · exact hlt _ _ h.regs
  · exact h.inn.lt hlt i hi
  · exact h.out.lt hlt i hi
structure Two (H : Heap) (p r : Nat) (s t : Js) (O V O2 V2 : List Nat) : Prop where
  lock : H.lock = 0
  clean : Ly.Clean H
  P : PM H p s O V
  R : RM H r t O2 V2
  apart : Apart V V2
theorem Opened.two {H : Heap} {p r : Nat} {s : Js} {O V O2 V2 : List Nat} (h : Opened H p r s O V O2 V2) : Two H p r s s O V O2 V2 := ⟨h.lock, h.clean, h.P, h.R, h.apart⟩
theorem Nx.n {H H' : Heap} {O : List Nat} (h : Nx H H' O) : NxN H H' O 64 := ⟨h.lock, h.le, h.ge, h.clean, h.old⟩
theorem Two.stepP {H H1 : Heap} {p r m : Nat} {s s' t : Js} {O V O1 V1 O2 V2 : List Nat} (hlt : ∀ i o, H.get i = some o → i < H.next) (h : Two H p r s t O V O2 V2) (hN : NxN H H1 O m) (hM : PM H1 p s' O1 V1) (hV : ∀ i ∈ V1, i ∈ V ∨ H.next ≤ i) : Two H1 p r s' t O1 V1 O2 V2 :=
  ⟨hN.lock, hN.clean, hM, h.R.same fun i hi => hN.old i (h.R.lt hlt i hi) (fun hO => h.apart i (h.P.sub i hO) hi), fun i hi hi2 => by
    rcases hV i hi with h1 | h1
    · exact h.apart i h1 hi2
    · have := h.R.lt hlt i hi2; omega⟩
theorem Two.stepR {H H1 : Heap} {p r m : Nat} {s t t' : Js} {O V O1 V1 O2 V2 : List Nat} (hlt : ∀ i o, H.get i = some o → i < H.next) (h : Two H p r s t O V O2 V2) (hN : NxN H H1 O2 m) (hM : RM H1 r t' O1 V1) (hV : ∀ i ∈ V1, i ∈ V2 ∨ H.next ≤ i) : Two H1 p r s t' O V O1 V1 :=
  ⟨hN.lock, hN.clean, h.P.same fun i hi => hN.old i (h.P.lt hlt i hi) (fun hO => h.apart i hi (h.R.sub i hO)), hM, fun i hi hi2 => by
    rcases hV i hi2 with h1 | h1
    · exact h.apart i hi h1
    · have := h.P.lt hlt i hi; omega⟩
theorem Two.same {H : Heap} {p r : Nat} {s : Js} {O V O2 V2 : List Nat} (h : Two H p r s s O V O2 V2) (hb : H.next + 16 < big) (hN : s.N ≤ 9223372036854775807) (hq : s.q ≤ 9223372036854775806) : LCalls Try.prog 15 [ptr p, ptr r] H (fun u _ => u = .bool true) :=
  same_calls h.P h.R h.apart h.lock h.clean hb hN hq
end Go.Proofs.Ytpggoincnebfnaa
namespace Go.Proofs.Ytpggoincnebfnaa
open Go Go.Ly Go.RowKit
def k3b : List KI := ((Ly.run ctxH 60 [] (behind (atSt Try.f3 k3 (some 47) 2 (v3 0 1) H0) (.int .i64 0) H0)).st rd3).top.k
def v3b (p r : Nat) (k : Int) : List Value := slots 70 [(7, ptr p), (8, ptr r), (58, .int .i64 k), (59, ptr r)]
def k3c : List KI := ((Ly.run ctxH 60 [] (behind (atSt Try.f3 k3b (some 47) 2 (v3b 0 1 0) H0) (.int .i64 0) H0)).st rd3).top.k
def v3c (p r : Nat) : List Value := slots 70 [(62, .bool true), (63, ptr p), (64, ptr r)]
theorem call3a (p r b : Nat) (H : Heap) : callOf env (atSt Try.f3 k3 (some 47) b (v3 p r) H) = some (13, [ptr p]) := by kernel_rfl
theorem run3a (p r b : Nat) (k : Int) (H H' : Heap) : haltF [7, 8, 58, 59] rd3 (Ly.run ctxH 60 [] (behind (atSt Try.f3 k3 (some 47) b (v3 p r) H) (.int .i64 k) H')) = (true, [], true, (Try.f3, k3b, some 47, b), v3b p r k, H') := by kernel_rfl
theorem call3b (p r b : Nat) (k : Int) (H : Heap) : callOf env (atSt Try.f3 k3b (some 47) b (v3b p r k) H) = some (14, [ptr r]) := by kernel_rfl
theorem run3b (p r b : Nat) (k : Int) (H H' : Heap) : haltF [62, 63, 64] rd3 (Ly.run ctxH 60 [(0, true)] (behind (atSt Try.f3 k3b (some 47) b (v3b p r k) H) (.int .i64 k) H')) = (true, [((k == k) == true, true)], true, (Try.f3, k3c, some 47, b), v3c p r, H') := by kernel_rfl
theorem call3c (p r b : Nat) (H : Heap) : callOf env (atSt Try.f3 k3c (some 47) b (v3c p r) H) = some (15, [ptr p, ptr r]) := by kernel_rfl
theorem run3c (p r b : Nat) (H H' : Heap) : (Ly.run ctxH 60 [] (behind (atSt Try.f3 k3c (some 47) b (v3c p r) H) (.bool true) H')).fin? = some ([], .bool true, H') := by kernel_rfl
theorem tail3 : Tail3 := by
  intro H p r b s O V O2 V2 ho hs hq hN hnx
  have hbig : big = 2147483000 := rfl
  refine MWp.ltn fun hlt _ => ?_
  obtain ⟨s', k, hs', hq', hn', hP, hR⟩ := step_any s hs (by omega)
  refine MWp.call envOk (call3a p r b H) (hP H p O V ho.P ho.lock ho.clean (by show H.next + 64 < big; omega)) ?_
  rintro v H1 ⟨rfl, hN1, O1, V1, hM1, hO1, hV1⟩
  have hT1 := ho.two.stepP hlt hN1.n hM1 hV1
  refine MWp.halted ctxH_ok _ _ _ (run3a p r b k H H1) trivial ?_
  refine MWp.ltn fun hlt1 _ => ?_
  have g1 := hN1.ge
  refine MWp.call envOk (call3b p r b k H1) (hR H1 r O2 V2 hT1.R hT1.lock hT1.clean (by omega)) ?_
  rintro v H2 ⟨rfl, hN2, O3, V3, hM2, hO3, hV3⟩
  have hT2 := hT1.stepR hlt1 hN2.n hM2 hV3
  have g2 := hN2.ge
  refine MWp.halted ctxH_ok _ _ _ (run3b p r b k H1 H2) ⟨by simp, trivial⟩ ?_
  refine MWp.call envOk (call3c p r b H2) (hT2.same (by show H2.next + 16 < big; omega) (by rw [hn']; omega) (by omega)) ?_
  rintro v H3 rfl
  exact MWp.fin ctxH_ok 60 _ (run3c p r b H2 H3) trivial rfl
end Go.Proofs.Ytpggoincnebfnaa
namespace Go.Proofs.Ytpggoincnebfnaa
open Go Go.Ly Go.RowKit
theorem tLi_no {n : Nat} (h : ¬ n + 1 ≤ 300) : trusted [((tLi n).1, false)] := ⟨by show (decide (((n + 1 : Nat) : Int) ≤ 300) == true) = false; rw [decide_eq_false (by omega)]; rfl, trivial⟩
set_option maxRecDepth 100000 in
theorem tLm_no {k : Nat} (h : ¬ k + 1 ≤ 300) : trusted [((tLm k).1, true)] := ⟨by show (!(decide (((k + 1 : Nat) : Int) ≤ 300))) = true; rw [decide_eq_false (by omega)]; rfl, trivial⟩
theorem tMx_no {n : Nat} (h : ¬ n + 1 ≤ 256) : trusted [((tMx n).1, true)] := ⟨by show decide ((256 : Int) < ((n + 1 : Nat) : Int)) = true; exact decide_eq_true (by omega), trivial⟩
theorem ex3_NRb (s : Sv) (n k : Nat) (f fa fb : Nat → Int) (op nn : Int) : endsAt [] (Ly.run ctxH 9000 [(5, true)] (Ly.start Try.f3 [svV s nilS (sls 1 (k + 1)), .int .u8 op, .int .u16 nn] (mkH [some (ints .u8 f n), some (bytes2 fa fb (k + 1))]))) = some ([((tLm k).1, true)], .bool true, 4, []) := by kernel_rfl
theorem ex3_ERb (s : Sv) (n k : Nat) (f fa fb : Nat → Int) (op nn : Int) : endsAt [] (Ly.run ctxH 9000 [(5, true)] (Ly.start Try.f3 [svV s (sl 0 0) (sls 1 (k + 1)), .int .u8 op, .int .u16 nn] (mkH [some (ints .u8 f 0), some (bytes2 fa fb (k + 1))]))) = some ([((tLm k).1, true)], .bool true, 4, []) := by kernel_rfl
theorem ex3_RNa (s : Sv) (n k : Nat) (f fa fb : Nat → Int) (op nn : Int) : endsAt [] (Ly.run ctxH 9000 [(0, false)] (Ly.start Try.f3 [svV s (sl 0 (n + 1)) nilS, .int .u8 op, .int .u16 nn] (mkH [some (ints .u8 f (n + 1)), some (bytes2 fa fb k)]))) = some ([((tLi n).1, false)], .bool true, 4, []) := by kernel_rfl
theorem ex3_RNc (s : Sv) (n k : Nat) (f fa fb : Nat → Int) (op nn : Int) : endsAt [] (Ly.run ctxH 9000 [(0, true), (6, true)] (Ly.start Try.f3 [svV s (sl 0 (n + 1)) nilS, .int .u8 op, .int .u16 nn] (mkH [some (ints .u8 f (n + 1)), some (bytes2 fa fb k)]))) = some ([tLi n, ((tMx n).1, true)], .bool true, 4, []) := by kernel_rfl
theorem ex3_REa (s : Sv) (n k : Nat) (f fa fb : Nat → Int) (op nn : Int) : endsAt [] (Ly.run ctxH 9000 [(0, false)] (Ly.start Try.f3 [svV s (sl 0 (n + 1)) (sls 1 0), .int .u8 op, .int .u16 nn] (mkH [some (ints .u8 f (n + 1)), some (bytes2 fa fb 0)]))) = some ([((tLi n).1, false)], .bool true, 4, []) := by kernel_rfl
theorem ex3_REc (s : Sv) (n k : Nat) (f fa fb : Nat → Int) (op nn : Int) : endsAt [] (Ly.run ctxH 9000 [(0, true), (6, true)] (Ly.start Try.f3 [svV s (sl 0 (n + 1)) (sls 1 0), .int .u8 op, .int .u16 nn] (mkH [some (ints .u8 f (n + 1)), some (bytes2 fa fb 0)]))) = some ([tLi n, ((tMx n).1, true)], .bool true, 4, []) := by kernel_rfl
theorem ex3_RRa (s : Sv) (n k : Nat) (f fa fb : Nat → Int) (op nn : Int) : endsAt [] (Ly.run ctxH 9000 [(0, false)] (Ly.start Try.f3 [svV s (sl 0 (n + 1)) (sls 1 (k + 1)), .int .u8 op, .int .u16 nn] (mkH [some (ints .u8 f (n + 1)), some (bytes2 fa fb (k + 1))]))) = some ([((tLi n).1, false)], .bool true, 4, []) := by kernel_rfl
theorem ex3_RRb (s : Sv) (n k : Nat) (f fa fb : Nat → Int) (op nn : Int) : endsAt [] (Ly.run ctxH 9000 [(0, true), (4, true)] (Ly.start Try.f3 [svV s (sl 0 (n + 1)) (sls 1 (k + 1)), .int .u8 op, .int .u16 nn] (mkH [some (ints .u8 f (n + 1)), some (bytes2 fa fb (k + 1))]))) = some ([tLi n, ((tLm k).1, true)], .bool true, 4, []) := by kernel_rfl
theorem ex3_RRc (s : Sv) (n k : Nat) (f fa fb : Nat → Int) (op nn : Int) : endsAt [] (Ly.run ctxH 9000 [(0, true), (4, false), (1, true)] (Ly.start Try.f3 [svV s (sl 0 (n + 1)) (sls 1 (k + 1)), .int .u8 op, .int .u16 nn] (mkH [some (ints .u8 f (n + 1)), some (bytes2 fa fb (k + 1))]))) = some ([tLi n, tLm k, ((tMx n).1, true)], .bool true, 4, []) := by kernel_rfl
theorem steps_walk (W : World) (v0 v1 v2 : Value) (h0 : ∃ cs, v0 = .agg ⟨cs⟩ ∧ CksOk W [.int .u8, .int .u8, .int .u8, .int .u8, .int .u8, .int .u8, .int .u8, .int .u8, .bool, .bool, .bool, .bool, .bool, .int .u16, .int .u16, .bool, .slice [.int .u8], .slice [.int .u16, .int .u8]] cs)
    (h1 : CkOk W (.int .u8) v1) (h2 : CkOk W (.int .u16) v2) : Calls Try.prog 3 #[v0, v1, v2] W fun e W' => e = .returned (.bool true) ∧ Below W.heap.size W W' := by
  simp only [CkOk] at h1 h2
  obtain ⟨op, rfl, hop⟩ := h1
  obtain ⟨nn, rfl, hnn⟩ := h2
  have ho : B8 op := bounds_u8 hop
  refine start_law h0 (rest := [.int .u8 op, .int .u16 nn]) (by simp [plain, plainL]) ?_ ?_ ?_ ?_ ?_ ?_ ?_ ?_ ?_
  · intro s n k f fa fb hs 
    exact run3_NN tail3 s n k f fa fb op nn hs ho
  · intro s n k f fa fb hs 
    exact run3_NE tail3 s n k f fa fb op nn hs ho
  · intro s n k f fa fb hs hb 
    rcases Nat.lt_or_ge 300 (k + 1) with h2 | h2
    · exact (Ends.of_run ctxH_ok 9000 _ gL3 (by kernel_rfl) (ex3_NRb s n k f fa fb op nn) (tLm_no (by omega))).mono (fun u K h => h.1)
    exact run3_NR tail3 s n k f fa fb op nn hs ho h2 hb
  · intro s n k f fa fb hs 
    exact run3_EN tail3 s n k f fa fb op nn hs ho
  · intro s n k f fa fb hs 
    exact run3_EE tail3 s n k f fa fb op nn hs ho
  · intro s n k f fa fb hs hb 
    rcases Nat.lt_or_ge 300 (k + 1) with h2 | h2
    · exact (Ends.of_run ctxH_ok 9000 _ gL3 (by kernel_rfl) (ex3_ERb s n k f fa fb op nn) (tLm_no (by omega))).mono (fun u K h => h.1)
    exact run3_ER tail3 s n k f fa fb op nn hs ho h2 hb
  · intro s n k f fa fb hs hf 
    rcases Nat.lt_or_ge 300 (n + 1) with h1 | h1
    · exact (Ends.of_run ctxH_ok 9000 _ gL3 (by kernel_rfl) (ex3_RNa s n k f fa fb op nn) (tLi_no (by omega))).mono (fun u K h => h.1)
    rcases Nat.lt_or_ge 256 (n + 1) with h3 | h3
    · exact (Ends.of_run ctxH_ok 9000 _ gL3 (by kernel_rfl) (ex3_RNc s n k f fa fb op nn) (tr_cons (tLi_ok h1) (tMx_no (by omega)))).mono (fun u K h => h.1)
    exact run3_RN tail3 s n k f fa fb op nn hs ho h3 hf
  · intro s n k f fa fb hs hf 
    rcases Nat.lt_or_ge 300 (n + 1) with h1 | h1
    · exact (Ends.of_run ctxH_ok 9000 _ gL3 (by kernel_rfl) (ex3_REa s n k f fa fb op nn) (tLi_no (by omega))).mono (fun u K h => h.1)
    rcases Nat.lt_or_ge 256 (n + 1) with h3 | h3
    · exact (Ends.of_run ctxH_ok 9000 _ gL3 (by kernel_rfl) (ex3_REc s n k f fa fb op nn) (tr_cons (tLi_ok h1) (tMx_no (by omega)))).mono (fun u K h => h.1)
    exact run3_RE tail3 s n k f fa fb op nn hs ho h3 hf
  · intro s n k f fa fb hs hf hb 
    rcases Nat.lt_or_ge 300 (n + 1) with h1 | h1
    · exact (Ends.of_run ctxH_ok 9000 _ gL3 (by kernel_rfl) (ex3_RRa s n k f fa fb op nn) (tLi_no (by omega))).mono (fun u K h => h.1)
    rcases Nat.lt_or_ge 300 (k + 1) with h2 | h2
    · exact (Ends.of_run ctxH_ok 9000 _ gL3 (by kernel_rfl) (ex3_RRb s n k f fa fb op nn) (tr_cons (tLi_ok h1) (tLm_no (by omega)))).mono (fun u K h => h.1)
    rcases Nat.lt_or_ge 256 (n + 1) with h3 | h3
    · exact (Ends.of_run ctxH_ok 9000 _ gL3 (by kernel_rfl) (ex3_RRc s n k f fa fb op nn) (tr_cons (tLi_ok h1) (tr_cons (tLm_ok h2) (tMx_no (by omega))))).mono (fun u K h => h.1)
    exact run3_RR tail3 s n k f fa fb op nn hs ho h3 hf h2 hb
end Go.Proofs.Ytpggoincnebfnaa
end
